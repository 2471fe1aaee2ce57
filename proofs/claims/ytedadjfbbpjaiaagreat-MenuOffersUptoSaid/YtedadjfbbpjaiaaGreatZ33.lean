/- The law MenuOffers (layer 14) holds: for all languages, every model, numbers and role, of bulk at most 1048576 together, it returns true and leaves its arguments as they were. -/
import Derived.Test.YtedadjfbbpjaiaaGreatRows
import Derived.WalkKit
import Derived.ProofKit
import Derived.OpenShut
import Derived.JoinedCond
import Derived.Test.YtedadjfbbpjaiaaGreatZ32
set_option linter.all false
namespace Go.Proofs.YtedadjfbbpjaiaaGreat.menuOffers
open Go Go.Ev Go.ChangeShapes Go.WideShapes Go.ChangeAt Go.RowKit Go.Proofs.Mo
theorem own:ownKnob Tryz.prog.godebug=none:=by kernel_rfl
theorem Cr{H:Type}{d:DataW H}:∀{l:List (DataW H)},d∈l->Rows.uptoBulk d<=Rows.uptoBulkAll l
 |x::r,h=>by
  simp only[Rows.uptoBulkAll];rcases c6.1 h with e|e
  ·subst e;omega
  ·have:=Cr e;omega
theorem one_le{H:Type}(d:DataW H):1<=Rows.uptoBulk d:=by
 cases d with
 |lit l=>cases l<;>simp[Rows.uptoBulk]
 |nil=>simp[Rows.uptoBulk]|ptr d=>simp[Rows.uptoBulk]
 |slice ahf spare=>simp[Rows.uptoBulk]|agg parts=>simp[Rows.uptoBulk]
 |iface t d=>simp[Rows.uptoBulk]|map entries=>simp[Rows.uptoBulk]
 |held h=>simp[Rows.uptoBulk]
theorem length_le{H:Type}:∀l:List (DataW H),l.length<=Rows.uptoBulkAll l
 |[]=>by simp|x::r=>by have:=one_le x;have:=length_le r;simp only[Rows.uptoBulkAll,dE];omega
theorem bounds(H:Type):Bounds (H:=H) 1048576 (λd=>Rows.uptoBulk d<=1048576)where
 str b h _:=by simp only[Rows.uptoBulk]at h;omega
 len es sp h _:=by have:=length_le es;simp only[Rows.uptoBulk]at h;omega
 elem es sp d h hd:=by have:=Cr hd;simp only[Rows.uptoBulk]at h;omega
 part ps d h hd:=by have:=Cr hd;simp only[Rows.uptoBulk]at h;omega
set_option maxRecDepth 100000 in
theorem Ws(H:Type)(enc:TypeId×Value->H)(W:World)(base:Nat)(args:Array Value)(ds gs:List (DataW H))(before:List MemPlace)
  (acZ:∀(j:Nat) t v,Tryz.f3.params[j]?=some t->args[j]?=some v->Value.okWide Tryz.prog W .any base t v)
  (hW:DataW.Whole enc Tryz.prog Tryz.f3.params.toList Rows.menuOffersSpec.vars false W args.toList ds gs before) (hk:Rows.uptoSmall H (ds++gs)=true):
  Calls Tryz.prog 3 args W λe W'=>∃v,e=.returned v/\Rows.menuOffersSpec.post enc Tryz.prog Tryz.f3 false true false false W args v W':=by
 have hs:Rows.menuOffersSpec.fn H (ds++gs)={results:=[.lit (.bool true)],args:=ds}:=by obtain⟨p,q,hA,hV,_⟩:=hW;obtain⟨rfl,rfl⟩:=trodVars_none hV;rw[Tryz.params3]at hA;obtain⟨_,_,_,_,_,_,_,rfl,_,_,r0⟩:=trodAll_cons hA;obtain⟨_,_,_,_,_,_,_,rfl,_,_,r1⟩:=trodAll_cons r0;obtain⟨_,_,_,_,_,_,_,rfl,_,_,r2⟩:=trodAll_cons r1;obtain⟨_,_,_,_,_,_,_,rfl,_,_,r3⟩:=trodAll_cons r2;obtain⟨_,_,_,_,_,_,_,rfl,_,_,r4⟩:=trodAll_cons r3;obtain⟨_,rfl,_⟩:=trodAll_nil r4;rfl
 have hb:∀d∈ds,Rows.uptoBulk d<=1048576:=λd hd=>by have h1:Rows.uptoBulkAll (ds++gs)<=1048576:=eF hk;have h2:Rows.uptoBulk d<=Rows.uptoBulkAll (ds++gs):=Cr (dt.2 (.inl hd));omega
 exact Sa (bounds H) (ss:=Wr) (by kernel_rfl) (by kernel_rfl) rfl (by kernel_rfl) rfl hs (by kernel_rfl) acZ hW hb tG
set_option maxRecDepth 100000 in
theorem lifted(os:Os)(started:os.Started)(H:Type)(enc:TypeId×Value->H)(F:Stop.Interp):
  ReturnsInHanded {} Tryz.checked os 3 .any ((Rows.OpenSpec.upto Rows.menuOffersSpec).pre6 enc Tryz.prog Tryz.f3 Rows.menuOffersUptoRow.domain false) (((Rows.OpenSpec.upto Rows.menuOffersSpec).at F).post enc Tryz.prog Tryz.f3 false true false false):=by
 refine returnsInHanded_of_cond (C:=Tryz.checked) (s:=Rows.OpenSpec.upto Rows.menuOffersSpec) (k:=Rows.uptoSmall) rfl own started (by kernel_rfl) Tryz.func3 (OpenSpec.witness (enc:=enc) (C:=Tryz.checked) (s:=Rows.OpenSpec.upto Rows.menuOffersSpec) (k:=Rows.uptoSmall) rfl false ⟨#[],#[.slice none 0 0,.agg #[.int .i64 0,.slice none 0 0],.int .i64 0,.string .empty,.int .i64 0],[]⟩ 8 (by kernel_rfl) (by kernel_rfl) (by kernel_rfl) (x:=([.nil,.agg [.lit (.int .i64 0),.nil],.lit (.int .i64 0),.lit (.string []),.lit (.int .i64 0)],[],[])) (by kernel_rfl) rfl (by kernel_rfl)) ?_;intro W base args ds gs before acZ hW _ hk _;exact Ws H enc W base args ds gs before acZ hW hk
theorem proved:Rows.MenuOffersUptoSaid:=
 OpenClaim.holds_of_cond 3 Tryz.f3 rfl rfl rfl rfl rfl rfl rfl ⟨rfl,rfl,rfl,rfl,rfl⟩ rfl rfl rfl rfl rfl (by kernel_rfl) Tryz.func3 (by kernel_rfl)
  (eF (by kernel_rfl)) (by unfold Func.isWrapper;first|(rw[ap (by decide +kernel)];kernel_rfl)|(rw[ai (by decide +kernel)];exact ⟨rfl,rfl⟩))
  (λos started H enc _ F=>lifted os started H enc F)
#print axioms proved
end Go.Proofs.YtedadjfbbpjaiaaGreat.menuOffers
