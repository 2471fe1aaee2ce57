/- DenoteValues is true of bulk at most 1048576. -/
import Derived.Test.YticakdhfjeljkaaGreatDoorCards
import Derived.Test.YticakdhfjeljkaaGreatDoorTie
import Derived.WalkKit
import Derived.Deep.DeepHandedRow
import Derived.Test.YticakdhfjeljkaaGreatDoorZ24
set_option linter.all false
set_option maxRecDepth 100000
open Option renaming some->O,none->Y
open Bool renaming true->W,false->F
namespace Go.Proofs.YticakdhfjeljkaaGreatDoor.dv
open Go Go.Ev Go.ChangeShapes Go.WideShapes Go.ChangeAt Go.RowKit Go.Proofs.Mo
theorem bR:ownKnob Tryz.prog.godebug=Y:=ap
theorem Yc{H:Type}{d:DataW H}:∀{l:Z (DataW H)},d∈l->Rows.uptoBulk d<=Rows.uptoBulkAll l
 |x::r,h=>by
  simp only[Rows.uptoBulkAll];rcases fb.1 h with e|e
  .subst e;omega
  .have:=Yc e;omega
theorem ai7{H:Type}(d:DataW H):1<=Rows.uptoBulk d:=by
 cases d with
 |lit l=>cases l<;>simp[Rows.uptoBulk]
 |nil=>simp[Rows.uptoBulk]|ptr d=>simp[Rows.uptoBulk]
 |slice a b=>simp[Rows.uptoBulk]|agg c=>simp[Rows.uptoBulk]
 |iface t d=>simp[Rows.uptoBulk]|map e=>simp[Rows.uptoBulk]
 |held h=>simp[Rows.uptoBulk]
theorem Ri{H:Type}:∀l:Z (DataW H),l.length<=Rows.uptoBulkAll l
 |[]=>aH|x::r=>by have:=ai7 x;have:=Ri r;simp only[Rows.uptoBulkAll,ie];omega
theorem ai8(H:Type):Eb (H:=H) 1048576 (λd=>Rows.uptoBulk d<=1048576)where
 str b h _:=by simp only[Rows.uptoBulk]at h;omega
 len c e h _:=by have:=Ri c;simp only[Rows.uptoBulk]at h;omega
 elem c e d h a:=by have:=Yc a;simp only[Rows.uptoBulk]at h;omega
 part ps d h a:=by have:=Yc a;simp only[Rows.uptoBulk]at h;omega
theorem aek(H:Type)(enc:an×ag->H)(b:af)(base:Nat)(args:Array ag)(a c:Z (DataW H))(h:Z MemPlace)
  (i:∀(j:Nat) t v,Tryz.f3.params[j]?=O t->args[j]?=O v->Value.okWide Tryz.prog b .any base t v)
  (f:DataW.Whole enc Tryz.prog Tryz.f3.params.toList Rows.denoteValuesSpec.vars F b args.toList a c h) (k:Rows.uptoSmall H (a++c)=W) (l:laidMetH Tryz.prog Rows.denoteValuesUptoRow.laid b):
  Calls Tryz.prog 3 args b λe m=>∃v,e=.returned v/\Rows.denoteValuesSpec.post enc Tryz.prog Tryz.f3 F W F F b args v m:=by
 have n:Rows.denoteValuesSpec.fn H (a++c)={results:=[.lit (.bool W)],args:=a}:=by obtain⟨p,q,g,o,_⟩:=f;obtain⟨rfl,rfl⟩:=trodVars_none o;rw[Tryz.params3]at g;obtain⟨_,_,_,_,_,_,_,rfl,_,_,r⟩:=trodAll_cons g;obtain⟨_,_,_,_,_,_,_,rfl,_,_,s⟩:=trodAll_cons r;obtain⟨_,rfl,_⟩:=trodAll_nil s;rfl
 have u:∀d∈a,Rows.uptoBulk d<=1048576:=λd w=>by have A:Rows.uptoBulkAll (a++c)<=1048576:=e4 k;have B:Rows.uptoBulk d<=Rows.uptoBulkAll (a++c):=Yc (fK.2 (.inl w));omega
 obtain⟨x,y,z⟩:=NC l;exact Vm (ai8 H) (ss:=PB) ap ap rfl ap rfl n ap rfl i f u y z (aej x)
noncomputable def abd (b:Os):af:=
 let Mloc:=(World.settled Tryz.prog b).heap.size;let w0:=World.holding Tryz.prog b ⟨#[.cells #[.string ⟨#[118,97,108,117,101,32,111,117,116,32,111,102,32,114,97,110,103,101]⟩] 391,.cells #[.string ⟨#[105,110,118,97,108,105,100,32,115,121,110,116,97,120]⟩] 391],#[],[]⟩;let a (h:Array Obj) (g:Nat) (cs:Array ag):Array Obj:=h.modify g λ
  |.cells _ t frozen=>.cells cs t frozen|o=>o
 {w0 with heap:=a (a (a (a (a (a w0.heap 0 #[.string ⟨#[45,62]⟩,.string ⟨#[33,33]⟩,.string ⟨#[33,61]⟩,.string ⟨#[61,61]⟩,.string ⟨#[60,61]⟩,.string ⟨#[46]⟩,.string ⟨#[35]⟩,.string ⟨#[94]⟩,.string ⟨#[63]⟩,.string ⟨#[40]⟩,.string ⟨#[41]⟩,.string ⟨#[43]⟩,.string ⟨#[45]⟩,.string ⟨#[42]⟩,.string ⟨#[60]⟩,.string ⟨#[58]⟩]) 1 (Lib.pow10Tab.map λz=>Value.int .u64 z).toArray) 2 #[.iface 389 (.pointer (O ⟨Mloc+1,0,Y⟩))]) 3 #[.iface 389 (.pointer (O ⟨Mloc,0,Y⟩))]) 4 (([0,1,28,2,29,14,24,3,30,22,20,15,25,17,4,8,31,27,13,23,21,19,16,7,26,12,18,6,11,5,10,9]:Z Int).map (Value.int .u8)).toArray) 5 (([0,1,56,2,57,49,28,3,61,58,42,50,38,29,17,4,62,47,59,36,45,43,51,22,53,39,33,30,24,18,12,5,63,55,48,27,60,41,37,16,46,35,44,21,52,32,23,11,54,26,40,15,34,20,31,10,25,14,19,9,13,8,7,6]:Z Int).map (Value.int .u8)).toArray}
theorem ael(a:Os)(args:Array ag):laidMet Tryz.prog Rows.denoteValuesUptoRow.laid ((abd a).forCall (λ_ _=>0) ⟨#[],args,[]⟩).memory:=laidMet_of_run' 8 ap ap
theorem ajd(a:Os){H:Type}(enc:an×ag->H):∃b,DataW.whole enc Tryz.prog ((abd a).forCall (λ_ _=>0) ⟨#[],#[.agg #[.slice Y 0 0,.int .i64 0,.slice Y 0 0,.int .i64 0,.int .i64 0],.agg #[.slice Y 0 0]],[]⟩).memory Tryz.f3.params.toList Rows.denoteValuesSpec.vars F ((#[.agg #[.slice Y 0 0,.int .i64 0,.slice Y 0 0,.int .i64 0,.int .i64 0],.agg #[.slice Y 0 0]]:Array ag)).toList 8=O ([.agg [.nil,.agg [.lit (.int .i64 0),.nil],.lit (.int .i64 0),.lit (.int .i64 0)],.agg [.nil]],[],b):=⟨[],ap⟩
theorem q2(a:Os)(b:a.Started)(H:Type)(enc:an×ag->H)(c:Stop.Interp):
  ReturnsInHanded {} Tryz.checked a 3 .any ((Rows.OpenSpec.upto Rows.denoteValuesSpec).preRow enc Tryz.prog Tryz.f3 Rows.denoteValuesUptoRow.domain F Rows.denoteValuesUptoRow.laid) (((Rows.OpenSpec.upto Rows.denoteValuesSpec).at c).post enc Tryz.prog Tryz.f3 F W F F):=by
 obtain⟨o,d⟩:=ajd a enc;refine returnsInHanded_of_row (C:=Tryz.checked) (s:=Rows.OpenSpec.upto Rows.denoteValuesSpec) bR b ap Tryz.func3 (witness_row_at (enc:=enc) (C:=Tryz.checked) F (abd a) #[.agg #[.slice Y 0 0,.int .i64 0,.slice Y 0 0,.int .i64 0,.int .i64 0],.agg #[.slice Y 0 0]] rfl ap ap ap (OpenSpec.preRow_of_cond 8 d ap (λk e=>by cases e;kernel_rfl) ap (ael a _))) ?_;intro f base args g h i j l _ m _ n _ _;exact aek H enc f base args g h i j l (m _ rfl) n
abbrev CL:=Rows.denoteValuesUptoRow
abbrev SP:=(Rows.OpenSpec.upto Rows.denoteValuesSpec).bare
theorem h8{a b:aa}(h:a=W)(k:b=W):(a&&b)=W:=by rw[h,k];rfl
theorem z0:(CL.wf (OpenSpec.ofChange SP):aa)=W:=ap
theorem z1:(laidOutB Tryz.prog:aa)=W:=ap
theorem z2:(mapsRowed Tryz.prog:aa)=W:=ap
theorem z3:(Tryz.f3.params.all (λz=>Tryz.prog.readableRec z):aa)=W:=ap
theorem z4:(namedTie Tryz.prog CL.named SP.vars:aa)=W:=ap
theorem z5:((CL.stops==[]):aa)=W:=ap
theorem z6:((Tryz.prog.stops==[]):aa)=W:=ap
theorem z7:((CL.knobs==[]):aa)=W:=ap
theorem z8:((Tryz.prog.stopKnobs==[]):aa)=W:=ap
theorem z9:((CL.inPlace==Tryz.prog.inPlace 3):aa)=W:=ap
theorem z10:((CL.unfollowed==Tryz.prog.unfollowed 3):aa)=W:=ap
theorem z11:((CL.recurses==Tryz.prog.recurses 3):aa)=W:=ap
theorem z12:((CL.named==Tryz.prog.varsNamed 3):aa)=W:=ap
theorem z13:((CL.maps==(Tryz.f3.params.toList++SP.plain.varTypes Tryz.prog).any (λz=>Tryz.prog.mapsRec z)):aa)=W:=ap
theorem z14:((CL.ifaces==(Tryz.f3.params.toList++SP.plain.varTypes Tryz.prog).any (λz=>Tryz.prog.ifacesRec z)):aa)=W:=ap
theorem z15:((CL.mapsOut==Tryz.prog.mapsAmong Tryz.f3.resultTypes.toList):aa)=W:=ap
theorem z16:((CL.loops==(Tryz.f3.params.toList++SP.plain.varTypes Tryz.prog).any (λz=>Tryz.prog.loopsFrom z)):aa)=W:=ap
theorem z17:((CL.wideKeys==(Tryz.f3.params.toList++SP.plain.varTypes Tryz.prog++Tryz.f3.resultTypes.toList).any (λz=>Tryz.prog.wideKeysFrom z)):aa)=W:=ap
theorem z18:(SP.vars.all (λz=>Tryz.prog.varReadable z):aa)=W:=ap
theorem z19:(Tryz.f3.resultTypes.all (λt=>Tryz.prog.readableRec t&&decide (t<Tryz.prog.types.size)):aa)=W:=ap
theorem z20:((CL.ifacesOut==Tryz.f3.resultTypes.toList.any (λz=>Tryz.prog.ifacesRec z)):aa)=W:=ap
theorem z21:((CL.loopsOut==Tryz.f3.resultTypes.toList.any (λz=>Tryz.prog.loopsFrom z)):aa)=W:=ap
theorem z22:((CL.plainKeys==Tryz.prog.plainKeys):aa)=W:=ap
theorem z23:(CL.shortTexts.isNone:aa)=W:=ap
theorem z24:(Tryz.prog.stopsHeard:aa)=W:=ap
theorem z25:(Tryz.prog.mayEnter:aa)=W:=ap
theorem z26:((CL.lifted==Tryz.prog.liftsFinal):aa)=W:=ap
theorem z27:((Tryz.prog.make==O CL.make):aa)=W:=ap
theorem z28:((CL.kinds==(if CL.domain.isEmpty then []else Tryz.f3.params.toList.map λt=>match Tryz.prog.underlying t with|some (.int k)=>O k|_=>Y)):aa)=W:=ap
theorem z29:((CL.pinned==CL.pinnedBy):aa)=W:=ap
theorem z30:((CL.veiled==(Tryz.f3.params.toList++SP.plain.varTypes Tryz.prog++Tryz.f3.resultTypes.toList).any (λz=>Tryz.prog.veiledRec z)):aa)=W:=ap
theorem z31:(CL.veiledFits Tryz.prog Tryz.f3.params.toList (Tryz.f3.params.toList++SP.plain.varTypes Tryz.prog++Tryz.f3.resultTypes.toList):aa)=W:=ap
theorem ai9:joinedFacts Tryz.prog 3 Tryz.f3 (Rows.OpenSpec.upto Rows.denoteValuesSpec).bare Rows.denoteValuesUptoRow=W:=h8 (h8 (h8 (h8 (h8 (h8 (h8 (h8 (h8 (h8 (h8 (h8 (h8 (h8 (h8 (h8 (h8 (h8 (h8 (h8 (h8 (h8 (h8 (h8 (h8 (h8 (h8 (h8 (h8 (h8 (h8 z0 z1) z2) z3) z4) z5) z6) z7) z8) z9) z10) z11) z12) z13) z14) z15) z16) z17) z18) z19) z20) z21) z22) z23) z24) z25) z26) z27) z28) z29) z30) z31
theorem ajr:Rows.DenoteValuesUptoSaid:=
 OpenClaim.holds_of_cond 3 Tryz.f3 rfl rfl rfl rfl rfl rfl rfl ⟨rfl,rfl,rfl,rfl,rfl⟩ rfl rfl rfl rfl rfl ap Tryz.func3 ai9
  (e4 ap) (by unfold Func.isWrapper;first|(rw[aq (by decide +kernel)];kernel_rfl)|(rw[ao (by decide +kernel)];exact ⟨rfl,rfl⟩))
  (λa b H enc _ c=>by rw[OpenClaim.pre_eq_preRow];exact q2 a b H enc c)
theorem q1(f:bH)(fn:Func)(b:Tryz.pinned.checked.prog.funcNamed "topiary/topiarylaw10.DenoteValues" =O f)(c:Tryz.pinned.checked.prog.funcs[f]?=O fn):
  W=Tryz.pinned.checked.prog.looks []/\∀(j:Nat) t,fn.params[j]?=O t->Tryz.pinned.checked.prog.wantsStandIn t=F:=by
 obtain rfl:f=3:=cJ ((show Tryz.prog.funcNamed "topiary/topiarylaw10.DenoteValues" =O 3 by kernel_rfl).symm.trans b)|>.symm;obtain rfl:fn=Tryz.f3:=(cJ (Tryz.func3.symm.trans c)).symm;refine⟨ap,λj t d=>?_⟩;have e:Tryz.f3.params.toList.all (λt=>!Tryz.prog.wantsStandIn t)=W:=ap;have a:=di.1 e t (Array.mem_toList_iff.2 (kQ d));show Tryz.prog.wantsStandIn t=F;cases g:Tryz.prog.wantsStandIn t with
 |false=>rfl|true=>rw[g]at a;cases a
theorem proved:Rows.DenoteValuesUptoCardSaid:=Claim7.holds_tied_plain_at .later [] _ _ _ _ ajr (λ_ h=>by cases h) ap (λ_ h=>by cases h) denoteValuesUpto_row_tie rfl ⟨rfl,rfl⟩ ap rfl q1 ap
end Go.Proofs.YticakdhfjeljkaaGreatDoor.dv
