import Derived.Test.YtedadjfbbpjaiaaGreatProg
import Derived.Tactics
import Derived.Tactics2
import Derived.Defers
import Derived.Laws.Pointers
import Derived.Laws.LoneSync
import Derived.RegionTactic
import Derived.RegionCalls
import Derived.ChangeAlike
import Derived.Test.YtedadjfbbpjaiaaGreatZ21
set_option linter.all false
set_option maxRecDepth 100000
namespace Go.Proofs.Mo
open Go
theorem acn(a:Addr)(v d s:Int)(hs:IntKind.i64.wrap (v+d)=s)(w:World)(hc:w.cell? a=some (.int .i64 v))(hz:w.frozen? a=false):
  Calls Tryz.prog 176 #[.pointer (some a),.int .i64 d] w λe w'=>e=.returned (.int .i64 s)/\w'=w.setCell a (.int .i64 s):=by
 have QF:=run_call_add (P:=Tryz.prog) Tryz.func201 (by kernel_rfl) (by kernel_rfl) (by kernel_rfl) .i64 (by kernel_rfl) (y:=d) (s:=s) hc hz (by rw[<-hs];simp[go_sem])
 go_enter Tryz.func176,Tryz.ntmps176
 go_wp2
 go_ret
 exact⟨rfl,rfl⟩
theorem disable(w:World):(callFunc 221 #[]).run Tryz.prog w=.ok (.value (.tuple #[])) w:=run_call_mark0 Tryz.func221 (by kernel_rfl) (by kernel_rfl) (by kernel_rfl) .disable (by kernel_rfl) w
theorem enable(w:World):(callFunc 223 #[]).run Tryz.prog w=.ok (.value (.tuple #[])) w:=run_call_mark0 Tryz.func223 (by kernel_rfl) (by kernel_rfl) (by kernel_rfl) .enable (by kernel_rfl) w
theorem acquire(a:Addr)(w:World):(callFunc 224 #[.pointer (some a)]).run Tryz.prog w=.ok (.value (.tuple #[])) w:=run_call_marked Tryz.func224 (by kernel_rfl) (by kernel_rfl) (by kernel_rfl) .acquire (by kernel_rfl) a w
theorem releaseMerge(a:Addr)(w:World):(callFunc 226 #[.pointer (some a)]).run Tryz.prog w=.ok (.value (.tuple #[])) w:=run_call_marked Tryz.func226 (by kernel_rfl) (by kernel_rfl) (by kernel_rfl) .releaseMerge (by kernel_rfl) a w
theorem Er(a:Addr)(x:Value)(u:FrameMode)(w:World)(hc:w.cell? a=some x)(hz:w.frozen? a=false):
  CallsD Tryz.prog 215 #[.pointer (some a),.bool true] u w λe u' w'=>u'=u/\(e=.returned (.tuple #[])/\w'=w.drew.setCell a (.int .u32 1)):=by
 have kA:w.drew.cell? a=some x:=by go_simp
 have JE:w.drew.frozen? a=false:=by go_simp
 have mK:=run_call_store (P:=Tryz.prog) Tryz.func219 (by kernel_rfl) (by kernel_rfl) (by kernel_rfl) (by kernel_rfl) (k:=.u32) (y:=1) kA JE
 go_enter_d Tryz.func215,Tryz.ntmps215
 go_wp2
 go_region_calls
 all_goals(go_end0;exact ⟨rfl,rfl⟩)
theorem B5(a:Addr)(u:FrameMode)(w:World)(hc:w.cell? a=some (.int .i32 1))(hz:w.frozen? a=false):
  CallsD Tryz.prog 214 #[.pointer (some a)] u w λe u' w'=>u'=u/\(e=.returned (.tuple #[])/\w'=w.setCell a (.int .i32 0)):=by
 have hd:=disable;have he:=enable;have hr:=releaseMerge;have QF:=run_call_add (P:=Tryz.prog) Tryz.func227 (by kernel_rfl) (by kernel_rfl) (by kernel_rfl) .i32 (by kernel_rfl) (y:=-1) (s:=0) hc hz (by simp[go_sem];rfl);have hcv:=run_convert_to_unsafe (P:=Tryz.prog) (src:=308) (dst:=312) Tryz.underlying308 Tryz.underlying312 (by kernel_rfl) hc
 go_enter_d Tryz.func214,Tryz.ntmps214
 go_wp2
 go_end0
 go_wp2
 go_end0
 exact⟨rfl,rfl⟩
theorem RQ(a:Addr)(w:World)(hc:w.cell? a=some (.int .i32 0))(hz:w.frozen? a=false):
  Calls Tryz.prog 213 #[.pointer (some a)] w λe w'=>e=.returned (.tuple #[])/\w'=w.setCell a (.int .i32 1):=by
 have hd:=disable;have he:=enable;have ha:=acquire;have anf:=run_call_cas_hit (P:=Tryz.prog) Tryz.func222 (by kernel_rfl) (by kernel_rfl) (by kernel_rfl) .i32 (by kernel_rfl) (y:=1) hc hz;have kA:(w.setCell a (.int .i32 1)).cell? a=some (.int .i32 1):=World.cell?_setCell_same w a _ hc;have hcv:=run_convert_to_unsafe (P:=Tryz.prog) (src:=308) (dst:=312) Tryz.underlying308 Tryz.underlying312 (by kernel_rfl) kA
 go_enter Tryz.func213,Tryz.ntmps213
 go_wp2
 first|go_end0|(simp only[Exit.inBlock,Exit.then];refine bodyPost_ret (results_none rfl _ _ _) rfl ?_)|refine bodyPost_ret (results_none rfl _ _ _) rfl ?_
 go_wp2
 go_end0
 exact⟨rfl,rfl⟩
set_option maxHeartbeats 1600000 in
theorem YK(b o:Nat)(pl:Value)(w:World)(R:World->Prop)(h0:w.cell? ⟨b,o,none⟩=some (.int .u32 0))(h1:w.cell? ⟨b,o+1,none⟩=some (.int .i32 0))
  (f0:w.frozen? ⟨b,o,none⟩=false) (f1:w.frozen? ⟨b,o+1,none⟩=false)
  (hf:Calls Tryz.prog 178 #[pl] (w.setCell ⟨b,o+1,none⟩ (.int .i32 1)) λe w'=>e=.returned (.tuple #[])/\R w')
  (hR:∀w',R w'->w'.cell? ⟨b,o,none⟩=some (.int .u32 0)/\w'.cell? ⟨b,o+1,none⟩=some (.int .i32 1)/\w'.frozen? ⟨b,o,none⟩=false/\w'.frozen? ⟨b,o+1,none⟩=false):
  Calls Tryz.prog 203 #[.pointer (some ⟨b,o,none⟩),.func (.func 178) #[] #[pl]] w λe w'=>e=.returned (.tuple #[])/\∃w2,R w2/\w'=(w2.drew.setCell ⟨b,o,none⟩ (.int .u32 1)).setCell ⟨b,o+1,none⟩ (.int .i32 0):=by
 have hl:=run_call_load (P:=Tryz.prog) Tryz.func212 (by kernel_rfl) (by kernel_rfl) (by kernel_rfl) .u32 (by kernel_rfl) (w:=w.setCell ⟨b,o+1,none⟩ (.int .i32 1)) (a:=⟨b,o,none⟩) (x:=0) ((World.cell?_setCell_other _ ⟨b,o+1,none⟩ ⟨b,o,none⟩ _ (by simp)).trans h0);have afG:∀(x:Bool)(w:World),(Op.unary .not (.bool x)).run Tryz.prog w=.ok (.bool (!x)) w:=λ_ _=>rfl
 go_enter_defers Tryz.func203,Tryz.ntmps203
 go_wp2_with (first|(go_at_call 213;refine (RQ ⟨b,o+1,none⟩ _ (by go_simp) (by go_simp)).mono ?_;rintro e w' ⟨rfl,rfl⟩)|(go_at_call 178;refine hf.mono ?_;rintro e w' ⟨rfl,hw⟩)|(go_at_call 202;go_in))
 obtain⟨k0,k1,k2,k3⟩:=hR _ hw;refine leaves_cons (f:=215) (args:=#[.pointer (some ⟨b,o,none⟩),.bool true]) (by simp) (by simp[go_sem]) ?_;refine(Er ⟨b,o,none⟩ (.int .u32 0) .returning _ k0 (by simp[k2])).mono ?_;rintro e u' w'' ⟨rfl,rfl,rfl⟩;refine leaves_cons (f:=214) (args:=#[.pointer (some ⟨b,o+1,none⟩)]) (by simp[settle]) (by simp[go_sem]) ?_;refine(B5 ⟨b,o+1,none⟩ _ _ ?_ (by simp[k3])).mono ?_
 ·refine (World.cell?_setCell_other _ ⟨b,o,none⟩ ⟨b,o+1,none⟩ _ (by simp)).trans ?_;rw[World.cell?_drew];exact k1
 rintro e u' w'' ⟨rfl,rfl,rfl⟩;simp[Leaves,settle,results,Tryz.results203];exact⟨_,hw,rfl⟩
set_option maxHeartbeats 1600000 in
theorem afH(b o:Nat)(pl:Value)(w:World)(R:World->Prop)(h0:w.cell? ⟨b,o,none⟩=some (.int .u32 0))(h1:w.cell? ⟨b,o+1,none⟩=some (.int .i32 0))
  (f0:w.frozen? ⟨b,o,none⟩=false) (f1:w.frozen? ⟨b,o+1,none⟩=false)
  (hf:Calls Tryz.prog 178 #[pl] (w.setCell ⟨b,o+1,none⟩ (.int .i32 1)) λe w'=>e=.returned (.tuple #[])/\R w')
  (hR:∀w',R w'->w'.cell? ⟨b,o,none⟩=some (.int .u32 0)/\w'.cell? ⟨b,o+1,none⟩=some (.int .i32 1)/\w'.frozen? ⟨b,o,none⟩=false/\w'.frozen? ⟨b,o+1,none⟩=false):
  Calls Tryz.prog 177 #[.pointer (some ⟨b,o,none⟩),.func (.func 178) #[] #[pl]] w λe w'=>e=.returned (.tuple #[])/\∃w2,R w2/\w'=(w2.drew.setCell ⟨b,o,none⟩ (.int .u32 1)).setCell ⟨b,o+1,none⟩ (.int .i32 0):=by
 have hl:=run_call_load (P:=Tryz.prog) Tryz.func212 (by kernel_rfl) (by kernel_rfl) (by kernel_rfl) .u32 (by kernel_rfl) h0;have afG:∀(x:Bool)(w:World),(Op.unary .not (.bool x)).run Tryz.prog w=.ok (.bool (!x)) w:=λ_ _=>rfl
 go_enter Tryz.func177,Tryz.ntmps177
 go_wp2_with (first|(go_at_call 203;refine (YK b o pl _ R h0 h1 f0 f1 hf hR).mono ?_;rintro e w' ⟨rfl,hw⟩)|(go_at_call 202;go_in))
 go_end0
 exact⟨rfl,hw⟩
theorem YL(a:Addr)(d:Int)(hd:¬d=0)(fv:Value)(w:World)(h0:w.cell? a=some (.int .u32 d)):
  Calls Tryz.prog 177 #[.pointer (some a),fv] w λe w'=>e=.returned (.tuple #[])/\w'=w:=by
 have hl:=run_call_load (P:=Tryz.prog) Tryz.func212 (by kernel_rfl) (by kernel_rfl) (by kernel_rfl) .u32 (by kernel_rfl) h0;have afG:∀(x:Bool)(w:World),(Op.unary .not (.bool x)).run Tryz.prog w=.ok (.bool (!x)) w:=λ_ _=>rfl;have fF:(d !=0)=true:=by simp[hd]
 go_enter Tryz.func177,Tryz.ntmps177
 go_wp2
 go_end0
 exact⟨rfl,rfl⟩
end Go.Proofs.Mo
