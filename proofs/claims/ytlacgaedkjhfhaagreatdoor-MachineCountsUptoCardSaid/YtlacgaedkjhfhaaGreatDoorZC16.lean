import Derived.Test.YtlacgaedkjhfhaaGreatDoorProg
import Derived.Tactics
import Derived.Tactics2
import Derived.Defers
import Derived.Laws.Pointers
import Derived.Laws.LoneSync
import Derived.RegionTactic
import Derived.RegionCalls
import Derived.ChangeAlike
import Derived.Test.YtlacgaedkjhfhaaGreatDoorZC15
set_option linter.all false
set_option maxRecDepth 100000
open Option renaming some->O,none->Y
open Bool renaming true->W,false->F
open Go.Proofs.Tryz
namespace Go.Proofs.Mo
open Go
def XX(a:Mc)(v d s:Int)(b:IntKind.i64.wrap (v+d)=s)(w:zI)(c:w.cell? a=O (.int .i64 v))(f:w.frozen? a=F):
  Calls Tryz.prog 249 #[.pointer (O a),.int .i64 d] w λe w'=>e=.returned (.int .i64 s)/\w'=w.setCell a (.int .i64 s):=by
 have g:=run_call_add (P:=Tryz.prog) Tryz.func265 au au au .i64 au (y:=d) (s:=s) c f (by rw[<-b];simp[go_sem])
 go_enter Tryz.func249,Tryz.ntmps249
 go_wp2
 go_ret
 exact⟨rfl,rfl⟩
def disable(w:zI):(callFunc 300 #[]).run Tryz.prog w=.ok (.value (.tuple #[])) w:=run_call_mark0 Tryz.func300 au au au .disable au w
def enable(w:zI):(callFunc 302 #[]).run Tryz.prog w=.ok (.value (.tuple #[])) w:=run_call_mark0 Tryz.func302 au au au .enable au w
def acquire(a:Mc)(w:zI):(callFunc 303 #[.pointer (O a)]).run Tryz.prog w=.ok (.value (.tuple #[])) w:=run_call_marked Tryz.func303 au au au .acquire au a w
def releaseMerge(a:Mc)(w:zI):(callFunc 305 #[.pointer (O a)]).run Tryz.prog w=.ok (.value (.tuple #[])) w:=run_call_marked Tryz.func305 au au au .releaseMerge au a w
def Ch(a:Mc)(x:Jz)(u:FrameMode)(w:zI)(d:w.cell? a=O x)(f:w.frozen? a=F):
  CallsD Tryz.prog 277 #[.pointer (O a),.bool W] u w λe u' w'=>u'=u/\(e=.returned (.tuple #[])/\w'=w.drew.setCell a (.int .u32 1)):=by
 have b:w.drew.cell? a=O x:=by go_simp
 have c:w.drew.frozen? a=F:=by go_simp
 have g:=run_call_store (P:=Tryz.prog) Tryz.func289 au au au au (k:=.u32) (y:=1) b c
 go_enter_d Tryz.func277,Tryz.ntmps277
 go_wp2
 go_region_calls
 all_goals(go_end0;exact ⟨rfl,rfl⟩)
def zg(a:Mc)(u:FrameMode)(w:zI)(b:w.cell? a=O (.int .i32 1))(c:w.frozen? a=F):
  CallsD Tryz.prog 276 #[.pointer (O a)] u w λe u' w'=>u'=u/\(e=.returned (.tuple #[])/\w'=w.setCell a (.int .i32 0)):=by
 have d:=disable;have f:=enable;have g:=releaseMerge;have h:=run_call_add (P:=Tryz.prog) Tryz.func306 au au au .i32 au (y:=-1) (s:=0) b c (by simp[go_sem];rfl);have i:=run_convert_to_unsafe (P:=Tryz.prog) (src:=404) (dst:=408) Tryz.underlying404 Tryz.underlying408 au b
 go_enter_d Tryz.func276,Tryz.ntmps276
 go_wp2
 go_end0
 go_wp2
 go_end0
 exact⟨rfl,rfl⟩
def OJ(a:Mc)(w:zI)(b:w.cell? a=O (.int .i32 0))(c:w.frozen? a=F):
  Calls Tryz.prog 275 #[.pointer (O a)] w λe w'=>e=.returned (.tuple #[])/\w'=w.setCell a (.int .i32 1):=by
 have f:=disable;have g:=enable;have h:=acquire;have i:=run_call_cas_hit (P:=Tryz.prog) Tryz.func301 au au au .i32 au (y:=1) b c;have d:(w.setCell a (.int .i32 1)).cell? a=O (.int .i32 1):=World.cell?_setCell_same w a _ b;have j:=run_convert_to_unsafe (P:=Tryz.prog) (src:=404) (dst:=408) Tryz.underlying404 Tryz.underlying408 au d
 go_enter Tryz.func275,Tryz.ntmps275
 go_wp2
 first|go_end0|(simp only[Exit.inBlock,Exit.then];refine bodyPost_ret (results_none rfl _ _ _) rfl ?_)|refine bodyPost_ret (results_none rfl _ _ _) rfl ?_
 go_wp2
 go_end0
 exact⟨rfl,rfl⟩
set_option maxHeartbeats 1600000 in
theorem Ut(b o:Nat)(pl:Jz)(w:zI)(R:zI->Prop)(h0:w.cell? ⟨b,o,Y⟩=O (.int .u32 0))(m:w.cell? ⟨b,o+1,Y⟩=O (.int .i32 0))
  (n:w.frozen? ⟨b,o,Y⟩=F) (p:w.frozen? ⟨b,o+1,Y⟩=F)
  (g:Calls Tryz.prog 251 #[pl] (w.setCell ⟨b,o+1,Y⟩ (.int .i32 1)) λe w'=>e=.returned (.tuple #[])/\R w')
  (h:∀w',R w'->w'.cell? ⟨b,o,Y⟩=O (.int .u32 0)/\w'.cell? ⟨b,o+1,Y⟩=O (.int .i32 1)/\w'.frozen? ⟨b,o,Y⟩=F/\w'.frozen? ⟨b,o+1,Y⟩=F):
  Calls Tryz.prog 267 #[.pointer (O ⟨b,o,Y⟩),.func (.func 251) #[] #[pl]] w λe w'=>e=.returned (.tuple #[])/\∃c,R c/\w'=(c.drew.setCell ⟨b,o,Y⟩ (.int .u32 1)).setCell ⟨b,o+1,Y⟩ (.int .i32 0):=by
 have q:=run_call_load (P:=Tryz.prog) Tryz.func274 au au au .u32 au (w:=w.setCell ⟨b,o+1,Y⟩ (.int .i32 1)) (a:=⟨b,o,Y⟩) (x:=0) ((World.cell?_setCell_other _ ⟨b,o+1,Y⟩ ⟨b,o,Y⟩ _ aE).trans h0);have r:∀(x:tl)(w:zI),(Op.unary .not (.bool x)).run Tryz.prog w=.ok (.bool (!x)) w:=λ_ _=>rfl
 go_enter_defers Tryz.func267,Tryz.ntmps267
 go_wp2_with (first|(go_at_call 275;refine (OJ ⟨b,o+1,Y⟩ _ (by go_simp) (by go_simp)).mono ?_;rintro e w' ⟨rfl,rfl⟩)|(go_at_call 251;refine g.mono ?_;rintro e w' ⟨rfl,d⟩)|(go_at_call 266;go_in))
 obtain⟨k0,i,j,k⟩:=h _ d;refine leaves_cons (f:=277) (args:=#[.pointer (O ⟨b,o,Y⟩),.bool W]) aE (by simp[go_sem]) ?_;refine(Ch ⟨b,o,Y⟩ (.int .u32 0) .returning _ k0 (by simp[j])).mono ?_;rintro e u' l ⟨rfl,rfl,rfl⟩;refine leaves_cons (f:=276) (args:=#[.pointer (O ⟨b,o+1,Y⟩)]) (by simp[settle]) (by simp[go_sem]) ?_;refine(zg ⟨b,o+1,Y⟩ _ _ ?_ (by simp[k])).mono ?_
 .refine (World.cell?_setCell_other _ ⟨b,o,Y⟩ ⟨b,o+1,Y⟩ _ aE).trans ?_;rw[World.cell?_drew];exact i
 rintro e u' l ⟨rfl,rfl,rfl⟩;simp[Leaves,settle,results,Tryz.results267];exact⟨_,d,rfl⟩
set_option maxHeartbeats 1600000 in
theorem Z9(b o:Nat)(pl:Jz)(w:zI)(R:zI->Prop)(h0:w.cell? ⟨b,o,Y⟩=O (.int .u32 0))(c:w.cell? ⟨b,o+1,Y⟩=O (.int .i32 0))
  (d:w.frozen? ⟨b,o,Y⟩=F) (f:w.frozen? ⟨b,o+1,Y⟩=F)
  (g:Calls Tryz.prog 251 #[pl] (w.setCell ⟨b,o+1,Y⟩ (.int .i32 1)) λe w'=>e=.returned (.tuple #[])/\R w')
  (h:∀w',R w'->w'.cell? ⟨b,o,Y⟩=O (.int .u32 0)/\w'.cell? ⟨b,o+1,Y⟩=O (.int .i32 1)/\w'.frozen? ⟨b,o,Y⟩=F/\w'.frozen? ⟨b,o+1,Y⟩=F):
  Calls Tryz.prog 250 #[.pointer (O ⟨b,o,Y⟩),.func (.func 251) #[] #[pl]] w λe w'=>e=.returned (.tuple #[])/\∃a,R a/\w'=(a.drew.setCell ⟨b,o,Y⟩ (.int .u32 1)).setCell ⟨b,o+1,Y⟩ (.int .i32 0):=by
 have j:=run_call_load (P:=Tryz.prog) Tryz.func274 au au au .u32 au h0;have k:∀(x:tl)(w:zI),(Op.unary .not (.bool x)).run Tryz.prog w=.ok (.bool (!x)) w:=λ_ _=>rfl
 go_enter Tryz.func250,Tryz.ntmps250
 go_wp2_with (first|(go_at_call 267;refine (Ut b o pl _ R h0 c d f g h).mono ?_;rintro e w' ⟨rfl,i⟩)|(go_at_call 266;go_in))
 go_end0
 exact⟨rfl,i⟩
def Uu(a:Mc)(d:Int)(b:¬d=0)(c:Jz)(w:zI)(h0:w.cell? a=O (.int .u32 d)):
  Calls Tryz.prog 250 #[.pointer (O a),c] w λe w'=>e=.returned (.tuple #[])/\w'=w:=by
 have f:=run_call_load (P:=Tryz.prog) Tryz.func274 au au au .u32 au h0;have g:∀(x:tl)(w:zI),(Op.unary .not (.bool x)).run Tryz.prog w=.ok (.bool (!x)) w:=λ_ _=>rfl;have h:(d !=0)=W:=by simp[b]
 go_enter Tryz.func250,Tryz.ntmps250
 go_wp2
 go_end0
 exact⟨rfl,rfl⟩
end Go.Proofs.Mo
