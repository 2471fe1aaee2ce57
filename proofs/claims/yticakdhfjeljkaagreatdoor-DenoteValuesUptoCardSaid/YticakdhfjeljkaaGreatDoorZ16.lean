import Derived.Shelf.Strings.BuilderK
import Derived.Deep.QuietTactic
import Derived.BigQuiet
import Derived.LoopN
import Derived.Lib.AtoiErrMem
import Derived.Test.YticakdhfjeljkaaGreatDoorZ15
set_option linter.all false
set_option maxRecDepth 100000
open Option renaming some->O,none->Y
open Bool renaming true->W,false->F
open Go.Proofs.Tryz
noncomputable section
namespace Go.Proofs.Mo
open Go
theorem ZY(a:bY)(v d s:Int)(b:IntKind.i64.wrap (v+d)=s)(w:af)(c:w.cell? a=O (.int .i64 v))(f:w.frozen? a=F):
  Calls Tryz.prog 202 #[.pointer (O a),.int .i64 d] w λe w'=>e=.returned (.int .i64 s)/\w'=w.setCell a (.int .i64 s):=by
 have g:=run_call_add (P:=Tryz.prog) Tryz.func239 ap ap ap .i64 ap (y:=d) (s:=s) c f (by rw[<-b];simp[go_sem])
 go_enter Tryz.func202,Tryz.ntmps202
 go_wp2
 go_ret
 exact⟨rfl,rfl⟩
theorem disable(w:af):(callFunc 286 #[]).run Tryz.prog w=.ok (.value (.tuple #[])) w:=run_call_mark0 Tryz.func286 ap ap ap .disable ap w
theorem enable(w:af):(callFunc 288 #[]).run Tryz.prog w=.ok (.value (.tuple #[])) w:=run_call_mark0 Tryz.func288 ap ap ap .enable ap w
theorem acquire(a:bY)(w:af):(callFunc 289 #[.pointer (O a)]).run Tryz.prog w=.ok (.value (.tuple #[])) w:=run_call_marked Tryz.func289 ap ap ap .acquire ap a w
theorem releaseMerge(a:bY)(w:af):(callFunc 291 #[.pointer (O a)]).run Tryz.prog w=.ok (.value (.tuple #[])) w:=run_call_marked Tryz.func291 ap ap ap .releaseMerge ap a w
theorem Ds(a:bY)(x:ag)(u:FrameMode)(w:af)(d:w.cell? a=O x)(f:w.frozen? a=F):
  CallsD Tryz.prog 260 #[.pointer (O a),.bool W] u w λe u' w'=>u'=u/\(e=.returned (.tuple #[])/\w'=w.drew.setCell a (.int .u32 1)):=by
 have b:w.drew.cell? a=O x:=by go_simp
 have c:w.drew.frozen? a=F:=by go_simp
 have g:=run_call_store (P:=Tryz.prog) Tryz.func275 ap ap ap ap (k:=.u32) (y:=1) b c
 go_enter_d Tryz.func260,Tryz.ntmps260
 go_wp2
 go_region_calls
 all_goals(go_end0;exact ⟨rfl,rfl⟩)
theorem As(a:bY)(u:FrameMode)(w:af)(b:w.cell? a=O (.int .i32 1))(c:w.frozen? a=F):
  CallsD Tryz.prog 259 #[.pointer (O a)] u w λe u' w'=>u'=u/\(e=.returned (.tuple #[])/\w'=w.setCell a (.int .i32 0)):=by
 have d:=disable;have f:=enable;have g:=releaseMerge;have h:=run_call_add (P:=Tryz.prog) Tryz.func292 ap ap ap .i32 ap (y:=-1) (s:=0) b c (by simp[go_sem];rfl);have i:=run_convert_to_unsafe (P:=Tryz.prog) (src:=383) (dst:=371) Tryz.underlying383 Tryz.underlying371 ap b
 go_enter_d Tryz.func259,Tryz.ntmps259
 go_wp2
 go_end0
 go_wp2
 go_end0
 exact⟨rfl,rfl⟩
theorem Qt(a:bY)(w:af)(b:w.cell? a=O (.int .i32 0))(c:w.frozen? a=F):
  Calls Tryz.prog 258 #[.pointer (O a)] w λe w'=>e=.returned (.tuple #[])/\w'=w.setCell a (.int .i32 1):=by
 have f:=disable;have g:=enable;have h:=acquire;have i:=run_call_cas_hit (P:=Tryz.prog) Tryz.func287 ap ap ap .i32 ap (y:=1) b c;have d:(w.setCell a (.int .i32 1)).cell? a=O (.int .i32 1):=World.cell?_setCell_same w a _ b;have j:=run_convert_to_unsafe (P:=Tryz.prog) (src:=383) (dst:=371) Tryz.underlying383 Tryz.underlying371 ap d
 go_enter Tryz.func258,Tryz.ntmps258
 go_wp2
 first|go_end0|(simp only[Exit.inBlock,Exit.then];refine bodyPost_ret (results_none rfl _ _ _) rfl ?_)|refine bodyPost_ret (results_none rfl _ _ _) rfl ?_
 go_wp2
 go_end0
 exact⟨rfl,rfl⟩
set_option maxHeartbeats 1600000 in
theorem Wr(b o:Nat)(c:ag)(w:af)(R:af->Prop)(h0:w.cell? ⟨b,o,Y⟩=O (.int .u32 0))(m:w.cell? ⟨b,o+1,Y⟩=O (.int .i32 0))
  (n:w.frozen? ⟨b,o,Y⟩=F) (p:w.frozen? ⟨b,o+1,Y⟩=F)
  (g:Calls Tryz.prog 204 #[c] (w.setCell ⟨b,o+1,Y⟩ (.int .i32 1)) λe w'=>e=.returned (.tuple #[])/\R w')
  (h:∀w',R w'->w'.cell? ⟨b,o,Y⟩=O (.int .u32 0)/\w'.cell? ⟨b,o+1,Y⟩=O (.int .i32 1)/\w'.frozen? ⟨b,o,Y⟩=F/\w'.frozen? ⟨b,o+1,Y⟩=F):
  Calls Tryz.prog 241 #[.pointer (O ⟨b,o,Y⟩),.func (.func 204) #[] #[c]] w λe w'=>e=.returned (.tuple #[])/\∃d,R d/\w'=(d.drew.setCell ⟨b,o,Y⟩ (.int .u32 1)).setCell ⟨b,o+1,Y⟩ (.int .i32 0):=by
 have q:=run_call_load (P:=Tryz.prog) Tryz.func257 ap ap ap .u32 ap (w:=w.setCell ⟨b,o+1,Y⟩ (.int .i32 1)) (a:=⟨b,o,Y⟩) (x:=0) ((World.cell?_setCell_other _ ⟨b,o+1,Y⟩ ⟨b,o,Y⟩ _ aH).trans h0);have r:∀(x:aa)(w:af),(Op.unary .not (.bool x)).run Tryz.prog w=.ok (.bool (!x)) w:=λ_ _=>rfl
 go_enter_defers Tryz.func241,Tryz.ntmps241
 go_wp2_with (first|(go_at_call 258;refine (Qt ⟨b,o+1,Y⟩ _ (by grind) (by grind)).mono ?_;rintro e w' ⟨rfl,rfl⟩)|(go_at_call 204;refine g.mono ?_;rintro e w' ⟨rfl,i⟩)|(go_at_call 240;go_in))
 obtain⟨j,s,t,k⟩:=h _ i;refine xA (f:=260) (args:=#[.pointer (O ⟨b,o,Y⟩),.bool W]) aH (by simp[go_sem]) ?_;refine(Ds ⟨b,o,Y⟩ (.int .u32 0) .returning _ j (by grind)).mono ?_;rintro e u' l ⟨rfl,rfl,rfl⟩;refine xA (f:=259) (args:=#[.pointer (O ⟨b,o+1,Y⟩)]) (by simp[settle]) (by simp[go_sem]) ?_;refine(As ⟨b,o+1,Y⟩ _ _ ?_ (by simp[k])).mono ?_
 grind [World.cell?_setCell_other,trans,World.cell?_drew]
 rintro e u' l ⟨rfl,rfl,rfl⟩;simp[Leaves,settle,results,Tryz.results241]
 grind
set_option maxHeartbeats 1600000 in
theorem abN(b o:Nat)(a:ag)(w:af)(R:af->Prop)(h0:w.cell? ⟨b,o,Y⟩=O (.int .u32 0))(d:w.cell? ⟨b,o+1,Y⟩=O (.int .i32 0))
  (f:w.frozen? ⟨b,o,Y⟩=F) (g:w.frozen? ⟨b,o+1,Y⟩=F)
  (h:Calls Tryz.prog 204 #[a] (w.setCell ⟨b,o+1,Y⟩ (.int .i32 1)) λe w'=>e=.returned (.tuple #[])/\R w')
  (i:∀w',R w'->w'.cell? ⟨b,o,Y⟩=O (.int .u32 0)/\w'.cell? ⟨b,o+1,Y⟩=O (.int .i32 1)/\w'.frozen? ⟨b,o,Y⟩=F/\w'.frozen? ⟨b,o+1,Y⟩=F):
  Calls Tryz.prog 203 #[.pointer (O ⟨b,o,Y⟩),.func (.func 204) #[] #[a]] w λe w'=>e=.returned (.tuple #[])/\∃c,R c/\w'=(c.drew.setCell ⟨b,o,Y⟩ (.int .u32 1)).setCell ⟨b,o+1,Y⟩ (.int .i32 0):=by
 have j:=run_call_load (P:=Tryz.prog) Tryz.func257 ap ap ap .u32 ap h0;have k:∀(x:aa)(w:af),(Op.unary .not (.bool x)).run Tryz.prog w=.ok (.bool (!x)) w:=λ_ _=>rfl
 go_enter Tryz.func203,Tryz.ntmps203
 go_wp2_with (first|(go_at_call 241;refine (Wr b o a _ R h0 d f g h i).mono ?_;rintro e w' ⟨rfl,l⟩)|(go_at_call 240;go_in))
 go_end0
 grind
theorem Ws(a:bY)(d:Int)(c:¬d=0)(b:ag)(w:af)(h0:w.cell? a=O (.int .u32 d)):
  Calls Tryz.prog 203 #[.pointer (O a),b] w λe w'=>e=.returned (.tuple #[])/\w'=w:=by
 have f:=run_call_load (P:=Tryz.prog) Tryz.func257 ap ap ap .u32 ap h0;have g:∀(x:aa)(w:af),(Op.unary .not (.bool x)).run Tryz.prog w=.ok (.bool (!x)) w:=λ_ _=>rfl;have h:(d !=0)=W:=by grind
 go_enter Tryz.func203,Tryz.ntmps203
 go_wp2
 go_end0
 grind
end Go.Proofs.Mo
namespace Go.Proofs.Mo
open Go Go.RowKit Go.Proofs Go.Shelf
def acD:Ren:=⟨λ|169=>238|n=>n,λ|37=>295|70=>331|72=>333|127=>354|n=>n,λn=>n⟩
theorem acE:Lays.n169 Tryz.prog acD where
 mixed:=ap
 f169:=Tryz.func238.trans (bN O ap)
 t0:=Tryz.underlying0
 a0:=Tryz.isAgg0
 z0:=Tryz.sizeOf0
 v0:=Tryz.zeroValue0
 t3:=Tryz.underlying3
 a3:=Tryz.isAgg3
 z3:=Tryz.sizeOf3
 v3:=Tryz.zeroValue3
 t9:=Tryz.underlying9
 a9:=Tryz.isAgg9
 z9:=Tryz.sizeOf9
 v9:=Tryz.zeroValue9
 t37:=Tryz.underlying295
 a37:=Tryz.isAgg295
 z37:=Tryz.sizeOf295
 v37:=Tryz.zeroValue295
 t70:=Tryz.underlying331
 a70:=Tryz.isAgg331
 z70:=Tryz.sizeOf331
 v70:=Tryz.zeroValue331
 t72:=Tryz.underlying333
 a72:=Tryz.isAgg333
 z72:=Tryz.sizeOf333
 v72:=Tryz.zeroValue333
 t127:=Tryz.underlying354
 a127:=Tryz.isAgg354
 z127:=Tryz.sizeOf354
 v127:=Tryz.zeroValue354
theorem Is:Builder.Extra Tryz.prog acD where
 sizeBuilder:=ap
 liesBuilder:=ap
 t5:=Tryz.underlying5
 a5:=Tryz.isAgg5
 z5:=Tryz.sizeOf5
 v5:=Tryz.zeroValue5
 infoByte:=ap
 cellsByte:=ap
 sizeByte:=ap
 neB5:=b9
abbrev GG(B b:Nat)(p:ag)(bs:Z ag)(w:af):Prop:=Lib.BuilderAtF 333 5 B b p bs w
theorem Un(B b:Nat)(p:ag)(bs:Z ag)(w:af)(h:GG B b p bs w):Calls Tryz.prog 235 #[.pointer (O ⟨b,0,Y⟩)] w λe w'=>e=.returned (.int .i64 bs.length)/\w'=w:=by
 obtain⟨f,v,c,d,i⟩:=h;obtain⟨a,cap,rfl⟩:∃a cap,v=.slice a bs.length cap:=by
  rcases d.2 with⟨hv,h0⟩|⟨g,cap,cur,j,hv,_⟩
  grind
  grind
 have k:w.cell? ⟨b,1,Y⟩=O (.slice a bs.length cap):=by rw[Lib.cell_of_heap c];rfl
 clear d c i f
 go_enter Tryz.func235,Tryz.ntmps235
 go_wp2
 go_ret
 simp_all
theorem Xu(b:Nat)(w:af)(h0:w.cell? ⟨b,0,Y⟩=O (.pointer Y))(a:w.shape? b=O (333,2))(d:w.frozen? ⟨b,0,Y⟩=F):
  Calls Tryz.prog 255 #[.pointer (O ⟨b,0,Y⟩)] w λe w'=>e=.returned (.tuple #[])/\w'=w.setCell ⟨b,0,Y⟩ (.pointer (O ⟨b,0,Y⟩)):=by
 obtain⟨j,c,f⟩:=c8.1 Is.sizeBuilder;have g:=Lib.run_to_unsafe (P:=Tryz.prog) w ⟨b,0,Y⟩ Tryz.underlying331 Tryz.underlying371 c (by grind) a (Nat.zero_lt_succ 1);have h:=Lib.run_from_unsafe (P:=Tryz.prog) w ⟨b,0,Y⟩ Tryz.underlying371 Tryz.underlying331 c a Is.liesBuilder;have i:∀x:ag,(callFunc 271 #[x]).run Tryz.prog w=.ok (.value x) w:=λx=>by rw[run_callFunc_extern Tryz.func271 ap ap ap (e:=Extern.AbiNoEscape.same) ap,Lib.run_noEscape];rfl
 go_enter Tryz.func255,Tryz.ntmps255
 go_wp2
 go_end0
 grind
set_option maxHeartbeats 2000000 in
theorem Uo(B b:Nat)(s:dR)(w:af)(h:GG B b (.pointer Y) [] w)(E:s.size<=140737488355328)(G:B<=w.heap.size):
  Calls Tryz.prog 236 #[.pointer (O ⟨b,0,Y⟩),.string s] w λe w'=>e=.returned (.tuple #[.int .i64 s.size,.nilIface])/\(GG B b (.pointer (O ⟨b,0,Y⟩)) (Lib.strCells s) w'/\Below B w w'):=by
 obtain⟨f,hi,o,q,r⟩:=info_parts Is.infoByte;replace hi:Tryz.prog.info? 5=O f:=hi;have t:=h.used (.pointer (O ⟨b,0,Y⟩));have u:Below B w (w.setCell ⟨b,0,Y⟩ (.pointer (O ⟨b,0,Y⟩))):=(Below.refl B w).setCell (p:=⟨b,0,Y⟩) h.1 _
 go_enter Tryz.func236,Tryz.ntmps236
 go_wp2_with (go_at_call 255;refine (Xu b _ h.cell0 h.shape h.frozen0).mono ?_)
 rintro e a ⟨rfl,rfl⟩;generalize w.setCell ⟨b,0,Y⟩ (.pointer (O ⟨b,0,Y⟩))=a at*;obtain⟨x,v,i,j,y⟩:=t;have H:a.cell? ⟨b,0,Y⟩=O (.pointer (O ⟨b,0,Y⟩)):=by rw[Lib.cell_of_heap i];rfl
 have I:a.cell? ⟨b,1,Y⟩=O v:=by rw[Lib.cell_of_heap i];rfl
 go_wp2_with (at_builtin;refine Lib.wpList_append_own_stringF _ rfl _ _ 295 9 rfl B 5 f Tryz.underlying295 Tryz.underlying9 hi o q r _ _ _ rfl j s rfl ?c3 ?J ?K ?_)
 case c3=>unfold maxLen;grind
 grind
 grind
 intro z c A l _;have C:b<a.heap.size:=by grind
 have d:c.heap[b]?=O (.cells #[.pointer (O ⟨b,0,Y⟩),v] 333 (0,0)):=by
  rw[l.block b C (λe=>y e.symm)]
  grind
 have L:c.cell? ⟨b,0,Y⟩=O (.pointer (O ⟨b,0,Y⟩)):=by rw[Lib.cell_of_heap d];rfl
 have N:c.cell? ⟨b,1,Y⟩=O v:=by rw[Lib.cell_of_heap d];rfl
 have P:c.frozen? ⟨b,1,Y⟩=F:=Lib.frozen_of_heap d 1;obtain⟨m,n,cap,rfl⟩:∃m n cap,z=.slice m n cap:=by
  rcases A.2 with⟨hv,_⟩|⟨g,cap,cur,Q,hv,_⟩
  grind
  grind
 go_wp2
 go_ret2
 refine⟨rfl,?_,?_⟩
 grind [Lib.BuilderAtF.put,Lib.strCells,Lib.strCells_length]
 .exact (u.grown l (by grind) (λk D=>(j.lt k D).1)).setCell (p:=⟨b,1,Y⟩) x _
theorem QD(B b:Nat)(l:Z bc)(w:af)(h:GG B b (.pointer (O ⟨b,0,Y⟩)) (Lib.byteCells l) w)(h0:l≠[]):
  Calls Tryz.prog 238 #[.pointer (O ⟨b,0,Y⟩)] w λe w'=>e=.returned (.string ⟨l.toArray⟩)/\Below B w w':=
 (Any.Builder_String_k acE Is B b l w (.inr h) h0).mono λe w' ⟨a,_,c,_⟩=>⟨a,c⟩
abbrev Up(k i p:Int)(s:dR):ag:=.agg #[.int .i64 k,.string s,.int .i64 i,.int .i64 p]
theorem Uq(i p:Int)(s:dR)(w:af):Calls Tryz.prog 237 #[Up 3 i p s] w λe w'=>e=.returned (.string s)/\∃o,w'=w.alloc o:=by
 go_enter Tryz.func237,Tryz.ntmps237
 go_wp2
 go_ret
 exact⟨rfl,_,rfl⟩
def KO(B o:Nat)(k i p:Int)(s:dR)(w:af):Prop:=w.cell? ⟨B,o,Y⟩=O (.int .i64 k)/\w.cell? ⟨B,o+1,Y⟩=O (.string s)/\w.cell? ⟨B,o+2,Y⟩=O (.int .i64 i)/\w.cell? ⟨B,o+3,Y⟩=O (.int .i64 p)
set_option maxHeartbeats 2000000 in
theorem Xv(B o cap:Nat)(k i p:Int)(s:dR)(w:af)(R:af->Prop)(b:KO B o k i p s w)
  (c:∀a,Below w.heap.size w a->Calls Tryz.prog 233 #[Up k i p s] a λe w'=>e=.returned (.bool F)/\R w'):
  Calls Tryz.prog 201 #[.slice (O ⟨B,o,Y⟩) 1 cap] w λe w'=>e=.returned (.tuple #[.string ⟨#[]⟩,.int .i64 2])/\R w':=by
 obtain⟨d,f,g,c3⟩:=b
 go_enter Tryz.func201,Tryz.ntmps201
 go_wp2
 refine wp_loop_rounds 2 ?_;rw[rounds_succ]
 go_wp2_with (go_at_call 233;refine (c _ ((Below.refl _ _).alloc (bq _) _)).mono ?_)
 rintro e a ⟨rfl,h⟩
 go_wp2
 go_ret2
 simp_all
set_option maxHeartbeats 2000000 in
theorem Ur(B o cap:Nat)(i p:Int)(s:dR)(w:af)(R:af->Prop)(t:KO B o 3 i p s w)(A:s.size<=4096)(h0:s.data.toList≠[])
  (u:∀a,Below w.heap.size w a->Calls Tryz.prog 233 #[Up 3 i p s] a λe w'=>e=.returned (.bool W)/\(KO B o 3 i p s w'/\R w')):
  Calls Tryz.prog 201 #[.slice (O ⟨B,o,Y⟩) 1 cap] w λe w'=>e=.returned (.tuple #[.string s,.int .i64 0])/\∃a,R a/\Below a.heap.size a w':=by
 obtain⟨g,h,j,c3⟩:=t
 go_enter Tryz.func201,Tryz.ntmps201
 go_wp2
 refine wp_loop_rounds 2 ?_;rw[rounds_succ]
 go_wp2_with (go_at_call 233;refine (u _ ((Below.refl _ _).alloc (bq _) _)).mono ?_)
 clear g h j c3;rintro e a ⟨rfl,⟨g,h,j,c3⟩,v⟩;have c:∀(ob:Obj)(p:bY)(x:ag),a.cell? p=O x->(a.alloc ob).cell? p=O x:=λob p x k=>(((Below.refl _ a).alloc (bq _) ob).cell (Lib.lt_of_cell k)).trans k;have C:=λob=>c ob _ _ g;have D:=λob=>c ob _ _ h;have E:=λob=>c ob _ _ j;have G:=λob=>c ob _ _ c3;have l:∀ob,GG a.heap.size a.heap.size (.pointer Y) [] ((a.alloc (.cells #[.pointer Y,.slice Y 0 0] 333)).alloc ob):=λob=>Lib.BuilderAtF.alloc ⟨bq _,.slice Y 0 0,(MapKept.heap_alloc a _).1,World.ownsRowF_nil _ _ _ _,by simp[Value.ownBlock]⟩ ob;have y:∀(ob b:Obj)(n:Nat),GG a.heap.size a.heap.size (.pointer Y) [] ((((a.alloc (.cells #[.pointer Y,.slice Y 0 0] 333)).alloc ob).drewN n).alloc b):=λob b n=>Lib.BuilderAtF.alloc (w:=((a.alloc (.cells #[.pointer Y,.slice Y 0 0] 333)).alloc ob).drewN n) (l ob) b;have m:∀(ob b:Obj)(n:Nat),Below a.heap.size a ((((a.alloc (.cells #[.pointer Y,.slice Y 0 0] 333)).alloc ob).drewN n).alloc b):=λob b n=>by
  have d:=((Below.refl a.heap.size a).alloc (bq _) (.cells #[.pointer Y,.slice Y 0 0] 333)).alloc aH ob;have q:Below a.heap.size a (((a.alloc (.cells #[.pointer Y,.slice Y 0 0] 333)).alloc ob).drewN n):=⟨d.os,d.tape,d.output,d.size,d.block⟩
  exact q.alloc q.size b
 clear c
 go_wp2
 rw[rounds_succ]
 go_wp2
 refine wp_loop_rounds 2 ?_;rw[rounds_succ]
 go_wp2
 go_quiet ((go_at_call 235;refine Calls.quiet_of_same (Un _ _ _ _ _ (l _))))
 have H:(s.size:Int)<=4096:=M
 go_wp2_with (go_at_call 237;refine (Uq i p s _).mono ?_)
 rintro e I ⟨rfl,ob,rfl⟩
 go_wp2_with (go_at_call 236;refine (Uo a.heap.size _ s _ (y _ _ _) M ?hsz).mono ?_)
 case hsz=>exact (m _ _ _).size
 rintro e J ⟨rfl,r,f⟩;have K:=f.size;replace f:=(m _ _ _).trans f
 go_wp2
 rw[rounds_succ];have L:((Lib.strCells s).length:Int)<=4096:=by rw[Lib.strCells_length];grind
 go_wp2_with (first
  |(go_at_call 235;refine (Un _ _ _ _ _ r).mono ?_;rintro e w' ⟨rfl,rfl⟩)
  |(go_at_call 238;refine (QD a.heap.size _ s.data.toList _ r h0).mono ?_;rintro e N ⟨rfl,z⟩))
 go_ret2
 exact⟨rfl,a,v,f.trans z⟩
end Go.Proofs.Mo
