import Derived.KernelRfl
import Derived.Test.YticakdhfjeljkaaGreatDoorProg
import Derived.Tactics
import Derived.Tactics2
import Derived.Defers
import Derived.Recover
import Derived.Laws.LoneSync
import Derived.ChangeAlike
import Derived.Laws.Pointers
import Derived.RegionTactic
import Derived.RegionCalls
set_option linter.all false
set_option maxRecDepth 20000
open Option renaming some->O,none->Y
open Bool renaming true->W,false->F
namespace Go
theorem M{p:Prop}(h:p:=by omega):p:=h
theorem ap{p:Prop}(h:p:=by kernel_rfl):p:=h
theorem aH{p:Prop}(h:p:=by simp):p:=h
theorem dx{p:Prop}(h:p:=by simp;omega):p:=h
theorem b9{p:Prop}(h:p:=by decide):p:=h
theorem iI{p:Prop}(h:p:=by dsimp only;omega):p:=h
theorem a8{p:Prop}(h:p:=by trivial):p:=h
abbrev V.{u} (α:Type u):=Option α
abbrev Z.{u} (α:Type u):=List α
abbrev af:=World
abbrev ag:=Value
abbrev ah:=Operand
abbrev ai:=Program
abbrev an:=TypeId
abbrev ab:=Unit
abbrev aa:=Bool
abbrev bH:=FuncId
abbrev bc:=UInt8
abbrev dR:=ByteArray
abbrev bT:=Code
abbrev aC:=Oper
abbrev dd:=IntKind
abbrev bY:=Addr
abbrev iS:=BinOp
end Go
noncomputable section
namespace Go.Proofs.Mo
open Go
theorem aiV(x:ag)(w:af):(Instr.typeAssert (Value.iface 74 x) 20 74 W).run Tryz.prog w=.ok (.tuple #[x,.bool W]) w:=ap
theorem aa0(a b c:bY)(w:af):
  CallsD Tryz.prog 19 #[.pointer (O a),.pointer (O b),.pointer (O c)] .returning w λe u' w'=>e=.returned (.tuple #[])/\u'=.returning/\w'=w:=by
 refine callsD_of_wpS Tryz.func19 rfl λd cs f=>?_;apply wpS_seq;apply wpS_region;simp[wpOpsS,go_sem,recoverD,f,Tryz.ntmps19,Exit.thenS];apply wpS_seq;apply wpS_region;simp[wpOpsS,go_sem,Exit.thenS];refine wpS_cond (t:=F) (by simp[Act.eval,Array.replicate]) ?_;simp only[Bool.false_eq_true,if_false];refine wpS_of_wp (wp_skip ?_);cases d;simp_all[bodyPostS,results,Tryz.results19]
theorem pv{w:af}{B:Nat}{l:Array ag}{T:an}{m:Nat×Nat}(h:w.heap[B]?=O (.cells l T m))(j:Nat)(v:ag):(w.setCell ⟨B,j,Y⟩ v).heap[B]?=O (.cells (l.setIfInBounds j v) T m):=by grind [World.setCell]
theorem dS{w:af}{B k:Nat}(a:B≠k)(j:Nat)(v:ag):(w.setCell ⟨B,j,Y⟩ v).heap[k]?=w.heap[k]?:=by grind [World.setCell]
theorem XS(w:af)(a:bY)(v:ag):(w.setCell a v).heap.size=w.heap.size:=by simp_all
theorem ajc(w:af)(a:bY)(v:ag):(w.setCell a v).os=w.os:=rfl
theorem aem(w:af)(a:bY)(v:ag):(w.setCell a v).tape=w.tape:=rfl
theorem abc(w:af)(a:bY)(v:ag):(w.setCell a v).output=w.output:=rfl
theorem adY(a:Array ag)(w:af):(results Tryz.f19 a).run Tryz.prog w=.ok (.tuple #[]) w:=by simp[results,Tryz.results19]
theorem adZ{c w:af}{p j n:an}{a f g:Nat}{t u v x y z q r:ag}{e:Int}(i:w.alloc (.cells #[.int .i64 e] 74)=c)
  (A:c.heap[a]?=O (.cells #[t,u,v,x,y,z] p (0,0))) (E:c.heap[f]?=O (.cells #[q] j (0,0))) (G:c.heap[g]?=O (.cells #[r] n (0,0)))
  (B:a≠f) (d:a≠g) (s:f≠g) (w':af) (b:w'=((((((((c.drew.setCell ⟨a,0,Y⟩ (.int .i64 0)).setCell ⟨a,1,Y⟩ (.int .i64 0)).setCell ⟨a,2,Y⟩ (.string ⟨#[]⟩)).setCell ⟨a,3,Y⟩ (.bool F)).setCell ⟨a,4,Y⟩ (.int .i64 0)).setCell ⟨a,5,Y⟩ (.slice Y 0 0)).setCell ⟨f,0,Y⟩ (.int .i64 0)).setCell ⟨g,0,Y⟩ (.int .i64 e))):
  w'.os=w.os/\w'.tape=w.tape/\w'.output=w.output/\w.heap.size<=w'.heap.size/\(∀k,k<w.heap.size->k≠a->k≠f->k≠g->w'.heap[k]?=w.heap[k]?)/\w'.heap[a]?=O (.cells #[.int .i64 0,.int .i64 0,.string ⟨#[]⟩,.bool F,.int .i64 0,.slice Y 0 0] p (0,0))/\w'.heap[f]?=O (.cells #[.int .i64 0] j (0,0))/\w'.heap[g]?=O (.cells #[.int .i64 e] n (0,0)):=by
 have o:∀k:Nat,c.drew.heap[k]?=c.heap[k]?:=λk=>rfl;refine⟨?_,?_,?_,?_,λk H h C D=>?_,?_,?_,?_⟩
 .rw[b,<-i];simp only[ajc];rfl
 .rw[b,<-i];simp only[aem];rfl
 .rw[b,<-i];simp only[abc];rfl
 .subst b;simp only[XS];subst i;simp_all
 .subst b;rw[dS D.symm,dS C.symm,dS h.symm,dS h.symm,dS h.symm,dS h.symm,dS h.symm,dS h.symm,o];subst i;show(w.heap.push _)[k]?=_
  grind
 .subst b;rw[dS d.symm,dS B.symm];exact pv (pv (pv (pv (pv (pv ((o _).trans A) 0 _) 1 _) 2 _) 3 _) 4 _) 5 _
 .subst b;rw[dS s.symm];refine(pv (l:=#[q]) (T:=j) (m:=(0,0)) ?_ 0 _).trans rfl
  grind [dS]
 .subst b;refine(pv (l:=#[r]) (T:=n) (m:=(0,0)) ?_ 0 _).trans rfl;rw[dS s,dS d,dS d,dS d,dS d,dS d,dS d,o]
  grind
set_option maxHeartbeats 0 in
theorem XT(s u y:an)(d g i:Nat)(J K L N P Q R S:ag)(e:Int)(z:Z PanicEntry)(w:af)(A:w.heap[d]?=O (.cells #[J,K,L,N,P,Q] s (0,0)))(C:w.heap[g]?=O (.cells #[R] u (0,0)))(D:w.heap[i]?=O (.cells #[S] y (0,0)))
  (E:d≠g) (G:d≠i) (H:g≠i):
  CallsD Tryz.prog 19 #[.pointer (O ⟨d,0,Y⟩),.pointer (O ⟨g,0,Y⟩),.pointer (O ⟨i,0,Y⟩)] (.panicking ({v:=.iface 74 (.agg #[.int .i64 e]),recovered:=F}::z)) w λe' u' w'=>e'=.returned (.tuple #[])/\u'=.panicking ({v:=.iface 74 (.agg #[.int .i64 e]),recovered:=W}::z)/\w'.os=w.os/\w'.tape=w.tape/\w'.output=w.output/\w.heap.size<=w'.heap.size/\(∀k,k<w.heap.size->k≠d->k≠g->k≠i->w'.heap[k]?=w.heap[k]?)/\w'.heap[d]?=O (.cells #[.int .i64 0,.int .i64 0,.string ⟨#[]⟩,.bool F,.int .i64 0,.slice Y 0 0] s (0,0))/\w'.heap[g]?=O (.cells #[.int .i64 0] u (0,0))/\w'.heap[i]?=O (.cells #[.int .i64 e] y (0,0)):=by
 refine callsD_of_wpS Tryz.func19 rfl λj0 cs hu=>?_;apply wpS_seq;apply wpS_region;simp[wpOpsS,go_sem,recoverD,hu,Tryz.ntmps19,Exit.thenS];apply wpS_seq;apply wpS_region;simp[wpOpsS,go_sem,Exit.thenS];refine wpS_cond (t:=W) (by simp[Act.eval,Array.replicate]) ?_;simp only[if_true];apply wpS_seq;apply wpS_region;have U:=aiV
 set_option maxRecDepth 4000 in
 simp[wpOpsS,go_sem,Exit.thenS,U];apply wpS_seq;apply wpS_seq;apply wpS_region;simp[wpOpsS,go_sem,Exit.thenS];refine wpS_cond (t:=F) (by simp[Act.eval,Act.put,go_sem]) ?_;simp only[Bool.false_eq_true,if_false];refine wpS_of_wp (wp_skip ?_);simp only[Exit.thenS];have X:((w.alloc (.cells #[.int .i64 0] 74)).setCell ⟨w.heap.size,0,Y⟩ (.int .i64 e))=w.alloc (.cells #[.int .i64 e] 74):=by
  have k0:∀f:Obj->Obj,f (.cells #[.int .i64 0] 74)=.cells #[.int .i64 e] 74->(w.heap.push (.cells #[.int .i64 0] 74)).modify w.heap.size f=w.heap.push (.cells #[.int .i64 e] 74):=λf l0=>by grind
  grind [World.setCell,World.alloc]
 generalize n:((w.alloc (.cells #[.int .i64 0] 74)).setCell ⟨w.heap.size,0,Y⟩ (.int .i64 e))=m;rw[X]at n;have m0:∀w,(Instr.build 39 #[]).run Tryz.prog w=.ok (.agg #[.int .i64 0,.int .i64 0,.string ⟨#[]⟩,.bool F,.int .i64 0,.slice Y 0 0]) w:=λw=>ap;have p:∀(B:Nat)(o:Obj),w.heap[B]?=O o->m.heap[B]?=O o:=λB o h=>by
  rw[<-n];show(w.heap.push _)[B]?=_
  grind
 have a:=p _ _ A;have q:=p _ _ C;have r:=p _ _ D;have I:m.heap[w.heap.size]?=O (.cells #[.int .i64 e] 74 (0,0)):=by rw[<-n];show(w.heap.push _)[w.heap.size]?=_;simp
 have b:∀(B:Nat)(l:Array ag)(T:an)(j:Nat)(x:ag),m.heap[B]?=O (.cells l T (0,0))->l[j]?=O x->m.cell? ⟨B,j,Y⟩=O x:=λB l T j x h c0=>by simp[World.cell?,h,c0]
 have c:∀(B:Nat)(l:Array ag)(T:an)(j:Nat),m.heap[B]?=O (.cells l T (0,0))->m.frozen? ⟨B,j,Y⟩=F:=λB l T j h=>by simp[World.frozen?,h]
 have n0:=b _ _ _ 0 _ a rfl;have o0:=b _ _ _ 1 _ a rfl;have p0:=b _ _ _ 2 _ a rfl;have q0:=b _ _ _ 3 _ a rfl;have r0:=b _ _ _ 4 _ a rfl;have s0:=b _ _ _ 5 _ a rfl;have t0:=c _ _ _ 0 a;have u0:=c _ _ _ 1 a;have w0:=c _ _ _ 2 a;have x0:=c _ _ _ 3 a;have y0:=c _ _ _ 4 a;have A0:=c _ _ _ 5 a;have b0:=b _ _ _ 0 _ q rfl;have B0:=c _ _ _ 0 q;have C0:=b _ _ _ 0 _ r rfl;have D0:=c _ _ _ 0 r;have E0:=b _ _ _ 0 _ I rfl;have G0:=c _ _ _ 0 I;have H0:=(Array.getElem?_eq_some_iff.1 A).1;have I0:=(Array.getElem?_eq_some_iff.1 C).1;have J0:=(Array.getElem?_eq_some_iff.1 D).1;have g0:w.heap.size≠d:=M;have h0:w.heap.size≠g:=M;have i0:w.heap.size≠i:=M;have K0:=g0.symm;have L0:=h0.symm;have N0:=i0.symm;have P0:=E.symm;have Q0:=G.symm;have R0:=H.symm;refine wpS_of_wp ?_
 go_region
 all_goals exact ⟨rfl,_,rfl,.tuple #[],adY _ _,rfl,rfl,adZ n a q r E G H _ rfl⟩
end Go.Proofs.Mo
