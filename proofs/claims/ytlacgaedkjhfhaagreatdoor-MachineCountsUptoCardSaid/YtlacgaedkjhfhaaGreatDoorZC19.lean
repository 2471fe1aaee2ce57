import Derived.Test.YtlacgaedkjhfhaaGreatDoorProg
import Derived.Tactics
import Derived.Tactics2
import Derived.Defers
import Derived.Recover
import Derived.Laws.Pointers
import Derived.Test.YtlacgaedkjhfhaaGreatDoorZC18
set_option linter.all false
set_option maxRecDepth 10000
open Option renaming some->O,none->Y
open Bool renaming true->W,false->F
open Go.Proofs.Tryz
namespace Go.Proofs.Mo
open Go
def aaY(x:Jz)(w:zI):(Instr.typeAssert (Value.iface 250 x) 20 250 W).run Tryz.prog w=.ok (.tuple #[x,.bool W]) w:=au
def Vv(p:Mc)(w:zI):
  CallsD Tryz.prog 141 #[.pointer (O p)] .returning w λe u' w'=>e=.returned (.tuple #[])/\u'=.returning/\w'=w:=by
 refine callsD_of_wpS Tryz.func141 rfl λa cs b=>?_;apply wpS_seq;apply wpS_region;simp[wpOpsS,go_sem,recoverD,b,Tryz.ntmps141,Exit.thenS];apply wpS_seq;apply wpS_region;simp[wpOpsS,go_sem,Exit.thenS];refine wpS_cond (t:=F) (by simp[Act.eval,Array.replicate]) ?_;simp only[iA,cG];refine wpS_of_wp (wp_skip ?_);cases a;simp_all[bodyPostS,results,Tryz.results141]
def Nw{g:JA}{B:Nat}{h i j l:Jz}{a b c d:Int}{e:zI}(m:e.heap[B]?=O (.cells #[h,i,j,l] g (0,0))):(Instr.storeAt 68 (.pointer (O ⟨B,0,Y⟩)) (.agg #[.int .i64 a,.int .i64 b,.int .i64 c,.int .i64 d])).run Tryz.prog e=.ok () (e.setRow B #[.int .i64 a,.int .i64 b,.int .i64 c,.int .i64 d]):=by have f:Tryz.prog.cellsOf 68=4:=au;have:=Ev.iU (P:=Tryz.prog) (t:=68) (k:=0) (v:=.agg #[.int .i64 a,.int .i64 b,.int .i64 c,.int .i64 d]) m (by rw[f];rfl) (by rw[f];decide) (by simp[Value.cells,Value.oneCell']) (by simp[Value.cells]);simpa[Instr.storeAt,Instr.sureAddr,Value.cells,Ev.bd]using this
def Jb{P:qK}{b:Array JB}{i:Nat}{o:JB}{c:Z Nat}{R:Exit->Act->zI->Prop}{a:Act}{w w':zI}(d:b[i]?=O o)(e:o.guard=Y)(f:(execOp a.eval o).run P w=.ok .skip w')(h:wpOps P b R c (a.put o.dst undef) w'):wpOps P b R (i::c) a w:=by simp only[wpOps,d,Region.wanted,e,ca];exact .inl (Ev.jH f h)
def Sb(h:JA)(B:Nat)(i j l m:Jz)(a b c d:Int)(n:Z PanicEntry)(w:zI)(p:w.heap[B]?=O (.cells #[i,j,l,m] h (0,0))):
  CallsD Tryz.prog 141 #[.pointer (O ⟨B,0,Y⟩)] (.panicking ({v:=.iface 250 (.agg #[.int .i64 a,.int .i64 b,.int .i64 c,.int .i64 d]),recovered:=F}::n)) w λe u' w'=>e=.returned (.tuple #[])/\u'=.panicking ({v:=.iface 250 (.agg #[.int .i64 a,.int .i64 b,.int .i64 c,.int .i64 d]),recovered:=W}::n)/\w'.os=w.os/\w'.tape=w.tape/\w'.output=w.output/\w.heap.size<=w'.heap.size/\(∀k,k<w.heap.size->k≠B->w'.heap[k]?=w.heap[k]?)/\w'.heap[B]?=O (.cells #[.int .i64 a,.int .i64 b,.int .i64 c,.int .i64 d] h (0,0)):=by
 have q:B<w.heap.size:=(h4.1 p).1;have u:∀o:Obj,(w.alloc o).heap[B]?=O (.cells #[i,j,l,m] h (0,0)):=λo=>by rw[<-p];show(w.heap.push o)[B]?=_;rw[Pu q,qP q]
 refine callsD_of_wpS Tryz.func141 rfl λz cs hu=>?_;apply wpS_seq;apply wpS_region;simp[wpOpsS,go_sem,recoverD,hu,Tryz.ntmps141,Exit.thenS];apply wpS_seq;apply wpS_region;simp[wpOpsS,go_sem,Exit.thenS];refine wpS_cond (t:=W) (by simp[Act.eval,Array.replicate]) ?_;simp only[ca];apply wpS_seq;apply wpS_region;have x:=aaY
 set_option maxRecDepth 4000 in
 simp[wpOpsS,go_sem,Exit.thenS,x];apply wpS_seq;apply wpS_seq;apply wpS_region;simp[wpOpsS,go_sem,Exit.thenS];refine wpS_cond (t:=F) (by simp[Act.eval,Act.put,go_sem]) ?_;simp only[iA,cG];refine wpS_of_wp (wp_skip ?_);simp only[Exit.thenS];generalize f:w.alloc (.cells #[.int .i64 a,.int .i64 b,.int .i64 c,.int .i64 d] 250)=g;have r:g.heap[B]?=O (.cells #[i,j,l,m] h (0,0)):=by rw[<-f];exact u _
 have A:g.heap[w.heap.size]?=O (.cells #[.int .i64 a,.int .i64 b,.int .i64 c,.int .i64 d] 250 (0,0)):=by rw[<-f];show(w.heap.push _)[w.heap.size]?=_;simp
 refine wpS_of_wp (pz ?_);show wpOps Tryz.prog _ _ [0,1,2] _ _;refine X.js (w':=g) (v:=.pointer (O ⟨w.heap.size,0,Y⟩)) rfl rfl (by simp[Act.eval,Act.put,go_sem]) ?_;refine X.js (w':=g) (v:=.agg #[.int .i64 a,.int .i64 b,.int .i64 c,.int .i64 d]) rfl rfl (by simp[Act.eval,Act.put,go_sem,<-f]) ?_;refine Jb (w':=g.setRow B #[.int .i64 a,.int .i64 b,.int .i64 c,.int .i64 d]) rfl rfl (by have:=Nw (a:=a) (b:=b) (c:=c) (d:=d) r;simp[Act.eval,Act.put,execOp,this]) ?_;have C:g.heap.size=w.heap.size+1:=by rw[<-f,World.size_alloc]
 refine⟨rfl,_,rfl,.tuple #[],by simp[results,Tryz.results141,go_sem],rfl,rfl,?_,?_,?_,?_,λk s y=>?_,?_⟩
 .rw[<-f];rfl
 .rw[<-f];rfl
 .rw[<-f];rfl
 .rw[setRow_size];omega
 .rw[na g B k _ y,<-f];show(w.heap.push _)[k]?=_;rw[Pu s,qP s]
 .exact oB g B _ _ _ _ r
end Go.Proofs.Mo
