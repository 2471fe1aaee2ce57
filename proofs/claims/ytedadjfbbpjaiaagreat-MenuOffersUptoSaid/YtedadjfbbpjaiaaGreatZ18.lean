import Derived.Test.YtedadjfbbpjaiaaGreatProg
import Derived.Tactics
import Derived.Tactics2
import Derived.Defers
import Derived.Recover
import Derived.Laws.Pointers
import Derived.Test.YtedadjfbbpjaiaaGreatZ17
set_option linter.all false
set_option maxRecDepth 10000
namespace Go.Proofs.Mo
open Go
theorem afz(x:Value)(w:World):(Instr.typeAssert (Value.iface 212 x) 20 212 true).run Tryz.prog w=.ok (.tuple #[x,.bool true]) w:=by kernel_rfl
theorem YD(p:Addr)(w:World):
  CallsD Tryz.prog 123 #[.pointer (some p)] .returning w λe u' w'=>e=.returned (.tuple #[])/\u'=.returning/\w'=w:=by
 refine callsD_of_wpS Tryz.func123 rfl λc₀ cs hu=>?_;apply wpS_seq;apply wpS_region;simp[wpOpsS,go_sem,recoverD,hu,Tryz.ntmps123,Exit.thenS];apply wpS_seq;apply wpS_region;simp[wpOpsS,go_sem,Exit.thenS];refine wpS_cond (t:=false) (by simp[Act.eval,Array.replicate]) ?_;simp only[gB,bY];refine wpS_of_wp (wp_skip ?_);cases c₀;simp_all[bodyPostS,results,Tryz.results123]
theorem Pz{T0:TypeId}{B:Nat}{x1 x2 x3 x4:Value}{a b c d:Int}{w1:World}(h1:w1.heap[B]?=some (.cells #[x1,x2,x3,x4] T0 (0,0))):(Instr.storeAt 52 (.pointer (some ⟨B,0,none⟩)) (.agg #[.int .i64 a,.int .i64 b,.int .i64 c,.int .i64 d])).run Tryz.prog w1=.ok () (w1.setRow B #[.int .i64 a,.int .i64 b,.int .i64 c,.int .i64 d]):=by
 have hc:Tryz.prog.cellsOf 52=4:=by kernel_rfl
 have:=Ev.jJ (P:=Tryz.prog) (t:=52) (k:=0) (v:=.agg #[.int .i64 a,.int .i64 b,.int .i64 c,.int .i64 d]) h1 (by rw[hc];rfl) (by rw[hc];decide) (by simp[Value.cells,Value.oneCell']) (by simp[Value.cells]);simpa[Instr.storeAt,Instr.sureAddr,Value.cells,Ev.aR]using this
theorem Lx{P:Program}{ops:Array Oper}{i:Nat}{o:Oper}{rest:List Nat}{R:Exit->Act->World->Prop}{a:Act}{w w':World}(ho:ops[i]?=some o)(hg:o.guard=none)(cu:(execOp a.eval o).run P w=.ok .skip w')(h:wpOps P ops R rest (a.put o.dst undef) w'):wpOps P ops R (i::rest) a w:=by simp only[wpOps,ho,Region.wanted,hg,bp];exact .inl (Ev.kE cu h)
theorem Vi(T0:TypeId)(B:Nat)(x1 x2 x3 x4:Value)(a b c d:Int)(Z8:List PanicEntry)(w:World)(hw:w.heap[B]?=some (.cells #[x1,x2,x3,x4] T0 (0,0))):
  CallsD Tryz.prog 123 #[.pointer (some ⟨B,0,none⟩)] (.panicking ({v:=.iface 212 (.agg #[.int .i64 a,.int .i64 b,.int .i64 c,.int .i64 d]),recovered:=false}::Z8)) w λe u' w'=>e=.returned (.tuple #[])/\u'=.panicking ({v:=.iface 212 (.agg #[.int .i64 a,.int .i64 b,.int .i64 c,.int .i64 d]),recovered:=true}::Z8)/\w'.os=w.os/\w'.tape=w.tape/\w'.output=w.output/\w.heap.size<=w'.heap.size/\(∀k,k<w.heap.size->k≠B->w'.heap[k]?=w.heap[k]?)/\w'.heap[B]?=some (.cells #[.int .i64 a,.int .i64 b,.int .i64 c,.int .i64 d] T0 (0,0)):=by
 have eK:B<w.heap.size:=(eT.1 hw).1;have hal:∀o:Obj,(w.alloc o).heap[B]?=some (.cells #[x1,x2,x3,x4] T0 (0,0)):=λo=>by rw[<-hw];show(w.heap.push o)[B]?=_;rw[U4 eK,sW eK]
 refine callsD_of_wpS Tryz.func123 rfl λc₀ cs hu=>?_;apply wpS_seq;apply wpS_region;simp[wpOpsS,go_sem,recoverD,hu,Tryz.ntmps123,Exit.thenS];apply wpS_seq;apply wpS_region;simp[wpOpsS,go_sem,Exit.thenS];refine wpS_cond (t:=true) (by simp[Act.eval,Array.replicate]) ?_;simp only[bp];apply wpS_seq;apply wpS_region;have hta:=afz
 set_option maxRecDepth 4000 in
 simp[wpOpsS,go_sem,Exit.thenS,hta];apply wpS_seq;apply wpS_seq;apply wpS_region;simp[wpOpsS,go_sem,Exit.thenS];refine wpS_cond (t:=false) (by simp[Act.eval,Act.put,go_sem]) ?_;simp only[gB,bY];refine wpS_of_wp (wp_skip ?_);simp only[Exit.thenS];generalize E3:w.alloc (.cells #[.int .i64 a,.int .i64 b,.int .i64 c,.int .i64 d] 212)=w1;have h1:w1.heap[B]?=some (.cells #[x1,x2,x3,x4] T0 (0,0)):=by rw[<-E3];exact hal _
 have hn:w1.heap[w.heap.size]?=some (.cells #[.int .i64 a,.int .i64 b,.int .i64 c,.int .i64 d] 212 (0,0)):=by rw[<-E3];show(w.heap.push _)[w.heap.size]?=_;simp
 refine wpS_of_wp (qd ?_);show wpOps Tryz.prog _ _ [0,1,2] _ _;refine X.kn (w':=w1) (v:=.pointer (some ⟨w.heap.size,0,none⟩)) rfl rfl (by simp[Act.eval,Act.put,go_sem]) ?_;refine X.kn (w':=w1) (v:=.agg #[.int .i64 a,.int .i64 b,.int .i64 c,.int .i64 d]) rfl rfl (by simp[Act.eval,Act.put,go_sem,<-E3]) ?_;refine Lx (w':=w1.setRow B #[.int .i64 a,.int .i64 b,.int .i64 c,.int .i64 d]) rfl rfl (by have:=Pz (a:=a) (b:=b) (c:=c) (d:=d) h1;simp[Act.eval,Act.put,execOp,this]) ?_;have dh:w1.heap.size=w.heap.size+1:=by rw[<-E3,World.size_alloc]
 refine⟨rfl,_,rfl,.tuple #[],by simp[results,Tryz.results123,go_sem],rfl,rfl,?_,?_,?_,?_,λk hk hkB=>?_,?_⟩
 ·rw[<-E3];rfl
 ·rw[<-E3];rfl
 ·rw[<-E3];rfl
 ·rw[setRow_size];omega
 ·rw[nR w1 B k _ hkB,<-E3];show(w.heap.push _)[k]?=_;rw[U4 hk,sW hk]
 ·exact o7 w1 B _ _ _ _ h1
end Go.Proofs.Mo
