import Derived.Laws.IdiomRangeMap
import Derived.Test.YtlacgaedkjhfhaaGreatDoorZC5
set_option linter.all false
open Option renaming some->O,none->Y
open Bool renaming true->W,false->F
namespace Go.X
open Go Go.Ev
variable{f:JC}{fn:Pz}{c:F4}{ps:Z Ty}{rs:Z RK}{dO:V (JA×Ty)}{esc:Z (Nat×Nat)}{hint:fC}
section
variable{P:qK}{E:cm}{U:cg}{T:dm U.C}{X:gj U}(L:cw U T)
include L
theorem QX(d:P.follows .mixedOrders=W){a:HL U.C ps->V (h7 U dO (HL U.C (rs.map RK.ty)))}(b:bP P E T X)(e:P.funcs[f]?=O fn)(g:(fn.name== "runtime.NumGoroutine")=F)(h:fn.body=O c)(i:ps.length<=fn.ntmps)
  (j:eQ fn.ntmps c=W) (k:kB fn.ntmps fn.results.toList=W) (h0:U.C 0) (hF:∀x,DT X ps rs dO esc fn.results.toList c hint x h0=a x):nY P E T f ps rs dO (.pure a):=
 T6 L b e g h i j k h0 (λ_ _ _ _=>mJ L d (pj lN (λ_=>rfl) b)) hF
theorem QY(d:P.follows .mixedOrders=W){a:HL U.C ps->U.C 0->V (h7 U dO (HL U.C (rs.map RK.ty))×U.C 0)}(b:bP P E T X)(e:P.funcs[f]?=O fn)(g:(fn.name== "runtime.NumGoroutine")=F)(i:fn.body=O c)(j:ps.length<=fn.ntmps)
  (k:eQ fn.ntmps c=W) (l:kB fn.ntmps fn.results.toList=W) (hF:∀x h,vr X ps rs dO esc fn.results.toList c hint x h=a x h):nY P E T f ps rs dO (.st a):=
 ZH L b e g i j k l (λA m _ _ _ _=>mJ L d (pj (rF A m) (λ_=>rfl) b)) hF
end
end Go.X
namespace Go.Ev
open Go
variable{i bm since:Nat}{seen:Z Nat}{es:Z (AV×AV)}{o:JB}{c:V (Z Nat×Nat)}
section
variable{P:qK}{E:cm}{w0:zI}{I0:aD}{n:Nat}{s:St}{a:Act}{w w':zI}{I:aD}{be:Nat->V Nat}
structure KR(E:cm)(w0 w:World)(I:aD)(be:Nat->Option Nat)(s:St)(B:Nat):Prop where
 new:w0.heap.size<=B
 lt:B<w.heap.size
 mem:∀p,I p->p.block≠B
 cB:¬E.cB w B
 box:∀d,s.b d≠Y->be d≠O B
 ob:∀j,s.a j≠Y->I.ar j≠O B
def aL.Wa (h:aL P E w0 I0 n s a w I be) {B:Nat} (c:KR E w0 w I be s B) (C:w'.os=w.os) (D:w'.tape=w.tape) (G:w'.output=w.output) (o:w.heap.size<=w'.heap.size)
  (l:∀k,k≠B->k<w.heap.size->w'.heap[k]?=w.heap[k]?) (r:∀B',gh w w' B'):aL P E w0 I0 n s a w' I be:=by
 have H:=h.since.step (I':=I) C D G o (λk=>k=B) (λk f q=>l k q f) (λk f=>by subst f;exact ⟨.inl c.new,c.cB⟩) r (λ_ h=>h) rfl (λ_ h=>.inl h);have m:dD w w' I I:=.world (λp v u hv=>by rw[dw (l p.block (c.mem p u) (h.since.lt p u))];exact hv) r;have y:∀d B',s.b d≠Y->be d=O B'->w'.heap[B']?=w.heap[B']?:=λd B' g j=>l B' (λe=>c.box d g (by rw[j,e])) (h.bU d B' g j).2.1;have g:∀d,s.g d<s.g d∨(s.g d=s.g d/\ff P w w' be be s.b s.b d):=λd=>.inr ⟨rfl,.h6 rfl rfl (λB' J=>y d B' J)⟩;have K:∀b,E.cB w' b->E.cB w b:=(E.jm w w' h.since.h5 (λb z=>l b (λe=>c.cB (e▸z)) (E.lt w b h.since.h5 z))).2;refine⟨H,h.size,h.defers.mono m,λt L=>(h.cu t L).cK m g,λd x A=>(h.bG d x A).cK m g rfl (λB'=>y d B' (by simp[A])),h.inj,λd B' g j=>?_,h.sF,h.fS m rfl (λk=>k=B) (λi B' hi j e=>c.ob i hi (by rw[j,e])) (λk f q=>l k q f) o (λk f=>by subst f;exact c.cB) (λ_ h=>.inl h) (λ_ h=>.inl h)⟩;obtain⟨q1,N,Q,R⟩:=h.bU d B' g j;exact⟨q1,jf N o,Q,λS=>R (K _ S)⟩
def aL.acE (h:aL P E w0 I0 n s a w I be) {B:Nat} (f:KR E w0 w I be s B) (g:w'.os=w.os) (i:w'.tape=w.tape) (j:w'.output=w.output) (l:w.heap.size<=w'.heap.size)
  (d:∀k,k≠B->k<w.heap.size->w'.heap[k]?=w.heap[k]?) (m:∀cur t b,w.heap[B]?≠O (.cells cur t b)):aL P E w0 I0 n s a w' I be:=
 h.Wa f g i j l d λB' cur t b c=>by have o:B'≠B:=λe=>m cur t b (by rw[<-e];exact c);exact⟨cur,(d B' o (h4.1 c).1).trans c,rfl⟩
def cm.vP (E:cm) (B bm since:Nat) (seen:Z Nat) (i:Nat) (x:Ob):cm where
 h5:=λw=>E.h5 w/\¬E.cB w B/\w.heap[B]?=O (.mapIter (O bm) since seen.toArray since)
 cB:=λw b=>E.cB w b∨b=B
 jm:=λw w' ⟨c,e,d⟩ a=>by obtain⟨g,f⟩:=E.jm w w' c λb h=>a b (.inl h);exact⟨⟨g,λk=>e (f B k),(a B (.inr rfl)).trans d⟩,λb a=>a.imp (f b) id⟩
 lt:=λw b ⟨c,e,d⟩ a=>by
  rcases a with a|rfl
  .exact E.lt w b c a
  .exact (h4.1 d).1
 tm:=E.tm
 dc:=E.dc
 df:=E.df
 ro:=λj=>if j=i then O (x,bm)else Y
 it:=B
def aL.enter (h:aL P E w0 I0 n s a w I be) {B:Nat} {x:Ob} (g:KR E w0 w I be s B) (A:w.heap[B]?=O (.mapIter (O bm) since seen.toArray since)) (hi:s.a i=O x) (C:I.ar i=O bm):
  aL P (E.vP B bm since seen i x) w0 I0 n s a w I be:=by
 have c:=h.since;refine⟨⟨c.os,c.tape,c.output,c.size,λk D f G=>c.block k D (λH=>f (.inl H)) G,λb o=>?_,⟨c.h5,g.cB,A⟩,c.qG,c.ar,c.NU,c.iq,c.new,c.lt,λp u f=>?_⟩,h.size,h.defers,h.cu,h.bG,h.inj,λd B' v l=>?_,h.sF,⟨h.bb.hC,h.bb.inj,λj B' z l=>?_,h.bb.un,λj y m=>?_⟩⟩
 .rcases o with o|rfl
  .exact (c.cB b o).imp .inl id
  .exact .inr g.new
 .rcases f with f|f
  .exact c.off p u f
  .exact g.mem p u f
 .obtain ⟨q1,q,r,t⟩:=h.bU d B' v l;refine⟨q1,q,r,λf=>f.elim t λe=>g.box d v (by rw[l,e])⟩
 .obtain ⟨q1,q,r,t,J⟩:=h.bb.bU j B' z l;exact⟨q1,q,r,λf=>f.elim t λe=>g.ob j z (by rw[l,e]),J⟩
 .simp only[cm.vP]at m;split at m
  .rename_i e;subst e;simp only[ax]at m;subst m;exact⟨hi,C⟩
  .cases m
def aL.Ix {B:Nat} {x:Ob} (h:aL P (E.vP B bm since seen i x) w0 I0 n s a w I be) (H:w0.heap.size<=B) (r:∀j,E.ro j=Y):aL P E w0 I0 n s a w I be:=by
 have c:=h.since;refine⟨⟨c.os,c.tape,c.output,c.size,λk t f u=>c.block k t (λv=>v.elim f λe=>M) u,λb z=>?_,c.h5.1,c.qG,c.ar,c.NU,c.iq,c.new,c.lt,λp A f=>c.off p A (.inl f)⟩,h.size,h.defers,h.cu,h.bG,h.inj,λd B' C g=>?_,h.sF,⟨h.bb.hC,h.bb.inj,λj B' D g=>?_,h.bb.un,λj y q=>?_⟩⟩
 .rcases c.cB b (.inl z)with(h1|h1)|h1
  .exact .inl h1
  .exact .inr M
  .exact .inr h1
 .obtain ⟨q1,l,m,o⟩:=h.bU d B' C g;exact⟨q1,l,m,λf=>o (.inl f)⟩
 .obtain ⟨q1,l,m,o,G⟩:=h.bb.bU j B' D g;exact⟨q1,l,m,λf=>o (.inl f),G⟩
 .rw[r]at q;cases q
def aL.lone {B:Nat} {x:Ob} (h:aL P (E.vP B bm since seen i x) w0 I0 n s a w I be) (c:w0.heap.size<=B):KR E w0 w I be s B:=⟨c,(h4.1 h.since.h5.2.2).1,λp f e=>h.since.off p f (.inr e),h.since.h5.2.1,λd g b=>(h.bU d B g b).2.2.2 (.inr rfl),λj k b=>(h.bb.bU j B k b).2.2.2.1 (.inr rfl)⟩
def aL.XF (h:aL P E w0 I0 n s a w I be) (l:∀j,E.ro j=Y) (hi:s.a i=O (.map es c)):
  ∃bm d clock,I.ar i=O bm/\w.heap[bm]?=O (.map d clock)/\aL P E w0 I0 n {s with a:=aa s.a i (O (.map es (O (d.toList.map (·.born),clock))))} a w I be:=by
 obtain⟨bm,g,d,clock,q1,m,A,o,q⟩:=h.bb.hC i _ hi;have f:∀j,aa s.a i (O (.map es (O (d.toList.map (·.born),clock)))) j≠Y->s.a j≠Y:=λj b=>by
  by_cases e:j=i
  .subst e;simp[hi]
  .simpa only[aJ _ _ e]using b
 refine⟨bm,d,clock,g,q1,h.since,h.size,h.defers,h.cu,h.bG,h.inj,h.bU,h.sF,⟨λj x b=>?_,λj k B r t u v=>h.bb.inj j k B (f j r) (f k t) u v,λj B b y=>h.bb.bU j B (f j b) y,h.bb.un,λj x b=>by rw[l]at b;cases b⟩⟩;by_cases e:j=i
 .subst e;simp only[bK,ax]at b;subst b;exact⟨bm,g,d,clock,q1,m,λp z=>by cases z;exact ⟨rfl,rfl⟩,o,q⟩
 .simp only[aJ _ _ e]at b;exact h.bb.hC j x b
def Iy{B:Nat}{bs:Z Nat}(h:aL P (E.vP B bm since seen i (.map es (O (bs,since)))) w0 I0 n s a w I be):
  ∃b:Array MapEntry,w.heap[bm]?=O (.map b since)/\b.toList.map (·.born)=bs/\b.size=es.length/\(∀x∈b.toList,x.born<since)/\(b.toList.map (·.born)).Nodup/\∀(j:Nat)(e:AV×AV),es[j]?=O e->∃x,b[j]?=O x/\cq w I x.key e.1/\cq w I x.val e.2:=by
 obtain⟨f,o⟩:=h.bb.ro i (.map es (O (bs,since)),bm) (by simp[cm.vP]);obtain⟨B',c,b,clock,q1,p,q,g,r⟩:=h.bb.hC i _ f;rw[o]at c;injection c with c;subst c;obtain⟨e1,l⟩:=q _ rfl;simp only at e1 l;subst l;refine⟨b,q1,e1,p,λx t=>?_,?_,r⟩
 .obtain ⟨j,d⟩:=kc.1 t;exact(g j x (by simpa using d)).1
 .refine JO.2 λj k d m u e=>?_;simp only[dd,nP]at d m;simp only[List.getElem_map,Array.getElem_toList]at e;have f:=(g j b[j] (by simp[d])).2 k b[k] (by simp[m]) e.symm;omega
def XG{a:Array MapEntry}{bs:Z Nat}(h:a.toList.map (·.born)=bs){e:MapEntry}(c:e∈a.toList):∃j:Nat,a[j]?=O e/\bs[j]?=O e.born:=by obtain⟨j,b⟩:=kc.1 c;refine⟨j,by simpa using b,?_⟩;rw[<-h,dC,b];rfl
def Em{x:qm}(K:o.op=.next x F){B:Nat}{bs:Z Nat}(h:aL P (E.vP B bm since seen i (.map es (O (bs,since)))) w0 I0 n s a w I be)(r:w0.heap.size<=B)(N:∀j,E.ro j=Y)
  (d:a.eval x=.pointer (O ⟨B,0,Y⟩)):
  ((∀b∈bs,b∈seen)/\(execOp a.eval o).run P w=.ok (.value (.tuple #[.bool F])) w)∨
  ∃(j b:Nat)(c:zI)(k v:Jz),bs[j]?=O b/\b∉seen/\(execOp a.eval o).run P w=.ok (.value (.tuple #[.bool W,k,v])) c/\aL P (E.vP B bm since (seen++[b]) i (.map es (O (bs,since)))) w0 I0 n s a c I be:=by
 obtain⟨g,hm,z,l0,A,m0,n0⟩:=Iy h;have m:=h.since.h5.2.2;have f:=h.lone r;have Q:(execOp a.eval o).run P w=((Instr.next (.pointer (O ⟨B,0,Y⟩)) F o.type).run P w).andThen λv w=>.ok (.value v) w:=by simp only[execOp,K,d,b9,cF]
 have o0:bm≠B:=λe=>by rw[e,m]at hm;cases hm
 rw[Q];simp only[Instr.next,getObj,b9,Sem.run,m,hm,Result.andThen,next_test_false seen.toArray g since since A (a6 _),iA,cG];have u:∀x∈(Array.filter (λe=>!seen.toArray.contains e.born) g).toList,x∈g.toList/\x.born∉seen:=λx d=>by simpa using d
 have C:(Array.filter (λe=>!seen.toArray.contains e.born) g).size=0->∀b∈bs,b∈seen:=λh0 b p=>by
  rw[<-z]at p;obtain⟨x,d,rfl⟩:=dP.1 p;refine LZ λR=>?_;have:x∈Array.filter (λe=>!seen.toArray.contains e.born) g:=by simpa using⟨by simpa using d,R⟩
  rw[Tq h0]at this;simp at this
 generalize Array.filter (λe=>!seen.toArray.contains e.born) g=L at u C⊢;have D:∀x∈L.toList,x.born<since:=λx d=>A x (u x d).1;have S:L.filter (λx=>decide (x.born<since))=L:=Array.filter_eq_self.2 (λx d=>by simpa using D x (by simpa using d));have e2:L.filter (λx=>decide (x.born≥since))=#[]:=by rw[Array.filter_eq_empty_iff];intro x d;have:=D x (by simpa using d);simp;omega
 simp only[S,e2,W7];by_cases h0:L.size=0
 .left;refine⟨C h0,?_⟩;have:L=#[]:=Tq h0;subst this;simp[choose,Sem.run,Question.forced]
 .right;have T:L.isEmpty=F:=by simp[Array.isEmpty,h0]
  simp only[T,iA,cG,Tp,Array.size_map];have U:∃(j:Nat)(c:zI),j<L.size/\c.heap=w.heap/\c.os=w.os/\c.output=w.output/\c.tape=w.tape/\(choose (Question.mapNext L.size)).run P w=.ok j c:=by
   by_cases q:L.size<=1
   .exact ⟨0,w,M,rfl,rfl,rfl,rfl,by simp[choose,Sem.run,Question.forced,q]⟩
   .exact ⟨_,w.drew,Nat.mod_lt _ M,rfl,rfl,rfl,rfl,by simp only[choose,Sem.run,Question.forced,aU,q,cG,Question.cut];rfl⟩
  obtain⟨j,c,X,l,a2,a3,a4,a0⟩:=U;have b0:L[j]∈L.toList:=aE;obtain⟨c0,m2⟩:=u _ b0;obtain⟨d0,m3,m4⟩:=XG z c0;have e0:(setObj B (.mapIter (O bm) since (seen.toArray.push L[j].born) since)).run P c=.ok () {c with heap:=c.heap.setIfInBounds B (.mapIter (O bm) since (seen.toArray.push L[j].born) since)}:=by simp only[setObj,Sem.run,l,m]
  refine⟨d0,L[j].born,{c with heap:=c.heap.setIfInBounds B (.mapIter (O bm) since (seen.toArray.push L[j].born) since)},L[j].key,L[j].val,m4,m2,?_,?_⟩
  .simp only[a0,Array.getElem?_map,qP X,cj,b9,e0,Result.andThen];rfl
  .have G:=f.lt;have H:=h.Ix r N;have f0:(c.heap.setIfInBounds B (.mapIter (O bm) since (seen.toArray.push L[j].born) since))[B]?=O (.mapIter (O bm) since (seen.toArray.push L[j].born) since):=by simp[l,G]
   have J:∀k,k≠B->(c.heap.setIfInBounds B (.mapIter (O bm) since (seen.toArray.push L[j].born) since))[k]?=w.heap[k]?:=λk y=>by simp[dz y,l]
   have g0:=H.acE (w':={c with heap:=c.heap.setIfInBounds B (.mapIter (O bm) since (seen.toArray.push L[j].born) since)}) f a2 a4 a3 (by simp[l]) (λk y _=>J k y) (λcur t p0 e=>by rw[m]at e;cases e);obtain⟨i0,j0⟩:=h.bb.ro i (.map es (O (bs,since)),bm) (by simp[cm.vP]);refine g0.enter ⟨r,by simp[l,G],f.mem,λq=>?_,f.box,f.ob⟩ (by rw[<-List.push_toArray];exact f0) i0 j0;have:=(E.jm w {c with heap:=c.heap.setIfInBounds B (.mapIter (O bm) since (seen.toArray.push L[j].born) since)} H.since.h5 (λb p=>J b (λe=>f.cB (e▸p)))).2 B q;exact f.cB this
def KT{x:qm}(l:o.op=.entry x){B:Nat}{bs:Z Nat}{j b:Nat}(h:aL P (E.vP B bm since (seen++[b]) i (.map es (O (bs,since)))) w0 I0 n s a w I be)(d:bs[j]?=O b)
  (m:a.eval x=.pointer (O ⟨B,0,Y⟩)):
  ∃k v e,(execOp a.eval o).run P w=.ok (.value (.tuple #[k,v])) w/\es[j]?=O e/\cq w I k e.1/\cq w I v e.2:=by
 obtain⟨c,hm,f,D,G,p,q⟩:=Iy h;have r:=h.since.h5.2.2;have g:j<c.size:=by have:=(aY.1 d).1;rw[<-f]at this;simpa using this
 have t:c[j].born=b:=by rw[<-f]at d;simpa[g]using d
 obtain⟨u,q1,y,z⟩:=q j es[j] aE;have A:u=c[j]:=by rw[qP g]at q1;injection q1 with q1;exact q1.symm
 subst A;refine⟨c[j].key,c[j].val,es[j],?_,aE,y,z⟩;have C:c.find? (·.born==b)=O c[j]:=by rw[<-Array.find?_toList,<-t];exact find_born c[j] c.toList p aE
 simp only[execOp,l,m,Instr.entry,getObj,b9,Sem.run,r,hm,Result.andThen];simp[C,hm,Sem.run,Result.andThen]
def KU{t p q:JA}{x:qm}(r:o.op=.range t x)(y:aW n o=W)(z:P.underlying t=O (.map p q))(h:aL P E w0 I0 n s a w I be)(A:∀j,E.ro j=Y)
  (C:s.ev x=.val (.mp i)) (hi:s.a i=O (.map es c)):
  ∃(bm since:Nat)(bs:Z Nat)(u:zI),bs.length=es.length/\bs.Nodup/\(execOp a.eval o).run P w=.ok (.value (.pointer (O ⟨w.heap.size,0,Y⟩))) u/\w0.heap.size<=w.heap.size/\aL P (E.vP w.heap.size bm since [] i (.map es (O (bs,since)))) w0 I0 n {s with a:=aa s.a i (O (.map es (O (bs,since))))} a u I be:=by
 have l:=aG y (x:=x) (by simp[r,Op.operands]) h;rw[C]at l;obtain⟨B,m,e1⟩:=ve (show cq w I (a.eval x) (.mp i)from l);obtain⟨bm,b,clock,d,hm,D⟩:=h.XF A hi;rw[m]at d;injection d with d;subst d;obtain⟨B',f,R,S,q1,G,T,H,U⟩:=h.bb.hC i _ hi;rw[m]at f;injection f with f;subst f;rw[hm]at q1;simp only[ax,Obj.map.injEq]at q1;obtain⟨rfl,rfl⟩:=q1;obtain⟨h',J,⟨X,b2,K,L,N⟩,a0,Q⟩:=D.fresh (w':=w.alloc (.mapIter (O B) clock #[] clock)) (o:=.mapIter (O B) clock #[] clock) rfl rfl rfl rfl;refine⟨B,clock,b.toList.map (·.born),_,by simp[G],?_,?_,h.since.size,h'.enter ⟨h.since.size,b2,K,L,N,λj g=>Q _ rfl j g⟩ J (bK _ _ _) m⟩
 .refine JO.2 λj k g v b0 e=>?_;simp only[dd,nP]at g v;simp only[List.getElem_map,Array.getElem_toList]at e;have l:=(H j b[j] (by simp[g])).2 k b[k] (by simp[v]) e.symm;omega
 .simp only[execOp,r,e1,b9,run_range_map w t p q B b clock z hm,Result.andThen];rfl
end
end Go.Ev
namespace Go.X
open Go Go.Ev
variable{c:F4}{ti i n:Nat}{a:Act}{b8:Array JB}{o:JB}{it:tl}{Q:eA->St->Prop}{Zloc:AV->St->Prop}
section
variable{A σ β:Type}
open Classical in
noncomputable def ny (n:Nat) (f:Nat->V β):V β:=if h:∃r,∀i,i<n->f i=O r then O (Classical.choose h)else Y
def sS{f:Nat->V β}{r:β}(h:ny n f=O r)(i:Nat)(hi:i<n):f i=O r:=by
 unfold ny at h;split at h
 .rename_i a;injection h with h;rw[<-h];exact He a i hi
 .cases h
def Iz{f:Nat->V β}{r:β}(b:0<n)(h:∀i,i<n->f i=O r):ny n f=O r:=by
 unfold ny;split
 .rename_i a;have:=(He a 0 b).symm.trans (h 0 b);rw[this]
 .rename_i a;exact absurd ⟨r,h⟩ a
noncomputable def kC (step:A->σ->(σ->V β)->V β) (done:σ->V β):Nat->Z A->σ->V β
 |0,_,st=>done st|n+1,left,st=>ny left.length λi=>(left[i]?).bind λx=>step x st λst'=>kC step done n (left.eraseIdx i) st'
end
mutual
def R.pl {C:Nat->Type} (it:tl):R C->tl
 |.val t _=>eV t|.fK rs=>Uc it rs
 |.fn _ rs=>Uc it rs|.sJ rs=>Uc it rs
 |.pw r=>r.pl it|.agg _ rs=>Uc it rs
 |.lT _ rs=>Uc it rs|.it=>it
 |_=>W
def Uc{C:Nat->Type}(it:tl):Z (R C)->tl
 |[]=>W|r::rs=>r.pl it&&Uc it rs
end
def oh{C:Nat->Type}{it:tl}:∀{rs:Z (R C)},Uc it rs=W->∀r∈rs,r.pl it=W
 |[],_,r,a=>by cases a
 |x::rs,h,r,a=>by
  simp only[Uc,aI]at h;rcases cT.1 a with rfl|a
  .exact h.1
  .exact oh h.2 r a
def Dk{C:Nat->Type}:R C->tl
 |.it=>W|_=>F
def Gh{C:Nat->Type}{r:R C}(h:Dk r=W):r=.it:=by cases r<;>first|rfl|cases h
def B.pl {C:Nat->Type} (it:tl):B C->tl
 |.cells _ rs=>Uc it rs|.bi _ _ _=>W
def S.pl {C:Nat->Type} (it:tl) (s:S C):tl:=s.r.all (λe=>e.2.2.pl it)&&s.b.all λe=>e.2.2.pl it
def gj.fix {U:cg} (X:gj U):gj U:={X with wr:=F,con:=λ_=>[],Kp:=λ_=>Y}
structure RP where
 id1:Nat
 b8:Array Oper
 b:Nat
 id2:Nat
 nx:Array Oper
 tc:Nat
 b2:Nat
 id3:Nat
 en:Array Oper
 body:Code
variable{p:RP}
def RP.code (p:RP):F4:=.seq (.region p.id1 p.b8 F) (.block p.b (.loop (.seq (.region p.id2 p.nx F) (.seq (.cond (.tmp p.tc) .skip (.exit p.b)) (.block p.b2 (.seq (.region p.id3 p.en F) p.body))))))
def En:F4->V (F4×F4)
 |.seq a b=>O (a,b)|_=>Y
def rH:F4->V (Nat×Array JB)
 |.region id b8 F=>O (id,b8)|_=>Y
def zw:F4->V (Nat×F4)
 |.block id a=>O (id,a)|_=>Y
def KV:F4->V F4
 |.loop a=>O a|_=>Y
def KW:F4->V (Nat×Nat)
 |.cond (.tmp t) .skip (.exit b)=>O (t,b)|_=>Y
def pV{r:F4×F4}(h:En c=O r):c=.seq r.1 r.2:=by unfold En at h;split at h<;>simp at h;subst h;rfl
def oF{r:Nat×Array JB}(h:rH c=O r):c=.region r.1 r.2 F:=by unfold rH at h;split at h<;>simp at h;subst h;rfl
def vQ{r:Nat×F4}(h:zw c=O r):c=.block r.1 r.2:=by unfold zw at h;split at h<;>simp at h;subst h;rfl
def IA{r:F4}(h:KV c=O r):c=.loop r:=by unfold KV at h;split at h<;>simp at h;subst h;rfl
def IB{r:Nat×Nat}(h:KW c=O r):c=.cond (.tmp r.1) .skip (.exit r.2):=by unfold KW at h;split at h<;>simp at h;subst h;rfl
def BU(c:F4):V RP:=(En c).bind λb=>(rH b.1).bind λd=>(zw b.2).bind λa=>(KV a.2).bind λk=>(En k).bind λe=>(rH e.1).bind λf=>(En e.2).bind λg=>(KW g.1).bind λt=>(zw g.2).bind λh=>(En h.2).bind λi=>(rH i.1).bind λj=>bif Nat.beq t.2 a.1 then O ⟨d.1,d.2,a.1,f.1,f.2,t.1,h.1,j.1,j.2,i.2⟩else Y
def IC(h:BU c=O p):c=p.code:=by unfold BU at h;obtain⟨o,b,h⟩:=bind_some h;obtain⟨q,d,h⟩:=bind_some h;obtain⟨r,e,h⟩:=bind_some h;obtain⟨s,f,h⟩:=bind_some h;obtain⟨u,g,h⟩:=bind_some h;obtain⟨v,i,h⟩:=bind_some h;obtain⟨w,j,h⟩:=bind_some h;obtain⟨t,k,h⟩:=bind_some h;obtain⟨x,l,h⟩:=bind_some h;obtain⟨y,m,h⟩:=bind_some h;obtain⟨z,n,h⟩:=bind_some h;obtain⟨a,h⟩:=aA h;have a:=bV a;injection h with h;subst h;rw[pV b,oF d,vQ e,IA f,pV g,oF i,pV j,IB k,vQ l,pV m,oF n,a];rfl
structure RO where
 e:TypeId
 x:Operand
 ti:Nat
 tn:Nat
 te:Nat
def M9:Z JB->V (JA×qm×Nat)
 |[{dst:=O t,op:=.range e x,guard:=Y,..}]=>O (e,x,t)|_=>Y
def QZ:Z JB->V (Nat×Nat)
 |{dst:=O t,op:=.next (.tmp i) F,guard:=Y,..}::_=>O (i,t)|_=>Y
def Na:Z JB->V (Nat×Nat)
 |{dst:=O t,op:=.entry (.tmp i),guard:=Y,..}::_=>O (i,t)|_=>Y
def BV:Z JB->Z JB
 |[]=>[]|[o]=>[o]
 |_::o::l=>BV (o::l)
def kD:Z JB->Z JB
 |[]=>[]|[_]=>[]
 |o::a::l=>o::kD (a::l)
def RP.ro (p:RP):V RO:=(M9 (BV p.b8.toList)).bind λr=>(QZ p.nx.toList).bind λx=>(Na p.en.toList).bind λe=>bif Nat.beq x.1 r.2.2&&Nat.beq e.1 r.2.2 then O ⟨r.1,r.2.1,r.2.2,x.2,e.2⟩else Y
section
variable{U:cg}{α:Type}(X:gj U)(kx:rq U->S U.C->V α)(esc:Z (Nat×Nat))
def mc(ti:Nat)(s:S U.C):S U.C:={s with r:=bB s.r ti}
def XH(ti:Nat)(p:rq U)(s2:S U.C):V α:=bif (mc ti s2).pl F then kx p (mc ti s2)else Y
def Gi(ti:Nat)(k:Ex->S U.C->V α)(e:Ex)(s2:S U.C):V α:=bif (mc ti s2).pl F then k e (mc ti s2)else Y
def Eo(j:Sh)(a:S U.C)(rec:HL U.C j.Xq×HT U.C j.h->V α)(b:S U.C):V α:=match j.pN a b with
 |some x=>rec x|none=>Y
noncomputable def sT (p:RP) (o:RO) (j:Sh) (g:fC) (a:S U.C) (k:Ex->S U.C->V α) (c d:Ty) (f:bL U.C c×bL U.C d) (st:HL U.C j.Xq×HT U.C j.h) (rec:HL U.C j.Xq×HT U.C j.h->V α):V α:=
 bif (j.load a st).pl W&&Dk ((j.load a st).bQ o.ti)then mE X.fix (XH kx o.ti) esc p.nx p.nx.toList.tail ((j.load a st).put (O o.tn) (.fK [.val .bool W,.none,.none])) λs2=>match yg (s2.ev (.tmp p.tc))with
  |some W=>bif Dk (s2.bQ o.ti)then mE X.fix (XH kx o.ti) esc p.en p.en.toList.tail (s2.put (O o.te) (.fK [.val c f.1,.val d f.2])) λh=>
    gV X.fix (XH kx o.ti) esc p.body g h λe b=>match e with
     |.normal=>Eo j a rec b|.exit id=>bif Nat.beq id p.b2 then Eo j a rec b else bif Nat.beq id p.b then Gi o.ti k .normal b else Gi o.ti k (.exit id) b
     |.ret=>Gi o.ti k .ret b
   else Y
  |_=>Y
 else Y
noncomputable def yD (p:RP) (o:RO) (j:Sh) (a:S U.C) (k:Ex->S U.C->V α) (st:HL U.C j.Xq×HT U.C j.h):V α:=
 bif (j.load a st).pl W&&Dk ((j.load a st).bQ o.ti)then mE X.fix (XH kx o.ti) esc p.nx p.nx.toList.tail ((j.load a st).put (O o.tn) (.fK [.val .bool F])) λs2=>match yg (s2.ev (.tmp p.tc))with
  |some F=>Gi o.ti k .normal s2|_=>Y
 else Y
noncomputable def W1 (p:RP) (j:Sh) (d:fC) (s:S U.C) (k:Ex->S U.C->V α):V α:=
 match p.ro with
 |none=>Y|some o=>
  mE X kx esc p.b8 (kD p.b8.toList) s λs=>match X.ty o.e,s.ev o.x with
   |some (.mp e),.val (.mp m) q=>bif Nat.beq e m&&(X.wr&&s.pl F)then match U.ak m with
    |.map a b=>match maps U m a b s with
     |some l=>Option.bind (α:=Nat) q λi=>(l[i]?).bind λc=>
      bif j.sP X.fix&&(s.put (O o.ti) .it).pl W then match j.pN (s.put (O o.ti) .it) (s.put (O o.ti) .it)with
       |some f=>kC (sT X kx esc p o j d (s.put (O o.ti) .it) k a b) (yD X kx esc p o j (s.put (O o.ti) .it) k) c.length c f|none=>Y
      else Y
     |none=>Y
    |_=>Y
    else Y
   |_,_=>Y
end
section
variable{P:qK}{E E':cm}{U:cg}{T:dm U.C}{X:gj U}{w0:zI}{I0:aD}{n:Nat}{o:JB}{s:S U.C}{q:St}{α:Type}{out:α}{fz:tl}{kx:rq U->S U.C->V α}{K:S U.C->V α}{esc:Z (Nat×Nat)}
variable(L:cw U T)
include L in
theorem kE(y:bP P E T X){sB:S U.C}(z:(∃k,sB.m k=W)->E.dc=F){b8:Array JB}(A:iJ n b8=W){R:Exit->Act->zI->Prop}{G:Z Nat}(B:∀q a w,QE P E T X sB K out q->gi P E w0 I0 n q a w->wpOps P b8 R G a w)
  (C:∀av v q a w I be,XE P E T X sB kx out av q->aL P E w0 I0 n q a w I be->cq w I v av->R (.panic [{v:=v,recovered:=F}]) a w):
  ∀(l:Z JB)(i:Nat)(s:S U.C)(q:St)(a:Act)(w:zI),(∀j o,l[j]?=O o->b8[i+j]?=O o)->bE sB s->mE X kx esc b8 l s K=O out->aX P E T X s q->gi P E w0 I0 n q a w->
  wpOps P b8 R (List.range' i l.length++G) a w
 |[],i,s,q,a,w,_,hm,h,c,f=>B q a w ⟨s,c,hm,h⟩ f|o::l,i,s,q,a,w,l0,hm,h,c,f=>by
  have m0:b8[i]?=O o:=by simpa using l0 0 o rfl
  have H:∀j e0,l[j]?=O e0->b8[(i+1)+j]?=O e0:=λj e0 f0=>by have:=l0 (j+1) e0 (by simpa using f0);simpa[jd,jF 1]using this
  have h0:=qO.1 A o (jP m0);simp only[aI]at h0;simp only[ec,List.range'_succ,qR,wpOps,m0];have J:∀s:S U.C,bE sB s->aX P E T X s q->HN X kx esc o s (λs=>mE X kx esc b8 l s K)=O out->o.wp P a w (wpOps P b8 R (List.range' (i+1) l.length++G)) R:=λs hm c h=>by
   cases MQ (w0:=w0) (I0:=I0) L y (by rw[hm.m];exact z) h0.1 h with
   |one s1 i0 N Q=>exact lZ (λa' w' ⟨a0,g1,g2⟩=>kE y z A B C l (i+1) s1 a0 a' w' H (hm.trans N) i0 g2.1 g1) (Q q c a w f _)|fO x0 s1 s2 o0 p0 N q0 Q=>
    refine lZ (λa' w' ⟨a0,g1,g2⟩=>?_) (Q q c a w f _);rcases g2 with g2|g2
    .exact kE y z A B C l (i+1) s1 a0 a' w' H (hm.trans N) o0 g2 g1
    .exact kE y z A B C l (i+1) s2 a0 a' w' H (hm.trans q0) p0 g2 g1
   |dO p s1 i0 N Q=>obtain⟨r0,s0⟩:=Q q c;refine lZ (λa' w' ⟨a0,g1,g2⟩=>g2.elim) (s0 a w f _ λx v s' a' w' I' t0 n0 b0 c0=>?_);exact C x v s' a' w' I' t0 ⟨p,s1,n0.1,hm.trans N,i0,r0,n0.2⟩ b0 c0
  have y0:∀s:S U.C,bE sB s->aX P E T X s q->mE X kx esc b8 l s K=O out->wpOps P b8 R (List.range' (i+1) l.length++G) a w:=λs hm c h=>kE y z A B C l (i+1) s q a w H hm h c f;have skip:∀s:S U.C,bE sB s->aX P E T X s q->mE X kx esc b8 l (s.put o.dst o6) K=O out->wpOps P b8 R (List.range' (i+1) l.length++G) (a.put o.dst undef) w:=λs hm c h=>by refine kE y z A B C l (i+1) _ (q.put o.dst (.fK [])) _ w H (hm.trans (bh _ _)) h (c.put o.dst (.fK [] [] rfl λi r q c0=>by simp at c0)) ?_;obtain⟨I,be,b0⟩:=f;exact⟨I,be,b0.put o.dst (r:=.fK []) ⟨#[],rfl,rfl,λj r c0=>by simp at c0⟩⟩
  unfold mE at h;cases d0:o.guard with
  |none=>simp only[d0]at h;simp only[Region.wanted,d0,ca];exact .inl (J s hm c h)|some p=>
   obtain⟨j,D⟩:=p;simp only[d0]at h;split at h
   .cases h
   .rename_i t f0;have u0:t<n:=by have:=h0.2;simp only[d0,f0]at this;simpa using this
    have v0:=f;obtain⟨I,be,b0⟩:=v0;have g:=c.cu t;have j0:∀b,tv q t D=O b->(yielded b8 a.tmps j==O D)=b:=λb m=>tw b0 u0 f0 m;simp only[Region.wanted,d0];split at h
    .rename_i b m;have d:q.r t=.val (.fl (.bool b)):=by
      rw[m]at g;cases g with
      |val _ _ _ av d hv=>obtain ⟨_,rfl⟩:=hv;exact dF d
     rw[j0 (b==D) (by simp[tv,d])];have g0:∀b',b'=b->aX P E T X (s.put (O t) (.val .bool b')) q:=λb' e=>c.QO (by subst e;rw[d];exact bg (t:=.bool) rfl);cases b<;>cases D<;>simp only[bf,bq]at h<;>simp
     .exact .inl (J (s.put (O t) _) (hm.trans (bh _ _)) (g0 _ rfl) h)
     .exact skip (s.put (O t) _) (hm.trans (bh _ _)) (g0 _ rfl) h
     .exact skip (s.put (O t) _) (hm.trans (bh _ _)) (g0 _ rfl) h
     .exact .inl (J (s.put (O t) _) (hm.trans (bh _ _)) (g0 _ rfl) h)
    .rename_i b m;have d:q.r t=.val (.fl (.bool b)):=by
      rw[m]at g;generalize q.r t=u at g;cases g with
      |const _ A0=>rfl
     rw[j0 (b==D) (by simp[tv,d])];cases b<;>cases D<;>simp only[Bool.xor_self,Bool.xor_true,Bool.xor_false,M3,kb,bf,bq]at h<;>simp
     .exact .inl (J _ hm c h)
     .exact skip _ hm c h
     .exact skip _ hm c h
     .exact .inl (J _ hm c h)
    .rename_i m;have d:∃qs,q.r t=.fK qs:=by
      rw[m]at g;generalize q.r t=u at g;cases g with
      |fK _ qs _ _=>exact ⟨qs,rfl⟩
     obtain⟨qs,d⟩:=d;rw[j0 F (by simp[tv,d])];simp;exact skip _ hm c h
    .cases h
def zx{bx:Z (Nat×Nat×B U.C)}{g:Nat->Nat}{tick:Nat}{r:R U.C}{u:cy}(A:it=W->E.it=E'.it)(h:bC P E T bx g tick r u)(e:r.pl it=W):bC P E' T bx g tick r u:=by
 induction h with
 |none q=>exact .none q|val t x q av b hv=>have l:eV t=W:=e;have:=fW hv l;subst this;exact .val t x q _ b (gu l)
 |const v hv=>exact .const v hv|bM t xs l=>exact .bM t xs l
 |dT d k q o=>exact .dT d k q o|whole d q o=>exact .whole d q o
 |fV d i k C t x q hv o=>exact .fV d i k C t x q hv o|dJ t x k l=>exact .dJ t x k l
 |fK rs qs y w c=>exact .fK rs qs y λi r q a b=>c i r q a b (oh e r (bF a))|fn f caps p y w c=>exact .fn f caps p y λi r q a b=>c i r q a b (oh e r (bF a))
 |mQ D t x l=>exact .mQ D t x l|ji k i off=>exact .ji k i off
 |kn k i j off=>exact .kn k i j off|sub d off m q o=>exact .sub d off m q o
 |sJ rs p s w z c=>exact .sJ rs p s (λi r q a b=>c i r q a b (oh e r (bF a))) z|pw r av h c=>exact .pw r av (c e)
 |gx t l=>exact .gx t l|agg n rs p s w z c=>exact .agg n rs p s (λi r q a b=>c i r q a b (oh e r (bF a))) z
 |lT f rs p s w c=>exact .lT f rs p s λi r q a b=>c i r q a b (oh e r (bF a))|it=>have e:it=W:=e;rw[A e];exact .it
def zy{X':gj U}(l:X'.ty=X.ty)(m:E.df=E'.df)(j:it=W->E.it=E'.it)(a:aX P E T X s q)(f:s.pl it=W):aX P E' T X' s q:=by
 simp only[S.pl,aI,cS]at f;refine⟨λt=>zx j (a.cu t) ?_,λd=>?_,a.Bj,a.DU,a.heap,a.df.trans m⟩
 .rw[S.gA];cases b:aB s.r t with
  |none=>rfl|some e=>exact f.1 _ (fM (by rw[b]))
 .have g:=a.bG d;cases b:aB s.b d with
  |none=>exact trivial|some e=>
   obtain⟨st,x⟩:=e;rw[b]at g;have n:=f.2 _ (fM b);cases x with
   |cells u rs=>obtain⟨h,b2,cs,o,p,v⟩:=g;exact⟨h,b2,cs,o,p,λi r c k w=>zx j (v i r c k w) (oh n r (bF k))⟩|bi t e xs=>obtain⟨h,b2⟩:=g;exact⟨by rw[l];exact h,b2⟩
def Q6{e:JA}{t:Ty}(h:jj P E T X e t):jj P E T X.fix e t:=by obtain⟨a,b,c,d,f,g,i,j,k,l,m,n,o,p,q,r,s,u,v,w,x⟩:=h;exact⟨a,b,c,d,f,g,i,j,k,l,m,n,o,p,q,r,s,u,v,w,x⟩
include L in
theorem KX(d:bP P E T X)(g:∀E' e t,X.ty e=O t->jj P E' T X e t){m:Nat}(j:∃a b,U.ak m=.map a b)(l:m<U.nk){B o since:Nat}{seen:Z Nat}{x:Ob}:bP P (E.vP B o since seen (dI m i) x) T X.fix:=⟨λh=>(by cases h),λk v p q=>by simp only[cm.vP];rw[ai λe=>?_];obtain⟨rfl,_⟩:=hg L p l e;obtain⟨a,b,h⟩:=j;exact q a b h,λe t r=>Q6 (g _ e t r),λf c s=>(by cases s),d.hC,d.map,d.JL,d.JM,d.j9,d.pK,λf n fs u=>by cases u⟩
end
section
variable{A:Type}
def iP(seen:Z Nat)(z:Z (A×Nat)):Z A:=(z.filter λp=>!seen.contains p.2).map (·.1)
def ea(seen:Z Nat)(y:A)(c:Nat)(z:Z (A×Nat)):iP seen ((y,c)::z)=if c∈seen then iP seen z else y::iP seen z:=by
 unfold iP;rw[zL];by_cases h:c∈seen
 .simp[h]
 .simp[h]
def yE{seen:Z Nat}{b:Nat}:∀{z:Z (A×Nat)},b∉z.map (·.2)->iP (seen++[b]) z=iP seen z
 |[],_=>rfl|(y,c)::z,h=>by simp only[dy,cT,not_or]at h;rw[ea,ea,yE h.2];have:c≠b:=λe=>h.1 e.symm;simp[this]
def tV{seen:Z Nat}{b:Nat}{x:A}(f:b∉seen):∀{z:Z (A×Nat)}{j:Nat},(z.map (·.2)).Nodup->z[j]?=O (x,b)->∃i,i<(iP seen z).length/\(iP seen z)[i]?=O x/\(iP seen z).eraseIdx i=iP (seen++[b]) z
 |[],j,_,h=>by simp at h|(y,c)::z,0,d,h=>by
  simp only[gT,ax,bc]at h;obtain⟨rfl,rfl⟩:=h;simp only[dy,lV]at d;refine⟨0,?_,?_,?_⟩
  .rw[ea,ai f];simp
  .rw[ea,ai f];rfl
  .rw[ea,ai f,ea,aj aE,yE d.1];rfl
 |(y,c)::z,j+1,d,h=>by
  simp only[dy,lV]at d;have h:z[j]?=O (x,b):=by simpa using h
  obtain⟨i,h1,g,k⟩:=tV f d.2 h;have l:c≠b:=λe=>d.1 (e▸dP.2 ⟨(x,b),bF h,rfl⟩);by_cases a:c∈seen
  .refine ⟨i,?_,?_,?_⟩
   .rw[ea,aj a];exact h1
   .rw[ea,aj a];exact g
   .rw[ea,aj a,ea,aj (by simp[a])];exact k
  .refine ⟨i+1,?_,?_,?_⟩
   .rw[ea,ai a];simpa using h1
   .rw[ea,ai a];simpa using g
   .rw[ea,ai a,ea,ai (by simp[a,l])];simpa using k
def BW{seen:Z Nat}:∀{z:Z (A×Nat)},(∀b∈z.map (·.2),b∈seen)->iP seen z=[]
 |[],_=>rfl|(y,c)::z,h=>by rw[ea,aj (h c aE),BW λb a=>h b (by simp[a])]
def xt:∀(z:Z (A×Nat)),iP [] z=z.map (·.1)
 |[]=>rfl|(y,c)::z=>by rw[ea,ai aE,xt z];rfl
def Gj{B:Type}:∀{l:Z A}{m:Z B},l.length=m.length->(l.zip m).map (·.1)=l
 |[],[],_=>rfl|a::l,b::m,h=>by simp only[JR,dy,Gj (l:=l) (m:=m) (by simpa using h)]
def Gk{B:Type}:∀{l:Z A}{m:Z B},l.length=m.length->(l.zip m).map (·.2)=m
 |[],[],_=>rfl|a::l,b::m,h=>by simp only[JR,dy,Gk (l:=l) (m:=m) (by simpa using h)]
end
def Ep:∀(l:Z JB),kD l++BV l=l
 |[]=>rfl|[o]=>rfl
 |o::a::l=>by have:=Ep (a::l);simp only[kD,BV,qR,this]
def ID{P:qK}{w:zI}{Q:Exit->Act->zI->Prop}(I:Nat->Act->zI->Prop)(m:Nat)(h0:I m a w)(j:∀a w,Q .outgrown a w->False)(n:∀m a w,I m a w->c.wp P (Exit.then (λa' w'=>∃i,i<m/\I i a' w') Q) a w):(Code.loop c).wp P Q a w:=by
 intro b k cs;have o:∀m a w,I m a w->∃e a' w',Q e a' w'/\Arrives P (lone (b.at a (.code c::.inLoop c::k)) cs w) b k cs e a' w':=by
  intro m;induction m using Nat.strongRecOn with
  |_ m p=>
   intro a w q;obtain⟨e,g,h,d,f⟩:=n m a w q b (.inLoop c::k) cs;cases e with
   |normal=>obtain⟨i,r,s⟩:=d;obtain⟨t,u,v,y,z⟩:=p i r g h s;exact⟨t,u,v,y,.of_steps (Steps.trans f (.one step_inLoop)) z⟩|exit id=>exact ⟨.exit id,g,h,d,.pass (x:=.inLoop c) rfl (λ_ _=>.inl aE) f⟩|goto l=>exact ⟨.goto l,g,h,d,.pass (x:=.inLoop c) rfl (λ_ _=>.inl aE) f⟩
   |ret=>exact ⟨.ret,g,h,d,.pass (x:=.inLoop c) rfl (λ_ _=>.inl aE) f⟩|panic A=>exact ⟨.panic A,g,h,d,.pass (x:=.inLoop c) rfl (λ_ _=>.inl aE) f⟩
   |outgrown=>exact (j _ _ d).elim
 obtain⟨e,a',w',d,f⟩:=o m a w h0;exact⟨e,a',w',d,.of_steps (.one step_loop) f⟩
section
variable{P:qK}{E E':cm}{U:cg}{T:dm U.C}{X:gj U}{w0:zI}{I0:aD}{n:Nat}{α:Type}{out:α}{kx:rq U->S U.C->V α}{esc:Z (Nat×Nat)}
variable(L:cw U T)
def Ud{o:RO}(h:p.ro=O o):(∃d,BV p.b8.toList=[d]/\d.op=.range o.e o.x/\d.dst=O o.ti/\d.guard=Y)/\
  (∃f l,p.nx.toList=f::l/\f.op=.next (.tmp o.ti) F/\f.dst=O o.tn/\f.guard=Y)/\∃g l,p.en.toList=g::l/\g.op=.entry (.tmp o.ti)/\g.dst=O o.te/\g.guard=Y:=by
 unfold RP.ro at h;obtain⟨r,h1,h⟩:=bind_some h;obtain⟨x,a,h⟩:=bind_some h;obtain⟨e,b,h⟩:=bind_some h;obtain⟨i,h⟩:=aA h;simp only[aI]at i;have j:=bV i.1;have k:=bV i.2;injection h with h;subst h;refine⟨?_,?_,?_⟩
 .unfold M9 at h1;split at h1
  .rename_i c;injection h1 with h1;subst h1;exact⟨_,c,rfl,rfl,rfl⟩
  .cases h1
 .unfold QZ at a;split at a
  .rename_i c;injection a with a;subst a;simp only at j;subst j;exact⟨_,_,c,rfl,rfl,rfl⟩
  .cases a
 .unfold Na at b;split at b
  .rename_i c;injection b with b;subst b;simp only at k;subst k;exact⟨_,_,c,rfl,rfl,rfl⟩
  .cases b
def js{b:Z Nat}{R:Exit->Act->zI->Prop}{w w':zI}{v:Jz}(c:b8[i]?=O o)(d:o.guard=Y)(e:(execOp a.eval o).run P w=.ok (.value v) w')(h:wpOps P b8 R b (a.put o.dst v) w'):wpOps P b8 R (i::b) a w:=by simp only[wpOps,c,Region.wanted,d,ca];exact .inl (fm e h)
def tW{l:Z JB}(h:b8.toList=o::l):List.range b8.size=0::(List.range' 1 l.length++[])/\b8[0]?=O o/\∀j a,l[j]?=O a->b8[1+j]?=O a:=by
 have b:b8.size=l.length+1:=by rw[<-nP,h];rfl
 refine⟨?_,?_,λj a c=>?_⟩
 .rw[b,JP,List.range'_succ,zK]
 .rw[<-jO,h];rfl
 .rw[<-jO,h,jF];simpa using c
def rI(h:iJ n b8=W)(a:b8[i]?=O o):aW n o=W:=by have:=qO.1 h o (jP a);simp only[aI]at this;exact this.1
def yF{s:S U.C}:bE s (mc ti s):=by
 refine⟨rfl,a6 _,λt st x h a=>?_,λ_ _ _ h _=>h,λ_=>⟨rfl,rfl⟩⟩;simp only[mc,aN]at h;split at h
 .cases h
 .exact h
def aX.Ix {E:cm} {s:S U.C} {q:St} (a:aX P E T X s q):aX P E T X (mc ti s) q:=by
 refine⟨λt=>?_,a.bG,λt st x h=>?_,a.DU,a.heap,a.df⟩
 .have b:=a.cu t;rw[S.gA]at b⊢;simp only[mc,aN];by_cases e:ti=t
  .rw[aj e];exact .none _
  .rw[ai e];exact b
 .simp only[mc,aN]at h;split at h
  .cases h
  .exact a.Bj t st x h
def XI(d:E'.df=E.df){k:Ex->S U.C->V α}{e:Ex}{s a:S U.C}{b:St}(h:Gi ti k e a=O out)(f:aX P E' T X.fix a b)(g:bE s a)(i:∀e s' c,aX P E T X s' c->bE s s'->k e s'=O out->Q (ae e) c):Q (ae e) b:=by obtain⟨j,h⟩:=aA h;have l:aX P E' T X.fix (mc ti a) b:=f.Ix;exact i e _ b (zy (X:=X.fix) (X':=X) rfl d (it:=F) (λh=>by cases h) l j) (g.trans yF) h
def ZJ(b:E'.df=E.df){sB s:S U.C}{av:AV}{q:St}(c:bE sB s)(h:XE P E' T X.fix s (XH kx ti) out av q):XE P E T X sB kx out av q:=by obtain⟨p,s',h1,d,a,e,f⟩:=h;obtain⟨g,a⟩:=aA a;have i:aX P E' T X.fix (mc ti s') q:=h1.Ix;exact⟨p,mc ti s',zy (X:=X.fix) (X':=X) rfl b (it:=F) (λh=>by cases h) i g,(c.trans d).trans yF,a,e,f⟩
def Q7{m:Nat->tl}{h:U.C 0}{A:Nat->V Ob}{Vloc:Nat->tl}{d:Z (AV×AV)}{c g:V (Z Nat×Nat)}(j:eY T m h A Vloc)(hi:A i=O (.map d c)):eY T m h (aa A i (O (.map d g))) Vloc:=λk l n b=>by
 have a:=j k l n b;by_cases e:dI k b=i
 .rw[e]at a;rw[e,bK];cases f:(U.get k h)[b]? with
  |none=>rw[f]at a;rw[hi]at a;cases a.1
  |some x=>rw[f]at a;simp only at a⊢;rw[hi]at a;exact a
 .rw[aJ _ _ e];exact a
def Gl{E:cm}{s:S U.C}{q:St}{w:zI}{I:aD}{be:Nat->V Nat}(d:aX P E T X s q)(b:b4 P w I be q.b q.g (a.eval (.tmp ti)) (q.ev (.tmp ti)))(h:s.bQ ti=.it):a.eval (.tmp ti)=.pointer (O ⟨E.it,0,Y⟩):=by have c:=d.cu ti;rw[h]at c;have b:b4 P w I be q.b q.g (a.eval (.tmp ti)) (q.r ti):=b;generalize q.r ti=u at c b;cases c;exact cb b
include L in
theorem OB(N3:P.follows .mixedOrders=W)(B0:bP P E T X)(P3:∀E' e t,X.ty e=O t->jj P E' T X e t){sB:S U.C}(K1:(∃k,sB.m k=W)->E.dc=F)(A2:∀av y,XE P E T X sB kx out av y->Zloc av y)
   {j:Sh} {d0:fC} {s:S U.C} {k:Ex->S U.C->V α} {q:St} (B2:eQ n p.code=W) (C0:bE sB s) (h:W1 X kx esc p j d0 s k=O out) (Q3:aX P E T X s q)
  (R3:∀e s' y,aX P E T X s' y->bE s s'->k e s'=O out->Q (ae e) y):nL P E w0 I0 n p.code Q Zloc q:=by
 intro a w n1;unfold W1 at h;split at h
 .cases h
 rename_i o S3;obtain⟨⟨o1,T3,C2,U3,X3⟩,⟨N5,nl,p1,L1,D2,E2⟩,⟨P5,el,e1,e2,e3,c4⟩⟩:=Ud S3;simp only[RP.code,eQ,aI,and_true]at B2;obtain⟨G2,N1,H2,I2,d4⟩:=B2;have t1:=Ep p.b8.toList;rw[T3]at t1;have hlen:p.b8.size=(kD p.b8.toList).length+1:=by have:=bH List.length t1;simp only[ey,ec,kU,nP]at this;omega
 have J2:p.b8[(kD p.b8.toList).length]?=O o1:=by
  have:(kD p.b8.toList++[o1])[(kD p.b8.toList).length]?=p.b8.toList[(kD p.b8.toList).length]?:=by rw[t1]
  rw[im (a6 _),wH]at this;rw[<-jO];exact this.symm
 have g4:∀(g:Nat)(P1:JB),(kD p.b8.toList)[g]?=O P1->p.b8[0+g]?=O P1:=λg P1 K2=>by
  have:(kD p.b8.toList++[o1])[g]?=p.b8.toList[g]?:=by rw[t1]
  rw[fx (aY.1 K2).1,K2]at this;rw[cX,<-jO];exact this.symm
 have L2:=rI G2 J2;refine wp_seq (pz ?_);rw[JP,hlen,List.range'_concat,cX,jG];refine kE (w0:=w0) (I0:=I0) L B0 (sB:=s) (by rw[C0.m];exact K1) G2 ?_ ?_ _ 0 s q a w g4 (.refl s) h Q3 n1
 .rintro q1 Q1 b0 ⟨D0,u1,i4,B⟩ ⟨v1,y1,R1⟩;simp only at B;split at B;rotate_left
  .cases B
  rename_i N m Q5 E0 j4;obtain⟨g0,B⟩:=aA B;simp only[aI]at g0;obtain⟨S1,hw,k4⟩:=g0;have S1:=bV S1;subst S1;split at B;rotate_left
  .cases B
  rename_i A C N2;split at B;rotate_left
  .cases B
  rename_i l P2;obtain⟨i,hi,B⟩:=bind_some B;obtain⟨d,l4,B⟩:=bind_some B;obtain⟨G0,B⟩:=aA B;simp only[aI]at G0;obtain⟨G0,Q2⟩:=G0;split at B;rotate_left
  .cases B
  rename_i m4 R2;have A1:∀j,E.ro j=Y:=B0.ro hw;obtain⟨R5,S2⟩:=FM P2 u1 l4;obtain⟨⟨S5,n4⟩,_⟩:=xb P2;have o4:q1.ev o.x=.val (.mp (dI N i)):=by
   have c:=u1.ev o.x (bR L2 (by simp[C2,Op.operands]));rw[j4]at c;subst hi;generalize q1.ev o.x=u at c;cases c with
   |val _ _ _ av D hv=>obtain⟨_,rfl⟩:=hv;cases u<;>simp[bu,enc,Bh]at D;rw[D]
  obtain⟨T5,U5,hu,_⟩:=(B0.ty _ _ E0).mp _ rfl;obtain⟨p4,since,bs,T2,b1,b2,s4,t4,u4⟩:=KU (x:=o.x) C2 L2 hu R1 A1 o4 S2;refine js J2 X3 s4 ?_;show(Code.block p.b _).wp P _ (Q1.put o1.dst _) T2;rw[U3];obtain⟨f,H⟩:∃f:Z Nat->cm,f=λseen=>E.vP b0.heap.size p4 since seen (dI N i) (.map (d.map λp=>(enc T A p.1,enc T C p.2)) (O (bs,since))):=⟨_,rfl⟩
  have v4:∀a b,(f a).it=(f b).it:=λa b=>by rw[H];rfl
  have U2:∀a,(f a).dc=E.dc:=λa=>by rw[H];rfl
  have H0:∀a,(f a).df=E.df:=λa=>by rw[H];rfl
  have i0:∀seen,bP P (f seen) T X.fix:=λseen=>by rw[H];exact KX L B0 P3 ⟨A,C,N2⟩ n4
  have X2:∀{a b:Z Nat}{s':S U.C}{y:St},aX P (f a) T X.fix s' y->s'.pl W=W->aX P (f b) T X.fix s' y:=λB y4=>zy (X:=X.fix) (X':=X.fix) rfl ((H0 _).trans (H0 _).symm) (it:=W) (λ_=>v4 _ _) B y4;have n0:d.length=bs.length:=by rw[b1,dd]
  have h3:((d.zip bs).map (·.2)).Nodup:=by rw[Gk n0];exact b2
  have j3:aL P (f []) w0 I0 n (({q1 with a:=aa q1.a (dI N i) (O (.map (d.map λp=>(enc T A p.1,enc T C p.2)) (O (bs,since))))}:St).put (O o.ti) (.val (.fl (.pointer (O ⟨b0.heap.size,0,Y⟩))))) (Q1.put (O o.ti) (.pointer (O ⟨b0.heap.size,0,Y⟩))) T2 v1 y1:=by rw[H];exact u4.put (O o.ti) (r:=.val (.fl (.pointer (O ⟨b0.heap.size,0,Y⟩)))) (cq.fl _ rfl)
  have J0:aX P (f []) T X.fix (D0.put (O o.ti) .it) (({q1 with a:=aa q1.a (dI N i) (O (.map (d.map λp=>(enc T A p.1,enc T C p.2)) (O (bs,since))))}:St).put (O o.ti) (.val (.fl (.pointer (O ⟨b0.heap.size,0,Y⟩))))):=by
   have e1:aX P E T X D0 ({q1 with a:=aa q1.a (dI N i) (O (.map (d.map λp=>(enc T A p.1,enc T C p.2)) (O (bs,since))))}:St):=u1.qv (hv:=D0.hv) (a6 _) (Q7 u1.heap S2);have e2:aX P (f []) T X.fix D0 ({q1 with a:=aa q1.a (dI N i) (O (.map (d.map λp=>(enc T A p.1,enc T C p.2)) (O (bs,since))))}:St):=zy (X:=X) (X':=X.fix) rfl (H0 _).symm (it:=F) (λh=>by cases h) e1 k4;refine e2.put (O o.ti) ?_;have:(f []).it=b0.heap.size:=by rw[H];rfl
   rw[<-this];exact .it
  generalize X5:(({q1 with a:=aa q1.a (dI N i) (O (.map (d.map λp=>(enc T A p.1,enc T C p.2)) (O (bs,since))))}:St).put (O o.ti) (.val (.fl (.pointer (O ⟨b0.heap.size,0,Y⟩)))))=b6 at j3 J0;generalize A4:D0.put (O o.ti) .it=s2 at J0 B R2 Q2;have B4:bE s s2:=by rw[<-A4];exact i4.trans (bh _ _)
  obtain⟨C4,g1,g2,g3⟩:=vF (w0:=w0) (I0:=I0) (n:=n) L (i0 []) G0 J0 (.refl _) J0 R2;have T1:w0.heap.size<=b0.heap.size:=t4;refine wp_block (ID (I:=λMloc a' w'=>∃seen st y,Mloc=(iP seen (d.zip bs)).length/\gi P (f seen) w0 I0 n y a' w'/\aX P (f seen) T X.fix (j.load s2 st) y/\bE s2 (j.load s2 st)/\kC (sT X kx esc p o j d0 s2 k A C) (yD X kx esc p o j s2 k) Mloc (iP seen (d.zip bs)) st=O out) d.length ?_ (λ_ _ h=>h) ?_)
  .refine ⟨[],m4,C4,by rw[xt,Gj n0],g1 _ _ ⟨v1,y1,j3⟩,g2,g3,?_⟩;rw[xt,Gj n0];exact B
  rintro Mloc U1 D4 ⟨seen,st,y,c6,⟨K0,L0,o0⟩,B1,k3,c⟩;have E4:=rI N1 (tW p1).2.1;have l3:∀{seen:Z Nat}{n3:St}{o3:Act}{p0:zI}{p3:aD}{s3:Nat->V Nat},aL P (f seen) w0 I0 n n3 o3 p0 p3 s3->aL P E w0 I0 n n3 o3 p0 p3 s3:=λt3=>by rw[H]at t3;exact t3.Ix T1 A1
  have X1:∀seen,(f seen).it=b0.heap.size:=λseen=>by rw[H];rfl
  have C1:∀{seen:Z Nat}{u3:S U.C}{R:Exit->Act->zI->Prop}(n1:∀a2 a w,wQ P E w0 I0 n Q Zloc (.panic a2) a w->R (.panic a2) a w)(v3:bE s u3)(av:AV)(v:Jz)(q:St)(a:Act)(w:zI)(I:aD)(be:Nat->V Nat),XE P (f seen) T X.fix u3 (XH kx o.ti) out av q->aL P (f seen) w0 I0 n q a w I be->cq w I v av->R (.panic [{v:=v,recovered:=F}]) a w:=λn1 v3 av v q a w I be N0 H4 c=>n1 _ _ _ ⟨av,v,q,I,be,rfl,A2 _ _ (ZJ (H0 _) (C0.trans v3) N0),l3 H4,c⟩;have D1:∀{seen:Z Nat}{e:Ex}{j0:S U.C}{q0:St}{P0:Act}{Q0:zI},Gi o.ti k e j0=O out->aX P (f seen) T X.fix j0 q0->bE s j0->gi P (f seen) w0 I0 n q0 P0 Q0->∃y,gi P E w0 I0 n y P0 Q0/\Q (ae e) y:=λe0 R0 E1 ⟨S0,T0,l0⟩=>⟨_,⟨S0,T0,l3 l0⟩,XI (H0 _) e0 R0 E1 R3⟩
  have r0:bE s (j.load s2 st):=B4.trans k3;refine wp_seq (pz ?_);obtain⟨J4,c2,y3⟩:=tW p1;rw[J4];have A3:=aG E4 (x:=.tmp o.ti) (by simp[L1,Op.operands]) o0;cases Mloc with
  |zero=>
   have c:yD X kx esc p o j s2 k st=O out:=c;unfold yD at c;obtain⟨g0,c⟩:=aA c;simp only[aI]at g0;have U0:=Gl B1 A3 (Gh g0.2);rw[X1]at U0;rw[H]at o0;rcases Em (x:=.tmp o.ti) L1 o0 T1 A1 U0 with⟨B3,X0⟩|⟨g,b,p0,j2,k2,s0,l2,X0,G1⟩
   .refine js c2 E2 X0 ?_;rw[D2];have G1:aL P (f seen) w0 I0 n (y.put (O o.tn) (.fK [.val (.fl (.bool F))])) (U1.put (O o.tn) (.tuple #[.bool F])) D4 K0 L0:=by
     rw[H];refine o0.put (O o.tn) (r:=.fK [.val (.fl (.bool F))]) ⟨#[.bool F],rfl,rfl,λf0 r c=>?_⟩;cases f0 with
     |zero=>simp at c;subst c;exact cq.fl _ rfl|succ f0=>simp at c
    have L4:aX P (f seen) T X.fix ((j.load s2 st).put (O o.tn) (.fK [.val .bool F])) (y.put (O o.tn) (.fK [.val (.fl (.bool F))])):=
     B1.put (O o.tn) (.fK _ _ rfl λix r q c D=>by
      cases ix with
      |zero=>simp at c D;subst c D;exact bg (t:=.bool) rfl|succ ix=>simp at c)
    refine kE (w0:=w0) (I0:=I0) L (i0 seen) (sB:=(j.load s2 st).put (O o.tn) (.fK [.val .bool F])) ?_ N1 ?_ ?_ nl 1 _ _ _ _ y3 (.refl _) (by rw[p1]at c;exact c) L4 ⟨K0,L0,G1⟩
    .rw[U2,((C0.trans r0).trans (bh _ _)).m];exact K1
    .rintro d6 N4 P4 ⟨e6,H1,Q4,t0⟩ ⟨R4,S4,J1⟩;simp only at t0;split at t0;rotate_left
     .cases t0
     rename_i n2;refine wp_seq (wp_cond_false ?_ (wp_exit ?_))
     .have j1:=J1.ev (.tmp p.tc) rfl (λt E0=>by cases E0;simpa[wS,bW]using H2);have u0:=lb (H1.ev (.tmp p.tc) rfl) n2;rw[u0]at j1;exact cb j1
     .show(if p.b=p.b then wQ P E w0 I0 n Q Zloc .normal N4 P4 else _);rw[aj rfl];exact D1 t0 H1 ((r0.trans (bh _ _)).trans Q4) ⟨R4,S4,J1⟩
    .exact C1 (λ_ _ _ h=>h) (r0.trans (bh _ _))
   .exfalso;have C3:g<d.length:=by rw[n0];exact (aY.1 s0).1
    obtain⟨o2,i1,_⟩:=tV (z:=d.zip bs) (j:=g) (x:=d[g]) l2 h3 (by rw[List.getElem?_zip_eq_some];exact ⟨aE,s0⟩);omega
  |succ Mloc=>
   have p2:0<(iP seen (d.zip bs)).length:=M;have c:ny (iP seen (d.zip bs)).length (λi=>((iP seen (d.zip bs))[i]?).bind λx=>sT X kx esc p o j d0 s2 k A C x st λst'=>kC (sT X kx esc p o j d0 s2 k A C) (yD X kx esc p o j s2 k) Mloc ((iP seen (d.zip bs)).eraseIdx i) st')=O out:=c;have D3:(j.load s2 st).pl W=W/\Dk ((j.load s2 st).bQ o.ti)=W:=by obtain⟨x,_,h0⟩:=bind_some (sS c 0 p2);unfold sT at h0;obtain⟨g0,_⟩:=aA h0;simpa using g0
   have U0:=Gl B1 A3 (Gh D3.2);rw[X1]at U0;rw[H]at o0;rcases Em (x:=.tmp o.ti) L1 o0 T1 A1 U0 with⟨B3,X0⟩|⟨g,b,p0,j2,k2,s0,l2,X0,G1⟩
   .exfalso;rw[BW (by rw[Gk n0];exact B3)]at p2;simp at p2
   .have C3:g<d.length:=by rw[n0];exact (aY.1 s0).1
    obtain⟨o2,i1,i2,E3⟩:=tV (z:=d.zip bs) (j:=g) (x:=d[g]) l2 h3 (by rw[List.getElem?_zip_eq_some];exact ⟨aE,s0⟩);have c0:=sS c o2 i1;rw[i2]at c0;have c0:sT X kx esc p o j d0 s2 k A C d[g] st (λst'=>kC (sT X kx esc p o j d0 s2 k A C) (yD X kx esc p o j s2 k) Mloc ((iP seen (d.zip bs)).eraseIdx o2) st')=O out:=c0;rw[E3]at c0;generalize T4:(λst'=>kC (sT X kx esc p o j d0 s2 k A C) (yD X kx esc p o j s2 k) Mloc (iP (seen++[b]) (d.zip bs)) st')=rec at c0;unfold sT at c0;obtain⟨_,c0⟩:=aA c0;have U4:Mloc=(iP (seen++[b]) (d.zip bs)).length:=by rw[<-E3,List.length_eraseIdx,aj i1];omega
    have X4:aL P (f (seen++[b])) w0 I0 n y U1 p0 K0 L0:=by rw[H];exact G1
    refine js c2 E2 X0 ?_;rw[D2];have J1:aL P (f (seen++[b])) w0 I0 n (y.put (O o.tn) (.fK [.val (.fl (.bool W)),.none,.none])) (U1.put (O o.tn) (.tuple #[.bool W,j2,k2])) p0 K0 L0:=by
     refine X4.put (O o.tn) (r:=.fK [.val (.fl (.bool W)),.none,.none]) ⟨#[.bool W,j2,k2],rfl,rfl,λf0 r c=>?_⟩;match f0 with
     |0=>simp at c;subst c;exact cq.fl _ rfl|1=>simp at c;subst c;trivial
     |2=>simp at c;subst c;trivial|f0+3=>simp at c
    have H1:aX P (f (seen++[b])) T X.fix ((j.load s2 st).put (O o.tn) (.fK [.val .bool W,.none,.none])) (y.put (O o.tn) (.fK [.val (.fl (.bool W)),.none,.none])):=
     (X2 B1 D3.1).put (O o.tn) (.fK _ _ rfl λix r q c D=>by
      match ix with
      |0=>simp at c D;subst c D;exact bg (t:=.bool) rfl|1=>simp at c D;subst c D;exact .none _
      |2=>simp at c D;subst c D;exact .none _|ix+3=>simp at c)
    have t2:∀{s':S U.C},bE s s'->(∃k,s'.m k=W)->(f (seen++[b])).dc=F:=λt0=>by rw[U2,(C0.trans t0).m];exact K1
    refine kE (w0:=w0) (I0:=I0) L (i0 (seen++[b])) (sB:=(j.load s2 st).put (O o.tn) (.fK [.val .bool W,.none,.none])) ?_ N1 ?_ ?_ nl 1 _ _ _ _ y3 (.refl _) (by rw[p1]at c0;exact c0) H1 ⟨K0,L0,J1⟩
    .exact t2 (r0.trans (bh _ _))
    .rintro q0 P0 Q0 ⟨j0,R0,E1,e0⟩ ⟨S0,T0,l0⟩;simp only at e0;split at e0;rotate_left
     .cases e0
     rename_i n2;obtain⟨b5,e0⟩:=aA e0;have u2:bE s j0:=(r0.trans (bh _ _)).trans E1;refine wp_seq (wp_cond_true ?_ (wp_skip ?_))
     .have j1:=l0.ev (.tmp p.tc) rfl (λt E0=>by cases E0;simpa[wS,bW]using H2);have u0:=lb (R0.ev (.tmp p.tc) rfl) n2;rw[u0]at j1;exact cb j1
     .refine wp_block (wp_seq (pz ?_));obtain⟨c5,d2,d5⟩:=tW e1;rw[c5];have e5:=rI I2 d2;have G3:=Gl R0 (aG e5 (x:=.tmp o.ti) (by simp[e2,Op.operands]) l0) (Gh b5);rw[X1]at G3;rw[H]at l0;obtain⟨H3,J3,f5,f1,f2,f3,g5⟩:=KT (x:=.tmp o.ti) e2 l0 s0 G3;refine js d2 c4 f1 ?_;rw[e3];have i5:f5=(enc T A d[g].1,enc T C d[g].2):=by rw[dC,bS C3]at f2;simpa using f2.symm
      subst i5;have j5:aL P (f (seen++[b])) w0 I0 n q0 P0 Q0 S0 T0:=by rw[H];exact l0
      have k5:aL P (f (seen++[b])) w0 I0 n (q0.put (O o.te) (.fK [.val (enc T A d[g].1),.val (enc T C d[g].2)])) (P0.put (O o.te) (.tuple #[H3,J3])) Q0 S0 T0:=by
       refine j5.put (O o.te) (r:=.fK [.val (enc T A d[g].1),.val (enc T C d[g].2)]) ⟨#[H3,J3],rfl,rfl,λf0 r c=>?_⟩;match f0 with
       |0=>simp at c;subst c;exact f3|1=>simp at c;subst c;exact g5
       |f0+2=>simp at c
      obtain⟨l5,m5⟩:=B0.map _ _ _ N2;have n5:eV A=W:=by cases A<;>first|rfl|cases l5
      have o5:aX P (f (seen++[b])) T X.fix (j0.put (O o.te) (.fK [.val A d[g].1,.val C d[g].2])) (q0.put (O o.te) (.fK [.val (enc T A d[g].1),.val (enc T C d[g].2)])):=
       R0.put (O o.te) (.fK _ _ rfl λix r q c D=>by
        match ix with
        |0=>simp at c D;subst c D;exact bg n5|1=>simp at c D;subst c D;exact bg m5
        |ix+2=>simp at c)
      refine kE (w0:=w0) (I0:=I0) L (i0 (seen++[b])) (sB:=j0.put (O o.te) (.fK [.val A d[g].1,.val C d[g].2])) ?_ I2 ?_ ?_ el 1 _ _ _ _ d5 (.refl _) (by rw[e1]at e0;exact e0) o5 ⟨S0,T0,k5⟩
      .exact t2 (u2.trans (bh _ _))
      .rintro p5 r5 t5 ⟨m0,u5,K3,u0⟩ v5;simp only at u0;have k1:bE s m0:=(u2.trans (bh _ _)).trans K3;have x5:bE s2 m0:=((((k3.trans (bh _ _)).trans E1).trans (bh _ _)).trans K3)
       have y5:=mI (w0:=w0) (I0:=I0) L (i0 (seen++[b])) (sB:=m0) (t2 k1) (mJ L N3 (i0 (seen++[b]))) (Zloc:=λav q=>XE P (f (seen++[b])) T X.fix m0 (XH kx o.ti) out av q) (λ_ _ h=>h) p.body d0 m0 _ p5
        (λe a0=>∃e' G,e=ae e'/\aX P (f (seen++[b])) T X.fix G a0/\bE m0 G/\(match e' with
          |.normal=>Eo j s2 rec G|.exit id=>bif Nat.beq id p.b2 then Eo j s2 rec G else bif Nat.beq id p.b then Gi o.ti k .normal G else Gi o.ti k (.exit id) G
          |.ret=>Gi o.ti k .ret G)=O out) d4 (.refl _) u0 u5 (λe' G a0 m1 m2 m3=>⟨e',G,rfl,m1,m2,m3⟩)
       have L3:∀{G:S U.C}{a0:St}{v0:Act}{y0:zI},Eo j s2 rec G=O out->aX P (f (seen++[b])) T X.fix G a0->bE m0 G->gi P (f (seen++[b])) w0 I0 n a0 v0 y0->
         ∃N,N<Mloc+1/\∃seen st y,N=(iP seen (d.zip bs)).length/\gi P (f seen) w0 I0 n y v0 y0/\aX P (f seen) T X.fix (j.load s2 st) y/\bE s2 (j.load s2 st)/\kC (sT X kx esc p o j d0 s2 k A C) (yD X kx esc p o j s2 k) N (iP seen (d.zip bs)) st=O out:=λl1 A5 B5 K=>by
        unfold Eo at l1;split at l1
        .rename_i C5 D5;obtain⟨E5,m1,m2,m3⟩:=vF (w0:=w0) (I0:=I0) (n:=n) L (i0 (seen++[b])) G0 (X2 J0 Q2) (x5.trans B5) A5 D5;rw[<-T4]at l1;exact⟨Mloc,gl Mloc,seen++[b],C5,E5,U4,m1 _ _ K,m2,m3,l1⟩
        .cases l1
       refine wp_mono (y5 r5 t5 v5) λe v0 y0 A0=>?_;cases e with
       |normal=>
        obtain⟨a0,K,e',G,J,m1,m2,m3⟩:=A0;cases e' with
        |normal=>exact L3 m3 m1 m2 K|exit id=>cases J
        |ret=>cases J
       |exit id=>
        obtain⟨a0,K,e',G,J,m1,m2,m3⟩:=A0;cases e' with
        |normal=>cases J
        |ret=>cases J
        |exit f6=>
         injection J with J;subst J;simp only at m3;simp only[Exit.inBlock];by_cases v2:id=p.b2
         .subst v2;rw[py]at m3;rw[aj rfl];exact L3 m3 m1 m2 K
         .rw[ry v2]at m3;rw[ai v2];simp only[bq]at m3;show(if id=p.b then wQ P E w0 I0 n Q Zloc .normal v0 y0 else wQ P E w0 I0 n Q Zloc (.exit id) v0 y0);by_cases y2:id=p.b
          .subst y2;rw[py]at m3;rw[aj rfl];exact D1 m3 m1 (k1.trans m2) K
          .rw[ry y2]at m3;rw[ai y2];exact D1 m3 m1 (k1.trans m2) K
       |goto l=>obtain⟨a0,K,e',G,J,_⟩:=A0;cases e'<;>cases J
       |ret=>
        obtain⟨a0,K,e',G,J,m1,m2,m3⟩:=A0;cases e' with
        |normal=>cases J
        |exit id=>cases J
        |ret=>exact D1 m3 m1 (k1.trans m2) K
       |panic a2=>obtain⟨x,v,a0,H5,J5,rfl,N0,K,L5⟩:=A0;exact C1 (R:=λe a w=>wQ P E w0 I0 n Q Zloc e a w) (λ_ _ _ h=>h) k1 x v a0 v0 y0 H5 J5 N0 K L5|outgrown=>exact A0
      .exact C1 (λ_ _ _ h=>h) (u2.trans (bh _ _))
    .exact C1 (λ_ _ _ h=>h) (r0.trans (bh _ _))
 .intro av v q1 Q1 b0 v1 y1 N0 R1 c;exact⟨av,v,q1,v1,y1,rfl,A2 _ _ (N0.up C0),R1,c⟩
end
section
variable{U:cg}{α:Type}(X:gj U)(kx:rq U->S U.C->V α)(esc:Z (Nat×Nat))
noncomputable def Er:F4->fC->S U.C->(Ex->S U.C->V α)->V α
 |.seq a b,h,s,k=>match h with
  |.seq Y f d=>Er a f s λe s'=>match e with
   |.normal=>Er b d s' k|e=>k e s'
  |.FG j d=>match BU (.seq a b)with
   |some p=>W1 X kx esc p j d s k|none=>Y
  |h=>gV X kx esc (.seq a b) h s k
 |c,h,s,k=>gV X kx esc c h s k
noncomputable def Gn (ps:Z Ty) (rs:Z RK) (p:V (JA×Ty)) (esc:Z (Nat×Nat)) (a:Z ResultVar) (c:F4) (hint:fC) (x:HL U.C ps) (h:U.C 0):V (h7 U p (HL U.C (rs.map RK.ty))×U.C 0):=
 Er X (λq s=>HQ s.h (Dc p q)) esc c hint {r:=mq ps 0 x,b:=[],tick:=1,h:=h} λe s=>match e with
  |.exit _=>Y|_=>da X W a rs s λs y=>O (wZ p y,s.h)
end
section
variable{P:qK}{E:cm}{U:cg}{T:dm U.C}{X:gj U}{w0:zI}{I0:aD}{n:Nat}{α:Type}{out:α}{kx:rq U->S U.C->V α}{esc:Z (Nat×Nat)}
variable(L:cw U T)
include L in
theorem Q8(o:P.follows .mixedOrders=W)(j:bP P E T X)(x:∀E' e t,X.ty e=O t->jj P E' T X e t){sB:S U.C}(r:(∃k,sB.m k=W)->E.dc=F)(u:∀av d,XE P E T X sB kx out av d->Zloc av d):
  ∀(c:F4)(hint:fC)(s:S U.C)(k:Ex->S U.C->V α)(q:St)(Q:eA->St->Prop),eQ n c=W->bE sB s->Er X kx esc c hint s k=O out->aX P E T X s q->(∀e s' d,aX P E T X s' d->bE s s'->k e s'=O out->Q (ae e) d)->nL P E w0 I0 n c Q Zloc q:=by
 intro c;induction c with
 |seq a b y z=>
  intro hint s k q Q f i h l g;unfold Er at h;split at h
  .rename_i A B;simp only[eQ,aI]at f;refine zo λK C=>y A s _ q _ f.1 i h l λe s' d v m w=>?_;cases e with
   |normal=>exact C d (z B s' k d Q f.2 (i.trans m) w v λe s2 D G H I=>g e s2 D G (m.trans H) I)|exit id=>exact g (.exit id) s' d v m w
   |ret=>exact g .ret s' d v m w
  .split at h
   .rename_i p J;have:=IC J;rw[this]at f⊢;exact OB L o j x r u f i h l g
   .cases h
  .exact mI L j r (mJ L o j) u _ _ s k q Q f i h l g
 |_=>intro hint s k q Q f i h l g;exact mI L j r (mJ L o j) u _ hint s k q Q f i h l g
include L in
theorem XJ(d:P.follows .mixedOrders=W)(g:∀E' e t,X.ty e=O t->jj P E' T X e t){f:JC}{fn:Pz}{ps:Z Ty}{rs:Z RK}{a:V (JA×Ty)}{esc:Z (Nat×Nat)}{hint:fC}{b:HL U.C ps->U.C 0->V (h7 U a (HL U.C (rs.map RK.ty))×U.C 0)}(i:bP P E T X)(j:P.funcs[f]?=O fn)(l:(fn.name== "runtime.NumGoroutine")=F)(m:fn.body=O c)(n:ps.length<=fn.ntmps)
  (o:eQ fn.ntmps c=W) (p:kB fn.ntmps fn.results.toList=W)
  (hF:∀x h,Gn X ps rs a esc fn.results.toList c hint x h=b x h):nY P E T f ps rs a (.st b):=
 Gc L (ex:=λkx=>Er X kx esc c hint) i j l m n p (λA B w0 I0 sB r kx Zloc u v s k q Q w h y z=>Q8 L d u g (λ_=>rfl) v c hint s k q Q o w h y z) hF
end
end Go.X
namespace Go.Ev
open Go
section
variable{P:qK}{E:cm}{w0:zI}{I0:aD}{n:Nat}{s:St}{a:Act}{w w':zI}{I:aD}{be:Nat->V Nat}
def cm.pE (E:cm) (B:Nat) (o:Obj) (df:Z AV):cm where
 h5:=λw=>E.h5 w/\¬E.cB w B/\w.heap[B]?=O o
 cB:=λw b=>E.cB w b∨b=B
 jm:=λw w' ⟨c,e,d⟩ a=>by obtain⟨g,f⟩:=E.jm w w' c λb h=>a b (.inl h);exact⟨⟨g,λi=>e (f B i),(a B (.inr rfl)).trans d⟩,λb a=>a.imp (f b) id⟩
 lt:=λw b ⟨c,e,d⟩ a=>by
  rcases a with a|rfl
  .exact E.lt w b c a
  .exact (h4.1 d).1
 tm:=E.tm
 dc:=E.dc
 ro:=E.ro
 it:=B
 df:=df
def aL.pE (h:aL P E w0 I0 n s a w I be) {B:Nat} {o:Obj} {df:Z AV} (g:KR E w0 w I be s B) (x:w.heap[B]?=O o):aL P (E.pE B o df) w0 I0 n s a w I be:=by
 have c:=h.since;refine⟨⟨c.os,c.tape,c.output,c.size,λk y f z=>c.block k y (λA=>f (.inl A)) z,λb l=>?_,⟨c.h5,g.cB,x⟩,c.qG,c.ar,c.NU,c.iq,c.new,c.lt,λp t f=>?_⟩,h.size,h.defers,h.cu,h.bG,h.inj,λd B' u i=>?_,h.sF,⟨h.bb.hC,h.bb.inj,λj B' v i=>?_,h.bb.un,h.bb.ro⟩⟩
 .rcases l with l|rfl
  .exact (c.cB b l).imp .inl id
  .exact .inr g.new
 .rcases f with f|f
  .exact c.off p t f
  .exact g.mem p t f
 .obtain ⟨q1,m,q,r⟩:=h.bU d B' u i;refine⟨q1,m,q,λf=>f.elim r λe=>g.box d u (by rw[i,e])⟩
 .obtain ⟨q1,m,q,r,C⟩:=h.bb.bU j B' v i;exact⟨q1,m,q,λf=>f.elim r λe=>g.ob j v (by rw[i,e]),C⟩
def aL.Q9 {B:Nat} {o:Obj} {df:Z AV} (h:aL P (E.pE B o df) w0 I0 n s a w I be) (v:w0.heap.size<=B):aL P E w0 I0 n s a w I be/\KR E w0 w I be s B/\w.heap[B]?=O o:=by
 have c:=h.since;refine⟨⟨⟨c.os,c.tape,c.output,c.size,λk x f y=>c.block k x (λz=>z.elim f λe=>M) y,λb A=>?_,c.h5.1,c.qG,c.ar,c.NU,c.iq,c.new,c.lt,λp g f=>c.off p g (.inl f)⟩,h.size,h.defers,h.cu,h.bG,h.inj,λd B' i l=>?_,h.sF,⟨h.bb.hC,h.bb.inj,λj B' m l=>?_,h.bb.un,h.bb.ro⟩⟩,⟨v,(h4.1 c.h5.2.2).1,λp g e=>c.off p g (.inr e),c.h5.2.1,λd i q=>(h.bU d B i q).2.2.2 (.inr rfl),λj m q=>(h.bb.bU j B m q).2.2.2.1 (.inr rfl)⟩,c.h5.2.2⟩
 .rcases c.cB b (.inl A)with(h1|h1)|h1
  .exact .inl h1
  .exact .inr M
  .exact .inr h1
 .obtain ⟨q1,r,t,u⟩:=h.bU d B' i l;exact⟨q1,r,t,λf=>u (.inl f)⟩
 .obtain ⟨q1,r,t,u,C⟩:=h.bb.bU j B' m l;exact⟨q1,r,t,λf=>u (.inl f),C⟩
def aL.ZK (h:aL P E w0 I0 n s a w I be) (t:Nat) {u:cy} (d:t<n->b4 P w I be s.b s.g (a.tmps.getD t undef) u):aL P E w0 I0 n {s with r:=aa s.r t u} a w I be:=
 ⟨h.since,h.size,h.defers,λb c=>by
  by_cases e:b=t
  .subst e;simp only[bK];exact d c
  .simp only[aJ _ _ e];exact h.cu b c,h.bG,h.inj,h.bU,h.sF,h.bb⟩
def aL.deferred (h:aL P E w0 I0 n s a w I be) {d:Deferred} {f:JC} {vs:Array Jz} {caps:Z AV} (e:d.target=.fn (.func f) vs) (g:d.args=#[]) (i:cq w I (.func (.func f) #[] vs) (.fn f caps)):
  aL P E w0 I0 n {s with df:=.fn f caps::s.df} {a with defers:=d::a.defers} w I be:=
 ⟨h.since,h.size,⟨by simp[h.defers.1],λj d' x b c=>by
  cases j with
  |zero=>simp at b c;subst b c;exact⟨f,vs,caps,rfl,e,g,i⟩|succ j=>exact h.defers.2 j d' x (by simpa using b) (by simpa using c)⟩,h.cu,h.bG,h.inj,h.bU,h.sF,h.bb⟩
end
end Go.Ev
namespace Go.X
open Go Go.Ev
def me:Nat->F4->F4
 |0,c=>c|n+1,.seq _ b=>me n b
 |_+1,c=>c
section
variable{U:cg}{α:Type}(X:gj U)(kx:rq U->S U.C->V α)(esc:Z (Nat×Nat))
noncomputable def BX:Nat->F4->S U.C->(S U.C->V α)->V α
 |0,_,s,k=>k s|n+1,.seq a b,s,k=>gV X kx esc a .aC s λe s'=>match e with
  |.normal=>BX n b s' k|_=>Y
 |_+1,_,_,_=>Y
end
section
variable{P:qK}{E E':cm}{U:cg}{T:dm U.C}{X:gj U}{w0:zI}{I0:aD}{n:Nat}{α:Type}{out:α}{kx:rq U->S U.C->V α}{esc:Z (Nat×Nat)}
variable(L:cw U T)
include L in
theorem xu(p:P.follows .mixedOrders=W)(g:bP P E T X){sB:S U.C}(r:(∃k,sB.m k=W)->E.dc=F){Zloc:AV->St->Prop}(t:∀av d,XE P E T X sB kx out av d->Zloc av d):
  ∀(m:Nat)(c:F4)(s:S U.C)(k:S U.C->V α)(q:St)(Q:eA->St->Prop),eQ n c=W->bE sB s->BX X kx esc m c s k=O out->aX P E T X s q->(∀s' d,aX P E T X s' d->bE s s'->k s'=O out->nL P E w0 I0 n (me m c) Q Zloc d)->nL P E w0 I0 n c Q Zloc q
 |0,c,s,k,q,Q,f,i,h,j,l=>l s q j (.refl s) (by cases c<;>exact h)
 |m+1,c,s,k,q,Q,f,i,h,j,l=>by
  cases c with
  |seq a b=>
   simp only[eQ,aI]at f;have h:gV X kx esc a .aC s (λe s'=>match e with
    |.normal=>BX X kx esc m b s' k|_=>Y)=O out:=h
   refine zo λK v=>mI L g r (mJ L p g) t a .aC s _ q _ f.1 i h j λe s' d w u o=>?_;cases e with
   |normal=>exact v d (xu p g r t m b s' k d Q f.2 (i.trans u) o w λs2 x y z A=>l s2 x y (u.trans z) A)|exit id=>cases o
   |ret=>cases o
  |_=>cases h
def Ue{X':gj U}{s:S U.C}{q:St}(l:X'.ty=X.ty)(a:aX P E T X s q)(f:s.pl F=W):aX P E' T X' s {q with df:=E'.df}:=by
 simp only[S.pl,aI,cS]at f;refine⟨λt=>zx (it:=F) (λh=>by cases h) (a.cu t) ?_,λd=>?_,a.Bj,a.DU,a.heap,rfl⟩
 .rw[S.gA];cases b:aB s.r t with
  |none=>rfl|some e=>exact f.1 _ (fM (by rw[b]))
 .have g:=a.bG d;show nM P E' T X' s.b q.g s.tick (aB s.b d) (q.b d);cases b:aB s.b d with
  |none=>exact trivial|some e=>
   obtain⟨st,x⟩:=e;rw[b]at g;have m:=f.2 _ (fM b);cases x with
   |cells u rs=>obtain⟨j,b2,cs,n,o,p⟩:=g;exact⟨j,b2,cs,n,o,λi r c k v=>zx (it:=F) (λh=>by cases h) (p i r c k v) (oh m r (bF k))⟩
   |bi t e xs=>obtain⟨j,b2⟩:=g;exact⟨by rw[l];exact j,b2⟩
end
end Go.X
