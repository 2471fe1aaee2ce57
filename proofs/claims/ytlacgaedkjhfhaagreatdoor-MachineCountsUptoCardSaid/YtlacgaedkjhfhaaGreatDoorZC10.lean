import Derived.Sort.Row
import Derived.Sort.EncStr
import Derived.Sort.Grow
import Derived.Test.YtlacgaedkjhfhaaGreatDoorZC9
set_option linter.all false
open Option renaming some->O,none->Y
open Bool renaming true->W,false->F
namespace Go.X
open Go Go.Ev
section
variable{U:cg}{α:Type}(X:gj U)(esc:Z (Nat×Nat))
noncomputable def IM (e:Nat) (c:F4) (m d:Nat) (a b:Ty) (g:S U.C->V (bL U.C (.qu a b))) (hint:fC):XD U α:=λkx s k=>BX X kx esc e c s λf=>match g f with
 |some φ=>gV X kx esc (me (e+2) c) hint ((f.put (O m) (.pw (.val (.qu a b) φ))).put (O d) .none) k|none=>Y
end
def Nh(P:qK)(e:JA):tl:=match P.info? e with
 |some i=>match i.zero with
  |some (.agg _)=>F|some _=>W
  |none=>F
 |none=>F
def B7{P:qK}{e:JA}(h:Nh P e=W):∃a z,P.info? e=O a/\a.zero=O z/\z.cells=#[z]:=by
 unfold Nh at h;split at h
 .rename_i i hi;split at h
  .cases h
  .rename_i z b hz;refine⟨i,z,hi,hz,?_⟩;cases z<;>first|rfl|exact absurd rfl (b _)
  .cases h
 .cases h
section
variable{P:qK}{E:cm}{U:cg}{T:dm U.C}{X:gj U}{w0:zI}{I0:aD}{n:Nat}{α:Type}{out:α}{kx:rq U->S U.C->V α}{esc:Z (Nat×Nat)}
variable(L:cw U T)
def yH:∀{m:Nat}{c:F4},eQ n c=W->eQ n (me m c)=W
 |0,c,h=>h|m+1,c,h=>by
  cases c with
  |seq a b=>simp only[eQ,aI]at h;exact yH (m:=m) h.2|_=>exact h
include L in
theorem IN(v:P.follows .mixedOrders=W)(o:bP P E T X){sB:S U.C}(w:(∃k,sB.m k=W)->E.dc=F){Zloc:AV->St->Prop}(x:∀av g,XE P E T X sB kx out av g->Zloc av g){l:Nat}{c:F4}{m d:Nat}{a b:Ty}{y:S U.C->V (bL U.C (.qu a b))}{hint:fC}
  {f i1 i2:Nat} {e:JA} {o1 o2 o3:JB} {ts:Z Nat} {A:TypeInfo} {z:Jz}
  (K:me l c=.seq (.region i1 #[o1] F) (.seq (.region i2 #[o2,o3] F) (me (l+2) c))) (R:P.info? e=O A) (a0:A.zero=O z) (b0:z.cells=#[z]) (c0:P.cellsOf e=1)
  (d0:o1.op=.alloc e) (e0:o1.dst=O m) (f0:o1.guard=Y) (g0:o2.op=.makeFunc (.func f) #[] (ts.map Operand.tmp++[Operand.tmp m]).toArray) (h0:o2.dst=O d) (i0:o2.guard=Y)
  (j0:o3.op=.store e (.tmp m) (.tmp d)) (l0:o3.dst=Y) (m0:o3.guard=Y) (n0:m<n) (o0:d<n) (p0:d≠m)
  (q0:∀C q1 φ,aX P E T X C q1->y C=O φ->∃i N,i.length=ts.length/\(∀(j t:Nat),ts[j]?=O t->t<n/\t≠m/\∃av,i[j]?=O av/\q1.r t=.val av)/\∀B,kr P E T (.jR a b) φ (oH B f i N))
  (D:eQ n c=W):∀(s:S U.C)(k:Ex->S U.C->V α)(q:St)(Q:eA->St->Prop),bE sB s->IM X esc l c m d a b y hint kx s k=O out->aX P E T X s q->(∀e s' g,aX P E T X s' g->bE s s'->k e s'=O out->Q (ae e) g)->nL P E w0 I0 n c Q Zloc q:=λs k q Q G h r0 s0=>by
 refine xu L v o w x l c s _ q Q D G h r0 λs' g H I p=>?_;split at p
 .rename_i φ t0;obtain⟨i,N,u0,v0,x0⟩:=q0 s' g φ H t0;rw[K];refine Ro R a0 b0 c0 d0 e0 f0 g0 h0 i0 j0 l0 m0 n0 o0 p0 u0 v0 N λB=>?_;have y0:=(H.put (O m) (r:=.pw (.val (.qu a b) φ)) (u:=.val (oH B f i N)) (Io (ty:=.jR a b) (x0 B))).put (O d) (r:=.none) (u:=.none) (.none _);have J:bE s' ((s'.put (O m) (.pw (.val (.qu a b) φ))).put (O d) .none):=(bh _ _).trans (bh _ _);exact mI L o w (mJ L v o) x _ hint _ k _ Q (yH D) (G.trans (I.trans J)) p y0 λe s2 A0 B0 C0 D0=>s0 e s2 A0 B0 ((I.trans J).trans C0) D0
 .cases p
end
end Go.X
namespace Go.Ev
open Go
variable{a:Nat->V Ob}{u:Nat->tl}{i:Nat}
def my.kQ {P:qK} {E:cm} {w0 w w':zI} {I:aD} {T:Nat->Prop} (h:my P E w0 w I a u T) {B:Nat} {x:Ob} (hi:a i≠.none) (m:I.ar i=O B) (G:dD w w' I I)
  (o:∀k,k<w.heap.size->k≠B->w'.heap[k]?=w.heap[k]?) (C:w.heap.size<=w'.heap.size) (p:oP P w' I B x) (q:∀b,b<w.heap.size->E.cB w' b->E.cB w b) (r:∀j,E.ro j=.none):my P E w0 w' I (aa a i (O x)) u T:=by
 have d:∀j,aa a i (O x) j≠.none->a j≠.none:=λj f=>by
  by_cases e:j=i
  .subst e;exact hi
  .rwa[aJ _ _ e]at f
 refine⟨λj y c=>?_,λj n B' h1 g=>h.inj j n B' (d j h1) (d n g),λj B' f s=>?_,h.un,λj x h=>(by rw[r]at h;cases h)⟩
 .by_cases e:j=i
  .subst e;rw[bK]at c;cases c;exact ⟨B,m,p⟩
  .rw[aJ _ _ e]at c;obtain⟨B',h1,g⟩:=h.hC j y c;have l:B'≠B:=λe'=>e (h.inj j i B' (by rw[c];simp) hi h1 (by rw[m,e']));exact⟨B',h1,g.cK G (o B' (h.bU j B' (by rw[c];simp) h1).2.1 l)⟩
 .obtain ⟨q1,t,v,z,A⟩:=h.bU j B' (d j f) s;exact⟨q1,M,v,λl=>z (q B' t l),A⟩
section
open Go.RowKit Go.Sort Go.Proofs
def kH(ss:Z (Z NT)):Z (Z NT):=ss.mergeSort λx y=>decide (x<=y)
abbrev Zg(s:Z NT):AV:=.fl (bs s)
variable{P:qK}{E:cm}{f:JC}
def La(m0:Enters P f)
  (n0:∀(D cap:Nat)(ss:Z (Z NT))(w:zI),Holds encStr w D 0 ss.toArray->D<w.heap.size->ss.length<4611686018427387904->Calls P f #[.slice (O ⟨D,0,Y⟩) ss.length cap] w λe w'=>e=.returned (.tuple #[])/\∃n os,w'=grow (putRow encStr (Sort.ahead w n) D 0 (kH ss).toArray) os) {e:JA} {ss:Z (Z NT)} (K:a i=O (.bi e (ss.map Zg))) (N0:0<ss.length) (H:ss.length<4611686018427387904) (q:P.cellsOf e=1):
  np P E f [.view i 1 ss.length] a u (.ret []) (aa a i (O (.bi e ((kH ss).map Zg)))) u:=by
 refine⟨m0,λw0 I0 vs L T N o0=>?_⟩;obtain⟨p0,q0⟩:=o0;have r0:vs.size=1:=by simpa using p0
 obtain⟨v,rfl⟩:∃v,vs=#[v]:=⟨vs[0],by
  apply yT
  .simp[r0]
  .intro j y U;have:j=0:=M;subst this;rfl⟩
 have hv:=q0 0 v _ rfl rfl;obtain⟨B,Q,h0,X,P0,cur,cap,hw,I,s0,hle,t0⟩:=N.hC i _ K;rw[dd]at hle X;have u0:v=.slice (O ⟨B,0,Y⟩) ss.length cap:=by
  generalize R:AV.view i 1 ss.length=av at hv;cases hv with
  |view v0 sz len B' x0 e' Q0 A h a0 hs y0 A0=>
   cases R;rw[Q]at h;cases h;rw[hw]at a0;cases a0;have:x0=cap:=by rw[q]at I;omega
   subst this;rw[A0 M]
  |kV v0 sz A cap h _=>simp only[AV.view.injEq]at R;omega|_=>cases R
 subst u0;obtain⟨q1,S,B0,b0,_⟩:=N.bU i B (by rw[K];simp) Q;have C0:∀j,(g:j<ss.length)->cur[j]?=O (encStr ss[j]):=λj g=>by
  have:=t0 j 0 (Zg ss[j]) (Zg ss[j]) (by simp[g]) rfl;rw[q,zY,lX]at this;have y:=cb this;have H:j<cur.size:=by rw[I,q];omega
  simp only[jl,qP H,eP]at y;rw[qP H,y]
 have D0:Holds encStr w0 B 0 ss.toArray:=λj g=>by
  have g:j<ss.length:=by simpa using g
  rw[cX];refine⟨?_,?_⟩
  .simp only[World.cell?,hw];rw[getElem!_pos _ j (by simpa using g)];simpa using C0 j g
  .simp[World.frozen?,hw]
 refine(n0 B cap ss w0 D0 S H).mono λe' w' E0=>?_;obtain⟨rfl,n,os,rfl⟩:=E0;have y0:B<w0.heap.size:=S;obtain⟨d,z⟩:∃d,grow (putRow encStr (Sort.ahead w0 n) B 0 (kH ss).toArray) os=d:=⟨_,rfl⟩
 rw[z];have c0:d.heap=w0.heap.modify B (onCells (putCells encStr 0 (kH ss).toArray))++os:=by rw[<-z];rfl
 have d0:w0.heap.size<=d.heap.size:=by rw[c0];simp
 have e0:∀k,k<w0.heap.size->d.heap[k]?=if B=k then(w0.heap[k]?).map (onCells (putCells encStr 0 (kH ss).toArray))else w0.heap[k]?:=λk m=>by rw[c0,Tr (by simpa using m),G9]
 have C:∀k,k<w0.heap.size->k≠B->d.heap[k]?=w0.heap[k]?:=λk m G0=>by rw[e0 k m,ai (dz G0)]
 have f0:d.heap[B]?=O (.cells (putCells encStr 0 (kH ss).toArray cur) e (0,0)):=by rw[e0 B S,aj rfl,hw];rfl
 have g0:(putCells encStr 0 (kH ss).toArray cur).size=cur.size:=by simp[putCells]
 have i0:∀B',gh w0 d B':=λB' c t R0 l=>by
  by_cases e':B'=B
  .subst e';rw[hw]at l;cases l;exact ⟨_,f0,g0⟩
  .exact ⟨c,(C B' (h4.1 l).1 e').trans l,rfl⟩
 have G:dD w0 d I0 I0:=.world (λp v j0 hv=>by rw[dw (C p.block (T p j0).1 (B0 p j0))];exact hv) i0;have hs:eL (E.dn a I0) w0 I0 d I0:=(eL.refl (E:=E.dn a I0) L T).step (by rw[<-z];rfl) (by rw[<-z];rfl) (by rw[<-z];rfl) d0 (λk=>k=B) (λk m H0=>C k m H0) (λk m=>by subst m;exact ⟨q1,b0⟩) i0 (λ_ h=>h) rfl (λ_ h=>.inl h);have J0:∀b,E.cB d b->E.cB w0 b:=(E.jm w0 d L λb J=>C b (E.lt w0 b L J) (λe'=>b0 (e'▸J))).2;have l0:(kH ss).length=ss.length:=by simp[kH]
 refine⟨_,I0,λ_=>Y,rfl,hs,⟨#[],rfl,rfl,λj r g=>(by simp at g)⟩,(λj S0 B h=>by cases h),(λj B h=>by cases h),?_⟩;have:=N.kQ (w':=d) (x:=.bi e ((kH ss).map Zg)) (by rw[K];simp) Q G C d0 ⟨h0,by simpa[l0]using X,λj x o=>?_,_,cap,f0,by rw[g0,I],s0,by simpa[l0]using hle,λj k x c o l=>?_⟩ (λb _ J=>J0 b J) (λ_=>rfl)
 .exact ⟨this.hC,this.inj,λj B' y U=>by obtain ⟨K0,g2,g3,g4,_⟩:=this.bU j B' y U;exact ⟨K0,g2,g3,g4,λ⟨_,h⟩=>by cases h⟩,this.un,this.ro⟩
 .obtain ⟨s,_,rfl⟩:=dP.1 (bF o);exact⟨q.symm,λc l=>by simp[AV.cells]at l;subst l;rfl⟩
 .simp only[dC,ck]at o;obtain⟨s,o,rfl⟩:=o;have m:k=0/\c=Zg s:=by
   cases k with
   |zero=>simp[AV.cells]at l;exact ⟨rfl,l.symm⟩|succ k=>simp[AV.cells]at l
  obtain⟨rfl,rfl⟩:=m;have g:j<(kH ss).length:=(aY.1 o).1;have L0:j<cur.size:=by rw[I,q];omega
  have:(putCells encStr 0 (kH ss).toArray cur)[j]?=O (encStr s):=by simp only[putCells,Array.getElem?_mapIdx,qP L0,cj];rw[aj ⟨dS _,by simpa using g⟩];simp only[oA];rw[getElem!_pos _ j (by simpa using g)];have:=(aY.1 o).2;simp[this]
  rw[q,zY,lX];simp only[jl,this,eP];exact .fl _ rfl
def IP(g:Enters P f)(i:∀(A:V Mc)(w:zI),Calls P f #[.slice A 0 0] w λe w'=>e=.returned (.tuple #[])/\w'=w):np P E f [.gx] a u (.ret []) a u:=by
 refine⟨g,λw0 I0 vs k l b m=>?_⟩;obtain⟨n,o⟩:=m;have p:vs.size=1:=by simpa using n
 obtain⟨v,rfl⟩:∃v,vs=#[v]:=⟨vs[0],by
  apply yT
  .simp[p]
  .intro j c d;have:j=0:=M;subst this;rfl⟩
 have hv:=o 0 v _ rfl rfl;obtain⟨A,rfl⟩:∃A,v=.slice A 0 0:=by
  generalize q:AV.gx=av at hv;cases hv with
  |gx A=>exact ⟨A,rfl⟩|_=>cases q
 refine(i A w0).mono λe' w' s=>?_;obtain⟨rfl,rfl⟩:=s;exact⟨_,I0,λ_=>Y,rfl,eL.refl (E:=E.dn a I0) k l,⟨#[],rfl,rfl,λj r t=>(by simp at t)⟩,(λj D B h=>by cases h),(λj B h=>by cases h),⟨b.hC,b.inj,λj B' c d=>by obtain ⟨x,y,z,C,_⟩:=b.bU j B' c d;exact ⟨x,y,z,C,λ⟨_,h⟩=>by cases h⟩,b.un,b.ro⟩⟩
end
end Go.Ev
