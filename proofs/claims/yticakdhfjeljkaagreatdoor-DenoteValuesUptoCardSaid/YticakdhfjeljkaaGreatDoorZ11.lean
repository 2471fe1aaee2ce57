import Derived.Sort.Row
import Derived.Sort.EncStr
import Derived.Sort.Grow
import Derived.Test.YticakdhfjeljkaaGreatDoorZ10
set_option linter.all false
set_option maxRecDepth 20000
open Option renaming some->O,none->Y
open Bool renaming true->W,false->F
noncomputable section
namespace Go.X
open Go Go.Ev
section
variable{U:cp}{α:Type}(X:gy U)(esc:Z (Nat×Nat))
noncomputable def Kr (e:Nat) (c:bT) (m d:Nat) (a b:Ty) (g:S U.C->V (bL U.C (.lP a b))) (hint:e9):S8 U α:=λkx s k=>Dc X kx esc e c s λf=>match g f with
 |some φ=>gX X kx esc (eA (e+2) c) hint ((f.put (O m) (.nF (.val (.lP a b) φ))).put (O d) .none) k|none=>Y
end
def OX(P:ai)(e:an):aa:=match P.info? e with
 |some i=>match i.zero with
  |some (.agg _)=>F|some _=>W
  |none=>F
 |none=>F
theorem uY{P:ai}{e:an}(h:OX P e=W):∃a z,P.info? e=O a/\a.zero=O z/\z.cells=#[z]:=by
 unfold OX at h;split at h
 .rename_i i hi;split at h
  .cases h
  .rename_i z b hz;refine⟨i,z,hi,hz,?_⟩;cases z<;>first|rfl|grind
  .cases h
 .cases h
section
variable{P:ai}{E:cd}{U:cp}{T:dt U.C}{X:gy U}{w0:af}{I0:aA}{n:Nat}{α:Type}{out:α}{kx:o8 U->S U.C->V α}{esc:Z (Nat×Nat)}
variable(L:cD U T)
def sn:∀{m:Nat}{c:bT},eJ n c=W->eJ n (eA m c)=W
 |0,c,h=>h|m+1,c,h=>by
  cases c with
  |seq a b=>simp only[eJ,aP]at h;exact sn (m:=m) h.2|_=>exact h
include L in
theorem Ks(v:P.follows .mixedOrders=W)(o:bJ P E T X){sB:S U.C}(w:(∃k,sB.m k=W)->E.cT=F){Zloc:AV->St->Prop}(x:∀av g,XE P E T X sB kx out av g->Zloc av g){l:Nat}{c:bT}{m d:Nat}{a b:Ty}{y:S U.C->V (bL U.C (.lP a b))}{hint:e9}
  {f i1 i2:Nat} {e:an} {o1 o2 o3:aC} {ts:Z Nat} {A:TypeInfo} {z:ag}
  (K:eA l c=.seq (.region i1 #[o1] F) (.seq (.region i2 #[o2,o3] F) (eA (l+2) c))) (R:P.info? e=O A) (a0:A.zero=O z) (b0:z.cells=#[z]) (c0:P.cellsOf e=1)
  (d0:o1.op=.alloc e) (e0:o1.dst=O m) (f0:o1.guard=Y) (g0:o2.op=.makeFunc (.func f) #[] (ts.map Operand.tmp++[Operand.tmp m]).toArray) (h0:o2.dst=O d) (i0:o2.guard=Y)
  (j0:o3.op=.store e (.tmp m) (.tmp d)) (k0:o3.dst=Y) (l0:o3.guard=Y) (m0:m<n) (n0:d<n) (o0:d≠m)
  (p0:∀C q1 φ,aU P E T X C q1->y C=O φ->∃i N,i.length=ts.length/\(∀(j t:Nat),ts[j]?=O t->t<n/\t≠m/\∃av,i[j]?=O av/\q1.r t=.val av)/\∀B,j7 P E T (.iC a b) φ (ll B f i N))
  (D:eJ n c=W):∀(s:S U.C)(k:Ex->S U.C->V α)(q:St)(Q:e7->St->Prop),bw sB s->Kr X esc l c m d a b y hint kx s k=O out->aU P E T X s q->(∀e s' g,aU P E T X s' g->bw s s'->k e s'=O out->Q (ae e) g)->nC P E w0 I0 n c Q Zloc q:=λs k q Q G h q0 r0=>by
 refine yr L v o w x l c s _ q Q D G h q0 λs' g H I p=>?_;split at p
 .rename_i φ s0;obtain⟨i,N,t0,u0,x0⟩:=p0 s' g φ H s0;rw[K];refine Kq R a0 b0 c0 d0 e0 f0 g0 h0 i0 j0 k0 l0 m0 n0 o0 t0 u0 N λB=>?_;have y0:=(H.put (O m) (r:=.nF (.val (.lP a b) φ)) (u:=.val (ll B f i N)) (CU (ty:=.iC a b) (x0 B))).put (O d) (r:=.none) (u:=.none) (.none _);have J:bw s' ((s'.put (O m) (.nF (.val (.lP a b) φ))).put (O d) .none):=(bi _ _).trans (bi _ _);exact kk L o w (kl L v o) x _ hint _ k _ Q (sn D) (G.trans (I.trans J)) p y0 λe s2 A0 B0 C0 D0=>r0 e s2 A0 B0 ((I.trans J).trans C0) D0
 .cases p
end
end Go.X
namespace Go.Ev
open Go
variable{a:Nat->V Ob}{u:Nat->aa}{i:Nat}
theorem mX.pF {P:ai} {E:cd} {w0 w w':af} {I:aA} {T:Nat->Prop} (h:mX P E w0 w I a u T) {B:Nat} {x:Ob} (hi:a i≠.none) (n:I.ar i=O B) (G:dK w w' I I)
  (o:∀k,k<w.heap.size->k≠B->w'.heap[k]?=w.heap[k]?) (hsz:w.heap.size<=w'.heap.size) (r:pM P w' I B x) (s:∀b,b<w.heap.size->E.cf w' b->E.cf w b) (t:∀j,E.ro j=.none):mX P E w0 w' I (b8 a i (O x)) u T:=by
 have d:∀j,b8 a i (O x) j≠.none->a j≠.none:=λj g=>by grind [aO]
 refine⟨λj y l=>?_,λj m B' c f=>h.inj j m B' (d j c) (d m f),λj B' g p=>?_,h.un,λj x h=>(by grind)⟩
 .by_cases e:j=i;simp_all
  .rw[aO _ _ e]at l;obtain⟨B',c,f⟩:=h.h7 j y l;have q:B'≠B:=λe'=>e (h.inj j i B' (by grind) hi c (by rw[n,e']));exact⟨B',c,f.eP G (o B' (h.bR j B' (by grind) c).2.1 q)⟩
 .obtain ⟨q1,v,z,A,C⟩:=h.bR j B' (d j g) p
  grind
section
open Go.RowKit Go.Sort Go.Proofs
def ln(ss:Z (Z bc)):Z (Z bc):=ss.mergeSort λx y=>decide (x<=y)
abbrev AZ(s:Z bc):AV:=.fl (bs s)
variable{P:ai}{E:cd}{f:bH}
theorem MU(Q:Enters P f)
  (R:∀(y cap:Nat)(ss:Z (Z bc))(w:af),Holds encStr w y 0 ss.toArray->y<w.heap.size->ss.length<4611686018427387904->Calls P f #[.slice (O ⟨y,0,Y⟩) ss.length cap] w λe w'=>e=.returned (.tuple #[])/\∃n os,w'=grow (putRow encStr (Sort.ahead w n) y 0 (ln ss).toArray) os) {e:an} {ss:Z (Z bc)} (S:a i=O (.br e (ss.map AZ))) (r0:0<ss.length) (C:ss.length<4611686018427387904) (D:P.cellsOf e=1):
  ov P E f [.view i 1 ss.length] a u (.ret []) (b8 a i (O (.br e ((ln ss).map AZ)))) u:=by
 refine⟨Q,λw0 I0 vs H T I U=>?_⟩;obtain⟨s0,X⟩:=U;have t0:vs.size=1:=by grind
 obtain⟨v,rfl⟩:∃v,vs=#[v]:=⟨vs[0],by grind⟩
 have hv:=X 0 v _ rfl rfl;obtain⟨B,L,h0,a0,u0,cur,cap,hw,x0,b0,hle,c0⟩:=I.h7 i _ S;rw[iT]at hle a0;have d0:v=.slice (O ⟨B,0,Y⟩) ss.length cap:=by
  generalize e0:AV.view i 1 ss.length=av at hv;cases hv with
  |view f0 sz len B' y0 e' A0 A h B0 hs g0 C0=>grind|lE f0 sz A cap h _=>grind
  |_=>cases e0
 subst d0;obtain⟨q1,J,D0,i0,_⟩:=I.bR i B (by grind) L;have E0:∀j,(g:j<ss.length)->cur[j]?=O (encStr ss[j]):=λj g=>by
  have:=c0 j 0 (AZ ss[j]) (AZ ss[j]) (by simp[g]) rfl;rw[D,Nat.mul_one,qm]at this;have j0:=bV this;have C:j<cur.size:=by grind
  simp only[my,Rn C,gh]at j0
  grind
 have k0:Holds encStr w0 B 0 ss.toArray:=λj g=>by
  have g:j<ss.length:=by grind
  rw[dN]
  grind [World.cell?,World.frozen?]
 refine(R B cap ss w0 k0 J C).mono λe' w' l0=>?_;obtain⟨rfl,n,os,rfl⟩:=l0;have g0:B<w0.heap.size:=J;obtain⟨d,q⟩:∃d,grow (putRow encStr (Sort.ahead w0 n) B 0 (ln ss).toArray) os=d:=⟨_,rfl⟩
 rw[q];have G0:d.heap=w0.heap.modify B (onCells (putCells encStr 0 (ln ss).toArray))++os:=by rw[<-q];rfl
 have hsz:w0.heap.size<=d.heap.size:=by grind
 have m0:∀k,k<w0.heap.size->d.heap[k]?=if B=k then(w0.heap[k]?).map (onCells (putCells encStr 0 (ln ss).toArray))else w0.heap[k]?:=λk l=>by grind
 have K:∀k,k<w0.heap.size->k≠B->d.heap[k]?=w0.heap[k]?:=λk l H0=>by grind
 have n0:d.heap[B]?=O (.cells (putCells encStr 0 (ln ss).toArray cur) e (0,0)):=by rw[m0 B J,aq rfl,hw];rfl
 have J0:(putCells encStr 0 (ln ss).toArray cur).size=cur.size:=by simp[putCells]
 have N:∀B',gZ w0 d B':=λB' c t K0 m=>by grind
 have G:dK w0 d I0 I0:=.world (λp v L0 hv=>by grind [dn]) N;have hs:ee (E.bX a I0) w0 I0 d I0:=(ee.refl (E:=E.bX a I0) H T).step (by rw[<-q];rfl) (by rw[<-q];rfl) (by rw[<-q];rfl) hsz (λk=>k=B) (λk l o0=>K k l o0) (λk l=>by grind) N (λ_ h=>h) rfl (λ_ h=>.inl h);have p0:∀b,E.cf d b->E.cf w0 b:=(E.iU w0 d H λb z=>K b (E.lt w0 b H z) (λe'=>i0 (e'▸z))).2;have N0:(ln ss).length=ss.length:=by simp[ln]
 refine⟨_,I0,λ_=>Y,rfl,hs,⟨#[],rfl,rfl,λj r g=>(by simp at g)⟩,(λj P0 B h=>by cases h),(λj B h=>by cases h),?_⟩;have:=I.pF (w':=d) (x:=.br e ((ln ss).map AZ)) (by grind) L G K hsz ⟨h0,by grind,λj x o=>?_,_,cap,n0,by grind,b0,by grind,λj k x c o m=>?_⟩ (λb _ z=>p0 b z) (λ_=>rfl)
 grind
 .obtain ⟨s,_,rfl⟩:=gC.1 (bW o);exact⟨D.symm,λc m=>by simp[AV.cells]at m;subst m;rfl⟩
 .simp only[gu,c8]at o;obtain⟨s,o,rfl⟩:=o;have l:k=0/\c=AZ s:=by
   cases k with
   |zero=>simp[AV.cells]at m;grind|succ k=>simp[AV.cells]at m
  obtain⟨rfl,rfl⟩:=l;have g:j<(ln ss).length:=(cr.1 o).1;have q0:j<cur.size:=by grind
  have:(putCells encStr 0 (ln ss).toArray cur)[j]?=O (encStr s):=by
   simp only[putCells,Array.getElem?_mapIdx,Rn q0,dr]
   grind
  rw[D,Nat.mul_one,qm];simp only[my,this,gh];exact .fl _ rfl
theorem Kt(c:Enters P f)(d:∀(A:V bY)(w:af),Calls P f #[.slice A 0 0] w λe w'=>e=.returned (.tuple #[])/\w'=w):ov P E f [.hk] a u (.ret []) a u:=by
 refine⟨c,λw0 I0 vs g i b k=>?_⟩;obtain⟨s,l⟩:=k;have t:vs.size=1:=by grind
 obtain⟨v,rfl⟩:∃v,vs=#[v]:=⟨vs[0],by grind⟩
 have hv:=l 0 v _ rfl rfl;obtain⟨A,rfl⟩:∃A,v=.slice A 0 0:=by
  generalize m:AV.hk=av at hv;cases hv with
  |hk A=>grind|_=>cases m
 refine(d A w0).mono λe' w' n=>?_;obtain⟨rfl,rfl⟩:=n;exact⟨_,I0,λ_=>Y,rfl,ee.refl (E:=E.bX a I0) g i,⟨#[],rfl,rfl,λj r o=>(by simp at o)⟩,(λj x B h=>by cases h),(λj B h=>by cases h),⟨b.h7,b.inj,λj B' p q=>by obtain ⟨y,z,C,D,_⟩:=b.bR j B' p q;grind,b.un,b.ro⟩⟩
end
end Go.Ev
namespace Go.X
open Go Go.Ev
section
variable{U:cp}{α:Type}(X:gy U)(kx:o8 U->S U.C->V α)(esc:Z (Nat×Nat))
noncomputable def nM:Z e9->bT->S U.C->(S U.C->V α)->(S U.C->V α)->V α
 |[],_,s,_,k=>k s|h::d,.seq a b,s,c,k=>gX X kx esc a h s λe s'=>match e with
  |.normal=>nM d b s' c k|.ret=>c s'
  |_=>Y
 |_::_,_,_,_,_=>Y
end
section
variable{U:cp}{α:Type}(X:gy U)(esc:Z (Nat×Nat))
noncomputable def Us (f:Z e9) (c:bT) (m d:Nat) (a b:Ty) (g:S U.C->V (bL U.C (.lP a b))) (hint:e9):S8 U α:=λkx s k=>nM X kx esc f c s (λe=>k .ret e) λe=>match g e with
 |some φ=>gX X kx esc (eA (f.length+2) c) hint ((e.put (O m) (.nF (.val (.lP a b) φ))).put (O d) .none) k|none=>Y
end
section
variable{P:ai}{E:cd}{U:cp}{T:dt U.C}{X:gy U}{w0:af}{I0:aA}{n:Nat}{α:Type}{out:α}{kx:o8 U->S U.C->V α}{esc:Z (Nat×Nat)}
variable(L:cD U T)
include L in
theorem DA(y:P.follows .mixedOrders=W)(l:bJ P E T X){sB:S U.C}(z:(∃k,sB.m k=W)->E.cT=F){Zloc:AV->St->Prop}(A:∀av d,XE P E T X sB kx out av d->Zloc av d):
  ∀(g:Z e9)(c:bT)(s:S U.C)(f k:S U.C->V α)(q:St)(Q:e7->St->Prop),eJ n c=W->bw sB s->nM X kx esc g c s f k=O out->aU P E T X s q->(∀s' d,aU P E T X s' d->bw s s'->f s'=O out->Q .ret d)->(∀s' d,aU P E T X s' d->bw s s'->k s'=O out->nC P E w0 I0 n (eA g.length c) Q Zloc d)->nC P E w0 I0 n c Q Zloc q
 |[],c,s,f,k,q,Q,i,m,h,o,p,r=>r s q o (.refl s) (by cases c<;>exact h)
 |t::g,c,s,f,k,q,Q,i,m,h,o,p,r=>by
  cases c with
  |seq a b=>
   simp only[eJ,aP]at i;have h:gX X kx esc a t s (λe s'=>match e with
    |.normal=>nM X kx esc g b s' f k|.ret=>f s'
    |_=>Y)=O out:=h
   refine vP λK D=>kk L l z (kl L y l) A a t s _ q _ i.1 m h o λe s' d B j C=>?_;cases e with
   |normal=>exact D d (DA y l z A g b s' f k d Q i.2 (m.trans j) C B (λs2 u v w x=>p s2 u v (j.trans w) x) λs2 u v w x=>r s2 u v (j.trans w) x)|exit id=>grind
   |ret=>exact p s' d B j C
  |_=>cases h
include L in
theorem QH(x:P.follows .mixedOrders=W)(w:bJ P E T X){sB:S U.C}(y:(∃k,sB.m k=W)->E.cT=F){Zloc:AV->St->Prop}(A:∀av g,XE P E T X sB kx out av g->Zloc av g){l:Z e9}{c:bT}{m d:Nat}{a b:Ty}{C:S U.C->V (bL U.C (.lP a b))}{hint:e9}
  {f i1 i2:Nat} {e:an} {o1 o2 o3:aC} {ts:Z Nat} {D:TypeInfo} {z:ag}
  (R:eA l.length c=.seq (.region i1 #[o1] F) (.seq (.region i2 #[o2,o3] F) (eA (l.length+2) c))) (a0:P.info? e=O D) (b0:D.zero=O z) (c0:z.cells=#[z]) (d0:P.cellsOf e=1)
  (e0:o1.op=.alloc e) (f0:o1.dst=O m) (g0:o1.guard=Y) (h0:o2.op=.makeFunc (.func f) #[] (ts.map Operand.tmp++[Operand.tmp m]).toArray) (i0:o2.dst=O d) (j0:o2.guard=Y)
  (k0:o3.op=.store e (.tmp m) (.tmp d)) (l0:o3.dst=Y) (m0:o3.guard=Y) (n0:m<n) (o0:d<n) (p0:d≠m)
  (q0:∀G q1 φ,aU P E T X G q1->C G=O φ->∃i N,i.length=ts.length/\(∀(j t:Nat),ts[j]?=O t->t<n/\t≠m/\∃av,i[j]?=O av/\q1.r t=.val av)/\∀B,j7 P E T (.iC a b) φ (ll B f i N))
  (H:eJ n c=W):∀(s:S U.C)(k:Ex->S U.C->V α)(q:St)(Q:e7->St->Prop),bw sB s->Us X esc l c m d a b C hint kx s k=O out->aU P E T X s q->(∀e s' g,aU P E T X s' g->bw s s'->k e s'=O out->Q (ae e) g)->nC P E w0 I0 n c Q Zloc q:=λs k q Q I h r0 J=>by
 refine DA L x w y A l c s _ _ q Q H I h r0 (λs' g o p v=>J .ret s' g o p v) λs' g o p v=>?_;split at v
 .rename_i φ s0;obtain⟨i,N,t0,u0,x0⟩:=q0 s' g φ o s0;rw[R];refine Kq a0 b0 c0 d0 e0 f0 g0 h0 i0 j0 k0 l0 m0 n0 o0 p0 t0 u0 N λB=>?_;have y0:=(o.put (O m) (r:=.nF (.val (.lP a b) φ)) (u:=.val (ll B f i N)) (CU (ty:=.iC a b) (x0 B))).put (O d) (r:=.none) (u:=.none) (.none _);have K:bw s' ((s'.put (O m) (.nF (.val (.lP a b) φ))).put (O d) .none):=(bi _ _).trans (bi _ _);exact kk L w y (kl L x w) A _ hint _ k _ Q (sn H) (I.trans (p.trans K)) v y0 λe s2 A0 B0 C0 D0=>J e s2 A0 B0 ((p.trans K).trans C0) D0
 grind
end
def Gp{C:Nat->Type}:R C->aa
 |.val (.int _) _|.val .bool _|.val .str _=>W|.bF _ []=>W
 |_=>F
section
variable{U:cp}{α:Type}
def S.Ea (s:S U.C) (d:Nat) (t:Ty) (rs:Z (R U.C)) (K:S U.C->V α):V α:=bif fD t&&Nat.beq (bB U D t) rs.length then s.new d (.cells t rs) λs=>K (s.put (O d) (.dT d 0))else Y
def Gq{C:Nat->Type}(k:Nat):R C->aa
 |.it k'=>Nat.beq k' k|_=>F
end
section
variable{P:ai}{E:cd}{U:cp}{T:dt U.C}{X:gy U}{w0:af}{I0:aA}{n:Nat}{α:Type}{out:α}{kx:o8 U->S U.C->V α}{esc:Z (Nat×Nat)}
variable(L:cD U T)
theorem Vb{C:Nat->Type}{k:Nat}{r:R C}(h:Gq k r=W):r=.it k:=by
 unfold Gq at h
 grind [cC]
theorem Lm{bx:Z (Nat×Nat×B U.C)}{g:Nat->Nat}{tick:Nat}{r:R U.C}{c:cH}(h:bA P E T bx g tick r c)(p:Gp r=W):
  (∀(bx:Z (Nat×Nat×B U.C))(g:Nat->Nat)(tick:Nat)(E':cd),bA P E' T bx g tick r c)/\∀(v:ag)(w:af)(I:aA)(be:Nat->V Nat)(b:Nat->V Bx)(g:Nat->Nat),bU P w I be b g v c->∀w I be b g,bU P w I be b g v c:=by
 have l:∀(t:Ty)(x:bL U.C t),fD t=W->(∃v,enc T t x=.fl v)->r=.val t x->(∀(bx:Z (Nat×Nat×B U.C))(g:Nat->Nat)(tick:Nat)(E':cd),bA P E' T bx g tick r c)/\∀(v:ag)(w:af)(I:aA)(be:Nat->V Nat)(b:Nat->V Bx)(g:Nat->Nat),bU P w I be b g v c->∀w I be b g,bU P w I be b g v c:=λt x f y e=>by
  obtain⟨v,z⟩:=y;subst e;cases h with
  |val _ _ _ av q hv=>
   have:=gm hv f;subst this;rw[z]at q;have s:c=.val (.fl v):=dk q;subst s;refine⟨λbx g tick E'=>.val t x _ _ (by grind) (eg f),λu w I be b g h w' I' C b' g'=>?_⟩;have h:cy w I u (.fl v):=h;show cy w' I' u (.fl v);cases h with
   |fl _ d=>exact .fl _ d
 unfold Gp at p;split at p
 .rename_i k x;exact l _ _ rfl ⟨_,rfl⟩ rfl
 .rename_i x;exact l _ _ rfl ⟨_,rfl⟩ rfl
 .rename_i x;exact l _ _ rfl ⟨_,rfl⟩ rfl
 .rename_i t;generalize m:(R.bF t []:R U.C)=r at h;cases h with
  |bF G xs f=>
   cases m;refine⟨λbx g tick E'=>.bF t [] f,λv w I be b g h w' I' C b' g'=>?_⟩;obtain⟨d,A,D⟩:=h;subst D;refine⟨?_,A,rfl⟩;cases A with
   |none=>exact .fc 0|some a=>
    have d:cy w I (.slice (O a) 0 0) (.sl []):=d;show cy w' I' (.slice (O a) 0 0) (.sl []);cases d with
    |sl a n cap sz xs H J K L hsz s N m=>exact .sl a 0 0 sz [] (λ_ _=>undef) rfl aH M (λi x o=>by grind) (λi j x c o=>by grind) (λi j x c o=>by grind) λi j x c o=>by grind
  |_=>cases m
 grind
structure sH(P:Program)(U:cp)(T:dt U.C)(o:Obj)(rs:List (R U.C)):Prop where
 is:∃cur te cs,o=.cells cur te (0,0)/\cur.size=cs.length/\(∀(E:cd)(bx:List (Nat×Nat×B U.C))(g:Nat->Nat)(tick:Nat),eC P E T bx g tick rs cs)/\∀(j:Nat)(c:cH),cs[j]?=O c->∀w I be b g,bU P w I be b g (cur.getD j undef) c
theorem IJ{s:S U.C}{q:St}{a:Act}{w:af}{I:aA}{be:Nat->V Nat}(h:aJ P E w0 I0 n q a w I be)(f:aU P E T X s q){d:Nat}(y:d<n){t:Ty}{rs:Z (R U.C)}(k:s.box d=O (.cells t rs))(z:s.bG d=.dT d 0)(l:rs.all Gp=W):
  ∃B o,a.tmps.getD d undef=.pointer (O ⟨B,0,Y⟩)/\w.heap[B]?=O o/\sH P U T o rs/\be d=O B/\q.b d≠Y:=by
 obtain⟨_,J,cs,A,b⟩:=f.cells k;obtain⟨B,cur,te,m,hw,hsz,C⟩:=h.bD d _ A;have p:=f.ct d;rw[z]at p;have D:=jN f p k;have e:=h.ct d y;rw[D]at e;obtain⟨_,e⟩:=e;obtain⟨B',u,hv⟩:=e rfl (by grind);rw[m]at u;cases u;refine⟨B,_,by grind,hw,⟨cur,te,cs,rfl,hsz,λE' bx g tick=>⟨b.1,λi r c v G=>?_⟩,λj c x=>?_⟩,m,by grind⟩
 .exact (Lm (b.2 i r c v G) (di.1 l r (bW v))).1 bx g tick E'
 .have H:j<rs.length:=by rw[b.1];grind
  exact(Lm (b.2 j rs[j] c (by grind) x) (di.1 l _ (fR H))).2 _ _ _ _ _ _ (C j c x)
include L in
theorem vq(d0:P.follows .mixedOrders=W)(u:bJ P E T X){sB:S U.C}(e0:(∃k,sB.m k=W)->E.cT=F){R:Exit->Act->af->Prop}
  (f0:∀av v q a w I be,XE P E T X sB kx out av q->aJ P E w0 I0 n q a w I be->cy w I v av->R (.panic [{v:=v,recovered:=F}]) a w):
  ∀(j:Z e9)(c:bT)(s:S U.C)(f k:S U.C->V α)(q:St)(a:Act)(w:af),eJ n c=W->bw sB s->nM X kx esc j c s f k=O out->aU P E T X s q->ko P E w0 I0 n q a w->(∀s' p a' w',aU P E T X s' p->bw s s'->f s'=O out->ko P E w0 I0 n p a' w'->R .ret a' w')->(∀s' p a' w',aU P E T X s' p->bw s s'->k s'=O out->ko P E w0 I0 n p a' w'->(eA j.length c).wp P R a' w')->c.wp P R a w
 |[],c,s,f,k,q,a,w,r,y,h,z,A,B,C=>C s q a w z (.refl s) (by cases c<;>exact h) A
 |t::j,c,s,f,k,q,a,w,r,y,h,z,A,B,C=>by
  cases c with
  |seq g0 D=>
   simp only[eJ,aP]at r;have h:gX X kx esc g0 t s (λe s'=>match e with
    |.normal=>nM X kx esc j D s' f k|.ret=>f s'
    |_=>Y)=O out:=h
   have h0:=kk (w0:=w0) (I0:=I0) L u (sB:=sB) e0 (kl L d0 u) (Zloc:=λav q=>XE P E T X sB kx out av q) (λ_ _ h=>h) g0 t s _ q
    (λe d=>∃e' b,e=ae e'/\aU P E T X b d/\bw s b/\(match e' with
      |.normal=>nM X kx esc j D b f k|.ret=>f b
      |_=>Y)=O out) r.1 y h z (λe' b d m1 m2 m=>⟨e',b,rfl,m1,m2,m⟩)
   refine kT (pB (h0 a w A) λe G H o=>?_);cases e with
   |normal=>
    obtain⟨d,i,e',b,g,m1,m2,m⟩:=o;cases e' with
    |normal=>exact vq d0 u e0 f0 j D b f k d G H r.2 (y.trans m2) m m1 i (λs2 J K N Q a0 b0 c0=>B s2 J K N Q (m2.trans a0) b0 c0) λs2 J K N Q a0 b0 c0=>C s2 J K N Q (m2.trans a0) b0 c0|exit id=>grind
    |ret=>cases g
   |exit id=>
    obtain⟨d,i,e',b,g,m1,m2,m⟩:=o;cases e' with
    |normal=>cases g
    |exit id=>grind|ret=>cases g
   |goto l=>obtain⟨d,i,e',b,g,_⟩:=o;cases e'<;>cases g
   |ret=>
    obtain⟨d,i,e',b,g,m1,m2,m⟩:=o;cases e' with
    |normal=>cases g
    |exit id=>grind|ret=>exact B b d G H m1 m2 m i
   |panic m0=>obtain⟨x,v,d,i0,j0,rfl,k0,i,l0⟩:=o;exact f0 x v d G H i0 j0 k0 i l0|outgrown=>exact o.elim
  |_=>cases h
end
end Go.X
