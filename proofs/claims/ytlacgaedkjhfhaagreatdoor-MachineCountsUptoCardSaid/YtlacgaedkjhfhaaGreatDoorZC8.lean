import Derived.Test.YtlacgaedkjhfhaaGreatDoorZC7
set_option linter.all false
open Option renaming some->O,none->Y
open Bool renaming true->W,false->F
namespace Go.X
open Go Go.Ev
variable{α:Type}{n m N:Nat}{b:tl}{i a:Int}{p:Prop}
def OE:F4->F4
 |.seq a _=>a|c=>c
def Gs:F4->F4
 |.seq _ b=>b|c=>c
section
variable{P:qK}{E:cm}{U:cg}{T:dm U.C}{X:gj U}
def Rm{bx:Z (Nat×Nat×B U.C)}{g:Nat->Nat}{tick:Nat}{k:Pv}{n:Int}{q:cy}(h:bC P E T bx g tick (.val (.int k) n) q):q=.val (.fl (.int k n)):=by
 cases h with
 |val t x q av a h=>rw[fW h rfl]at a;exact dF a
def xx{U:cg}(ps:Z Ty)(x:HL U.C ps)(h:U.C 0):S U.C:={r:=mq ps 0 x,b:=[],tick:=1,h:=h,m:=λ_=>F}
def K8{ps:Z Ty}{x:HL U.C ps}{a:Z AV}(h:fy P E T ps x a)(h0:U.C 0):a.length=ps.length/\aX P E.plain T X (xx ps x h0) (entry a):=by
 have b:=vH (bx:=[]) (g:=λ_=>0) (tick:=1) ps 0 x a (jX lN h);refine⟨b.1,λt=>?_,λd=>trivial,λt st y c=>?_,(λd st y c=>by cases c),(λk _ i=>by cases i),rfl⟩
 .have:=b.2.2 t;rw[S.gA];rw[aj (dS _),oA]at this;simp only[xx];cases f:aB (mq ps 0 x) t with
  |none=>rw[f]at this;exact this|some e=>rw[f]at this;exact this
 .have:=b.2.1 t st y c;subst this;exact Nat.zero_lt_one
def OF{args:Z AV}{vs:Array Jz}{w0:zI}{I0:aD}(c:E.h5 w0)(e:∀p,I0 p->p.block<w0.heap.size/\¬E.cB w0 p.block)(b:k8 w0 I0 vs.toList args)(g:args.length<=n):
  gi P E.plain w0 I0 n (entry args) {tmps:=vs++Array.replicate (n-vs.size) undef,defers:=[]} w0:=by
 have i:vs.size=args.length:=by simpa using b.1
 refine⟨I0,λ_=>Y,?_⟩;exact⟨eL.refl (E:=E.plain) c e,cM,.nil,λt j=>tz b t,λd x f=>by simp[entry]at f,λd d' B a=>by simp[entry]at a,λd B a=>by simp[entry]at a,λd B h=>(by cases h),my.none λ_=>rfl⟩
end
section
variable{α β σ τ:Type}
def nz(l:Z α)(i:Nat):aR l (i:Int)=l[i]?:=by simp[aR]
def mK{l:Z α}{i:Nat}(h:i<l.length):aR l (i:Int)=O l[i]:=by rw[nz];simp[h]
def fX(h:b=W):cR b=O ():=by simp[cR,h]
def fG{x:Int}(a:-9223372036854775808<=x)(b:x<=9223372036854775807):IntKind.i64.wrap x=x:=DH a b
def rL{i:Nat}(h:i<4611686018427387904):IntKind.i64.wrap ((i:Int)+1)=((i+1:Nat):Int):=by rw[DH M M];rfl
def Es(a:V α):both a a=a:=by simp[both]
def Nf{b:Nat}(h1:n<=maxLen)(a:n*b<=m):cE b n m=W:=by simp[cE,h1,a]
def O2{A:Type}{step:A->σ->(σ->V β)->V β}{done:σ->V β}{r:β}(I:Z A->σ->Prop)
  (b:∀st,I [] st->done st=O r) (c:∀left st i x,I left st->left[i]?=O x->∃st',I (left.eraseIdx i) st'/\∀k,step x st k=k st'):
  ∀(n:Nat)(left:Z A)(st:σ),left.length=n->I left st->kC step done n left st=O r
 |0,left,st,h,a=>by obtain rfl:=nQ h;exact b st a|n+1,left,st,h,a=>by show ny left.length (λi=>(left[i]?).bind λx=>step x st λst'=>kC step done n (left.eraseIdx i) st')=O r;refine Iz M λi hi=>?_;have d:left[i]?=O left[i]:=bS hi;obtain⟨st',h1,e⟩:=c left st i _ a d;rw[d,aM,e];exact O2 I b c n _ st' (by rw[List.length_eraseIdx_of_lt hi];omega) h1
end
section
variable{β γ:Type}
def tZ(x:cI):c7 x x=W:=by simp[c7]
def vV{x y:cI}(h:x≠y):c7 x y=F:=by simpa[c7]using h
def Gt{l:Z (cI×γ)}{k:cI}:a8 c7 l k=Y↔∀e∈l,e.1≠k:=by
 induction l with
 |nil=>simp[a8]|cons e l c=>
  obtain⟨a,v⟩:=e;by_cases h:k=a
  .subst h;simp[a8,tZ]
  .simp only[a8,vV h,bq,c,cT,forall_eq_or_imp];exact⟨λb=>⟨λe=>h e.symm,b⟩,λb=>b.2⟩
def B6{l:Z (cI×γ)}{k:cI}{v:γ}(h:a8 c7 l k=Y):eX c7 l k v=l++[(k,v)]:=by
 induction l with
 |nil=>rfl|cons e l b=>
  obtain⟨a,w⟩:=e;by_cases e:k=a
  .subst e;simp[a8,tZ]at h
  .simp only[a8,vV e,bq]at h;simp only[eX,vV e,bq,b h,qR]
end
def T{α:Type}(o:V α)(P:α->Prop):Prop:=∃r,o=O r/\P r
section
variable{α β σ τ:Type}
def ag{r:α}{P:α->Prop}(h:P r):T (O r) P:=⟨r,rfl,h⟩
def aF{o:V α}{Q:α->Prop}{k:α->V β}{P:β->Prop}(h:T o Q)(a:∀r,Q r->T (k r) P):T (o.bind k) P:=by obtain⟨r,b,c⟩:=h;rw[b];exact a r c
def ap{o:V α}{Q:α->Prop}{k:α->V β}{P:β->Prop}(h:T o Q)(b:∀r,o=Option.some r->Q r->T (k r) P):T (o.bind k) P:=by obtain⟨r,a,c⟩:=h;rw[a];exact b r a c
def fh{v:α}{k:α->V β}{P:β->Prop}(h:T (k v) P):T ((Option.some v).bind k) P:=h
def dr{o:V α}{P Q:α->Prop}(h:T o P)(a:∀r,P r->Q r):T o Q:=by obtain⟨r,b,c⟩:=h;exact⟨r,b,a r c⟩
def ao{x y:V α}{P:α->Prop}(a:b=W->T x P)(c:b=F->T y P):T (cond b x y) P:=by
 cases b
 .exact c rfl
 .exact a rfl
def bY{k:xW->V β}{P:β->Prop}(h:b=W)(a:T (k ()) P):T ((cR b).bind k) P:=by rw[fX h];exact a
def aH{l:Z α}{k:α->V β}{P:β->Prop}(h0:0<=i)(b:i<(l.length:Int))(a:∀x,x∈l->l[i.toNat]?=Option.some x->T (k x) P):T ((aR l i).bind k) P:=by obtain⟨n,rfl⟩:=lG h0;have h:n<l.length:=M;have e:aR l (n:Int)=Option.some l[n]:=mK h;rw[e];exact a _ (gw h) (by simp[h])
def ZP{l:Z α}{i:Nat}{k:α->V β}{P:β->Prop}(a:i<l.length)(b:∀x,x∈l->l[i]?=Option.some x->T (k x) P):T ((l[i]?).bind k) P:=by have e:l[i]?=Option.some l[i]:=bS a;rw[e];exact b _ (gw a) e
def oG{ε β γ:Type}{r:Except ε β}{f:ε->V γ}{g:β->V γ}{P:γ->Prop}(a:∀e,r=.error e->T (f e) P)(b:∀y,r=.ok y->T (g y) P):T (zd r f g) P:=by
 cases r with
 |error e=>exact a e rfl|ok y=>exact b y rfl
def ep{h:σ}{k:σ->V α}{P:α->Prop}(a:T (k h) P):T (bw h k) P:=a
def az{J:σ->V α}{a:(σ->V α)->V α}{P:α->Prop}(R:σ->Prop)(b:∀J:σ->V α,(∀x,R x->T (J x) P)->T (a J) P)(c:∀x,R x->T (J x) P):T (aS J a) P:=b J c
def aP{f:(σ->V β)->σ->V β}{s:σ}{P:β->Prop}(I:σ->Prop)(μ:σ->Nat)(h0:I s)(c:μ s<N)
  (step:∀(rec:σ->V β) s,I s->(∀s',I s'->μ s'<μ s->T (rec s') P)->T (f rec s) P):T (aZ f N s) P:=by
 induction N generalizing s with
 |zero=>omega|succ N a=>exact step _ s h0 λs' b d=>a b M
def ib{l:Z α}(h0:0<=i)(a:i<(l.length:Int)):∃x,aR l i=Option.some x/\x∈l/\l[i.toNat]?=Option.some x:=by obtain⟨n,rfl⟩:=lG h0;have h:n<l.length:=M;exact⟨_,mK h,gw h,by simp[h]⟩
def pn{l:Z α}(h:l.length*n<=140737488355328)(a:l.length<=1152921504606846976):
  T (bif l.isEmpty then both (Option.some []) ((cR (cE n (0+l.length) 140737488355328)).bind λ_=>Option.some (([]:Z α)++l))else(cR (cE n (0+l.length) 140737488355328)).bind λ_=>Option.some (([]:Z α)++l)) (λr=>r=l):=by
 have b:cR (cE n (0+l.length) 140737488355328)=Option.some ():=fX (Nf (by rw[cX];exact fk a cd) (by simpa using h));rw[b];cases l with
 |nil=>exact ⟨[],Es _,rfl⟩|cons x l=>exact ⟨x::l,rfl,rfl⟩
end
def dG{b:Nat}(h:n*b<=m)(a:n<=1152921504606846976):cE b n m=W:=Nf (fk a cd) h
section
variable{β:Type}{x y:V β}{P:β->Prop}
def a7{b:Int}(c:a<b->T x P)(d:b<=a->T y P):T (cond (decide (a<b)) x y) P:=ao (λh=>c (di h)) λh=>d (iB.mp (qY h))
def ht{b:Int}(c:a<=b->T x P)(d:b<a->T y P):T (cond (decide (a<=b)) x y) P:=ao (λh=>c (di h)) λh=>d (x6.mp (qY h))
def aO[BEq α][LawfulBEq α]{a b:α}(c:a=b->T x P)(d:¬a=b->T y P):T (cond (a==b) x y) P:=ao (λh=>c (eq_of_beq h)) λh=>d (ic.mp h)
def ba[BEq α][LawfulBEq α]{a b:α}(c:¬a=b->T x P)(d:a=b->T y P):T (cond (!(a==b)) x y) P:=ao (λh=>c (ic.mp (by simpa using h))) λh=>d (by simpa using h)
def bZ(a:b=F->T x P)(c:b=W->T y P):T (cond (!b) x y) P:=ao (λh=>a (by simpa using h)) λh=>c (by simpa using h)
def se{l:Z α}{G:Prop}(h0:0<=i)(d:i<(l.length:Int))(e:∀x,aR l i=Option.some x->x∈l->l[i.toNat]?=Option.some x->G):G:=by obtain⟨x,a,b,c⟩:=ib h0 d;exact e x a b c
end
def ahd(h:p:=by simp (disch:=omega)only[fG]at*;omega):p:=h
def jJ(h:p:=by simp (disch:=omega) [fG,dG]at*;omega):p:=h
def Rn(h:p:=by simp (disch:=omega) [fG,dG]at*):p:=h
def aho{r:α}{P:α->Prop}(h:P r:=by trivial):T (O r) P:=⟨r,rfl,h⟩
def ahq{σ:Type}{J:σ->V α}{a:(σ->V α)->V α}{P:α->Prop}(b:∀J:σ->V α,(∀x,T (J x) P)->T (a J) P)(c:∀x,T (J x) P):T (aS J a) P:=b J c
def ahp{τ β:Type}{f:(Int×τ->V β)->Int×τ->V β}{t:τ}{P:β->Prop}(L:Int)(step:∀(rec:Int×τ->V β) i t,0<=i->i<=L->(∀x:Int×τ,0<=x.1/\x.1<=L->(L-x.1).toNat<(L-i).toNat->T (rec x) P)->T (f rec (i,t)) P)(h0:0<=i/\i<=L:=by omega)(b:(L-i).toNat<N:=by omega):T (aZ f N (i,t)) P:=aP (λs=>0<=s.1/\s.1<=L) (λs=>(L-s.1).toNat) h0 b λrec s a c=>step rec s.1 s.2 a.1 a.2 c
def bt(h:p:=by dsimp only;simp (disch:=omega)only[fG]at*;omega):p:=h
end Go.X
namespace Go.Proofs.Mo
open Go Go.Ev Go.X
inductive jK(K:Type)where
 |gd (e:Int)
 |ok (c:Int) (k:K)
section
variable{K:Type}{fin:K->tl}{pX:K->jK K}
def runK(fin:K->tl)(pX:K->jK K):Nat->Int->Int->K->V (jK K)
 |0,_,_,_=>Y|n+1,f,s,k=>bif fin k then O (.ok s k)else match pX k with
  |.gd e=>O (.gd e)|.ok c k'=>bif decide (f-s<c)then O (.gd 100)else runK fin pX n f (s+c) k'
def xy{r:jK K}:∀{n m:Nat}{f s:Int}{k:K},runK fin pX n f s k=O r->n<=m->runK fin pX m f s k=O r
 |0,_,_,_,_,h,_=>by cases h
 |n+1,0,_,_,_,_,h=>M|n+1,m+1,f,s,k,h,b=>by
  unfold runK at h⊢;cases a:fin k with
  |true=>rw[a]at h;exact h|false=>
   rw[a]at h;simp only[bq]at h⊢;cases hi:pX k with
   |gd e=>rw[hi]at h;exact h|ok c k'=>
    rw[hi]at h;simp only at h⊢;cases hc:decide (f-s<c)with
    |true=>rw[hc]at h;exact h|false=>rw[hc]at h;exact xy (n:=n) h M
def nA{r c:jK K}{n m:Nat}{f s:Int}{k:K}(h:runK fin pX n f s k=O r)(h':runK fin pX m f s k=O c):r=c:=by have a:=xy h (Nat.le_max_left n m);have b:=xy h' (Nat.le_max_right n m);rw[a]at b;exact cr b
variable(hc:∀k c k',pX k=.ok c k'->0<=c)
include hc
theorem Gu:∀{n:Nat}{f s:Int}{k:K}{t:Int}{b:K},s<=f->runK fin pX n f s k=O (.ok t b)->
  s<=t/\t<=f/\fin b=W/\∀a,(t<=a->runK fin pX n a s k=O (.ok t b))/\(s<=a->a<t->runK fin pX n a s k=O (.gd 100))
 |0,_,_,_,_,_,_,h=>by cases h
 |n+1,f,s,k,t,b,hs,h=>by
  unfold runK at h⊢;cases d:fin k with
  |true=>rw[d]at h;simp only[bf,ax,jK.ok.injEq]at h⊢;obtain⟨rfl,rfl⟩:=h;exact⟨lH _,hs,d,λa=>⟨λ_=>⟨rfl,rfl⟩,λg i=>M⟩⟩|false=>
   rw[d]at h;simp only[bq]at h⊢;cases hi:pX k with
   |gd e=>rw[hi]at h;cases h
   |ok c k'=>
    rw[hi]at h;have h0:=hc k c k' hi;simp only at h⊢;by_cases j:f-s<c
    .rw[jg j]at h;cases h
    .rw[kd j]at h;obtain⟨o,a2,a3,l⟩:=Gu M h;refine⟨M,a2,a3,λa=>⟨λg=>?_,λg i=>?_⟩⟩
     .rw[kd M];exact (l a).1 g
     .by_cases m:a-s<c
      .rw[jg m];rfl
      .rw[kd m];exact (l a).2 M i
end
end Go.Proofs.Mo
namespace Go.Ev
open Go
def oH(B:Nat)(f:JC)(caps:Z AV):Nat->AV
 |0=>.fl (.pointer (O ⟨B,0,Y⟩))|k+1=>.ref [.fn f (caps++[oH B f caps k])]
section
variable{P:qK}{E:cm}{w0:zI}{I0:aD}{n:Nat}{s:St}{a:Act}{w w':zI}{I:aD}{be:Nat->V Nat}
def aL.acF (h:aL P E w0 I0 n s a w I be) (o:Obj):aL P E w0 I0 n s a (w.alloc o) (I.plus λp=>p.block=w.heap.size) be:=by
 obtain⟨c,D,⟨j,k,G,l,m⟩,H,q⟩:=h.fresh (w':=w.alloc o) (o:=o) rfl rfl rfl rfl;have d:∀d',s.g d'<s.g d'∨(s.g d'=s.g d'/\ff P (w.alloc o) (w.alloc o) be be s.b s.b d'):=λd'=>.inr ⟨rfl,λh=>⟨h,rfl⟩,λ_ _ _ h=>h⟩;refine⟨c.since.step (w':=w.alloc o) rfl rfl rfl (a6 _) (λ_=>False) (λ_ _ _=>rfl) (λ_ r=>r.elim) (gh.refl _) (λ_ h=>.inl h) rfl ?_,c.size,c.defers.mono (.plus _ _ _),
  λt u=>(c.cu t u).cK (.plus _ _ _) d,λd' x v=>(c.bG d' x v).cK (.plus _ _ _) d rfl (λ_ _=>rfl),c.inj,λd' B f g=>?_,c.sF,
  c.fS (.plus _ _ _) rfl (λ_=>False) (λ_ _ _ _ h=>h) (λ_ _ _=>rfl) (a6 _) (λ_ h=>h.elim) (λp b=>b.imp id λe i hi y=>q _ rfl i hi (by rw[y,e])) (λ_ h=>.inl h)⟩
 .rintro p (b|b)
  .exact .inl b
  .exact .inr ⟨by rw[b];exact j,by rw[b];exact k,by rw[b];exact l⟩
 .obtain ⟨q1,z,A,C⟩:=c.bU d' B f g;refine⟨q1,z,λp b e=>?_,C⟩;rcases b with b|b
  .exact A p b e
  .exact m d' f (by rw[g,<-e,b])
def IL{B:Nat}{f:JC}{caps:Z AV}{vs:Array Jz}{e:JA}(d:w.heap[B]?=O (.cells #[.func (.func f) #[] vs] e (0,0)))(g:∀p,p.block=B->I p)(h:vs.size=caps.length+1)
  (i:∀(j:Nat)(c:AV),caps[j]?=O c->cq w I (vs.getD j undef) c) (l:vs.getD caps.length undef=.pointer (O ⟨B,0,Y⟩)):∀k,cq w I (.pointer (O ⟨B,0,Y⟩)) (oH B f caps k)
 |0=>.fl _ rfl|k+1=>by
  have m:=IL d g h i l k;refine .ref ⟨B,0,Y⟩ _ (λ_=>.func (.func f) #[] vs) (λj c a=>?_) (λj c a=>g _ ?_) (λj c a=>?_)
  .match j,a with
   |0,_=>simp[World.cell?,Addr.add,d]|j+1,a=>simp at a
  .match j,a with
   |0,_=>simp[Addr.add]|j+1,a=>simp at a
  .match j,a with
   |0,a=>
    simp at a;subst a;refine .fn f vs _ (by simp[h]) λj c b=>?_;by_cases n:j<caps.length
    .rw[fx n]at b;exact i j c b
    .rw[im M]at b;have o:j=caps.length:=by have:=(aY.1 b).1;simp at this;omega
     subst o;simp at b;subst b;rw[l];exact m
   |j+1,a=>simp at a
def Et(w:zI)(o:Obj):(w.alloc o).heap[w.heap.size]?=O o:=by show(w.heap.push o)[w.heap.size]?=_;simp
def Gv(w:zI)(cs a:Array Jz)(e:JA):(w.alloc (.cells cs e (0,0))).setRow w.heap.size a=w.alloc (.cells a e (0,0)):=by
 have c:∀f:Obj->Obj,f (.cells cs e (0,0))=.cells a e (0,0)->(w.heap.push (.cells cs e (0,0))).modify w.heap.size f=w.heap.push (.cells a e (0,0)):=λf d=>by
  apply yT
  .simp
  .intro j g h;rw[Array.getElem_modify];simp at g;by_cases b:w.heap.size=j
   .subst b;simp[d]
   .simp[b,Array.getElem_push,(M:j<w.heap.size)]
 unfold World.setRow World.alloc;simp only;rw[c];rfl
def Ro{Q:eA->St->Prop}{Zloc:AV->St->Prop}{m d f i1 i2:Nat}{e:JA}{o1 o2 o3:JB}{ts:Z Nat}{i:Z AV}{H:F4}{J:TypeInfo}{z:Jz}
  (hz:P.info? e=O J) (a0:J.zero=O z) (b0:z.cells=#[z]) (g:P.cellsOf e=1)
  (c0:o1.op=.alloc e) (d0:o1.dst=O m) (e0:o1.guard=Y) (f0:o2.op=.makeFunc (.func f) #[] (ts.map Operand.tmp++[Operand.tmp m]).toArray) (g0:o2.dst=O d) (h0:o2.guard=Y)
  (i0:o3.op=.store e (.tmp m) (.tmp d)) (j0:o3.dst=Y) (l0:o3.guard=Y) (m0:m<n) (K:d<n) (n0:d≠m) (x:i.length=ts.length)
  (L:∀(j t:Nat),ts[j]?=O t->t<n/\t≠m/\∃av,i[j]?=O av/\s.r t=.val av)
  (N:Nat) (h:∀B:Nat,nL P E w0 I0 n H Q Zloc ((s.put (O m) (.val (oH B f i N))).put (O d) .none)):nL P E w0 I0 n (.seq (.region i1 #[o1] F) (.seq (.region i2 #[o2,o3] F) H)) Q Zloc s:=by
 rintro a w ⟨I,be,l⟩;have y:=l.size;refine wp_seq (pz ?_);have o0:(execOp a.eval o1).run P w=.ok (.value (.pointer (O ⟨w.heap.size,0,Y⟩))) (w.alloc (.cells #[z] e)):=by simp[execOp,c0,Instr.alloc,zeroValue,typeInfo,hz,a0,newVar,newRow,b0]
 refine X.js (o:=o1) rfl e0 o0 ?_;rw[d0];show(Code.seq _ _).wp P _ _ _;refine wp_seq (pz ?_);have S:m<a.tmps.size:=by rw[y];exact m0
 let b:Jz:=.pointer (O ⟨w.heap.size,0,Y⟩);let vs:Array Jz:=(ts.map λt=>a.tmps.getD t undef).toArray.push b;have p0:(execOp (a.put (O m) b).eval o2).run P (w.alloc (.cells #[z] e))=.ok (.value (.func (.func f) #[] vs)) (w.alloc (.cells #[z] e)):=by
  have:(ts.map Operand.tmp++[Operand.tmp m]).toArray.map (a.put (O m) b).eval=vs:=by
   apply Array.ext';simp only[Array.toList_map,kZ,s5,dy,qU,vs,Array.toList_push];congr 1
   .refine qT λt q0=>?_;obtain⟨j,q,rfl⟩:=gX q0;have r0:=(L j _ (bS q)).2.1;simp[Act.eval,Act.put,Dy (dz r0)]
   .simp[Act.eval,Act.put,S]
  simp only[execOp,f0];rw[this];simp[Instr.makeFunc]
 refine X.js (o:=o2) rfl h0 p0 ?_;rw[g0];have E0:d<(a.put (O m) b).tmps.size:=by simp[Act.put];rw[y];exact K
 have A:((a.put (O m) b).put (O d) (.func (.func f) #[] vs)).eval (.tmp m)=b:=by
  have:((a.tmps.setIfInBounds m b).setIfInBounds d (Value.func (Fn.func f) #[] vs))[m]?=O b:=by rw[Dy n0];simp[S]
  simp[Act.eval,Act.put,this]
 have hv:((a.put (O m) b).put (O d) (.func (.func f) #[] vs)).eval (.tmp d)=.func (.func f) #[] vs:=by simp[Act.eval,Act.put,y,K]
 have T:=iU (P:=P) (w:=w.alloc (.cells #[z] e)) (B:=w.heap.size) (t:=e) (k:=0) (v:=.func (.func f) #[] vs) (cur:=#[z]) (Et _ _) (by rw[g];rfl) (by rw[g];decide) (by simp[Value.cells,Value.oneCell']) (by simp[Value.cells]);have s0:(w.alloc (.cells #[z] e)).setRow w.heap.size (bd [z] 0 [Value.func (.func f) #[] vs]).toArray=w.alloc (.cells #[.func (.func f) #[] vs] e):=Gv _ _ _ _;have t0:(execOp ((a.put (O m) b).put (O d) (.func (.func f) #[] vs)).eval o3).run P (w.alloc (.cells #[z] e))=.ok .skip (w.alloc (.cells #[.func (.func f) #[] vs] e)):=by have u0:(Value.func (.func f) #[] vs).cells.toList=[.func (.func f) #[] vs]:=rfl;rw[u0,s0]at T;simp only[execOp,i0,A,hv];simp[Instr.storeAt,Instr.sureAddr,b,T]
 have v0:∀(R:Exit->Act->zI->Prop)(u:Act)(C D:zI),(execOp u.eval o3).run P C=.ok .skip D->R .normal (u.put Y undef) D->wpOps P #[o2,o3] R [1] u C:=λR u C D G x0=>by simp only[wpOps,Region.wanted,zP,L9,gT,l0,ca];refine .inl (jH G ?_);rw[j0];exact x0
 refine v0 _ _ _ _ t0 ?_;refine h w.heap.size _ _ ⟨I.plus λp=>p.block=w.heap.size,be,?_⟩;have y0:=l.acF (.cells #[.func (.func f) #[] vs] e);have A0:∀v r,b4 P w I be s.b s.g v r->∀av,r=.val av->cq (w.alloc (.cells #[.func (.func f) #[] vs] e)) (I.plus λp=>p.block=w.heap.size) v av:=λv r G av e=>by subst e;have B0:dD w (w.alloc (.cells #[.func (.func f) #[] vs] e)) I I:=(l.fresh (w':=w.alloc (.cells #[.func (.func f) #[] vs] e)) rfl rfl rfl rfl).2.2.2.1;exact(cq.mono B0 G).mono (.plus _ _ _)
 refine(y0.put (O m) (v:=b) (r:=.val (oH w.heap.size f i N)) ?_).put (O d) (r:=.none) trivial;refine IL (vs:=vs) (e:=e) (Et _ _) (λp A=>Or.inr A) (by simp[vs,x]) (λj c g=>?_) (by simp[vs,x,b]) N;have q:j<ts.length:=by rw[<-x];exact (aY.1 g).1
 obtain⟨q1,G0,av,U,C0⟩:=L j ts[j] (bS q);rw[g]at U;cases U;have:=A0 _ _ (l.cu ts[j] q1) c C0;have D0:vs.getD j undef=a.tmps.getD ts[j] undef:=by simp only[vs,jl];rw[Pu (by simpa using q)];simp
 rw[D0];exact this
end
end Go.Ev
