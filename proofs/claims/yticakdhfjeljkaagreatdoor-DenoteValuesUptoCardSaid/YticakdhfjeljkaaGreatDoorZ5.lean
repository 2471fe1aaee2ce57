import Derived.Test.YticakdhfjeljkaaGreatDoorZ4
set_option linter.all false
open Option renaming some->O,none->Y
open Bool renaming true->W,false->F
namespace Go.X
open Go Go.Ev
variable{e:an}{t:Ty}{d k tick f m len:Nat}{u:cH}{β:Type}{g:Nat->Nat}{y:ah}{av:AV}{parts:Array (Nat×ah)}{K':St->Prop}{p:V (Nat×Nat)}{q':St}{qs:Z cH}
section
variable{P:ai}{E:cd}{U:cp}{T:dt U.C}{X:gy U}{w0:af}{I0:aA}{n:Nat}{o:aC}{s:S U.C}{q:St}{α:Type}{out:α}{fz:aa}{kx:o8 U->S U.C->V α}{K:S U.C->V α}{esc:Z (Nat×Nat)}
variable(L:cD U T)
structure Fr(X:gy U)(s:S U.C)(o:Oper)(q q1:St):Prop where
 r:∀t,o.dst≠O t->t∉ji o->q1.r t=q.r t∨∃d gg off len,q.r t=.view d gg off len/\aF s.b d≠Y/\(q1.b d=Y∨d∈eQ o)
 b:∀d,aF s.b d=Y->d∉eQ o->q1.b d=q.b d/\q1.g d=q.g d
 a:∀k i,k<U.nk->s.m k=F->q1.a (dY k i)=q.a (dY k i)/\q1.u (dY k i)=q.u (dY k i)
 df:q1.df=q.df
 ev:∀d,d∉eQ o->Hw (q.b d) (q1.b d)/\q1.g d=q.g d
 still:fA X s o.op=F->q1.b=q.b/\q1.g=q.g/\q1.a=q.a/\q1.u=q.u/\∀t,o.dst≠O t->q1.r t=q.r t
inductive ew(P:Program)(E:cd)(T:dt U.C)(X:gy U)(w0:World)(I0:aA)(n:Nat)(fz:Bool)(o:Oper)(s:S U.C)(kx:o8 U->S U.C->Option α)(K:S U.C->Option α)(out:α):Prop
 |one (s1:S U.C) (hK:K s1=O out) (hm:bw s s1) (h:∀q,aU P E T X s q->dL P E w0 I0 n o q λq1=>aU P E T X s1 q1/\(fz=F->Fr X s o q q1))
 |h8 (hf:fz=W) (s1 s2:S U.C) (h1:K s1=O out) (h2:K s2=O out) (m1:bw s s1) (m2:bw s s2) (h:∀q,aU P E T X s q->dL P E w0 I0 n o q λq1=>aU P E T X s1 q1∨aU P E T X s2 q1)
 |ea (p:o8 U) (s1:S U.C) (hK:kx p s1=O out) (hm:bw s s1) (h:∀q,aU P E T X s q->fD p.t=W/\jS P E w0 I0 n o q (λ_=>False) λav q1=>aU P E T X s1 q1/\av=.mR p.VI (enc T p.t p.x))
def b4{r:R U.C}(f:K (s.put o.dst r)=O out)(h:Mq P E T X w0 I0 n o s r):ew P E T X w0 I0 n fz o s kx K out:=by
 refine .one _ f (bi _ _) λq b=>?_;obtain⟨u,g,i⟩:=h q b;refine kD u ⟨b.put o.dst i,λ_=>?_⟩ g;cases j:o.dst with
 |none=>exact ⟨λt a _=>.inl rfl,λd _ _=>⟨rfl,rfl⟩,λ_ _ _ _=>⟨rfl,rfl⟩,rfl,λ_ _=>⟨.refl _,rfl⟩,λ_=>⟨rfl,rfl,rfl,rfl,λ_ _=>rfl⟩⟩|some d=>have c:∀t,o.dst≠O t->b8 q.r d u t=q.r t:=λt a=>aO _ _ λe=>a (by rw[j,e]);exact⟨λt a _=>.inl (c t a),λd _ _=>⟨rfl,rfl⟩,λ_ _ _ _=>⟨rfl,rfl⟩,rfl,λ_ _=>⟨.refl _,rfl⟩,λ_=>⟨rfl,rfl,rfl,rfl,c⟩⟩
def VX(a:ba n o=W){x:ah}(b:o.op=.move x)(c:K (s.put o.dst (s.ev x))=O out):ew P E T X w0 I0 n fz o s kx K out:=by refine b4 c (la a λq d=>?_);unfold gG;simp only[b];exact d.fL a (by simp[b,Op.operands])
def VY(r:bJ P E T X)(d:ba n o=W){c a b:ah}(f:o.op=.pick c a b)(h:iA X kx esc fz o s K=O out):ew P E T X w0 I0 n fz o s kx K out:=by
 have g:c∈o.op.operands:=by simp[f,Op.operands]
 have j:a∈o.op.operands:=by simp[f,Op.operands]
 have k:b∈o.op.operands:=by simp[f,Op.operands]
 unfold iA at h;simp only[f]at h;split at h
 .rename_i l t i u;split at h
  .rename_i v vb m p;refine b4 h (la d λq e=>?_);unfold gG;simp only[f,lR (e.fL d g) i];cases l with
   |true=>exact Fq (e.fL d j) m|false=>exact Fq (e.fL d k) p
  .cases l with
   |true=>simp only[aW]at h;refine b4 h (la d λq e=>?_);unfold gG;simp only[f,lR (e.fL d g) i];exact e.fL d j|false=>simp only[aX]at h;refine b4 h (la d λq e=>?_);unfold gG;simp only[f,lR (e.fL d g) i];exact e.fL d k
 .cases h
def dL.ya {q:St} {K:St->Prop} (h:dL P E w0 I0 n o q K) (c:∀q1,K q1->∃b,jc P E w0 I0 n q1 b/\K' b):dL P E w0 I0 n o q K':=λa w d e=>lL (λa' w' ⟨q1,g1,f⟩=>by obtain⟨b,g3,g⟩:=c q1 f;exact⟨b,g3 a' w' g1,g⟩) (h a w d e)
theorem Hy(f:Nat->β)(d:Nat)(x y:β):b8 (b8 f d x) d y=b8 f d y:=by
 funext z;unfold b8
 grind
theorem Fx{r:R U.C}(c:K (s.put o.dst (Cd r))=O out)(h:Mq P E T X w0 I0 n o s r):ew P E T X w0 I0 n fz o s kx K out:=by
 cases r with
 |hk t=>
  refine .one _ c (bi _ _) λq f=>?_;obtain⟨u,j,k⟩:=h q f;cases k with
  |hk _ l=>
   refine dL.ya (kD (.val .hk) (K:=λq1=>q1=q.put o.dst (.val .hk)) rfl j) λq1 m=>?_;subst m;refine⟨q.put o.dst (.bF []),?_,f.put o.dst (.bF t [] l),λ_=>?_⟩
   .cases g:o.dst with
    |none=>exact .refl _|some d=>
     intro a w p;have:=NW (s:=q.put (O d) (.val .hk)) d (ch _ _ _) p
     grind [St.rF,Hy]
   .cases g:o.dst with
    |none=>exact ⟨λt b _=>.inl rfl,λd _ _=>⟨rfl,rfl⟩,λ_ _ _ _=>⟨rfl,rfl⟩,rfl,λ_ _=>⟨.refl _,rfl⟩,λ_=>⟨rfl,rfl,rfl,rfl,λ_ _=>rfl⟩⟩|some d=>have i:∀t,o.dst≠O t->b8 q.r d (.bF []) t=q.r t:=λt b=>aO _ _ λe=>b (by rw[g,e]);exact⟨λt b _=>.inl (i t b),λd _ _=>⟨rfl,rfl⟩,λ_ _ _ _=>⟨rfl,rfl⟩,rfl,λ_ _=>⟨.refl _,rfl⟩,λ_=>⟨rfl,rfl,rfl,rfl,i⟩⟩
 |_=>exact b4 c h
def dL.abu {q:St} {K:St->Prop} (h:dL P E w0 I0 n o q K) (b:∀q,K q->K' q):dL P E w0 I0 n o q K':=λa w c d=>lL (λa' w' ⟨q',g1,e⟩=>⟨q',g1,b q' e⟩) (h a w c d)
def ew.ya {s s':S U.C} (c:bw s s') (d:∀q,aU P E T X s q->∃q',jc P E w0 I0 n q q'/\aU P E T X s' q') (h:ew P E T X w0 I0 n W o s' kx K out):ew P E T X w0 I0 n W o s kx K out:=by
 cases h with
 |one a e f h=>refine .one a e (c.trans f) λq b=>?_;obtain⟨q',i,j⟩:=d q b;exact i.nv (dL.abu (h q' j) λq1 g=>⟨g.1,λk=>by cases k⟩)
 |h8 k a s2 i j m r h=>refine .h8 k a s2 i j (c.trans m) (c.trans r) λq b=>?_;obtain⟨q',g1,l⟩:=d q b;exact g1.nv (h q' l)|ea p a e f h=>refine .ea p a e (c.trans f) λq b=>?_;obtain⟨q',g1,l⟩:=d q b;obtain⟨t,u⟩:=h q' l;exact⟨t,g1.Mr u⟩
theorem wD(f:bJ P E T X):∀(rs:Z (R U.C))(fz:aa)(s:S U.C),Fi fz rs s K=O out->∃s',K s'=O out/\bw s s'/\(fz=F->s'=s)/\(∀y,mm (s.ev y)=F->s'.ev y=s.ev y)/\∀q,aU P E T X s q->∃q',jc P E w0 I0 n q q'/\aU P E T X s' q'
 |[],fz,s,h=>⟨s,h,.refl s,λ_=>rfl,λ_ _=>rfl,λq b=>⟨q,.refl q,b⟩⟩|r::rs,fz,s,h=>by
  cases r with
  |whole d=>
   simp only[Fi]at h;split at h
   .rename_i t e xs i;cases fz with
    |false=>cases h
    |true=>
     simp only[aW]at h;obtain⟨s',j,k,C,D,l⟩:=wD f rs W _ h;refine⟨s',j,(wC d t xs).trans k,(λm=>by cases m),λy o=>?_,λq b=>?_⟩
     .have G:(s.BV d t xs).ev y=s.ev y:=Hx o
      grind
     .obtain ⟨p,u⟩:=b.br i;have v:=f.ty _ _ p;have x:aU P E T X (s.BV d t xs) (q.cv d λoff len=>O (.sl (((xs.map (enc T t)).drop off).take len))):=
       b.cnv (c:=λoff len=>O (.sl (((xs.map (enc T t)).drop off).take len))) i (av:=.sl (xs.map (enc T t))) (by simp[de]) (λbx g tick=>.val (.bk t) xs _ _ rfl ⟨v.ok,rfl⟩) b.heap
      obtain⟨q',z,A⟩:=l _ x;exact⟨q',jc.trans (λa w B=>uy u B) z,A⟩
   .cases h
  |_=>exact wD f rs fz s h
theorem pa{l:Z (V (Z β))}{ys:Z β}(h:gH l p=O ys):(p=Y/\ys=[])∨∃i n xs,p=O (i,n)/\e8 l i=O xs/\n<=xs.length/\ys=xs.take n:=by
 unfold gH at h;split at h
 grind
 .rename_i i n;obtain⟨xs,b,h⟩:=bind_some h;obtain⟨a,h⟩:=az h;simp only[rD]at a
  grind
theorem Cx{bx:Z (Nat×Nat×B U.C)}(h:bA P E T bx g tick (.val (.hs k) p) u):u=.val (hD T p k):=by
 cases h with
 |val _ _ _ av a hv=>
  obtain⟨_,rfl⟩:=hv;have a:bz u=O (hD T p k):=a;have:∀xs,hD T p k≠.sl xs:=λxs e=>by unfold hD at e;grind
  cases u<;>simp[bz]at a
  .rw[a]
  grind
include L in
theorem Zs(y:bJ P E T X)(J:ba n o=W){x:ah}(C:o.op=.load e x)(e0:X.ty e=O t)(f0:Oj X.Ze e x=W)(h:(wk X s t (s.ev x) λr=>Zl X s o.dst r K)=O out):ew P E T X w0 I0 n fz o s kx K out:=by
 obtain⟨r,c,g0⟩:=JB L y (y.ty _ _ e0) h;unfold Zl at c;split at c
 .rename_i k p d N;split at c
  .rename_i f D h0;split at c
   .rename_i l j;replace j:=az j;obtain⟨G,j⟩:=j;replace G:=e4 G;have Q:=y.ty _ _ G;replace c:=bind_some c;obtain⟨xs,i0,c⟩:=c;split at c
    .rename_i z j0;obtain⟨⟨R,B⟩,S⟩:=sT j;obtain⟨_,a0⟩:=nH j0;refine .one _ c ((bi _ _).trans (o9 _)) λq g=>?_;obtain⟨u,k0,l0⟩:=zt (r:=.val (.hs k) p) J (λq g=>(g0 q _ g (g.fL J (by simp[C,Op.operands]))).value C) q g;obtain rfl:=Cx l0;have x0:fA X s o.op=W:=by simp[C,fA,f0]
     have m0:bA P E T s.b q.g s.tick (.val (.bk f) xs) (.val (.sl (xs.map (enc T f)))):=bn (t:=.bk f) Q.ok;have b0:∀A:Nat->V Ob,fB T s.m z A q.u->(∀k' v,k'<U.nk->s.m k'=F->A (dY k' v)=q.a (dY k' v))->
       aU P E T X {(s.put (O d) (.val (.bk f) xs))with h:=z,hv:=(s.put (O d) (.val (.bk f) xs)).tick,tick:=(s.put (O d) (.val (.bk f) xs)).tick+1} {q.put (O d) (.val (.sl (xs.map (enc T f))))with a:=A,u:=q.u}/\
       (fz=F->Fr X s o q {q.put (O d) (.val (.sl (xs.map (enc T f))))with a:=A,u:=q.u}):=λA n0 o0=>
      ⟨(g.put (O d) m0).rk (cO _) n0,λ_=>⟨λy0 p0 _=>.inl (aO _ _ λe=>p0 (by rw[N,e])),λd _ _=>⟨rfl,rfl⟩,λk' v c0 d0=>⟨o0 k' v c0 d0,rfl⟩,rfl,λ_ _=>⟨.refl _,rfl⟩,λh=>by grind⟩⟩
     refine dL.ya (kD (.val (hD T p k)) (K:=λq1=>q1=q.put (O d) (.val (hD T p k))) (by rw[N]) k0) λq1 q0=>?_;subst q0;rcases pa i0 with⟨rfl,rfl⟩|⟨i,m,A0,rfl,r0,a2,rfl⟩
     .have H:fB T s.m z q.a q.u:=by
       refine g.heap.set L B a0 (λi=>?_) λ_ _ _ _=>⟨rfl,rfl⟩
       exact g.heap.at B R S i
      refine⟨_,λa w I=>?_,b0 q.a H λ_ _ _ _=>rfl⟩;have:=RZ (s:=q.put (O d) (.val .hk)) d (ch _ _ _) I
      grind [St.rF,Hy]
     .have s0:T.hz k=P.cellsOf D:=by rw[L.hz k f D h0,Q.cells]
      have t0:i<l.length:=by grind [e8,cr]
      have u0:=sS j g r0;have H:fB T s.m z (b8 q.a (dY k i) Y) q.u:=g.heap.pF L B R S t0 (x:=Y) a0;refine⟨_,λa w I=>?_,b0 (b8 q.a (dY k i) Y) H λk' v c0 d0=>aO _ _ λe=>by grind [il]⟩;have:=VH (s:=q.put (O d) (.val (.view (dY k i) (P.cellsOf D) m))) d (y.roK _ _ B λa b e=>by grind) (ch _ _ _) u0 (by grind) (by simpa[hD,s0]using I)
      grind [St.rF,Hy,List.map_take]
    .cases c
   .cases c
  .cases c
 .cases c
include L in
theorem Sx(a:bJ P E T X)(f:ba n o=W){x:ah}(g:o.op=.load e x)(j:X.ty e=O t)(h:(Se fz s t (s.ev x) λs=>wk X s t (s.ev x) λr=>K (s.put o.dst (Cd r)))=O out):ew P E T X w0 I0 n fz o s kx K out:=by
 have l:∀s:S U.C,(wk X s t (s.ev x) λr=>K (s.put o.dst (Cd r)))=O out->ew P E T X w0 I0 n fz o s kx K out:=λs h=>by obtain⟨r,b,c⟩:=JB L a (a.ty _ _ j) h;refine Fx b (zt f λq i=>?_);exact(c q _ i (i.fL f (by simp[g,Op.operands]))).value g
 unfold Se at h;split at h
 .rename_i d k m;split at h
  .cases p:a7 t with
   |false=>grind|true=>
    rw[p]at h;simp only[aW]at h;obtain⟨s',b,c,w,u,v⟩:=wD (P:=P) (E:=E) (T:=T) (w0:=w0) (I0:=I0) (n:=n) a _ fz s h;have y:s'.ev x=s.ev x:=u x (by rw[m];rfl);cases fz with
    |false=>grind|true=>exact ew.ya c v (l s' b)
  .cases h
 grind
theorem Cy{bx:Z (Nat×Nat×B U.C)}{g:Nat->Nat}{tick:Nat}:∀{rs:Z (R U.C)}{cs:Z cH},eC P E T bx g tick rs cs->rs.all Yj=W->∃a,dC cs=O a/\rs.length=a.length/\(∀(i:Nat)(r:R U.C)(av:AV),rs[i]?=O r->a[i]?=O av->bA P E T bx g tick r (.val av))/\∀(i:Nat)(av:AV),a[i]?=O av->av.isAgg=F
 |[],[],_,_=>⟨[],rfl,rfl,λi r av h=>by simp at h,λi av h=>by simp at h⟩|[],_::_,h,_=>by have:=h.1;simp at this
 |_::_,[],h,_=>by have:=h.1;simp at this|r::rs,c::cs,h,b=>by
  simp only[tC,aP]at b;obtain⟨a,j,k,l,m⟩:=Cy (rs:=rs) (cs:=cs) ⟨by simpa using h.1,λi r c n d=>h.2 (i+1) r c (by grind) (by grind)⟩ b.2;have h0:=h.2 0 r c rfl rfl;have d:=b.1;have e:∃av,c=.val av/\av.isAgg=F:=by
   cases h0 with
   |fn f caps a _ _=>exact ⟨_,rfl,rfl⟩|const v=>
    cases v with
    |nilFunc=>exact ⟨_,rfl,rfl⟩|_=>cases d
   |_=>cases d
  obtain⟨o,rfl,p⟩:=e
  grind [dC,bz]
include L in
theorem VZ(B:bJ P E T X)(p:ba n o=W){x:ah}(j:o.op=.load e x)(h:iA X kx esc fz o s K=O out):ew P E T X w0 I0 n fz o s kx K out:=by
 unfold iA at h;simp only[j]at h;split at h
 .rename_i t I;split at h
  .rename_i rs m a;have A:=B.ty _ _ I;replace a:=az a;obtain⟨_,a⟩:=a;unfold Oh at a;split at a
   .rename_i d k w;split at a
    .rename_i u J y;replace a:=az a;obtain⟨l,a⟩:=a;simp only[aP,rD]at l;simp only[aN]at a;subst a;refine b4 h (zt p λq g=>?_);have b:=g.fL p (x:=x) (by simp[j,Op.operands]);rw[w]at b;obtain⟨_,_,cs,C,v⟩:=g.cells y;refine r7.value j (.inl ?_);rw[jN g b y];unfold vX;simp only[C,A.agg,a7,lK,dN];rw[k9]at l⊢;have G:eC P E T s.b q.g s.tick ((J.drop k).take (bB U D (.struct m))) ((cs.drop k).take (bB U D (.struct m))):=by
      have z:=v.drop k;exact⟨by simp[z.1,v.1],λi r c b l=>by
       rw[rC]at b l;split at b
       .rename_i hi;rw[aq hi]at l;exact z.2 i r c b l
       .cases b⟩
     obtain⟨L,N,a2,a3,Q⟩:=Cy G l.2;rw[A.cells,N];have:=v.1;exact⟨⟨trivial,by rw[<-A.cells];exact A.pos,by grind⟩,.agg m _ L a2 a3 Q⟩
    .cases a
   .cases a
  grind [Oj,Zs,Sx]
 .split at h
  .rename_i r w;obtain⟨H,h⟩:=az h;obtain⟨G,z⟩:=B.Mc e H;refine b4 h (zt p λq g=>?_);have b:=g.fL p (x:=x) (by simp[j,Op.operands]);rw[w]at b;refine r7.value j (.inl ?_);generalize q.ev x=u at b;cases b with
   |nF _ av b=>grind [vX,jK]
  .rename_i d k w;split at h
   .rename_i u rs y;split at h
    .rename_i f R;obtain⟨H,h⟩:=az h;obtain⟨G,z⟩:=B.Mc e H;refine b4 h (zt p λq g=>?_);have b:=g.fL p (x:=x) (by simp[j,Op.operands]);rw[w]at b;obtain⟨_,_,cs,C,v⟩:=g.cells y;refine r7.value j (.inl ?_);rw[jN g b y];unfold vX;simp only[C,z,lK,dN];have S:k<cs.length:=by rw[<-v.1];grind
     refine⟨⟨trivial,M,dx⟩,?_⟩;have:=v.2 k _ cs[k] R (cX S);simp_all
    .cases h
   .cases h
  .cases h
theorem Hz(a:bJ P E T X)(c:ba n o=W){x:ah}(b:o.op=.fieldAddr e x f)(h:iA X kx esc fz o s K=O out):ew P E T X w0 I0 n fz o s kx K out:=by
 unfold iA at h;simp only[b]at h;split at h
 .rename_i t d;replace h:=az h;obtain⟨j,h⟩:=h;obtain⟨r,g,i⟩:=EB (w0:=w0) (I0:=I0) a (a.ty _ _ d) (by simp_all) b c h;exact b4 g i
 .cases h
include L in
theorem HA(A:bJ P E T X)(g:ba n o=W){x:ah}(c:o.op=.indexAddr e x y)(h:iA X kx esc fz o s K=O out):ew P E T X w0 I0 n fz o s kx K out:=by
 unfold iA at h;simp only[c]at h;split at h
 .rename_i m t I v C J;obtain⟨r,g0,h0⟩:=EC (w0:=w0) (I0:=I0) L A (A.ty _ _ C) J c g v h;exact b4 g0 h0
 .rename_i m i0 v C;replace h:=az h;obtain⟨j0,h⟩:=h;obtain⟨I,J⟩:=um.1 j0;obtain⟨N,hu,d0,D,k0⟩:=A.k6 e I J;obtain⟨C0,_,_⟩:=k0 i0 C;have Q:∀(k j:Nat),Hk s (s.ev x) m k j (λr=>K (s.put o.dst r))=O out->∃i r,i<k/\m=((j+i:Nat):Int)/\Mf s (j+i) (s.ev x)=O r/\K (s.put o.dst r)=O out:=by
   intro k;induction k with
   |zero=>intro j h;cases h
   |succ k S=>
    intro j h;simp only[Hk]at h;cases G:dp m (j:Int)with
    |true=>
     rw[G]at h;simp only[aW]at h;split at h
     .rename_i r a;exact⟨0,r,Nat.succ_pos _,by grind,a,h⟩
     .cases h
    |false=>rw[G]at h;obtain⟨i,r,g1,g2,g3,a0⟩:=S (j+1) h;exact⟨i+1,r,M,by grind,by grind,a0⟩
  obtain⟨i,r,g1,g2,g3,a0⟩:=Q _ 0 h;rw[dN]at g2 g3;refine b4 a0 λq f=>?_;obtain⟨k,b0⟩:=j8 (f.fL g (x:=y) (by simp[c,Op.operands])) v;have a:=f.fL g (x:=x) (by simp[c,Op.operands]);have b:=λl0=>BR (P:=P) (E:=E) (w0:=w0) (I0:=I0) (n:=n) (s:=q) c g hu d0 b0 M (by grind) l0;rw[(M:m.toNat=i)]at b;generalize D0:s.ev x=E0 at a g3;unfold Mf at g3;split at g3
  .rename_i d k';split at g3
   .rename_i u G0 l;simp only[aN]at g3;subst g3;have w:=jN f a l;obtain⟨_,_,cs,m0,_⟩:=f.cells l;refine⟨_,b (.inr (.inl ⟨_,_,_,_,_,w,rfl,by grind⟩)),?_⟩;rw[w];exact .dT _ _ _ λst u p H0=>rfl
   .cases g3
  .rename_i d J0 k' K0 e0 z;split at g3
   .rename_i L0 e' xs l;simp only[aN]at g3;subst g3;cases a with
    |gq _ _ _ _ _ _ _ n0 o0=>obtain⟨q1,p0,q0⟩:=o0 _ _ _ _ (dG l);obtain⟨_,m0⟩:=f.br l;refine⟨_,b (.inr (.inl ⟨_,_,_,_,_,q1,rfl,by grind⟩)),?_⟩;rw[q1];refine .gq _ _ _ _ _ _ _ n0 λst N0 f0 P0 r0=>?_;have:=dG l;rw[r0]at this;simp only[aN,cz,B.br.injEq]at this;obtain⟨rfl,rfl,_,this⟩:=this;cases this;exact⟨rfl,p0,q0⟩
   .cases g3
  .rename_i e0 z k';simp only[aN]at g3;subst g3;generalize w:q.ev x=u at a b;cases a with
   |dF _ _ _ s0=>refine⟨_,b (.inl ⟨_,rfl⟩),?_⟩;simp only[R6,ND];exact .dF e0 z (k'+i) s0
  .simp only[aN]at g3;subst g3;generalize w:q.ev x=u at a b;cases a with
   |jy t0 i2 off=>exact ⟨_,b (.inr (.inr ⟨_,_,rfl⟩)),.jy _ _ _⟩
  .simp only[aN]at g3;subst g3;generalize w:q.ev x=u at a b;cases a with
   |kq t0 i2 Q0 off=>refine⟨_,b (.inr (.inr ⟨_,_,rfl⟩)),?_⟩;simp only[R6,ql];exact .kq _ _ _ _
  .cases g3
 .rename_i m v C;split at h
  .rename_i rs u0;obtain⟨x0,h⟩:=az h;obtain⟨I,hu,_,d0⟩:=A.Mb e x0;have Q:∀(p:Z (R U.C))(j:Nat),Oi m p j (λr=>K (s.put o.dst r))=O out->∃i r,p[i]?=O r/\m=((j+i:Nat):Int)/\K (s.put o.dst (.nF r))=O out:=by
    intro p;induction p with
    |nil=>intro j h;cases h
    |cons r p S=>
     intro j h;simp only[Oi]at h;cases G:dp m (j:Int)with
     |true=>grind|false=>rw[G]at h;obtain⟨i,y0,g1,g2,g3⟩:=S (j+1) h;exact⟨i+1,y0,by grind,by grind,g3⟩
   obtain⟨i,r,g1,g2,g3⟩:=Q rs 0 h;rw[dN]at g2;refine b4 g3 (la g λq f=>?_);obtain⟨k,b0⟩:=j8 (f.fL g (x:=y) (by simp[c,Op.operands])) v;have a:=f.fL g (x:=x) (by simp[c,Op.operands]);rw[u0]at a;unfold gG;simp only[c];rw[b0];generalize q.ev x=u at a;cases a with
   |sN _ H R0 f0 A0=>
    have hi:i<H.length:=by grind
    have c0:=cX hi;have D:=A0 i _ c0;have B0:(H[i]).cells=[H[i]]:=by revert D;generalize H[i]=z;intro D;cases z<;>first|rfl|cases D
    unfold jw;simp only[fH hu,g2,hx,c0];refine⟨⟨M,M,by grind⟩,?_⟩;rw[B0];exact .nF r _ (f0 i r _ g1 c0)
  .cases h
 .cases h
include L in
theorem Sy(i:bJ P E T X)(c:ba n o=W){x:ah}(b:o.op=.field e x f)(h:iA X kx esc fz o s K=O out):ew P E T X w0 I0 n fz o s kx K out:=by
 unfold iA at h;simp only[b]at h;split at h
 .rename_i m a;replace a:=az a;obtain⟨d,a⟩:=a;have d:X.k6 e=Y:=by simp_all
  split at h
  .rename_i v off t hv j;split at h
   .rename_i k l;have p:=i.ty _ _ a;obtain⟨D,r,g,w,y,z⟩:=p.field d m rfl f off t j;refine b4 h (la c λq A=>?_);unfold gG;simp only[b,r,sR (cs:=T.cl m v) (dm (A.fL c (by simp[b,Op.operands])) hv rfl)];obtain⟨B,C⟩:=zq L P E l g rfl;exact zp L w y z B C (K:=λu=>bA P E T s.b q.g s.tick (.val t k) (.val u)) (bn g)
   .cases h
  .cases h
 .cases h
include L in
theorem Sz(H:bJ P E T X)(d:ba n o=W){x:ah}(b:o.op=.index e x y)(h:iA X kx esc fz o s K=O out):ew P E T X w0 I0 n fz o s kx K out:=by
 unfold iA at h;simp only[b]at h;split at h
 .rename_i I l;split at h
  .rename_i a m z A;cases J:X.ry e with
   |true=>grind|false=>
   rw[J]at l;replace l:X.k6 e=O I:=l;obtain⟨N,hu,Q,S,d0⟩:=H.k6 e I l;replace S:=S J;obtain⟨n0,o0,p0⟩:=d0 a z;have e0:∀(rs:Z (R U.C))(j:Nat),Hl m rs j (λr=>K (s.put o.dst (Cd r)))=O out->∃i r,rs[i]?=O r/\m=((j+i:Nat):Int)/\K (s.put o.dst (Cd r))=O out:=by
    intro rs;induction rs with
    |nil=>intro j h;cases h
    |cons r rs f0=>
     intro j h;simp only[Hl]at h;cases g0:dp m (j:Int)with
     |true=>grind|false=>rw[g0]at h;obtain⟨i,h0,g1,g2,B⟩:=f0 (j+1) h;exact⟨i+1,h0,by grind,by grind,B⟩
   obtain⟨i,r,g1,g2,B⟩:=e0 _ 0 h;rw[dN]at g2;refine Fx B λq f=>?_;obtain⟨k,a0⟩:=j8 (f.fL d (x:=y) (by simp[b,Op.operands])) A;have p:=f.fL d (x:=x) (by simp[b,Op.operands]);have q0:∃w,q.ev x=.val (.agg w)/\w.length<=N/\∃av,w[i]?=O av/\bA P E T s.b q.g s.tick r (.val av):=by
    generalize r0:s.ev x=s0 at p g1;unfold Jt at g1;split at g1
    .rename_i i0 rs;cases C:Nat.beq i0 a&&Nat.beq rs.length (bB U D (.struct a))with
     |false=>grind|true=>
      rw[C]at g1;simp only[aW]at g1;generalize b0:q.ev x=u at p;cases p with
      |agg _ _ w t0 u0 x0=>
       simp only[aP]at C;have y0:=cC C.2
       grind
    .split at g1
     .rename_i v hv;have b0:=sR (cs:=T.cl a v) (dm (t:=.struct a) p hv rfl);have G:=iZ (P:=P) (E:=E) (T:=T) (bx:=s.b) (g:=q.g) (tick:=s.tick) L D (.struct a) v (iF L _) rfl;have c0:(enc T (.struct a) v).cells=T.cl a v:=rfl;rw[c0]at G;have j0:=G.1;rw[iT]at j0;have hi:i<(T.cl a v).length:=by grind
      have k0:=fg (T:=T) L (t:=.struct a) v;rw[c0]at k0;exact⟨_,b0,M,_,cX hi,G.2 i r _ g1 (by grind)⟩
     grind
   grind [cr,BT]
  .cases h
 split at h
 .rename_i v m z hv A;obtain⟨c,Q,h⟩:=bind_some h;obtain⟨l0,m0,A0⟩:=Fa Q;refine b4 h (la d λq f=>?_);obtain⟨k,a0⟩:=j8 (f.fL d (x:=y) (by simp[b,Op.operands])) A;unfold gG;simp only[b,dk (dm (f.fL d (x:=x) (by simp[b,Op.operands])) hv rfl),a0];rw[m0];exact⟨⟨(H.ty _ _ z).str rfl,l0⟩,bn (t:=.int .u8) rfl⟩
 .cases h
def V0(l:bJ P E T X)(c:ba n o=W){f:UnOp}{x:ah}(a:o.op=.unOp f e x)(h:iA X kx esc fz o s K=O out):ew P E T X w0 I0 n fz o s kx K out:=by
 have g:x∈o.op.operands:=by simp[a,Op.operands]
 cases f with
 |not=>
  unfold iA at h;simp only[a]at h;split at h
  .rename_i b i;refine b4 h (la c λq d=>?_);unfold gG;simp only[a,lR (d.fL c g) i];exact bn (t:=.bool) rfl
  .cases h
 |neg=>
  unfold iA at h;simp only[a]at h;split at h
  .rename_i k p;split at h
   .rename_i m j;refine b4 h (la c λq d=>?_);unfold gG;simp only[a,dk (dm (d.fL c g) j rfl)];exact bn (t:=.int k) rfl
   .cases h
  .cases h
 |_=>unfold iA at h;simp only[a]at h;cases h
theorem V1{r:R U.C}(h:Zh s r=O m)(n:bJ P E T X):∀q u,aU P E T X s q->bA P E T s.b q.g s.tick r u->(hC q u=O m/\∀v,u≠.val (.fl v))∨(∃i sz,u=.val (.view i sz m))∨(u=.val .hk/\m=0):=by
 intro q u f b;unfold Zh at h;split at h
 .rename_i t xs;simp only[aN]at h;subst h;left;cases b with
  |val _ _ _ av a hv=>
   obtain⟨_,rfl⟩:=hv
   grind [oB,enc,hC]
 .rename_i k p;simp only[aN]at h;subst h;right;cases b with
  |val _ _ _ av a hv=>
   obtain⟨_,rfl⟩:=hv;have l:∃c:V (Nat×Nat),c=p:=⟨_,rfl⟩
   obtain⟨c,g⟩:=l;cases c with
   |none=>subst g;right;refine⟨?_,rfl⟩;cases u<;>simp[bz,enc,hD]at a;rw[a]
   |some z=>subst g;left;refine⟨dY k z.1,T.hz k,?_⟩;cases u<;>simp[bz,enc,hD]at a;rw[a];rfl
 .rename_i t xs;simp only[aN]at h;subst h;left;cases b with
  |bF _ _ o=>simp[hC]
 .rename_i v;left;cases b with
  |const _ w=>
   split at h
   .simp only[aN]at h;subst h;exact ⟨rfl,λv h=>by cases h⟩
   .cases h
 .rename_i d;split at h
  .rename_i t e xs j;simp only[aN]at h;subst h;left;rw[fG f b j];obtain⟨_,a⟩:=f.br j;simp[hC,a]
  .cases h
 .cases h
theorem nf(b:kv P E T X e (.bk t)):∃a,P.underlying e=O (.slice a):=by
 obtain⟨a,h,_⟩:=b.bk t rfl
 grind
def JI{a vt:Ty}{l:Z (Z (bL U.C a×bL U.C vt))}{p:V Nat}{d:Z (bL U.C a×bL U.C vt)}(j:maps U m a vt s=O l)(b:dX l p=O d){x:ah}{r:R U.C}(k:r=.val (.mp m) p):∀q,aU P E T X s q->bA P E T s.b q.g s.tick r (q.ev x)->
  (∃i c,q.ev x=.val (.mp i)/\q.a i=O (.map (d.map λp=>(enc T a p.1,enc T vt p.2)) c))∨(q.ev x=.val (.fl (.map Y))/\(d.map λp=>(enc T a p.1,enc T vt p.2))=[]):=by
 intro q n g;subst k;generalize q.ev x=u at g;cases g with
 |val _ _ _ av e hv=>
  obtain⟨_,rfl⟩:=hv;have o:∃f:V Nat,f=p:=⟨_,rfl⟩
  obtain⟨f,h⟩:=o;cases f with
  |none=>subst h;right;unfold dX at b;simp only[aN]at b;subst b;refine⟨?_,rfl⟩;exact dk e|some i=>subst h;left;obtain⟨c,t⟩:=Hv j n b;refine⟨dY m i,c,?_,t⟩;cases u<;>simp[bz,enc,Co]at e;rw[e]
def Zt(d:ba n o=W){x:ah}{ts:Array an}(c:o.op=.call {callee:=.builtin .max,args:=#[x,y],argTypes:=ts})(h:iA X kx esc fz o s K=O out):ew P E T X w0 I0 n fz o s kx K out:=by
 have f:x∈o.op.operands:=by simp[c,Op.operands,Call.operands]
 have g:y∈o.op.operands:=by simp[c,Op.operands,Call.operands]
 unfold iA at h;simp only[c]at h;split at h
 .rename_i a b i j;refine b4 h λq e=>?_;have k:=dk (dm (e.fL d f) i rfl);have l:=dk (dm (e.fL d g) j rfl);exact⟨_,PE c d k l,bn (t:=.int .i64) rfl⟩
 .cases h
theorem Zu(g:bJ P E T X)(c:ba n o=W){x:ah}{A:an}(e:o.op=.call {callee:=.builtin .len,args:=#[x],argTypes:=#[A]})(h:iA X kx esc fz o s K=O out):ew P E T X w0 I0 n fz o s kx K out:=by
 have y:x∈o.op.operands:=by simp[e,Op.operands,Call.operands]
 unfold iA at h;simp only[e]at h;split at h
 .rename_i k j;have f:=g.ty _ _ j;split at h
  .rename_i m p z;obtain⟨R,h⟩:=az h;split at h
   .rename_i S vt U;split at h
    .rename_i l D;obtain⟨a0,G,h⟩:=bind_some h;obtain⟨a,b,hu,_⟩:=f.mp k rfl;refine b4 h λq d=>⟨_,GY e c hu (JI D G z q d (d.fL c y)),?_⟩
     rw[iT];exact bn (t:=.int .i64) rfl
    .cases h
   .cases h
  .cases h
 .rename_i j;have f:=g.ty _ _ j;split at h
  .rename_i v hv;refine b4 h λq d=>?_;have B:=dk (dm (d.fL c y) hv rfl);refine⟨_,xE e c (by unfold mg;rw[f.str rfl]) (m:=List.length (α:=bc) v) (by rw[B];simp[hC,bs,ByteArray.size]) (by rw[B];exact f.str rfl),bn (t:=.int .i64) rfl⟩
  .cases h
 .rename_i t j;have f:=g.ty _ _ j;obtain⟨H,hu⟩:=nf f;split at h
  .rename_i m I;refine b4 h λq d=>?_;rcases V1 I g q _ d (d.fL c y)with⟨r,b0⟩|⟨i,sz,r⟩|⟨r,rfl⟩
   .refine ⟨_,xE e c (by unfold mg;rw[hu]) r ?_,bn (t:=.int .i64) rfl⟩
    grind
   .exact ⟨_,tK e c hu (.inl ⟨i,sz,r⟩),bn (t:=.int .i64) rfl⟩
   .exact ⟨_,tK e c hu (.inr ⟨r,rfl⟩),bn (t:=.int .i64) rfl⟩
  .cases h
 .split at h
  .rename_i rs z;obtain⟨J,h⟩:=az h;obtain⟨H,hu,_,c0⟩:=g.Mb A J;refine b4 h λq d=>?_;have w:=d.fL c y;rw[z]at w;refine⟨_,xE e c (by unfold mg;rw[hu]) (m:=rs.length) ?_ ?_,bn (t:=.int .i64) rfl⟩
   .generalize q.ev x=u at w;cases w with
    |sN _ L C N Q=>rw[C];rfl
   .generalize q.ev x=u at w;cases w with
    |sN _ L C N Q=>grind
  .cases h
 .cases h
theorem Ms(c:ba n o=W){x:ah}(a:o.op=.extract x k)(h:iA X kx esc fz o s K=O out):ew P E T X w0 I0 n fz o s kx K out:=by
 unfold iA at h;simp only[a]at h;split at h
 .rename_i rs d;split at h
  .rename_i r f;refine b4 h (la c λq e=>?_);have b:=e.fL c (x:=x) (by simp[a,Op.operands]);rw[d]at b;unfold gG;simp only[a];generalize q.ev x=u at b;cases b with
   |gw _ qs g i=>grind
  .cases h
 .cases h
def yb(f:bJ P E T X)(g:∀e t,X.ty e=O t->P.concrete e=W)(b:ba n o=W){x:ah}(a:o.op=.makeInterface e x)(h:iA X kx esc fz o s K=O out):ew P E T X w0 I0 n fz o s kx K out:=by
 unfold iA at h;simp only[a]at h;split at h
 .rename_i t c;split at h
  .rename_i v hv;refine b4 h (la b λq i=>?_);have d:=f.ty _ _ c;unfold gG;simp only[a,dm (i.fL b (x:=x) (by simp[a,Op.operands])) hv d.ok];exact⟨g _ _ c,.mR e t v d.ok⟩
  .cases h
 .cases h
theorem JJ(c:ba n o=W){x:ah}(g:o.op=.nilCheck x)(h:iA X kx esc fz o s K=O out):ew P E T X w0 I0 n fz o s kx K out:=by
 have m:x∈o.op.operands:=by simp[g,Op.operands]
 unfold iA at h;simp only[g]at h;split at h
 .rename_i k p f;obtain⟨i,hi,h⟩:=bind_some h;refine b4 h λq b=>?_;have a:=b.fL c m;rw[f]at a;have l:=wz a hi;exact⟨_,ij g c (λw I be v hv=>by rw[l]at hv;exact v8 hv),by rw[l];exact .jy k i 0⟩
 .rename_i t p f;obtain⟨y,hi,h⟩:=bind_some h;refine b4 h λq b=>?_;have a:=b.fL c m;rw[f]at a;obtain⟨r,l⟩:=Ct a hi;exact⟨_,ij g c (λw I be v hv=>by rw[l]at hv;exact BN hv),by rw[l];exact .dF t y 0 r⟩
 .rename_i d k f;split at h
  .rename_i u rs z;refine b4 h λq b=>?_;have a:=b.fL c m;rw[f]at a;have l:=jN b a z;obtain⟨_,_,cs,A,_⟩:=b.cells z;refine⟨_,ij g c (λw I be v hv=>?_),a⟩;rw[l]at hv;obtain⟨B,_,e⟩:=uo hv rfl (by grind)
   grind
  .cases h
 .rename_i t y k f;refine b4 h λq b=>?_;have a:=b.fL c m;rw[f]at a;refine⟨_,ij g c (λw I be v hv=>?_),a⟩;generalize q.ev x=u at a hv;cases a with
  |dF _ _ _ r=>exact BN hv
 .rename_i k i off f;refine b4 h λq b=>?_;have a:=b.fL c m;rw[f]at a;refine⟨_,ij g c (λw I be v hv=>?_),a⟩;generalize q.ev x=u at a hv;cases a;exact v8 hv
 .rename_i k i j off f;refine b4 h λq b=>?_;have a:=b.fL c m;rw[f]at a;refine⟨_,ij g c (λw I be v hv=>?_),a⟩;generalize q.ev x=u at a hv;cases a;exact v8 hv
 .cases h
def yc(L:cD U T)(xs:Z (bL U.C t)):∀x∈xs.map (enc T t),x.cells.length=bB U D t:=λx a=>by obtain⟨y,_,rfl⟩:=gC.1 a;exact fg L y
theorem V2{γ:Type}(f:β->γ)(xs:Z β)(l m:Nat):((xs.map f).drop l).take m=((xs.drop l).take m).map f:=by simp_all
include L in
theorem SA(I:bJ P E T X)(i:ba n o=W){x:ah}{b0 hi mx:V ah}(A:o.op=.slice e x b0 hi mx)(y0:mx=Y->∀(d':Nat)(t:Ty)(l r:V Int),s.ev x=.whole d'->ox s Y b0=O l->ox s Y hi=O r->X.ty e=O (.bk t)->VM X fz s o.dst e d' t l r K=O out->ew P E T X w0 I0 n fz o s kx K out)(h:iA X kx esc fz o s K=O out):ew P E T X w0 I0 n fz o s kx K out:=by
 have N:x∈o.op.operands:=by simp[A,Op.operands]
 have l0:∀y,b0=O y->ca y=W:=λy B=>bS i (by simp[A,Op.operands,B]);have c0:∀y,hi=O y->ca y=W:=λy B=>bS i (by simp[A,Op.operands,B]);cases mx with
 |none=>
  unfold iA at h;simp only[A]at h;split at h
  .rename_i l r m0 g;have n0:∀(a:Ty)(xs:Z (bL U.C a)),X.ty e=O (.bk a)->(∀q,aU P E T X s q->bz (q.ev x)=O (.sl (xs.map (enc T a))))->xW (β:=bL U.C a) xs l r (λys=>K (s.put o.dst (.val (.bk a) ys)))=O out->ew P E T X w0 I0 n fz o s kx K out:=by
    intro a xs j w h;have C:=I.ty _ _ j;obtain⟨j0,hu,J⟩:=C.bk a rfl;have D:=I.ty _ _ J;obtain⟨Q,d0,e1,e2,h0,R,S,k0,h⟩:=zu h;refine b4 h (la i λq c=>?_);have a0:=qK (dflt:=0) c l0 m0 h0;have b2:=qK (dflt:=(xs.map (enc T a)).length) c c0 g R;rw[e1]at a0;rw[iT]at b2;rw[e2]at b2;unfold gG;simp only[A];have e0:∀K',(bA P E T s.b q.g s.tick (.val (.bk a) ((xs.drop Q).take (d0-Q))) (.val (.sl (((xs.map (enc T a)).drop Q).take (d0-Q))))->K' (.val (.sl (((xs.map (enc T a)).drop Q).take (d0-Q)))))->jX P q e (xs.map (enc T a)) b0 hi Y K':=λK' p0=>by unfold jX;simp only[fH hu,a0,iT,b2];refine⟨⟨D.pos,λy B=>by rw[yc L xs y B,D.cells],S,by grind⟩,p0 ?_⟩;rw[V2];exact bn (t:=.bk a) C.ok
    rcases oB (w q c)with e'|e'<;>rw[e']<;>exact e0 _ λh=>h
   split at h
   .rename_i a xs t G j;cases H:decide (a=t)with
    |false=>grind|true=>
     rw[H]at h;obtain rfl:=e4 H;simp only[aW]at h;refine n0 a xs j (λq c=>?_) h;have g:=c.fL i N;rw[G]at g;generalize q.ev x=u at g;cases g with
     |val _ _ _ av w hv=>obtain ⟨_,rfl⟩:=hv;exact w
   .rename_i a xs t G j;cases H:decide (a=t)with
    |false=>grind|true=>
     rw[H]at h;obtain rfl:=e4 H;simp only[aW]at h;refine n0 a xs j (λq c=>?_) h;have g:=c.fL i N;rw[G]at g;generalize q.ev x=u at g;cases g with
     |bF _ _ _=>rfl
   .rename_i d' t G j;cases l with
    |none=>grind|some l=>
     simp only at h;unfold abn at h;split at h
     .rename_i A0 j0 xs f0;replace h:=az h;obtain⟨g0,h⟩:=h;simp only[aP,aV]at g0;obtain⟨rfl,J⟩:=g0;have C:=I.ty _ _ j;obtain⟨hu,_⟩:=C.elem _ _ rfl J;have part:∀(b:Nat),Ss xs.length r=b->0<=l->(∀m,r=O m->0<=m)->l.toNat<=b->b<=xs.length->K (s.put o.dst (.sub d' l.toNat (b-l.toNat)))=O out->ew P E T X w0 I0 n fz o s kx K out:=by
       intro b q0 h0 R S k0 h;refine b4 h λq c=>?_;have i0:=c.fL i N;rw[G]at i0;obtain⟨_,w⟩:=c.br f0;have a0:=qK (dflt:=0) c l0 m0 λm e=>by grind
       have b2:=qK (dflt:=xs.length) c c0 g R;rw[q0]at b2;have B:=lO (P:=P) (E:=E) (w0:=w0) (I0:=I0) (n:=n) (s:=q) A i (fH hu) (fG c i0 f0) rfl w (l:=l.toNat) (h:=b) a0 b2 S k0;rw[dN]at B;refine⟨_,B,.sub _ _ _ _ λst B0 e2 C0 D0=>?_⟩;have:=dG f0
       grind
      cases r with
      |none=>simp only at h;replace h:=bind_some h;obtain⟨_,f,h⟩:=h;replace f:=dy f;simp only[aP,aV]at f;exact part xs.length rfl f.1 (λm e=>by cases e) f.2 (bq _) h
      |some r=>simp only at h;replace h:=bind_some h;obtain⟨_,f,h⟩:=h;replace f:=dy f;simp only[aP,aV]at f;exact part r.toNat rfl f.1 (λm e=>by grind) f.2.2.1 f.2.2.2 h
     .cases h
   .rename_i k p t G j;split at h
    .rename_i m a j0 E0;replace h:=az h;obtain⟨g0,h⟩:=h;simp only[aP,aV]at g0;obtain⟨rfl,J⟩:=g0;have C:=I.ty _ _ j;obtain⟨hu,r0⟩:=C.elem _ _ rfl J;have D:=I.ty _ _ r0;replace h:=bind_some h;obtain⟨p,rfl,h⟩:=h;replace h:=bind_some h;obtain⟨_,f,h⟩:=h;replace f:=dy f;simp only[aP,aV]at f;refine b4 h λq c=>?_;have i0:=c.fL i N;rw[G]at i0;have b2:=qK (dflt:=p.2) c c0 g λs0 e=>by grind
     exact⟨_,BQ (P:=P) (E:=E) (w0:=w0) (I0:=I0) (n:=n) (s:=q) A i (fH hu) D.pos (Cx i0) (h:=m.toNat) rfl b2 f.2,bn (t:=.hs k) (x:=O (p.1,m.toNat)) rfl⟩
    .cases h
   .rename_i d0 j;split at h
    .rename_i v hv;have C:=I.ty _ _ j;obtain⟨Q,d0,e1,e2,h0,R,S,k0,h⟩:=zu h;refine b4 h (la i λq c=>?_);have w:=dk (dm (c.fL i N) hv rfl);have a0:=qK (dflt:=0) c l0 m0 h0;have b2:=qK (dflt:=List.length (α:=bc) v) c c0 g R;rw[e1]at a0;rw[e2]at b2;unfold gG;simp only[A];rw[w];unfold GQ;simp only[a0,b2];exact⟨⟨trivial,C.str rfl,S,k0⟩,bn (t:=.str) rfl⟩
    .cases h
   .cases h
  .cases h
 |some z=>
  unfold iA at h;simp only[A]at h;cases h0:sl0 b0 hi z with
  |false=>
   rw[h0]at h;simp only[aX]at h;split at h
   .rename_i r m o0 t0;split at h
    .rename_i a xs t G j;cases H:decide (a=t)with
     |false=>grind|true=>
      rw[H]at h;obtain rfl:=e4 H;simp only[aW]at h;replace h:=bind_some h;obtain⟨_,f,h⟩:=h;replace f:=dy f;simp only[aP,aV]at f;obtain⟨u0,rfl,G0⟩:=f;have C:=I.ty _ _ j;obtain⟨j0,hu,J⟩:=C.bk a rfl;have D:=I.ty _ _ J;obtain⟨y,rfl⟩:∃y,hi=O y:=by
       cases hi with
       |none=>cases o0
       |some y=>grind
      refine b4 h (la i λq c=>?_);have g:=c.fL i N;rw[G]at g;have w:bz (q.ev x)=O (.sl (xs.map (enc T a))):=by
       generalize q.ev x=u at g;cases g with
       |val _ _ _ av w hv=>obtain ⟨_,rfl⟩:=hv;exact w
      have b2:∀dflt,mS q dflt (O y)=O r.toNat:=λdflt=>qK (dflt:=dflt) c c0 o0 λs0 e=>by grind
      obtain⟨H0,hz⟩:=j8 (c.fL i (x:=z) (by simp[A,Op.operands])) t0;have e0:jX P q e (xs.map (enc T a)) Y (O y) (O z) λu=>bA P E T s.b q.g s.tick (.bF a (xs.take r.toNat)) u:=by
       unfold jX;have x0:mS q 0 (O z)=O r.toNat:=by simp[mS,hz,u0]
       simp only[fH hu,b2,x0];refine⟨⟨D.pos,λy B=>by rw[yc L xs y B,D.cells],eM _,by grind,rfl,trivial⟩,?_⟩;simp only[qn,tD,<-AX];exact .bF a _ D.ok
      unfold gG;simp only[A];rcases oB w with e'|e'<;>rw[e']<;>exact e0
    .cases h
   .cases h
  |true=>
   rw[h0]at h;simp only[aW]at h;obtain⟨R,S,rfl,rfl,rfl⟩:∃k k',b0=Y/\hi=O (.const (.int k 0))/\z=.const (.int k' 0):=by
    unfold sl0 at h0
    grind
   split at h
   .rename_i a xs t G j;cases H:decide (a=t)with
    |false=>grind|true=>
     rw[H]at h;obtain rfl:=e4 H;simp only[aW]at h;have C:=I.ty _ _ j;obtain⟨j0,hu,J⟩:=C.bk a rfl;have D:=I.ty _ _ J;refine b4 h (la i λq c=>?_);have g:=c.fL i N;rw[G]at g;have w:bz (q.ev x)=O (.sl (xs.map (enc T a))):=by
      generalize q.ev x=u at g;cases g with
      |val _ _ _ av w hv=>obtain ⟨_,rfl⟩:=hv;exact w
     have e0:jX P q e (xs.map (enc T a)) Y (O (.const (.int R 0))) (O (.const (.int S 0))) λu=>bA P E T s.b q.g s.tick (.bF a []) u:=by
      unfold jX;have f0:∀k d,mS q d (O (.const (.int k 0)))=O 0:=λk d=>by simp[mS,St.ev,cB]
      simp only[fH hu,f0];refine⟨⟨D.pos,λy B=>by rw[yc L xs y B,D.cells],eM _,eM _,rfl,trivial⟩,?_⟩;simp only[Bb,A9];exact .bF a [] D.ok
     unfold gG;simp only[A];rcases oB w with e'|e'<;>rw[e']<;>exact e0
   .cases h
theorem Fy{a b:V β}{r:β}(h:both a b=O r):a=O r/\b=O r:=by
 unfold both at h
 grind
include L in
theorem SB(k:bJ P E T X)(f:ba n o=W){bo:iS}{e':an}{x:ah}(d:o.op=.binOp bo e x y e')(h:iA X kx esc fz o s K=O out):ew P E T X w0 I0 n fz o s kx K out:=by
 unfold iA at h;simp only[d]at h;split at h
 .rename_i t g;have z:x∈o.op.operands:=by simp[d,Op.operands]
  have l:=k.ty _ _ g;obtain⟨D,m⟩:=nf l;have p:Hf y=W->y=.const (.slice Y 0 0):=λi=>by grind [Hf]
  have G:∀(a:Z (bL U.C t)),ga (.bk t) (s.ev x)=O a->Hf y=W->(bo=.eql∨bo=.neq)->(bif !fz then Y else cond (List.isEmpty (α:=bL U.C t) a) (both (K (s.put o.dst (.val .bool (if bo=.eql then W else !W)))) (K (s.put o.dst (.val .bool (if bo=.eql then F else !F))))) (K (s.put o.dst (.val .bool (if bo=.eql then F else !F)))))=O out->ew P E T X w0 I0 n fz o s kx K out:=by
   intro a A i r h;cases fz with
   |false=>cases h
   |true=>
    simp only[fQ,aX]at h;have u:∀q,aU P E T X s q->bz (q.ev x)=O (.sl (a.map (enc T t))):=λq c=>dm (c.fL f z) A l.ok;cases w:List.isEmpty (α:=bL U.C t) a with
    |true=>
     rw[w]at h;simp only[aW]at h;have j:=Fy h;refine .h8 rfl _ _ j.1 j.2 (bi _ _) (bi _ _) λq c=>?_;refine zh d f r (p i) m (u q c) λb _=>?_;cases b with
     |true=>exact .inl (c.put o.dst (bn (t:=.bool) rfl))|false=>exact .inr (c.put o.dst (bn (t:=.bool) rfl))
    |false=>
     rw[w]at h;simp only[aX]at h;refine .one _ h (bi _ _) λq c=>?_;refine zh d f r (p i) m (u q c) λb j=>?_;cases b with
     |true=>simp_all|false=>exact ⟨c.put o.dst (bn (t:=.bool) rfl),λh=>by cases h⟩
  grind
 .rename_i t H g;replace h:=az h;obtain⟨I,h⟩:=h;obtain⟨J,v,B,C⟩:=VV (w0:=w0) (I0:=I0) L (k.ty _ _ g) (by simp_all) d f h;exact b4 B C
 .cases h
theorem SC{bx:Z (Nat×Nat×B U.C)}{st:Nat}{b:B U.C}:∀d',d'≠d->kG bx ((d,st,b)::bu bx d) g (b8 g d (g d+1)) tick d':=λd' e=>by
 left;rw[aT,ao (eN e),aR,ao (eN e),aO _ _ e]
 grind
theorem aU.ep {s:S U.C} {q:St} (h:aU P E T X s q) {rs:Z (R U.C)} {cs:Z cH} (g:ns d s.b=W) (j:(B.cells t rs).bb d=F) (k:fD t=W) (l:bB U D t=rs.length) (a:eC P E T s.b q.g s.tick rs cs):
  aU P E T X (({s with r:=jY d s.tick s.r,b:=(d,s.tick,.cells t rs)::bu s.b d,tick:=s.tick+1}:S U.C).put (O d) (.dT d 0)) (q.ep d cs):=by
 have m:oz P E T X ((d,s.tick,B.cells t rs)::bu s.b d) (b8 q.g d (q.g d+1)) (s.tick+1) (O (s.tick,.cells t rs)) (O (.cells cs)):=by
  refine⟨k,l,cs,rfl,a.1,λi r c f n=>(a.2 i r c f n).mono (λd' o=>SC d' λe=>?_) (cO _)⟩;subst e;have:=fa.1 j r (bW f)
  grind
 have:=(h.Ml g m).put (O d) (r:=.dT d 0) (u:=.dT d (q.g d+1) 0 0 0) (.dT d 0 _ λst u p v=>aH);exact this
def aU.cQ {s:S U.C} {q:St} (h:aU P E T X s q) {xs:Z (bL U.C t)} (c:ns d s.b=W) (f:X.ty e=O t):
  aU P E T X (({s with r:=jY d s.tick s.r,b:=(d,s.tick,.br t e xs)::bu s.b d,tick:=s.tick+1}:S U.C).put (O d) (.whole d)) (q.cQ d e (xs.map (enc T t))):=by
 have g:oz P E T X ((d,s.tick,B.br t e xs)::bu s.b d) (b8 q.g d (q.g d+1)) (s.tick+1) (O (s.tick,.br t e xs)) (O (.br e (xs.map (enc T t)))):=⟨f,rfl⟩
 have:=(h.Ml c g).put (O d) (r:=.whole d) (u:=.view d (q.g d+1) 0 (xs.map (enc T t)).length) (.whole d _ λst i e' j a=>by simp only[aT,cm,aN,cz,B.br.injEq]at a;obtain⟨_,rfl,_,a⟩:=a;cases a;simp);exact this
theorem SD{r:cH}{x:Bx}(c:o.dst=O d)(f:d∈eQ o)(j:fA X s o.op=W):Fr X s o q {q with r:=b8 q.r d r,b:=b8 q.b d (O x),g:=b8 q.g d (q.g d+1)}:=by
 refine⟨λt i _=>.inl (aO _ _ λe=>i (by rw[c,e])),λd' _ a=>?_,λ_ _ _ _=>⟨rfl,rfl⟩,rfl,λd' a=>?_,λh=>by grind⟩
 grind [aO]
 .have:d'≠d:=λe=>a (e▸f);exact⟨.of_eq (aO _ _ this),aO _ _ this⟩
def pb(a:o.dst=O d)(c:d∈eQ o)(e:fA X s o.op=W){rs:Z (R U.C)}(h:s.new d (.cells t rs) (λs=>K (s.put o.dst (.dT d 0)))=O out)(f:fD t=W)(g:bB U D t=rs.length)
  (i:∀q,aU P E T X s q->∃cs,eC P E T s.b q.g s.tick rs cs/\∀K':St->Prop,K' (q.ep d cs)->dL P E w0 I0 n o q K'):ew P E T X w0 I0 n fz o s kx K out:=by
 obtain⟨⟨j,k⟩,h⟩:=mF h;rw[a]at h;refine .one _ h ((kH _ _).trans (bi _ _)) λq b=>?_;obtain⟨cs,l,m⟩:=i q b;exact m _ ⟨b.ep j k f g l,λ_=>SD a c e⟩
def yd(a:o.dst=O d)(c:d∈eQ o)(f:fA X s o.op=W){xs:Z (bL U.C t)}(h:s.new d (.br t e xs) (λs=>K (s.put o.dst (.whole d)))=O out)(g:X.ty e=O t)
  (i:∀q,aU P E T X s q->∀K':St->Prop,K' (q.cQ d e (xs.map (enc T t)))->dL P E w0 I0 n o q K'):ew P E T X w0 I0 n fz o s kx K out:=by
 obtain⟨⟨j,k⟩,h⟩:=mF h;rw[a]at h;exact .one _ h ((kH _ _).trans (bi _ _)) λq b=>i q b _ ⟨b.cQ j g,λ_=>SD a c f⟩
def JK(h:bz u=O av)(a:av.isAgg=W):ih u=O (av.cells.map .val):=by
 cases u<;>simp[bz]at h
 .subst h;rfl
 .subst h;cases a
theorem tS(h:bz u=O av)(a:av.isAgg=F):ih u=O [u]/\GJ u∨∃xs,u=.bF xs:=by
 cases u<;>simp[bz]at h
 .subst h;left;rename_i v;have:v.cells=[v]:=by cases v<;>first|rfl|(simp[AV.isAgg]at a)
  refine⟨by simp[ih,this],?_⟩;show v.wf;intro c b
  grind
 grind
def Fz{x:bL U.C t}(a:a7 t=F):(enc T t x).isAgg=F:=p9 a
theorem JL{r B:R U.C}(h:N8 s t r=O B)(C:a7 t=F):∀q u,aU P E T X s q->bA P E T s.b q.g s.tick r u->ih u=O [u]/\GJ u/\Rz q u/\bA P E T s.b q.g s.tick B u:=by
 intro q u n g;unfold N8 at h;split at h
 .rename_i d;split at h
  .rename_i D e xs l;simp only[aN]at h;subst h;have p:=fG n g l;obtain⟨_,b⟩:=n.br l;subst p;exact⟨rfl,trivial,⟨rfl,_,_,b⟩,g⟩
  .cases h
 .rename_i d k;split at h
  .rename_i D rs l;simp only[aN]at h;subst h;have p:=jN n g l;obtain⟨_,_,cs,b,_⟩:=n.cells l;subst p;exact⟨rfl,trivial,⟨rfl,by grind⟩,g⟩
  .cases h
 .rename_i f caps;simp only[aN]at h;subst h;have w:=g;cases g with
  |fn _ _ H i o=>exact ⟨rfl,(λc y=>by simp[AV.cells]at y;subst y;rfl),trivial,w⟩
 .rename_i j xs;cases G:decide (t=.bk j)with
  |false=>grind|true=>
   rw[G]at h;simp only[aW,aN]at h;subst h;have w:=g;cases g with
   |bF _ _ a=>exact ⟨rfl,trivial,trivial,w⟩
 .rename_i v;cases m:fE v with
  |true=>
   rw[m]at h;simp only[aW]at h;split at h
   .rename_i j;cases a:fD j with
    |false=>grind|true=>
     rw[a]at h;simp only[aW,aN]at h;subst h;unfold fE at m;split at m
     .cases g with
      |const _ y=>exact ⟨rfl,trivial,trivial,.bF j [] a⟩
     .cases m
   .cases h
  |false=>
   rw[m]at h;simp only[aX]at h;cases a:fD t with
   |false=>grind|true=>
    rw[a]at h;simp only[aW]at h;split at h
    .rename_i x z;simp only[aN]at h;subst h;have b:bz u=O (enc T t x):=dm (r:=.const v) g (by simp[ga,a,z]) a;rcases tS b (Fz C)with⟨i,o⟩|⟨xs,i⟩
     .refine ⟨i,o,?_,.val t x u _ b (eg a)⟩;cases u<;>first|trivial|(simp[bz]at b)
     .subst i;exact⟨rfl,trivial,trivial,.val t x _ _ b (eg a)⟩
    .cases h
 .rename_i j x;split at h
  .rename_i A z;cases a:fD t with
   |false=>grind|true=>
    rw[a]at h;simp only[aW,aN]at h;subst h;have b:bz u=O (enc T t A):=dm (r:=.val j x) g (by simpa[ga]using z) a;rcases tS b (Fz C)with⟨i,o⟩|⟨xs,i⟩
    .refine ⟨i,o,?_,.val t A u _ b (eg a)⟩;cases u<;>first|trivial|(simp[bz]at b)
    .subst i;exact⟨rfl,trivial,trivial,.val t A _ _ b (eg a)⟩
  .cases h
 .cases h
def lT:∀(k:Nat)(t:Ty)(rs:Z (R U.C)),ha U k t=W->mB U k t=O rs->rs.length=bB U k t
 |k,t,rs,a,h=>by
  cases t with
  |struct m=>
   cases k with
   |zero=>simp[ha]at a|succ k=>
    simp only[ha,di]at a;have b:∀(ts:Z Ty)(rs:Z (R U.C)),(∀t∈ts,ha U k t=W)->rW (mB U k) ts=O rs->rs.length=ki (bB U k) ts:=by
     intro ts;induction ts with
     |nil=>intro rs _ h;simp only[rW,aN]at h;subst h;rfl|cons t ts c=>
      intro rs a h;simp only[rW]at h;split at h
      .rename_i x xs d e;simp only[aN]at h;subst h;rw[jf,lT k t x (a t aH) d,c xs (λt f=>a t (by simp[f])) e];rfl
      .cases h
    simp only[mB]at h;exact b _ _ a h
  |mp m=>cases g:Nat.blt m 1000<;>cases k<;>simp only[mB,g,aW,aX,aN,reduceCtorEq]at h<;>(first|(subst h;rfl)|cases h)
  |_=>cases k<;>simp only[mB,aN,reduceCtorEq]at h<;>(first|(subst h;rfl)|cases h)
include L in
theorem SE(y:bJ P E T X)(e0:ba n o=W)(f:o.op=.alloc e)(J:oy esc o.dst=Y)(h:iA X kx esc fz o s K=O out):ew P E T X w0 I0 n fz o s kx K out:=by
 unfold iA at h;simp only[f,J]at h;split at h
 .rename_i d t cs g u l;rw[u]at l;have l:mB U D t=O cs:=l;have m:=y.ty _ _ u;cases C:(fz||(s.box d).isNone)with
  |false=>grind|true=>
   rw[C]at h;simp only[aW]at h;obtain⟨i,a,p,w,z,G,N,H⟩:=m.zero;obtain⟨Q,S⟩:=H cs l;refine pb g (by simp[eQ,g,f]) (by simp[fA,f]) h m.ok (lT D t cs (iF L t) l).symm λq a0=>?_;have b0:∃x:Z cH,x.length=cs.length/\∀(j:Nat)(r:R U.C)(v:ag)(c:cH),cs[j]?=O r->a.cells[j]?=O v->x[j]?=O c->(c=cB v∨(v=.slice Y 0 0/\c=.val .hk))/\bA P E T s.b q.g s.tick r c:=by
    have:∀j:Fin cs.length,∃c:cH,∀v,a.cells[j.1]?=O v->(c=cB v∨(v=.slice Y 0 0/\c=.val .hk))/\bA P E T s.b q.g s.tick cs[j] c:=λj=>by
     have A:j.1<a.cells.size:=by grind
     rcases S j.1 cs[j] a.cells[j.1] aH (by simp[A])with k|⟨k,b⟩
     simp_all;simp_all
    refine⟨List.ofFn λj:Fin cs.length=>(this j).choose,aH,λj r v c k b f0=>?_⟩
    grind
   obtain⟨x,I,c0⟩:=b0;refine⟨x,⟨I.symm,λj r c k b=>?_⟩,λK' B=>?_⟩
   grind
   .refine wb f g p w z (by rw[I,Q]) (λj v c k b=>?_) B;have A:j<cs.length:=by grind
    exact(c0 j cs[j] v c (by simp[A]) k b).1
 .rename_i d t g u l;have m:=y.ty _ _ u;replace h:=az h;obtain⟨C,h⟩:=h;obtain⟨i,a,p,w,z,G,N,H⟩:=m.zero;have hsz:a.cells.size=bB U D t:=by rw[G,<-m.cells];unfold Program.cellsOf;rw[p];rfl
  refine pb g (by simp[eQ,g,f]) (by simp[fA,f]) h m.ok aH λq a0=>?_;refine⟨a.cells.toList.map cB,⟨by simp[hsz],λj r c k b=>?_⟩,λK' B=>?_⟩
  .have:r=bif X.ry e then .const .nilFunc else .none:=by grind
   subst this;cases d0:X.ry e with
   |false=>exact .none _|true=>simp only[gu,c8]at b;obtain⟨v,hv,rfl⟩:=b;rw[y.ry e d0 i a p w v (bW hv)];exact .const .nilFunc rfl
  .refine wb f g p w z aH (λj v c k b=>.inl ?_) B
   grind
 .cases h
include L in
theorem Zv(p:bJ P E T X)(i:ba n o=W){x:ah}(a:o.op=.box e x)(w:oy esc o.dst=Y)(h:iA X kx esc fz o s K=O out):ew P E T X w0 I0 n fz o s kx K out:=by
 have m:x∈o.op.operands:=by simp[a,Op.operands]
 unfold iA at h;simp only[a,w]at h;split at h
 .rename_i d t b y;have c:=p.ty _ _ y;cases z:(fz||(s.box d).isNone)with
  |false=>grind|true=>
   rw[z]at h;simp only[aW]at h;cases f:a7 t with
   |true=>
    rw[f]at h;simp only[aW]at h;split at h
    .rename_i v hv;have A:(nt U D t v).length=bB U D t:=by have:=(iZ (P:=P) (E:=E) (T:=T) (bx:=[]) (g:=λ_=>0) (tick:=0) L D t v (iF L t) c.ok).1;rw[this,iT,fg L]
     refine pb b (by simp[eQ,b,a]) (by simp[fA,a]) h c.ok A.symm λq j=>⟨(enc T t v).cells.map .val,iZ L D t v (iF L t) c.ok,λK' k=>?_⟩
     have l:=dm (j.fL i m) hv c.ok;have B:(enc T t v).isAgg=W:=by cases t<;>first|rfl|(simp[a7]at f)
     refine xC a i b (JK l B) ?_ k;generalize q.ev x=u at l;cases u<;>first|trivial|(simp[bz]at l)
    .cases h
   |false=>
    rw[f]at h;simp only[aX]at h;split at h
    .rename_i r C;have G:bB U D t=1:=by cases t<;>first|rfl|(simp[a7]at f)
     refine pb b (by simp[eQ,b,a]) (by simp[fA,a]) h c.ok (by rw[G];rfl) λq j=>?_;obtain⟨q1,J,H,I⟩:=JL C f q _ j (j.fL i m);exact⟨[q.ev x],.cons I .nil,λK' k=>xC a i b q1 H k⟩
    .cases h
 .cases h
theorem FA(f:bJ P E T X){a:Ty}(b:fD a=W)(L:cD U T):∀(l:Z (Nat×ah))(m:Nat)(xs:Z (bL U.C a)),Cc s a l m=O xs->l.map (·.1)=(List.range l.length).map (·+m)/\l.length=xs.length/\∀q,aU P E T X s q->(∀p∈l,ca p.2=W)->da q (l.map (·.2))=O (xs.map (enc T a))
 |[],m,xs,h=>by simp only[Cc,aN]at h;subst h;exact ⟨rfl,rfl,λq _ _=>rfl⟩|(i,x)::l,m,xs,h=>by
  simp only[Cc]at h;cases c:Nat.beq i m with
  |false=>grind|true=>
   rw[c]at h;simp only[aW]at h;obtain rfl:=cC c;split at h
   .rename_i v vs g j;simp only[aN]at h;subst h;obtain⟨q1,k,n⟩:=FA f b L l (i+1) vs j;refine⟨?_,by simp[k],λq d e=>?_⟩
    .simp only[gb,ie,List.range_succ_eq_map,AW];rw[q1];simp only[dN,ET,mW];apply EY
     grind
    .simp only[gb,da];rw[dm (d.ev x (e (i,x) aH)) g b,n q d λp o=>e p (by simp[o])]
   .cases h
theorem uJ{bx:Z (Nat×Nat×B U.C)}{c:Nat->Nat->V AV}{r:R U.C}(n:bA P E T bx g tick r u)(v:r.bb d=F):bA P E T (bu bx d) (b8 g d (g d+1)) (tick+1) r (jx d (g d+1) c u):=by
 have h:=n.mono (bx':=bu bx d) (g':=b8 g d (g d+1)) (λd' y=>.inl (by
  have b:d≠d':=λe=>by grind
  rw[aR,ao b,aO _ _ (eN b)]
  grind)) (cO tick)
 have b:∀d' st x,aF (bu bx d) d'=O (st,x)->d'≠d/\aF bx d'=O (st,x):=λd' st x o=>by
  rw[aR]at o
  grind
 cases n with
 |none=>exact .none _|val t x _ av a hv=>rw[Cv a];exact h
 |const w z=>rw[zy];exact h|dT d' k _ a=>refine .dT d' k _ λst u rs f=>?_;obtain⟨j,l⟩:=b _ _ _ f;rw[a _ _ _ l,aO _ _ j];rfl
 |whole d' _ a=>
  refine .whole d' _ λst t e xs f=>?_
  grind [aO,jx]
 |gq d' i k p t x _ A a=>refine .gq d' i k p t x _ M λst C e xs f=>?_;obtain⟨j,l⟩:=b _ _ _ f;obtain⟨q1,q,s⟩:=a _ _ _ _ l;rw[q1,aO _ _ j];exact⟨rfl,q,s⟩|sub d' off m _ a=>
  refine .sub d' off m _ λst t e xs f=>?_
  grind [aO,jx]
 |_=>exact h
theorem HB:∀(l:Z (Nat×ah))(e:∀p∈l,ca p.2=W),(zj s (ia l)).all VN=W->∀q,aU P E T X s q->∃a,da q (l.map (·.2))=O a/\(zj s (ia l)).length=a.length/\(∀(i:Nat)(r:R U.C)(av:AV),(zj s (ia l))[i]?=O r->a[i]?=O av->bA P E T s.b q.g s.tick r (.val av))/\∀(i:Nat)(av:AV),a[i]?=O av->av.isAgg=F/\av.cells=[av]
 |[],_,_,q,g=>⟨[],rfl,rfl,λi r av h=>by grind,λi av h=>by simp at h⟩|(j,x)::l,e,h,q,g=>by
  simp only[ia,zj,tC,aP]at h;obtain⟨a,b,c,v,w⟩:=HB l (λy m=>e y (by simp[m])) h.2 q g;have d:=g.ev x (e (j,x) aH);have:∃av,q.ev x=.val av/\(av.isAgg=F/\av.cells=[av])/\bA P E T s.b q.g s.tick (s.ev x) (.val av):=by
   have k:=h.1;revert d k;generalize s.ev x=r;generalize q.ev x=u;intro d k;cases d with
   |fn f caps a b c=>exact ⟨_,rfl,⟨rfl,rfl⟩,.fn f caps a b c⟩|mc f caps a b c=>exact ⟨_,rfl,⟨rfl,rfl⟩,.mc f caps a b c⟩
   |_=>cases k
  obtain⟨n,o,z,A⟩:=this;refine⟨n::a,by simp[da,o,bz,b],by simp[zj,ia,c],λi r av d t=>?_,λi av t=>?_⟩
  grind [zj,ia]
  grind
theorem zz:∀{l:Z (Nat×ah)}{n:Nat},zl l n=W->l.map (·.1)=(List.range l.length).map (·+n)
 |[],n,h=>rfl|(i,x)::l,n,h=>by
  simp only[zl,aP]at h;have e:=cC h.1;rw[ie,List.range_succ_eq_map,gb,gb,zz h.2,AW];simp only[e,dN,ET,mW];apply EY
  grind
theorem Zw(a0:bJ P E T X)(H:ba n o=W)(b0:o.op=.buildSlice e len parts)(h:Zk X fz s o.dst e len parts.toList K=O out):ew P E T X w0 I0 n fz o s kx K out:=by
 unfold Zk at h;split at h
 .rename_i d I;replace h:=az h;obtain⟨z,h⟩:=h;simp only[aP,aV]at z;obtain⟨rfl,A,hlen,d0,e0,y0,f0,A0⟩:=z;have hlen:=cC hlen;obtain⟨l,hu,hz,B0⟩:=a0.Mb e A;have g0:bw s ({s with r:=jY d s.tick s.r,b:=bu s.b d,tick:=s.tick+1}:S U.C):=by
   refine⟨rfl,cO _,λt st x f h0=>?_,λe st x f h0=>?_,λh=>⟨rfl,rfl⟩⟩
   .simp only[im,c8]at f
    grind
   grind [aR]
  refine .one _ h (g0.trans (bi _ _)) λq k=>?_;have i0:∀p∈parts.toList,ca p.2=W:=λp C0=>bS H (by grind [Op.operands]);obtain⟨g,j0,a2,a3,J⟩:=HB parts.toList i0 e0 q k;have k0:parts.toList.map (·.1)=List.range len:=by rw[zz d0,hlen];simp_all
  have l0:lF P l g:=λy m0=>by obtain⟨i,hi⟩:=kR.1 m0;obtain⟨e1,j⟩:=J i y hi;exact⟨by grind,λc z=>by grind⟩
  refine dL.ya (pO (K:=λq1=>q1=q.cQ d l g) b0 H I (fH hu) hz k0 (by grind) j0 l0 rfl) λq1 e1=>?_;subst e1;refine⟨(q.cQ d l g).cv d λoff len=>O (.sl ((g.drop off).take len)),λa w m=>uy (ch _ _ _) m,?_,λA=>by cases A⟩;have n0:∀t,((({s with r:=jY d s.tick s.r,b:=bu s.b d,tick:=s.tick+1}:S U.C)).bG t).bb d=F/\((({s with r:=jY d s.tick s.r,b:=bu s.b d,tick:=s.tick+1}:S U.C)).bG t=s.bG t∨(({s with r:=jY d s.tick s.r,b:=bu s.b d,tick:=s.tick+1}:S U.C)).bG t=.none):=λt=>by
   rw[S.ib,S.ib];simp only[im];cases B:aF s.r t with
   |none=>exact ⟨rfl,.inl rfl⟩|some x=>grind [R.bb]
  rw[I];refine⟨λt=>?_,λd'=>?_,λt st x f=>?_,λd' st x f=>?_,k.heap,k.df⟩
  .by_cases L:d=t
   .subst L;have e1:(S.put ({s with r:=jY d s.tick s.r,b:=bu s.b d,tick:=s.tick+1}:S U.C) (O d) (.sN (zj s (ia parts.toList)))).bG d=.sN (zj s (ia parts.toList)):=by unfold S.bG S.put;simp[aT]
    have j:((q.cQ d l g).cv d λoff len=>O (.sl ((g.drop off).take len))).r d=.val (.sl g):=by simp[St.cv,St.cQ,jx,de]
    rw[e1,j];refine .sN _ _ a2 (λi r av m C=>?_) λi av C=>(J i av C).1;have o0:=uJ (d:=d) (c:=λoff len=>O (.sl ((g.drop off).take len))) (a3 i r av m C) (by grind);exact o0.later (cO _)
   .obtain ⟨N,m2⟩:=n0 t;have e1:(S.put ({s with r:=jY d s.tick s.r,b:=bu s.b d,tick:=s.tick+1}:S U.C) (O d) (.sN (zj s (ia parts.toList)))).bG t=({s with r:=jY d s.tick s.r,b:=bu s.b d,tick:=s.tick+1}:S U.C).bG t:=by grind [S.bG,S.put,aT]
    have j:((q.cQ d l g).cv d λoff len=>O (.sl ((g.drop off).take len))).r t=jx d (q.g d+1) (λoff len=>O (.sl ((g.drop off).take len))) (q.r t):=by simp only[St.cv,St.cQ,aO _ _ (eN L),ch]
    rw[e1,j];rcases m2 with m2|m2
    .rw[m2]at N⊢;exact(uJ (k.ct t) N).later (cO _)
    .rw[m2];exact .none _
  .show oz P E T X (bu s.b d) _ _ (aF (bu s.b d) d') _;by_cases v:d=d'
   .rw[aR,aq v];trivial
   .have D:=k.bD d';have j:((q.cQ d l g).cv d λoff len=>O (.sl ((g.drop off).take len))).b d'=(q.b d').map (RX d (q.g d+1) λoff len=>O (.sl ((g.drop off).take len))):=by simp only[St.cv,St.cQ,PO,ao (eN v),aO _ _ (eN v),ch]
    rw[aR,ao v,j];cases B:aF s.b d' with
    |none=>trivial|some x=>
     obtain⟨st,x⟩:=x;rw[B]at D;have p0:=qJ f0 (t:=d') (st:=st) (x:=x) (by rw[aR,ao v];exact B);cases x with
     |br t e xs=>obtain⟨G,b2⟩:=D;exact⟨G,by rw[b2];rfl⟩|cells u rs=>obtain⟨G,b2,cs,q0,D0,r0⟩:=D;refine⟨G,b2,_,by rw[q0];rfl,by grind,λi r E0 m Q=>?_⟩;simp only[gu,c8]at Q;obtain⟨s0,t0,rfl⟩:=Q;exact(uJ (r0 i r s0 m t0) (fa.1 p0 r (bW m))).later (cO _)
  .simp only[S.put,aT]at f⊢;split at f
   grind
   .rw[im]at f;simp only[c8]at f;obtain⟨⟨u0,x0⟩,e1,j⟩:=f;split at j
    grind
    .simp only[cz]at j;have:=k.zo t u0 x0 e1;omega
  .simp only[S.put]at f⊢;rw[aR]at f;split at f
   .cases f
   .have:=k.Ez d' st x f;omega
 .cases h
include L in
theorem EE(a:bJ P E T X)(u:∀e t,X.ty e=O t->P.cellsOf e<=256)(g:ba n o=W)(b:o.op=.buildSlice e len parts)(h:iA X kx esc fz o s K=O out):ew P E T X w0 I0 n fz o s kx K out:=by
 unfold iA at h
 simp only[b]at h
 split at h
 .rename_i d v j k w x
  obtain⟨s',h,m,A,B,r⟩:=wD (P:=P) (E:=E) (T:=T) (w0:=w0) (I0:=I0) (n:=n) a _ fz s h
  suffices C:ew P E T X w0 I0 n fz o s' kx K out by
   cases fz with
   |false=>grind
   |true=>exact ew.ya m r C
  clear m A B r
  split at h
  .rename_i xs D
   cases c:(Nat.beq parts.toList.length len&&decide (len<=65536))with
   |false=>grind
   |true=>
    rw[c]at h
    simp only[aW]at h
    simp only[aP,aV]at c
    have U:=cC c.1
    have G:=a.ty _ _ w
    obtain⟨H,l⟩:=G.elem v j rfl x
    have f:=a.ty _ _ l
    obtain⟨q1,a0,I⟩:=FA a f.ok L _ _ _ D
    refine yd k (by simp[eQ,k,b]) (by simp[fA,b]) h l λq J K' N=>?_
    have Q:uu P j=W:=by
     obtain⟨i,b0,c0,d0,e0,f0,_⟩:=f.zero
     simp only[uu,aP,aV]
     refine⟨f.pos,?_⟩
     unfold oq
     grind
    refine pO b g k (fH H) Q (by simp_all) ?_ (I q J λp g0=>bS g ?_) (λy R=>?_) N
    .have S:=u _ _ l
     calc len*P.cellsOf j<=65536*256:=Nat.mul_le_mul c.2 S
      _=16777216:=rfl
    grind [Op.operands]
    .obtain ⟨z,_,rfl⟩:=gC.1 R
     exact⟨by rw[fg L,f.cells],qI L z⟩
  .cases h
 .exact Zw a g b h
 .cases h
theorem Aq.trans {s s':S U.C} {q q'':St} (b:Aq s q q') (c:Aq s' q' q'') (f:aU P E T X s' q') (p:∀d,aF s.b d=Y->aF s'.b d=Y) (r:s'.m=s.m):Aq s q q'':=by
 obtain⟨v,a2,a3,a4,a5,g⟩:=b;obtain⟨w,b2,j,y,l,m⟩:=c;have z:∀d,q'.b d=Y->q''.b d=Y:=λd A=>by
  have:aF s'.b d=Y:=by
   have a:=f.bD d;cases n:aF s'.b d with
   |none=>rfl|some x=>
    obtain⟨st,x⟩:=x;rw[n]at a;cases x with
    |cells u rs=>obtain ⟨_,_,cs,o,_⟩:=a;grind|br t e xs=>obtain ⟨_,o⟩:=a;grind
  grind
 refine⟨λt=>?_,λd h=>by grind,by rw[j,a3],λk i B h=>?_,by rw[l,a5],λd=>(g d).trans (m d)⟩
 grind
 grind
theorem Fr.pc {s:S U.C} {q:St} (h:Aq s q q') (g:fA X s o.op=F->q'=q):Fr X s o q (q'.put o.dst u):=by
 obtain⟨j,a2,a3,a4,a5,l⟩:=h;have m:∀t,o.dst≠O t->(q'.put o.dst u).r t=q'.r t:=λt a=>by
  cases b:o.dst with
  |none=>rfl|some d=>exact aO _ _ λe=>a (by rw[b,e])
 have c:(q'.put o.dst u).b=q'.b/\(q'.put o.dst u).g=q'.g/\(q'.put o.dst u).a=q'.a/\(q'.put o.dst u).u=q'.u/\(q'.put o.dst u).df=q'.df:=by cases o.dst<;>exact ⟨rfl,rfl,rfl,rfl,rfl⟩
 obtain⟨n,b2,p,r,f⟩:=c;refine⟨λt a _=>by grind,λd b _=>⟨by grind,by rw[b2,a3]⟩,λk i v w=>by grind,by rw[f,a5],λd _=>⟨by grind,by rw[b2,a3]⟩,λa=>?_⟩
 grind
theorem FB{U:cp}:∀{k:Nat}{fs:Z Ty}{f off:Nat}{t:Ty},pU U k fs f=O (off,t)->t∈fs
 |k,[],f,off,t,h=>by cases f<;>simp[pU]at h
 |k,a::fs,0,off,t,h=>by grind [pU,aN,cz]|k,a::fs,f+1,off,t,h=>by simp only[pU]at h;exact IX _ (FB h)
theorem lU:∀{qs:Z cH}{zs:Z AV},dC qs=O zs↔qs.map bz=zs.map O
 |[],zs=>by cases zs<;>simp[dC]
 |r::qs,zs=>by
  cases zs with
  |nil=>
   simp only[dC,zb,gb,reduceCtorEq,iff_false]
   grind
  |cons z zs=>
   simp only[dC,gb,ET];rw[<-lU (qs:=qs) (zs:=zs)]
   grind
def r9{zs vs:Z AV}(h:dC qs=O zs):dC (bh qs k (vs.map .val))=O (bh zs k vs):=by rw[lU]at h⊢;unfold bh;simp only[IW,AX,NL,h,iT,AW];rfl
theorem eC.bh {bx:Z (Nat×Nat×B U.C)} {rs vs:Z (R U.C)} {ws:Z cH} (h:eC P E T bx g tick rs qs) (a:eC P E T bx g tick vs ws):eC P E T bx g tick (Ev.bh rs k vs) (Ev.bh qs k ws):=by unfold Ev.bh;rw[a.1];exact((h.take k).append a).append (h.drop _)
include L in
theorem ye(r:bJ P E T X){fs:Z Ty}(u:fs.all fD=W){w:Z (Nat×Nat)}(y:∀f off t,pU U 0 fs f=O (off,t)->w[f]?=O (off,bB U D t)){K:S U.C->Z (R U.C)->V α}:
  ∀(l:Z (Nat×ah))(s:S U.C)(cs:Z (R U.C)),((∃k,s.m k=W)->E.cT=F)->Cb fz fs s l cs K=O out->(∀p∈l,ca p.2=W)->
  ∃s' a,K s' a=O out/\bw s s'/\(∀d,aF s.b d=Y->aF s'.b d=Y)/\∀q,aU P E T X s q->∃q' ps,jc P E w0 I0 n q q'/\aU P E T X s' q'/\lG q q'/\(fz=F->Aq s q q')/\((∀p∈l,mm (s.ev p.2)=F)->q'=q/\s'=s)/\jh q' w l=O ps/\∀qs b,eC P E T [] (λ_=>0) 0 cs qs->dC qs=O b->∃z,eC P E T [] (λ_=>0) 0 a z/\dC z=O (dD b ps)
 |[],s,cs,c,h,e=>⟨s,cs,h,.refl s,λ_ h=>h,λq g=>⟨q,[],.refl q,g,.refl q,λ_=>.refl s q,λ_=>⟨rfl,rfl⟩,rfl,λqs b j m=>⟨qs,j,m⟩⟩⟩|(i,x)::l,s,cs,c,h,e=>by
  simp only[Cb]at h;split at h
  .rename_i off t A;have B:fD t=W:=di.1 u t (FB A);obtain⟨H,v,h,o,C,i0,I⟩:=lb (w0:=w0) (I0:=I0) (n:=n) L r c (e (i,x) aH) h;obtain⟨s2,a,h,J,N,Q⟩:=ye r u y l H _ (by rw[o.m];exact c) h λp a0=>e p (by simp[a0]);refine⟨s2,a,h,o.trans J,λd b0=>N d (C d b0),λq g=>?_⟩;obtain⟨q1,av,hv⟩:=I q g;obtain⟨c0,ps,d0,a2,a3,a4,a5,e0,f0⟩:=Q q1 hv.oM;have g0:=gm hv.ED B;subst g0;refine⟨c0,(off,enc T t v)::ps,hv.oP.trans d0,a2,hv.jO.trans a3,λG=>(hv.fr G).trans (a4 G) hv.oM C o.m,λh0=>?_,?_,λqs b j m=>?_⟩
   .obtain ⟨j0,k0⟩:=hv.still (h0 (i,x) aH)
    grind
   .simp only[jh,y _ _ _ A,a3 x _ hv.Ek,e0,fg L];simp
   .simp only[dD];refine f0 _ _ ?_ (r9 m);rw[nT];exact j.bh (iZ L D t v (iF L t) B)
  .cases h
theorem zA(x:kv P E T X e t){rs:Z (R U.C)}(p:mB U D t=O rs)(f:R U.C->R U.C)(H:∀r v,(bA P E T [] (λ_=>0) 0 r (cB v)∨(v=.slice Y 0 0/\bA P E T [] (λ_=>0) 0 r (.val .hk)))->bA P E T [] (λ_=>0) 0 (f r) (cB v)∨(v=.slice Y 0 0/\bA P E T [] (λ_=>0) 0 (f r) (.val .hk))):∃qs a,eC P E T [] (λ_=>0) 0 (rs.map f) qs/\dC qs=O a/\ZC P e a/\a.length=rs.length:=by
 obtain⟨i,g,g1,g2,g3,g4,g5,y⟩:=x.zero;obtain⟨I,J⟩:=y rs p;have k:∀(rs:Z (R U.C))(vs:Z ag),rs.length=vs.length->(∀v∈vs,v.oneCell'=W)->(∀(i:Nat)(r:R U.C)(v:ag),rs[i]?=O r->vs[i]?=O v->bA P E T [] (λ_=>0) 0 r (cB v)∨(v=.slice Y 0 0/\bA P E T [] (λ_=>0) 0 r (.val .hk)))->
   ∃qs a,eC P E T [] (λ_=>0) 0 rs qs/\dC qs=O a/\a.length=vs.length/\∀(j:Nat)(v:ag)(c:AV),vs[j]?=O v->a[j]?=O c->I5 v c:=by
  intro rs;induction rs with
  |nil=>intro vs l _ _;cases vs with
   |nil=>exact ⟨[],[],.nil,rfl,rfl,λj v c h=>by simp at h⟩|cons v vs=>simp at l
  |cons r rs z=>
   intro vs l d hv;cases vs with
   |nil=>simp at l|cons v vs=>
    obtain⟨qs,a,m,b2,q,s⟩:=z vs (by grind) (λv hv=>d v (by simp[hv])) λi A b k B=>hv (i+1) A b (by grind) (by grind);have w:∀(u:cH)(c:AV),bA P E T [] (λ_=>0) 0 r u->bz u=O c->I5 v c->∃qs a,eC P E T [] (λ_=>0) 0 (r::rs) qs/\dC qs=O a/\a.length=(v::vs).length/\∀(j:Nat)(b:ag)(c:AV),(v::vs)[j]?=O b->a[j]?=O c->I5 b c:=by
     intro u c C n p;refine⟨u::qs,c::a,.cons C m,by simp[dC,n,b2],by simp[q],λj b K k B=>?_⟩
     grind
    rcases hv 0 r v rfl rfl with o|⟨o,G⟩
    .refine w _ (dV v) o ?_ (.inl rfl);rw[Ja (d v aH)];unfold Yd;split
     .rename_i e;rw[e];rfl
     .rfl
    .exact w _ .hk G rfl (.inr ⟨o,rfl⟩)
 have d:∀v∈g.cells.toList,v.oneCell'=W:=λv hv=>rB.1 g3 v (by grind);obtain⟨qs,a,m,b2,q,s⟩:=k (rs.map f) g.cells.toList (by grind) d λj r v L hv=>by grind
 refine⟨qs,a,m,b2,⟨i,g,g1,g2,g3,g4,by grind,λj v c hv n=>s j v c (by grind) n⟩,?_⟩
 grind
theorem Cz(b:kv P E T X e t){rs:Z (R U.C)}(c:mB U D t=O rs):∃qs a,eC P E T [] (λ_=>0) 0 rs qs/\dC qs=O a/\ZC P e a/\a.length=rs.length:=by have:=zA (P:=P) (E:=E) (X:=X) b c id λr v h=>h;simp_all
theorem JM(b:kv P E T X e t){rs:Z (R U.C)}(c:mB U D t=O rs):∃qs a,eC P E T [] (λ_=>0) 0 (rs.map Og) qs/\dC qs=O a/\ZC P e a/\a.length=rs.length:=by
 refine zA b c Og λr v h=>?_;unfold Og;split
 .rename_i i;rcases h with h|⟨j,d⟩
  .right;generalize f:cB v=u at h;cases h with
   |bF _ _ g=>
    refine⟨?_,.hk _ g⟩;unfold cB at f
    grind
  .cases d
 .exact h
def Mt{x:bL U.C t}(h:j7 P E T t x av)(hs:a7 t=F):av.isAgg=F:=by
 cases t with
 |struct n=>cases hs
 |fn a b=>obtain ⟨f,caps,rfl,_⟩:=h;rfl|lP a b=>obtain ⟨f,caps,rfl,_⟩:=h;rfl
 |iC a b=>obtain ⟨f,caps,rfl,_⟩:=h;rfl|NY f t=>obtain ⟨_,rfl⟩:=h;rfl
 |An k off=>obtain ⟨_,rfl⟩:=h;rfl|int k=>obtain ⟨_,rfl⟩:=h;rfl
 |bool=>obtain ⟨_,rfl⟩:=h;rfl|str=>obtain ⟨_,rfl⟩:=h;rfl
 |unit=>obtain ⟨h,_⟩:=h;cases h
 |bk t=>obtain ⟨_,rfl⟩:=h;rfl|ref t=>obtain ⟨_,rfl⟩:=h;cases x<;>rfl
 |cell t=>obtain ⟨_,rfl⟩:=h;rfl|iz a b=>obtain ⟨h,_⟩:=h;cases h
 |ptr k=>obtain ⟨_,rfl⟩:=h;cases x<;>rfl
 |hs k=>obtain ⟨_,rfl⟩:=h;cases x<;>rfl
 |mp k=>obtain ⟨_,rfl⟩:=h;cases x<;>rfl
include L in
theorem SF(h0:bJ P E T X)(J0:(∃k,s.m k=W)->E.cT=F)(S:ba n o=W)(B:o.op=.build e parts)(h:iA X kx esc fz o s K=O out):ew P E T X w0 I0 n fz o s kx K out:=by
 unfold iA at h;simp only[B]at h;split at h
 .rename_i m i0;have f:=h0.ty _ _ i0;have j1:∀p∈parts.toList,ca p.2=W:=λp a=>bS S (by grind [Op.operands]);cases j0:((X.k6 e).isSome&&(Nat.beq parts.toList.length (U.dO m).length&&(zl parts.toList 0&&(zj s (ia parts.toList)).all VN)))with
  |true=>
   rw[j0]at h;simp only[aW]at h;simp only[aP]at j0;obtain⟨k1,C,l1,m1⟩:=j0;have C:=cC C;obtain⟨A,n1⟩:=um.1 k1;obtain⟨N,K0,a0,L0,o1⟩:=h0.k6 e A n1;obtain⟨G1,q1,_⟩:=o1 m i0;refine b4 h λq b0=>?_;obtain⟨c0,d0,e0,q0,G⟩:=HB parts.toList j1 m1 q b0;obtain⟨i,k0,N0,r1,s1,P0,_⟩:=f.zero;have hsz:k0.cells.size=N:=by rw[P0,<-q1,<-f.cells];unfold Program.cellsOf;rw[N0];rfl
   have H1:c0.length=N:=by grind [mh,List.length_map]
   have t1:kW P e=O ((List.range N).map λj=>(j*P.cellsOf A,P.cellsOf A)):=by
    unfold kW
    grind
   have u1:∀(i:Nat)(av:AV),c0[i]?=O av->av.cells=[av]:=λi av y=>(G i av y).2;have z:ZC P e (k0.cells.toList.map dV):=⟨i,k0,N0,r1,s1,P0,aH,λj v c hv a0=>by simp only[gu,tz,hv,dr,aN]at a0;exact .inl a0.symm⟩
   have v1:∀(l:Z (Nat×ah))(j:Nat)(H:Z AV),zl l j=W->da q (l.map (·.2))=O H->j+l.length<=N->(∀(i:Nat)(av:AV),H[i]?=O av->av.cells=[av])->∃ps,jh q ((List.range N).map λj=>(j*P.cellsOf A,P.cellsOf A)) l=O ps/\∀zs:Z AV,zs.length=N->dD zs ps=zs.take j++H++zs.drop (j+H.length):=by
    intro l;induction l with
    |nil=>intro j H _ b _ _;simp only[zb,da,aN]at b;subst b;exact⟨[],rfl,λzs _=>by simp[dD]⟩|cons p l Q0=>
     intro j H hi b w1 R0;obtain⟨i,x⟩:=p;simp only[zl,aP]at hi;have e:=cC hi.1;subst e;simp only[gb,da]at b;split at b
     .rename_i av r y I;simp only[aN]at b;subst b;simp only[ie]at w1;obtain⟨ps,r0,s0⟩:=Q0 (i+1) r hi.2 I M λk S0 I1=>R0 (k+1) S0 (by grind);have x1:=R0 0 av rfl;refine⟨(i,av)::ps,?_,λzs J1=>?_⟩
      .simp only[jh,y,r0];have:((List.range N).map λj=>(j*P.cellsOf A,P.cellsOf A))[i]?=O (i,1):=by simp[a0,(M:i<N)]
       grind
      .simp only[dD,x1];rw[s0 _ (by grind [bI])];have K1:i<zs.length:=M;unfold bh;simp only[tH,ie,za,dN];rw[show List.take (i+1) (List.take i zs++[av]++List.drop (i+1) zs)=List.take i zs++[av] by
        rw[List.take_append_of_le_length dx]
        grind [de]]
       rw[show List.drop (i+1+r.length) (List.take i zs++[av]++List.drop (i+1) zs)=List.drop (i+(r.length+1)) zs by rw[List.drop_append];rw[y8 dx];simp only[pw,jf,tI,tH,ND];congr 1;omega];simp
     .cases b
   obtain⟨ps,r0,s0⟩:=v1 parts.toList 0 c0 l1 d0 M u1;have t0:=s0 (k0.cells.toList.map dV) (by simp[hsz]);simp only[A9,pw,dN]at t0;rw[y8 (by grind),ES]at t0;have J:dZ P E w0 I0 n o q (.val (.agg c0)):=by
    have:=oZ (E:=E) (w0:=w0) (I0:=I0) (n:=n) B S t1 z (by simp[hsz,a0];omega) r0
    grind
   exact⟨_,J,.agg m _ c0 e0 q0 λi av y=>(G i av y).1⟩
  |false=>
  rw[j0]at h;simp only[aX]at h;split at h
  .rename_i cs z;obtain⟨l0,f0,T0⟩:=f.Sr m rfl;have U0:∀p∈parts.toList,ca p.2=W:=λp a=>bS S (by grind [Op.operands]);split at h
   .obtain ⟨s',Q,h,u0,y1,x0⟩:=ye (w0:=w0) (I0:=I0) (n:=n) L h0 (L.ok m) T0 _ _ _ J0 h U0;replace h:=az h;obtain⟨L0,h⟩:=h;refine .one _ h (u0.trans (bi _ _)) λq b0=>?_;obtain⟨q',ps,d0,e0,q0,G,A1,m0,y0⟩:=x0 q b0;obtain⟨qs,d,A0,B0,C0,g0⟩:=JM f z;obtain⟨n0,o0,p0⟩:=y0 qs d A0 B0;have J:dZ P E w0 I0 n o q' (.val (.agg (dD d ps))):=by refine oZ B S f0 C0 ?_ m0;have:=f.wx m rfl l0 f0;rw[g0,lT D _ cs (iF L _) z];exact this
    have C:Q.length=(dD d ps).length:=by have:=bN List.length (lU.1 p0);simp only[iT]at this;rw[o0.1,this]
    have B1:∀(i:Nat)(r:R U.C)(av:AV),Q[i]?=O r->(dD d ps)[i]?=O av->(∀bx g tick,bA P E T bx g tick r (.val av))/\av.isAgg=F:=λi r av I y=>by
     have b:(n0.map bz)[i]?=O (O av):=by grind [lU]
     simp only[gu,c8]at b;obtain⟨u,K0,D0⟩:=b;have X0:=o0.2 i r u I K0;have E0:=di.1 L0 r (bW I);cases X0 with
     |val t x _ S0 d1 f1=>rw[D0]at d1;cases d1;exact⟨λbx g tick=>.val t x _ av rfl f1,Mt f1 (by simpa[Yk]using E0)⟩
     |hk t B=>simp only[bz,aN]at D0;subst D0;exact⟨λbx g tick=>.hk t B,rfl⟩|_=>cases E0
    have L1:∀(i:Nat)(av:AV),(dD d ps)[i]?=O av->∃r,Q[i]?=O r:=λi av y=>⟨_,cX (by grind)⟩
    refine d0.nv (kD _ ⟨e0.put o.dst (.agg m Q _ C (λi r av I y=>(B1 i r av I y).1 _ _ _) λi av y=>?_),λG0=>.pc (G G0) λi0=>?_⟩ J)
    grind
    grind [fA,List.any_eq_false]
   obtain⟨s',Q,h,u0,y1,x0⟩:=ye (w0:=w0) (I0:=I0) (n:=n) L h0 (L.ok m) T0 _ _ _ J0 h U0;split at h
   .rename_i v rest hv;refine .one _ h (u0.trans (bi _ _)) λq b0=>?_;obtain⟨q',ps,d0,e0,q0,G,A1,m0,y0⟩:=x0 q b0;obtain⟨qs,d,A0,B0,C0,g0⟩:=Cz f z;obtain⟨n0,o0,p0⟩:=y0 qs d A0 B0;have J:dZ P E w0 I0 n o q' (.val (.agg (dD d ps))):=by refine oZ B S f0 C0 ?_ m0;have:=f.wx m rfl l0 f0;rw[g0,lT D _ cs (iF L _) z];exact this
    have C1:AV.agg (dD d ps)=enc T (.struct m) v:=by
     obtain⟨_,N1,H0⟩:=iG L D (.struct m) Q n0 v rest (iF L _) f.ok o0 hv;have C:n0.length=bB U D (.struct m):=by
      have D1:(dD d ps).length=d.length:=by
       have:=f.wx m rfl l0 f0;have E1:∀(l:Z (Nat×ah))(ps:Z (Nat×AV))(zs:Z AV),jh q' l0 l=O ps->zs.length=bB U D (.struct m)->(dD zs ps).length=zs.length:=by
        intro l;induction l with
        |nil=>intro ps zs a _;simp only[jh,aN]at a;subst a;rfl|cons p l Q0=>
         intro ps zs a z;obtain⟨i,x⟩:=p;simp only[jh]at a;split at a
         .rename_i off sz w r b X0 E0;split at a
          .rename_i t0;simp only[aN]at a;subst a;have P1:off+sz<=bB U D (.struct m):=by grind
           grind [bh,bI,dD]
          .cases a
         .cases a
       exact E1 _ _ _ m0 (by rw[g0,lT D _ cs (iF L _) z])
      have i1:=bN List.length (lU.1 p0);simp only[iT]at i1;rw[i1,D1,g0,lT D _ cs (iF L _) z]
     rw[<-C,GC,p0]at H0;simp only[aN]at H0;rw[H0];exact lS v rfl
    rw[C1]at J;refine d0.nv (kD _ ⟨e0.put o.dst (bn f.ok),λG0=>.pc (G G0) λi0=>?_⟩ J)
    grind [fA,List.any_eq_false]
   .cases h
  .cases h
 .cases h
end
end Go.X
namespace Go.X
open Go Go.Ev Go.MapKept
variable{e:an}{k:Nat}{t:Ty}
section
variable{P:ai}{E:cd}{U:cp}{T:dt U.C}{X:gy U}{w0:af}{I0:aA}{n:Nat}{o:aC}{s:S U.C}{q:St}{α:Type}{out:α}{fz:aa}{kx:o8 U->S U.C->V α}{K:S U.C->V α}{esc:Z (Nat×Nat)}
variable(L:cD U T)
include L in
theorem pd(c:kv P E T X e t){z:bL U.C t}(a:zk U t=O z):ZC P e (enc T t z).cells:=by
 unfold zk at a;split at a
 .rename_i g rest b;simp only[aN]at a;subst a;obtain⟨rs,d,b⟩:=bind_some b;obtain⟨qs,h,f,b2,i,j⟩:=Cz c d;obtain⟨_,d2,k⟩:=iG L D t rs qs g rest (iF L _) c.ok f b;have l:qs.length=bB U D t:=by rw[<-f.1];exact lT D _ rs (iF L _) d
  grind
 .cases a
include L in
theorem CA:∀(k:Nat)(t:Ty)(x:bL U.C t),ha U k t=W->((hp U k t).all λ|.hs _=>F|_=>W)=W->∀c∈(enc T t x).cells,c≠.hk
 |k,t,x,d,f,c,a=>by
  by_cases b:a7 t=W
  .cases t with
   |struct m=>
    cases k with
    |zero=>simp[ha]at d|succ k=>
     simp only[ha,di]at d;have g:∀(ts:Z Ty)(y:HL U.C ts),(∀t∈ts,ha U k t=W)->((kE (hp U k) ts).all λ|.hs _=>F|_=>W)=W->∀c∈jZ T ts y,c≠.hk:=by
      intro ts;induction ts with
      |nil=>intro y _ _ c a;simp[jZ]at a|cons t ts i=>
       intro y h e c a;simp only[kE,List.all_append,aP]at e;simp only[jZ]at a;rcases fK.1 a with a|a
       .exact CA k t _ (h t aH) e.1 c a
       grind
     simp only[enc,AV.cells]at a;rw[L.cells]at a;exact g _ (U.un m x) d f c a
   |_=>simp[a7]at b
  .have b:a7 t=F:=by grind
   rw[jM b]at a;simp only[gD]at a;subst a;have:(match t with|.hs _=>F|_=>W)=W:=by grind [a7,hp]
   cases t<;>first|(simp[a7]at b;done)|(cases this;done)|(intro h;cases h;done)|skip
   all_goals
    change V _ at x;cases x<;>(intro h;cases h)
include L in
theorem SG(b:kv P E T X e t){z:bL U.C t}(g:Zj U t=W)(k:zk U t=O z):oq P e=O (enc T t z):=by
 obtain⟨i,a,d,f,q,r,s,l⟩:=pd L b k;have u:=CA L D t z (iF L t) g;have m:(enc T t z).cells=a.cells.toList.map dV:=by
  refine tE λj=>?_;have n:a.cells.toList[j]?=a.cells[j]?:=aH;rw[gu,n];cases o:a.cells[j]? with
  |none=>grind|some v=>
   have w:j<a.cells.size:=by grind
   have:(enc T t z).cells[j]?=O ((enc T t z).cells[j]'(by grind)):=cX _;rw[this,dr];congr 1;rcases l j v _ o this with h|⟨_,h⟩
   .exact h
   grind
 have p:oq P e=O (oo a):=by
  unfold oq
  grind
 rw[p];congr 1;cases c:a7 t with
 |false=>
  obtain⟨x,y⟩:=b.zv1 c i a d f
  grind [jM]
 |true=>obtain⟨A,B,g1,g2,g3,g4,g5,C⟩:=b.zero;rw[d]at g1;cases g1;rw[f]at g2;cases g2;obtain⟨cs,rfl⟩:=g5 c;rw[<-lS z c,m];rfl
include L in
theorem HC(u:bJ P E T X)(v:ba n o=W){m i:ah}(c:o.op=.makeSlice e m i)(h:iA X kx esc fz o s K=O out):ew P E T X w0 I0 n fz o s kx K out:=by
 have y:m∈o.op.operands:=by simp[c,Op.operands]
 have U:i∈o.op.operands:=by simp[c,Op.operands]
 unfold iA at h;simp only[c]at h;split at h
 .rename_i d A B k l C D f p;have G:=u.ty _ _ C;obtain⟨H,w⟩:=G.elem A B rfl D;have r:=u.ty _ _ w;split at h
  .rename_i z I;obtain⟨_,g,h⟩:=bind_some h;have g:=dy g;simp only[cF,aP,aV]at g;obtain⟨J,N,Q⟩:=g;refine yd l (by simp[eQ,l,c]) (by simp[fA,c]) h w λq R a0 b0=>?_;obtain⟨c0,S⟩:=j8 (R.fL v y) f;have t:∃x,q.ev i=.val (.fl (.int x k)):=by
    split at p;simp_all
    .rename_i j a d0 b;obtain rfl:=e4 p;have:s.ev (.const (.int j a))=.const (.int j a):=rfl;rw[this]at f;simp only[BY,aN]at f;subst f;exact⟨_,rfl⟩
    .cases p
   obtain⟨x,t⟩:=t;refine xR c v l H (pd L r I) (qI L z) r.pos S t J N (by rw[<-r.bytes];exact Q) ?_;simp_all
  .cases h
 .cases h
theorem SH(j:bJ P E T X)(d:ba n o=W){x:ah}(b:o.op=.panic x)(h:iA X kx esc fz o s K=O out):ew P E T X w0 I0 n fz o s kx K out:=by
 have g:x∈o.op.operands:=by simp[b,Op.operands]
 unfold iA at h;simp only[b]at h;split at h
 .rename_i e t v i;have f:∀q,aU P E T X s q->fD t=W/\q.ev x=.val (.mR e (enc T t v)):=λq a=>by
   have c:=a.fL d g;rw[i]at c;generalize q.ev x=u at c;cases c with
   |mR _ _ _ h=>grind
  exact .ea _ _ h (.refl s) λq a=>⟨(f q a).1,Jb b d (f q a).2 ⟨a,rfl⟩⟩
 .cases h
include L in
theorem Mu(a:bJ P E T X)(b:ba n o=W){e':an}{x:ah}(d:o.op=.convert e e' x)(h:iA X kx esc fz o s K=O out):ew P E T X w0 I0 n fz o s kx K out:=by
 have p:x∈o.op.operands:=by simp[d,Op.operands]
 unfold iA at h;simp only[d]at h;split at h
 .rename_i k k' j l;split at h
  .rename_i m r;refine b4 h (la b λq f=>?_);obtain⟨A,u⟩:=j8 (f.fL b p) r;unfold gG;simp only[d,u,RR,(a.ty _ _ j).int k rfl,(a.ty _ _ l).int k' rfl];exact bn (t:=.int k') rfl
  .cases h
 .rename_i j l;split at h
  .rename_i v hv;obtain⟨_,i,h⟩:=bind_some h;have i:=dy i;simp only[aV]at i;have w:=a.ty _ _ l;obtain⟨B,hu,y⟩:=w.bk _ rfl;refine .one _ h (bi _ _) λq f=>?_;have z:=dk (dm (f.fL b p) hv rfl);refine I9 d b ((a.ty _ _ j).str rfl) hu ((a.ty _ _ y).int .u8 rfl) z i ⟨?_,λ_=>.pc (.refl s q) λ_=>rfl⟩;have:bA P E T s.b q.g s.tick (.val (.bk (.int .u8)) (List.map (λc:bc=>(c.toNat:Int)) v)) (.val (.sl (o6 v))):=by have:=bn (P:=P) (E:=E) (T:=T) (bx:=s.b) (g:=q.g) (tick:=s.tick) (t:=.bk (.int .u8)) (x:=List.map (λc:bc=>(c.toNat:Int)) v) rfl;simp only[enc,AW]at this;exact this
   exact f.put o.dst this
  .cases h
 .cases h
include L in
theorem Ou{a:AK}(c:aU P E T X s q)(d:k<U.nk)(e:s.m k=W){l:Z (xT U.C a)}(f:uz U a k s.h=O l){x:xT U.C a}{b:U.C 0}(i:Ao U a k s.h (l++[x])=O b){ob:Ob}(o:Cp T a x=O ob){r:R U.C}{u:cH}(j:∀bx g tick,bA P E T bx g tick r u)(dst:V Nat):
  q.u (dY k l.length)=F/\aU P E T X (({s with h:=b,hv:=s.tick,tick:=s.tick+1}:S U.C).put dst r) ((q.ri (dY k l.length) ob).put dst u):=by
 obtain⟨p,m,t⟩:=c.heap.push L d e f i;refine⟨m,?_⟩;have n:fB T s.m b (b8 q.a (dY k l.length) (O ob)) (b8 q.u (dY k l.length) W):=by grind [aO]
 exact(c.rk (hv:=s.tick) (cO _) n).put dst (j _ _ _)
include L in
theorem Aq.ri {q q1:St} (h:Aq s q q1) {j:Nat} (c:k<U.nk) (n:s.m k=W) (ob:Ob):Aq s q (q1.ri (dY k j) ob):=by
 obtain⟨d,a2,a3,a4,a5,f⟩:=h;refine⟨d,a2,a3,λk' i a g=>?_,a5,f⟩;have b:dY k' i≠dY k j:=λe=>by
  obtain⟨rfl,_⟩:=il L a c e
  grind
 obtain⟨l,m⟩:=a4 k' i a g;exact⟨by rw[<-l];exact aO _ _ b,by rw[<-m];exact aO _ _ b⟩
include L in
theorem Mv(y:bJ P E T X)(d:(∃k,s.m k=W)->E.cT=F)(a:o.op=.makeMap e Y)(h:iA X kx esc fz o s K=O out):ew P E T X w0 I0 n fz o s kx K out:=by
 unfold iA at h;simp only[a]at h;split at h
 .rename_i k b;split at h
  .rename_i f vt z;split at h
   .rename_i l g;split at h
    .rename_i A i;obtain⟨⟨c,b⟩,j⟩:=x8 g;obtain⟨_,m⟩:=wB i;refine .one _ h ((o9 _).trans (bi _ _)) λq p=>?_;obtain⟨t,v⟩:=Ou L p b c j (x:=([]:Z (bL U.C f×bL U.C vt))) m (ob:=.map []) rfl (r:=.val (.mp k) (O l.length)) (u:=.val (.mp (dY k l.length))) (λ_ _ _=>.val (.mp k) _ _ _ rfl ⟨rfl,rfl⟩) o.dst;exact GW a (d ⟨k,c⟩) t ⟨v,λ_=>Fr.pc (Aq.ri L (.refl s q) b c _) λw=>by simp[fA,a]at w⟩
    .cases h
   .cases h
  .cases h
 .cases h
include L in
theorem Ov(c:(∃k,s.m k=W)->E.cT=F){v:bL U.C t}(h:VL s o.dst k t v K=O out):
  ∃s' i,K s'=O out/\bw s s'/\E.cT=F/\(∃k j,i=dY k j/\k<U.nk/\s.m k=W)/\∀q,aU P E T X s q->q.u i=F/\aU P E T X s' ((q.ri i (.cells (enc T t v).cells)).put o.dst (.val (.ptr i 0))):=by
 unfold VL at h;split at h
 .rename_i l d;split at h
  .rename_i n e;obtain⟨⟨a,b⟩,f⟩:=Fu d;obtain⟨_,g⟩:=wA e;refine⟨_,dY k l.length,h,(o9 _).trans (bi _ _),c ⟨k,a⟩,⟨k,_,rfl,b,a⟩,λq m=>?_⟩;exact Ou L m b a f (x:=v) g (ob:=.cells (enc T t v).cells) rfl (r:=.val (.ptr k) (O l.length)) (u:=.val (.ptr (dY k l.length) 0)) (λ_ _ _=>.val (.ptr k) _ _ _ rfl ⟨rfl,rfl⟩) o.dst
  .cases h
 .cases h
include L in
theorem PZ(d:bJ P E T X)(w:(∃k,s.m k=W)->E.cT=F)(b:o.op=.alloc e)(x:oy esc o.dst=O k)(h:iA X kx esc fz o s K=O out):ew P E T X w0 I0 n fz o s kx K out:=by
 unfold iA at h;simp only[b,x]at h;split at h
 .rename_i t i0;split at h
  .rename_i z f y a;obtain⟨g,h⟩:=az h;obtain⟨s',i,A,B,C,⟨j0,k0,D,G,H⟩,l⟩:=Ov (P:=P) (X:=X) L w h;have I:ZC P e (enc T t z).cells:=by
    cases p:decide (f=t)with
    |true=>obtain rfl:=e4 p;exact pd L (d.ty _ _ a) y|false=>
     rw[p,vz,aP]at g;obtain⟨J,N⟩:=g;cases t with
     |hs m=>
      cases f with
      |bk Q=>
       have R:z=Y:=by grind [zk,mB,jL,ga,er,cJ]
       subst R;obtain⟨i,S,a0,b0,c0,d0,f0,g0⟩:=pd (T:=T) L (d.ty _ _ a) (z:=([]:Z (bL U.C Q))) (by simp[zk,mB,jL,ga,er]);refine⟨i,S,a0,b0,c0,d0,f0,λj v c hv r=>?_⟩;have h0:j=0:=by grind [enc,hD,AV.cells]
       subst h0;have:=g0 0 v (.sl []) hv rfl;simp[enc,hD,AV.cells]at r;subst r;rcases this with h|⟨_,h⟩
       .refine .inr ⟨?_,rfl⟩
        grind [dV]
       .cases h
      |_=>cases N
     |_=>cases J
   exact .one _ A B λq u=>BO b C (l q u).1 I ⟨(l q u).2,λ_=>Fr.pc (by rw[D];exact Aq.ri L (.refl s q) G H _) λa=>by simp[fA,b]at a⟩
  .cases h
 .cases h
include L in
theorem V3(b:bJ P E T X)(c:(∃k,s.m k=W)->E.cT=F)(d:ba n o=W){x:ah}(a:o.op=.box e x)(g:oy esc o.dst=O k)(h:iA X kx esc fz o s K=O out):ew P E T X w0 I0 n fz o s kx K out:=by
 have j:x∈o.op.operands:=by simp[a,Op.operands]
 unfold iA at h;simp only[a,g]at h;split at h
 .rename_i t l;obtain⟨D,v,h,hm,G,H,m⟩:=lb (w0:=w0) (I0:=I0) (n:=n) L b c (bS d j) h;obtain⟨s',i,p,r,u,⟨I,J,e2,w,y⟩,f⟩:=Ov (P:=P) (X:=X) L (by rw[hm.m];exact c) h;refine .one _ p (hm.trans r) λq z=>?_;obtain⟨q1,av,hv⟩:=m q z;have A:=gm hv.ED (b.h7 _ _ l);subst A;exact hv.oP.nv (GV a d u (f q1 hv.oM).1 hv.Ek ⟨(f q1 hv.oM).2,λB=>Fr.pc (by rw[e2];exact Aq.ri L (hv.fr B) w (by rw[<-hm.m];exact y) _) λC=>by simp[fA,a]at C⟩)
 .cases h
def SI(a:kv P E T X e t)(c:xY t=W):∃d,P.underlying e=O d/\∀x:bL U.C t,∃v,enc T t x=.fl v/\IsKey d v/\Vt v/\∀y:bL U.C t,∃b,enc T t y=.fl b/\Instr.sameNow d v b=O (iV t x y):=by
 cases t with
 |int k=>exact ⟨_,a.int k rfl,λx=>⟨_,rfl,rfl,rfl,λy=>⟨_,rfl,by simp[Instr.sameNow,iV]⟩⟩⟩|bool=>exact ⟨_,a.bool rfl,λx=>⟨_,rfl,trivial,rfl,λy=>⟨_,rfl,by simp[Instr.sameNow,iV]⟩⟩⟩
 |str=>refine⟨_,a.str rfl,λx=>⟨_,rfl,trivial,rfl,λy=>⟨_,rfl,?_⟩⟩⟩;simp only[bs,Instr.sameNow,iV,dz,aN];rw[EP,bytes_beq,gE];simp|_=>cases c
theorem CB{d:TypeDesc}{a b:Ty}{e:bL U.C a}{f:ag}(h:∀y:bL U.C a,∃g,enc T a y=.fl g/\Instr.sameNow d f g=O (iV a e y))(k:enc T a e=.fl f)(w:bL U.C b):∀(c:Z (bL U.C a×bL U.C b))(i:Nat),
  ∃r,we d f (c.map λp=>(enc T a p.1,enc T b p.2)) i=O r/\match bp (iV a) c e with
   |some v=>∃j,r=O (j,enc T b v)/\i<=j/\(fV (iV a) c e w).map (λp=>(enc T a p.1,enc T b p.2))=(c.map λp=>(enc T a p.1,enc T b p.2)).set (j-i) (.fl f,enc T b w)|none=>r=Y/\(fV (iV a) c e w).map (λp=>(enc T a p.1,enc T b p.2))=(c.map λp=>(enc T a p.1,enc T b p.2))++[(.fl f,enc T b w)]
 |[],i=>⟨Y,rfl,rfl,by simp[fV,k]⟩|(y,v)::c,i=>by
  obtain⟨g,l,n⟩:=h y;simp only[gb,l,we,n,bp,fV];cases t:iV a e y with
  |true=>grind|false=>
   obtain⟨r,o,m⟩:=CB h k w c (i+1);refine⟨r,o,?_⟩;simp only[aX];split at m
   .rename_i u x;obtain⟨j,q,z,s⟩:=m;refine⟨j,q,M,?_⟩;rw[gb,s,l,(M:j-i=(j-(i+1))+1),List.set_cons_succ]
   grind
include L in
theorem P6(j:bJ P E T X)(u:ba n o=W){x i:ah}{v:aa}(k:o.op=.lookup e x i v)(h:iA X kx esc fz o s K=O out):ew P E T X w0 I0 n fz o s kx K out:=by
 have H:x∈o.op.operands:=by simp[k,Op.operands]
 have hi:i∈o.op.operands:=by simp[k,Op.operands]
 unfold iA at h;simp only[k]at h;split at h
 .rename_i l0 I;unfold Of at h;split at h
  .rename_i m p J;obtain⟨N,h⟩:=az h;obtain rfl:=cC N;split at h
   .rename_i f vt y;split at h
    .rename_i l a z Q R S;obtain⟨c,U,h⟩:=bind_some h;obtain⟨m0,n0,hu,o0,p0,w,A,a0,b0⟩:=(j.ty _ _ I).mp _ rfl;rw[y]at w;simp only[AK.map.injEq]at w;obtain⟨rfl,rfl⟩:=w;obtain⟨c0,B⟩:=j.map _ _ _ y;obtain⟨d,d0,e0⟩:=SI (j.ty _ _ A) c0;obtain⟨f0,C,g0,q0,h0⟩:=e0 a;obtain⟨r,i0,j0⟩:=CB (b:=vt) h0 C z c 0;have r0:(r.map (·.2)).getD (enc T vt z)=enc T vt ((bp (iV f) c a).getD z)/\r.isSome=(bp (iV f) c a).isSome:=by
      split at j0
      grind
      grind
     have D:∀q,aU P E T X s q->dZ P E w0 I0 n o q (if v then .gw [.val (enc T vt ((bp (iV f) c a).getD z)),.val (.fl (.bool (bp (iV f) c a).isSome))]else .val (enc T vt ((bp (iV f) c a).getD z))):=λq g=>by
      have k0:q.ev i=.val (.fl f0):=by have:=dm (g.fL u hi) R ((j.ty _ _ A).ok);rw[C]at this;exact dk this
      have:=GX (E:=E) (w0:=w0) (I0:=I0) k u hu d0 (JI Q U J q g (g.fL u H)) k0 g0 i0 (SG L (j.ty _ _ a0) b0 S)
      grind
     cases v with
     |true=>
      refine b4 h λq g=>⟨_,D q g,?_⟩
      simp only[cm];have G:eC P E T s.b q.g s.tick [.val vt ((bp (iV f) c a).getD z),.val .bool (bp (iV f) c a).isSome] [.val (enc T vt ((bp (iV f) c a).getD z)),.val (.fl (.bool (bp (iV f) c a).isSome))]:=.cons (bn B) (.cons (bn (t:=.bool) rfl) .nil);exact .gw _ _ G.1 G.2
     |false=>
      refine b4 h λq g=>⟨_,D q g,?_⟩
      simp only[jo,cA];exact bn B
    .cases h
   .cases h
  .cases h
 .cases h
include L in
theorem CD(c:bJ P E T X)(a0:X.wr=W)(b0:(∃k,s.m k=W)->E.cT=F)(w:ba n o=W){x y z:ah}(c0:o.op=.mapUpdate e x y z∨o.op=.insert e x y z)(d0:o.dst=Y){f:Nat}(G:X.ty e=O (.mp f))(h:AD fz s f (s.ev x) (s.ev y) (s.ev z) K=O out):ew P E T X w0 I0 n fz o s kx K out:=by
 have e0:x∈o.op.operands:=by grind [Op.operands]
 have f0:y∈o.op.operands:=by grind [Op.operands]
 have g0:z∈o.op.operands:=by grind [Op.operands]
 have R0:fA X s o.op=W:=by grind [fA]
 unfold AD at h;split at h
 .rename_i m p h0;obtain⟨i0,h⟩:=az h;obtain rfl:=cC i0;split at h
  .rename_i g vt H;split at h
   .rename_i A j0;obtain⟨I,v,h,J,k0,S0,l0⟩:=lb (w0:=w0) (I0:=I0) (n:=n) L c b0 (bS w g0) h;split at h
    .rename_i l N;obtain⟨i,m0,h⟩:=bind_some h;obtain⟨j,Q,h⟩:=bind_some h;split at h
     .rename_i T0 n0;obtain⟨U0,X0,hu,a1,b1,B,R,c1,d1⟩:=(c.ty _ _ G).mp _ rfl;rw[H]at B;simp only[AK.map.injEq]at B;obtain⟨rfl,rfl⟩:=B;obtain⟨o0,p0⟩:=c.map _ _ _ H;obtain⟨d,q0,r0⟩:=SI (c.ty _ _ R) o0;obtain⟨S,U,s0,t0,u0⟩:=r0 A;obtain⟨r,e1,f1⟩:=CB (b:=vt) u0 U v j 0;have x0:VG d S (enc T vt v) (j.map λp=>(enc T g p.1,enc T vt p.2))=O ((fV (iV g) j A v).map λp=>(enc T g p.1,enc T vt p.2)):=by
       unfold VG
       grind
      obtain⟨⟨y0,A0⟩,B0⟩:=x8 N;obtain⟨_,C0⟩:=wB n0;refine .one _ h (J.trans (o9 _)) λq C=>?_;obtain⟨q1,av,hv⟩:=l0 q C;have D0:=gm hv.ED p0;subst D0;have t:bz (q1.ev x)=O (.mp (dY f i)):=hv.jO x _ (by
       have D:=C.fL w e0;rw[h0]at D;subst m0;generalize q.ev x=u at D;cases D with
       |val _ _ _ av E0 hv=>obtain ⟨_,rfl⟩:=hv;exact E0)
      have t:q1.ev x=.val (.mp (dY f i)):=by generalize q1.ev x=u at t;cases u<;>simp[bz]at t;rw[t]
      have G0:q1.ev y=.val (.fl S):=by have:=dm (C.fL w f0) j0 ((c.ty _ _ R).ok);rw[U]at this;exact dk (hv.jO y _ this)
      have H0:i<l.length:=(cr.1 Q).1;obtain⟨g1,J0⟩:=Hv N hv.oM Q;refine hv.oP.nv (Ak c0 w d0 hu q0 (c.ro a0 _) t J0 G0 s0 t0 hv.Ek x0 ⟨?_,λK0=>?_⟩)
      .have L0:=hv.oM.heap.pF L A0 y0 B0 H0 (x:=fV (iV g) j A v) C0;exact hv.oM.rk (hv:=I.tick) (cO _) L0
      .have N0:=(hv.fr K0).trans (s':=I) (q'':={q1 with a:=b8 q1.a (dY f i) (O (.map ((fV (iV g) j A v).map λp=>(enc T g p.1,enc T vt p.2))))}) ⟨λ_=>.inl rfl,λ_ _=>rfl,rfl,λk' P0 i1 j1=>?_,rfl,λ_=>.refl _⟩ hv.oM k0 J.m
       .have:=Fr.pc (X:=X) (o:=o) (u:=.val (.fl undef)) N0 λG=>by grind
        simp_all
       .have Q0:dY k' P0≠dY f i:=λe=>by grind [il]
        exact⟨aO _ _ Q0,rfl⟩
     .cases h
    .cases h
   .cases h
  .cases h
 .cases h
end
end Go.X
namespace Go.X
open Go Go.Ev
variable{t te a b t':Ty}{e el:an}{d k d' tick:Nat}{g:Nat->Nat}{f:bH}{u:cH}{q':St}{C:Nat->Type}{gj:Z AV}{rs:Z RK}{p y:ah}{av:AV}{qs us ps:Z Ty}
section
variable{P:ai}{E:cd}{U:cp}{T:dt U.C}{X:gy U}{w0:af}{I0:aA}{n:Nat}{o:aC}{s:S U.C}{q:St}{α:Type}{out:α}{fz:aa}{kx:o8 U->S U.C->V α}{K:S U.C->V α}{esc:Z (Nat×Nat)}
variable(L:cD U T)
theorem AF(c:kv P E T X e t)(h:PU U t te k=O t'):fD t'=W/\bB U D t'=P.cellsOf e/\(a7 t=F->a7 t'=F):=by
 unfold PU at h;cases d:a7 t with
 |true=>rw[d]at h;simp only[aW,aN]at h;subst h;exact⟨c.ok,c.cells.symm,λh=>by cases h⟩
 |false=>
  rw[d]at h;simp only[aX]at h;split at h
  .rename_i b i;cases a:(a7 b||!fD b)with
   |true=>grind|false=>
    rw[a]at h;simp only[aX,aN]at h;subst h;simp only[tB,oa]at a;refine⟨a.2,?_,λ_=>a.1⟩;rw[c.cells];have f:bB U D t=1:=by cases t<;>first|rfl|(simp[a7]at d)
    have g:bB U D b=1:=by cases b<;>first|rfl|(simp[a7]at a)
    rw[f,g]
  .cases h
include L in
theorem CE(P:ai)(E:cd){x:bL U.C te}{v:bL U.C t}{y:bL U.C te}(h:BZ t te x k v=O y)(n:fD t=W)(i:fD te=W):
  k+(enc T t v).cells.length<=(enc T te x).cells.length/\((enc T te x).isAgg=W∨(k=0/\(enc T t v).isAgg=F))/\gU (enc T te x) k (enc T t v).cells=enc T te y/\bh (enc T te x).cells k (enc T t v).cells=(enc T te y).cells:=by
 unfold BZ at h;cases c:(Nat.beq k 0&&decide (t=te))with
 |true=>
  rw[c]at h;simp only[aW]at h;obtain⟨e,rfl⟩:=bM h;subst e;simp only[aP]at c;obtain rfl:k=0:=cC c.1;have j:(enc T t v).cells.length=(enc T t x).cells.length:=by rw[fg L,fg L]
  have d:bh (enc T t x).cells 0 (enc T t v).cells=(enc T t v).cells:=by simp[bh,j]
  refine⟨M,?_,?_,d⟩
  .cases b:a7 t with
   |true=>left;cases t<;>first|rfl|(simp[a7]at b)
   |false=>right;exact ⟨rfl,p9 b⟩
  .cases b:a7 t with
   |true=>grind [lS,gU]|false=>have l:=p9 (T:=T) (x:=x) b;rw[jM b];generalize enc T t x=a at l;cases a<;>first|rfl|cases l
 |false=>
  rw[c]at h;simp only[aX]at h;obtain⟨f,h⟩:=az h;simp only[aP,rD]at f;split at h
  .rename_i o rest m;simp only[aN]at h;subst h;have j:(bh (enc T te x).cells k (enc T t v).cells).length=bB U D te:=by grind [bI,fg]
   have d:bh (enc T te x).cells k (enc T t v).cells=(enc T te o).cells:=by
    have p:=iZ (P:=P) (E:=E) (bx:=[]) (g:=λ_=>0) (tick:=0) L D te x (iF L te) i;have q:=iZ (P:=P) (E:=E) (bx:=[]) (g:=λ_=>0) (tick:=0) L D t v (iF L t) n;rw[nT]at m;have:=p.bh (k:=k) q;obtain⟨_,s,u⟩:=iG L D te _ _ _ _ (iF L te) i this m;have r:dC (bh ((enc T te x).cells.map cH.val) k ((enc T t v).cells.map cH.val))=O (bh (enc T te x).cells k (enc T t v).cells):=r9 (uI _);have w:(bh ((enc T te x).cells.map cH.val) k ((enc T t v).cells.map cH.val)).length=bB U D te:=by
     have:=bN List.length (lU.1 r)
     grind
    grind
   refine⟨by rw[fg L,fg L];exact f.2,.inl ?_,?_,d⟩
   .cases te<;>first|rfl|(simp[a7]at f)
   grind [lS,gU]
  .cases h
theorem JN{b b':B U.C}(c:s.box d=O b)(a:Yn b b'):∀d',kG s.b ((d,s.tick,b')::bu s.b d) g g s.tick d':=λd'=>by
 have h:=dG c;by_cases e:d=d'
 .subst e;right;right;rw[aT,aq rfl];cases b with
  |cells u rs=>
   cases b' with
   |cells u' f=>grind|br _ _ _=>exact a.elim
  |br t e xs=>
   cases b' with
   |cells u' f=>exact a.elim|br t' e' i=>
    obtain⟨rfl,j⟩:=a
    grind
 .left;rw[aT,ao e,aR,ao e];grind
def nI(g:aU P E T X s q){u:Ty}{rs a:Z (R U.C)}(e:s.box d=O (.cells u rs)){f:Z cH}(j:a.length=rs.length)(h:eC P E T s.b q.g s.tick a f):aU P E T X (s.hg d (.cells u a)) {q with b:=b8 q.b d (O (.cells f))}:=by obtain⟨k,l,_⟩:=g.cells e;refine g.hg e (b':=.cells u a) trivial ⟨k,by rw[l,j],f,rfl,h.1,λi r c m n=>(h.2 i r c m n).mono (λd' _=>JN e (b':=.cells u a) trivial d') (cO _)⟩
theorem Fr.Ow {s:S U.C} {q:St} (g:fA X s o.op=W) (h:o.dst=Y) {b:B U.C} (c:s.box d=O b) (x:V Bx) (f:Hw (q.b d) x):Fr X s o q {q with b:=b8 q.b d x}:=by
 have:Aq s q {q with b:=b8 q.b d x}:=⟨λ_=>.inl rfl,(λd' a=>aO _ _ λe=>by subst e;rw[dG c]at a;cases a),rfl,λ_ _ _ _=>⟨rfl,rfl⟩,rfl,Hw.b8 f⟩
 have:=Fr.pc (X:=X) (o:=o) (u:=.val (.fl undef)) this λi=>by grind
 simp_all
theorem Fr.SJ {s:S U.C} {q:St} (a:fA X s o.op=W) (b:o.dst=Y) (h:Aq s q q'):Fr X s o q q':=by
 have:=Fr.pc (X:=X) (o:=o) (u:=.val (.fl undef)) h λc=>by grind
 simp_all
include L in
theorem CF(c:bJ P E T X)(D:(∃k,s.m k=W)->E.cT=F)(f:ba n o=W){x:ah}(d:o.op=.store e p x)(g:o.dst=Y)(G:X.ty e=O t){i off:Nat}(H:∀q,aU P E T X s q->q.ev p=.val (.ptr (dY k i) off))
  (h:Hi.AB fz s t k i off (s.ev x) K=O out):ew P E T X w0 I0 n fz o s kx K out:=by
 have I:x∈o.op.operands:=by simp[d,Op.operands]
 have j:=c.ty _ _ G;have J:fA X s o.op=W:=by simp[d,fA]
 unfold Hi.AB at h;split at h
 .rename_i te N;split at h
  .rename_i t' Q;obtain⟨m,R,_⟩:=AF j Q;obtain⟨r,v,h,u,S,o0,U⟩:=lb (w0:=w0) (I0:=I0) (n:=n) L c D (bS f I) h;split at h
   .rename_i l w;obtain⟨y,A,h⟩:=bind_some h;split at h
    .rename_i z a0;split at h
     .rename_i p0 b0;obtain⟨c0,c2,c3,d0⟩:=CE (T:=T) L P E a0 m (c.h7 _ _ N);obtain⟨⟨e0,B⟩,f0⟩:=Fu w;obtain⟨_,g0⟩:=wA b0;refine .one _ h (u.trans (o9 _)) λq C=>?_;obtain⟨q1,av,hv⟩:=U q C;have h0:=gm hv.ED m;subst h0;have i0:q1.ev p=.val (.ptr (dY k i) off):=nU (hv.jO p _ (by rw[H q C];rfl));have j0:i<l.length:=(cr.1 A).1;refine hv.oP.nv (Eu d f g (c.roK _ _ B λa b e=>by grind) i0 (Ot w hv.oM A) hv.Ek (qI L v) j.pos (by rw[fg L,R]) c0 ⟨?_,λk0=>?_⟩)
      .have l0:=hv.oM.heap.pF L B e0 f0 j0 (x:=z) g0;rw[d0];exact hv.oM.rk (hv:=r.tick) (cO _) l0
      .refine Fr.SJ J g ((hv.fr k0).trans (s':=r) ⟨λ_=>.inl rfl,λ_ _=>rfl,rfl,λk' m0 q0 r0=>?_,rfl,λ_=>.refl _⟩ hv.oM S u.m);have n0:dY k' m0≠dY k i:=λe=>by grind [il]
       exact⟨aO _ _ n0,rfl⟩
     .cases h
    .cases h
   .cases h
  .cases h
 .cases h
include L in
theorem SK(a0:bJ P E T X)(t0:(∃k,s.m k=W)->E.cT=F)(C:ba n o=W){x:ah}(N:o.op=.store e p x)(h:iA X kx esc fz o s K=O out):ew P E T X w0 I0 n fz o s kx K out:=by
 have f0:p∈o.op.operands:=by simp[N,Op.operands]
 have j0:x∈o.op.operands:=by simp[N,Op.operands]
 have k0:fA X s o.op=W:=by simp[N,fA]
 unfold iA at h;simp only[N]at h;split at h
 .rename_i t u0 H;have J:=a0.ty _ _ u0;unfold Hi at h;split at h
  .
   rename_i d k Q;split at h
   .rename_i u rs G;have b0:∀q,aU P E T X s q->q.ev p=.dT d (q.g d) 0 0 k:=λq A=>by have B:=A.fL C f0;rw[Q]at B;exact jN A B G
    cases g0:a7 t with
    |true=>
     rw[g0]at h;simp only[aW]at h;split at h
     .rename_i v hv;obtain⟨l0,h⟩:=az h;rw[rD]at l0;refine .one _ h (iL _ _) λq A=>?_;obtain⟨y0,A0,cs,R,S⟩:=A.cells G;have o0:=dm (A.fL C j0) hv J.ok;have G0:(enc T t v).isAgg=W:=by cases t<;>first|rfl|(simp[a7]at g0)
      have H0:q.ev x=.val (enc T t v):=by
       generalize q.ev x=w at o0;generalize enc T t v=z at o0 G0;cases w<;>simp[bz]at o0
       .rw[o0]
       .subst o0;cases G0
      have J0:=S.1;have S0:=iZ (P:=P) (E:=E) (T:=T) (bx:=s.b) (g:=q.g) (tick:=s.tick) L D t v (iF L t) J.ok;have L1:(nt U D t v).length=bB U D t:=by rw[S0.1,iT,fg L]
      refine jg N C H (b0 q A) rfl R (vs:=(enc T t v).cells.map .val) (by rw[H0];rfl) (by rw[H0];trivial) (by rw[H0];exact qI L v) J.pos (by rw[iT,fg L,J.cells]) (by rw[iT,fg L];omega) ⟨?_,λc0=>Fr.Ow k0 H G _ (.inr (.inl ⟨_,_,R,rfl⟩))⟩;rw[lK,dN,nT];exact nI A G (bI (by grind)) (S.bh S0)
     .split at h
      .rename_i m vs k1;replace h:=az h;obtain⟨p0,h⟩:=h;simp only[aP,aV,rD]at p0;obtain⟨_,K0,l0⟩:=p0;have K0:=cC K0;refine .one _ h (iL _ _) λq A=>?_;obtain⟨y0,A0,cs,R,S⟩:=A.cells G;have B:=A.fL C j0;rw[k1]at B;generalize h0:q.ev x=w at B;cases B with
       |agg _ _ gj L0 T0 N1=>
        have J0:=S.1;have l1:∀c∈gj,c.isAgg=F:=λc m1=>by grind [kR]
        refine jg N C H (b0 q A) rfl R (vs:=gj.map .val) (by rw[h0];rfl) (by rw[h0];trivial) (by rw[h0];exact l1) J.pos (by rw[iT,<-L0,K0,J.cells]) (by grind) ⟨?_,λc0=>Fr.Ow k0 H G _ (.inr (.inl ⟨_,_,R,rfl⟩))⟩;rw[lK,dN,nT];refine nI A G (bI (by grind)) (S.bh ⟨by grind,λi r c B m1=>?_⟩)
        grind
      .cases h
    |false=>
     rw[g0]at h;simp only[aX]at h;split at h
     .rename_i t' d0;obtain⟨_,B0,n1⟩:=AF J d0;split at h
      .rename_i r B;obtain⟨l0,h⟩:=az h;rw[jq]at l0;have o1:P.cellsOf e=1:=by rw[J.cells];cases t<;>first|rfl|(simp[a7]at g0)
       refine .one _ h (iL _ _) λq A=>?_;obtain⟨y0,A0,cs,R,S⟩:=A.cells G;obtain⟨q1,p1,r1,t1⟩:=JL B (n1 g0) q _ A (A.fL C j0);have J0:=S.1;refine jg N C H (b0 q A) rfl R q1 r1 p1 J.pos (by grind) (by grind) ⟨?_,λc0=>Fr.Ow k0 H G _ (.inr (.inl ⟨_,_,R,rfl⟩))⟩;rw[lK,dN,nT];exact nI A G (bI (by grind)) (S.bh (.cons t1 .nil))
      .cases h
     .cases h
   .cases h
  .
   rename_i d i k q0 te y Q;split at h
   .rename_i t' d0;obtain⟨r0,B0,_⟩:=AF J d0;obtain⟨I,v,h,m0,N0,U0,C0⟩:=lb (w0:=w0) (I0:=I0) (n:=n) L a0 t0 (bS C j0) h;have X0:I.ev p=.gq d i k q0 te y:=by rw[U0 p (by rw[Q];rfl),Q]
    split at h
    .rename_i e0 e' xs G;have P1:∀(D0 z:bL U.C e0),xs[i]?=O D0->BZ t' e0 D0 k v=O z->K (I.hg d (.br e0 e' (xs.set i z)))=O out->(∀q u,aU P E T X I q->bA P E T I.b q.g I.tick (.gq d i k q0 te y) u->u=.dT d (q.g d) (bB U D e0) i k)->ew P E T X w0 I0 n fz o s kx K out:=by
      intro D0 z u1 E0 h P0;refine .one _ h (m0.trans (iL _ _)) λq A=>?_;obtain⟨q1,av,hv⟩:=C0 q A;have Q0:=gm hv.ED r0;subst Q0;obtain⟨n0,a1⟩:=hv.oM.br G;have s0:=a0.ty _ _ n0;obtain⟨R0,c2,c3,v1⟩:=CE (T:=T) L P E E0 r0 s0.ok;have i0:=hv.oM.fL C f0;rw[X0]at i0;have b0:=P0 q1 _ hv.oM i0;refine hv.oP.nv (Ab N C H b0 rfl a1 s0.cells.symm hv.Ek (qI L v) J.pos (by rw[fg L,B0]) (y:=enc T e0 D0) (by simp[u1]) R0 c2 ⟨?_,λc0=>?_⟩)
      .rw[c3];refine hv.oM.hg G (b':=.br e0 e' (xs.set i z)) ⟨rfl,aH⟩ ⟨n0,?_⟩;simp_all
      .refine Fr.SJ k0 H ((hv.fr c0).trans (s':=I) ⟨λ_=>.inl rfl,λd' b1=>aO _ _ λe=>?_,rfl,λ_ _ _ _=>⟨rfl,rfl⟩,rfl,Hw.b8 (.inr (.inr ⟨_,_,_,a1,rfl,aH⟩))⟩ hv.oM N0 m0.m);subst e;rw[dG G]at b1;cases b1
     have P0:∀q u,aU P E T X I q->bA P E T I.b q.g I.tick (.gq d i k q0 te y) u->u=.dT d (q.g d) (bB U D e0) i k/\(Nat.beq q0 (I.NZ d)=W->(⟨e0,xs[i]?⟩:(u:Ty)×V (bL U.C u))=⟨te,O y⟩):=λq u A B=>by
      cases B with
      |gq _ _ _ _ _ _ _ Q1 i0=>obtain⟨y0,A0,R1⟩:=i0 _ _ _ _ (dG G);simp_all
     cases d1:Nat.beq q0 (I.NZ d)with
     |true=>
      rw[d1]at h;simp only[aW]at h;split at h
      .rename_i S1 w1;obtain⟨e,rfl⟩:=bM w1;subst e;split at h
       .rename_i z E0;by_cases f1:∃q,aU P E T X s q
        .obtain ⟨q,A⟩:=f1;obtain⟨q1,av,hv⟩:=C0 q A;have i0:=hv.oM.fL C f0;rw[X0]at i0;have:=(P0 q1 _ hv.oM i0).2 d1
         grind
        .exact .one _ h (m0.trans (iL _ _)) λq A=>(f1 ⟨q,A⟩).elim
       .cases h
      .cases h
     |false=>grind
    .cases h
   .cases h
  .rename_i k i off Q;refine CF L a0 t0 C N H u0 (λq A=>?_) h;have B:=A.fL C f0;rw[Q]at B;generalize q.ev p=u at B;cases B;rfl
  .rename_i k T1 Q;obtain⟨i,x1,h⟩:=bind_some h;refine CF L a0 t0 C N H u0 (λq A=>?_) h;have B:=A.fL C f0;rw[Q]at B;exact wz B x1
  .
   rename_i k i j off Q;split at h
   .rename_i te e' y1;split at h
    .rename_i t' d0;replace d0:=az d0;obtain⟨n0,d0⟩:=d0;replace n0:=e4 n0;obtain⟨r0,B0,_⟩:=AF J d0;obtain⟨I,v,h,m0,N0,U0,C0⟩:=lb (w0:=w0) (I0:=I0) (n:=n) L a0 t0 (bS C j0) h;split at h
     .rename_i l g1;obtain⟨xs,A1,h⟩:=bind_some h;obtain⟨y,B1,h⟩:=bind_some h;split at h
      .rename_i z E0;split at h
       .rename_i U1 C1;have s0:=a0.ty _ _ n0;obtain⟨R0,c2,c3,v1⟩:=CE (T:=T) L P E E0 r0 s0.ok;obtain⟨⟨D1,i1⟩,E1⟩:=sT g1;obtain⟨_,g0⟩:=nH C1;refine .one _ h (m0.trans (o9 _)) λq A=>?_;obtain⟨q1,av,hv⟩:=C0 q A;have Q0:=gm hv.ED r0;subst Q0;have G1:T.hz k=P.cellsOf e':=by rw[L.hz k te e' y1,s0.cells]
        have b0:q1.ev p=.val (.ptr (dY k i) (j*P.cellsOf e'+off)):=by refine nU (hv.jO p _ ?_);have B:=A.fL C f0;rw[Q]at B;generalize q.ev p=u at B;cases B;rw[G1];rfl
        have H1:i<l.length:=by grind [e8,cr]
        refine hv.oP.nv (xP N C H (a0.roK _ _ i1 λa b e=>by grind) b0 (sS g1 hv.oM A1) hv.Ek (qI L v) J.pos (by rw[fg L,B0]) (y:=enc T te y) (by simp[B1]) R0 c2 ⟨?_,λc0=>?_⟩)
        .have I1:=hv.oM.heap.pF L i1 D1 E1 H1 (x:=(O (xs.set j z):V (Z (bL U.C te)))) g0;rw[c3,<-List.map_set];exact hv.oM.rk (hv:=I.tick) (cO _) I1
        .refine Fr.SJ k0 H ((hv.fr c0).trans (s':=I) ⟨λ_=>.inl rfl,λ_ _=>rfl,rfl,λk' J1 X1 a2=>?_,rfl,λ_=>.refl _⟩ hv.oM N0 m0.m);have K1:dY k' J1≠dY k i:=λe=>by grind [il]
         exact⟨aO _ _ K1,rfl⟩
       .cases h
      .cases h
     .cases h
    .cases h
   .cases h
  .cases h
 .rename_i u0 H;replace h:=az h;obtain⟨c0,h⟩:=h;obtain⟨o1,G0⟩:=a0.Mc e c0;split at h
  .rename_i d k f Q hv;split at h
   .rename_i u rs G;replace h:=az h;obtain⟨l0,h⟩:=h;rw[jq]at l0;refine .one _ h (iL _ _) λq A=>?_;have j1:=A.fL C f0;rw[Q]at j1;have b0:=jN A j1 G;obtain⟨y0,A0,cs,R,S⟩:=A.cells G;have B:=A.fL C j0;rw[hv]at B;generalize h0:q.ev x=w at B;cases B with
    |fn _ _ gj L0 T0=>have J0:=S.1;refine jg N C H b0 rfl R (vs:=[.val (.fn f gj)]) (by rw[h0];rfl) (by rw[h0];trivial) (by rw[h0];intro c p0;simp[AV.cells]at p0;subst p0;rfl) M (by grind) (by grind) ⟨?_,λc0=>Fr.Ow k0 H G _ (.inr (.inl ⟨_,_,R,rfl⟩))⟩;rw[lK,dN,nT];exact nI A G (bI (by grind)) (S.bh (.cons (.fn f [] gj L0 T0) .nil))
   .cases h
  .cases h
 .cases h
def CG{C:Nat->Type}(d:Nat)(t:Ty)(x:bL C t):R C->R C
 |.dT d' k=>if d'=d then .dF t x k else .dT d' k|r=>r
def sU(d a:Nat)(t:Ty)(x:bL C t)(l:Z (Nat×Nat×R C))(z:Nat):(aF (mD d a t x l) z).map (·.2)=(aF l z).map (λe=>CG d t x e.2)/\∀st r,aF (mD d a t x l) z=O (st,r)->st=a∨∃f,aF l z=O (st,f):=by
 induction l with
 |nil=>exact ⟨rfl,λst r h=>by simp[mD,aF]at h⟩|cons e l b=>
  obtain⟨g,st,y⟩:=e;cases y with
  |dT d' k=>
   simp only[mD];by_cases c:d'=d
   .subst c;simp only[uh,aW,aT];split
    .simp[CG]
    .exact b
   .simp only[x7 c,aX,aT];split
    .simp[CG,c]
    .exact b
  |_=>
   simp only[mD,aT];split
   .simp[CG]
   .exact b
theorem Mw{s:S C}(d:Nat)(t:Ty)(x:bL C t):bw s {s with r:=mD d s.tick t x s.r,b:=bu s.b d,tick:=s.tick+1}:=by
 refine⟨rfl,cO _,λz st y h m=>?_,λ_ _ _ h _=>fF h,λ_=>⟨rfl,rfl⟩⟩;have a:=(sU d s.tick t x s.r z).1;have c:=(sU d s.tick t x s.r z).2 st y h;have h:aF (mD d s.tick t x s.r) z=O (st,y):=h;rcases c with c|⟨f,c⟩
 .omega
 .rw[h,c]at a;simp only[dr,aN]at a;cases f with
  |dT d' k=>
   simp only[CG]at a;split at a
   .rename_i g;subst g;have:∀l:Z (Nat×Nat×R C),aF l z=O (st,.dT d' k)->aF (mD d' s.tick t x l) z=O (s.tick,.dF t x k):=by
     intro l;induction l with
     |nil=>intro h;cases h
     |cons e l i=>
      obtain⟨n,o,j⟩:=e;intro h;rw[aT]at h;split at h
      .rename_i hz;simp only[aN,cz]at h;obtain⟨rfl,rfl⟩:=h;simp[mD,aT,hz]
      .rename_i hz;have:=i h;cases j with
       |dT p q=>grind [mD,Nat.beq,aT]|_=>simp[mD,aT,hz,this]
    grind
   grind
  |_=>simp only[CG]at a;rw[c,a]
include L in
theorem Ox(h:s.Jh d K=O out):∃s',K s'=O out/\bw s s'/\∀q,aU P E T X s q->∃q',jc P E w0 I0 n q q'/\aU P E T X s' q'/\lG q q':=by
 unfold S.Jh at h;split at h
 .rename_i t rs B;split at h
  .rename_i x rest J;obtain⟨j0,h⟩:=az h;refine⟨_,h,Mw _ _ _,λq l=>?_⟩;obtain⟨C,N,cs,Q,G⟩:=l.cells B;have hv:dC cs=O (enc T t x).cells:=by obtain⟨_,_,o⟩:=iG L D t rs cs x rest (iF L t) C G J;rwa[N,G.1,GC]at o
   refine⟨q.gv d (enc T t x).cells,λa w R=>tL d Q hv R,?_,.Sw λz av g=>by show bz (nr d (q.g d) (enc T t x).cells (q.r z))=O av;cases f:q.r z<;>rw[f]at g<;>first|exact g|(simp[bz]at g)⟩;have H:∀d',kG s.b (bu s.b d) q.g q.g s.tick d':=λd'=>by
    by_cases e:d=d'
    .right;left;rw[aR,aq e]
    .left;rw[aR,ao e];grind
   refine⟨λz=>?_,λd'=>?_,λz st r g=>?_,λd' st r g=>?_,l.heap,l.df⟩
   .have o:=l.ct z;have p:=o.mono (λd' _=>H d') (cO _);have k0:=(sU d s.tick t x s.r z).1;have U:S.bG {r:=mD d s.tick t x s.r,b:=bu s.b d,tick:=s.tick+1,h:=s.h,hv:=s.hv,m:=s.m} z=CG d t x (s.bG z):=by grind [S.ib,aF,mD,CG]
    rw[U];have a0:∀r u,bA P E T s.b q.g s.tick r u->bA P E T (bu s.b d) q.g (s.tick+1) r u->bA P E T (bu s.b d) q.g (s.tick+1) (CG d t x r) (nr d (q.g d) (enc T t x).cells u):=by
     intro r u o p;have b0:∀av,bz u=O av->nr d (q.g d) (enc T t x).cells u=u:=λav f=>by cases u<;>first|rfl|(simp[bz]at f)
     cases o with
     |none=>exact .none _|val t' y _ av I c0=>rw[b0 _ I];exact .val t' y _ av I c0
     |const v l0=>
      have:nr d (q.g d) (enc T t x).cells (cB v)=cB v:=by unfold cB;split<;>rfl
      rw[this];exact p
     |dT d' k _ f=>
      by_cases j:d'=d
      .subst j;have:=f _ _ _ (dG B);subst this;simp only[CG,cm,nr,and_self,lK,dN];exact .dF t x k C
      .simp only[CG,j,cA];refine .dT d' k _ λst u' m0 c=>?_;rw[aR,ao (eN j)]at c;rw[f _ _ _ c];simp[nr,j]
     |whole d' _ f=>
      refine .whole d' _ λst t' e xs c=>?_;rw[aR]at c;split at c
      .cases c
      .rw[f _ _ _ _ c];rfl
     |gq d' i k d0 t' y _ n0 f=>
      refine .gq d' i k d0 t' y _ M λst e0 e xs c=>?_;rw[aR]at c;split at c
      .cases c
      .rename_i j;obtain⟨q1,A,f0⟩:=f _ _ _ _ c;rw[q1];exact⟨by simp[nr,eN j],A,f0⟩
     |sub d' off m _ f=>
      refine .sub d' off m _ λst e0 e xs c=>?_;rw[aR]at c;split at c
      .cases c
      .obtain ⟨q1,A⟩:=f _ _ _ _ c;rw[q1];exact⟨rfl,A⟩
     |_=>exact p
    exact a0 _ _ o p
   .show oz P E T X _ _ _ (aF (bu s.b d) d') (b8 q.b d Y d');rw[aR];by_cases j:d=d'
    .rw[aq j];trivial
    .rw[ao j,aO _ _ (eN j)];exact(l.bD d').mono (λ_ _ _ g0 _=>H g0) (cO _)
   .show st<s.tick+1;rcases(sU d s.tick t x s.r z).2 st r g with rfl|⟨h0,i0⟩
    .omega
    .have:=l.zo z st h0 i0;omega
   .show st<s.tick+1;simp only[aR]at g;split at g
    .cases g
    .have:=l.Ez d' st r g;omega
  .cases h
 .cases h
include L in
theorem wE:∀(l:Z ah)(fz:aa)(s:S U.C),Fh fz s l K=O out->∃s',K s'=O out/\bw s s'/\(fz=F->s'=s)/\∀q,aU P E T X s q->∃q',jc P E w0 I0 n q q'/\aU P E T X s' q'/\(fz=F->q'=q)
 |[],fz,s,h=>⟨s,h,.refl s,λ_=>rfl,λq a=>⟨q,.refl q,a,λ_=>rfl⟩⟩|x::l,fz,s,h=>by
  simp only[Fh]at h;split at h
  .rename_i d k t;obtain⟨c,h,e,f⟩:=Ox (P:=P) (E:=E) (X:=X) (w0:=w0) (I0:=I0) (n:=n) L h;obtain⟨s2,h,g,u,i⟩:=wE l W c h;refine⟨s2,h,e.trans g,(λb=>by cases b),λq a=>?_⟩;obtain⟨q1,j,m,_⟩:=f q a;obtain⟨o,p,r,v⟩:=i q1 m;exact⟨o,j.trans p,r,λb=>by cases b⟩
  .exact wE l _ s h
theorem HD:∀(l:Z ah)(b:∀x∈l,ca x=W),(zj s l).all abm=W->∀q,aU P E T X s q->∃gj,da q l=O gj/\(zj s l).length=gj.length/\∀(i:Nat)(r:R U.C)(av:AV),(zj s l)[i]?=O r->gj[i]?=O av->∀bx g tick,bA P E T bx g tick r (.val av)∨bA P E T s.b q.g s.tick r (.val av)
 |[],_,_,q,c=>⟨[],rfl,rfl,λi r av h=>by grind⟩|x::l,b,h,q,c=>by
  simp only[zj,tC,aP]at h;obtain⟨gj,a,j,p⟩:=HD l (λy m=>b y (by simp[m])) h.2 q c;have d:=c.ev x (b x aH);have:∃av,bz (q.ev x)=O av/\bA P E T s.b q.g s.tick (s.ev x) (.val av):=by
   have e:=h.1;revert d e;generalize s.ev x=r;generalize q.ev x=u;intro d e;cases d with
   |val t y _ av n hv=>exact ⟨av,n,.val t y _ av rfl hv⟩|dF t y k o=>exact ⟨_,rfl,.dF t y k o⟩
   |fn f caps gj a j=>exact ⟨_,rfl,.fn f caps gj a j⟩|nF r av a=>exact ⟨_,rfl,.nF r av a⟩
   |_=>cases e
  grind [da,zj]
include L in
theorem JO(b:ba n o=W){first caps:Array ah}(a:o.op=.makeFunc (.func f) first caps)(h:iA X kx esc fz o s K=O out):ew P E T X w0 I0 n fz o s kx K out:=by
 unfold iA at h;simp only[a]at h;cases c:(!first.toList.isEmpty&&(caps.toList.isEmpty&&(zj s first.toList).all Yi))with
 |true=>
  rw[c]at h;simp only[aW]at h;simp only[aP]at c;obtain⟨_,C,g⟩:=c;have j:caps=#[]:=by grind
  subst j;refine b4 h λq d=>?_;obtain⟨gj,k,l,D⟩:=HD (s:=s) first.toList (λy G=>bS b (by simp[a,Op.operands];grind)) (di.2 λr e=>by have:=di.1 g r e;cases r<;>first|rfl|cases this) q d;refine⟨_,Am a b k,.mc f _ gj l λi r av e m=>?_⟩
  grind
 |false=>
 rw[c]at h;simp only[aX]at h;obtain⟨H,h⟩:=az h;have p:first=#[]:=by grind
 subst p;obtain⟨I,h,hm,J,t⟩:=wE (P:=P) (E:=E) (X:=X) (w0:=w0) (I0:=I0) (n:=n) L _ _ _ h;obtain⟨u,h⟩:=az h;refine .one _ h (hm.trans (bi _ _)) λq d=>?_;obtain⟨q1,v,a2,w⟩:=t q d;have z:∀x∈caps.toList,ca x=W:=λx N=>bS b (by
  simp[a,Op.operands]
  grind)
 obtain⟨gj,A,b2,Q⟩:=HD _ z u q1 a2;refine v.nv (kD _ ⟨a2.put o.dst (.fn f _ gj b2 λi r av e m=>?_),λB=>?_⟩ (rO a b A))
 grind
 .have:=w B;subst this;exact .pc (.refl s q1) λ_=>rfl
include L in
theorem qc(a:kv P E T X el te)(ys:Z (bL U.C te)):lF P el (ys.map (enc T te)):=λy b=>by obtain⟨z,_,rfl⟩:=gC.1 b;exact⟨by rw[fg L,a.cells],qI L z⟩
include L in
theorem Oy(x:kv P E T X el te){r:R U.C}{K:Z (bL U.C te)->V α}(h:VJ s te el r K=O out):∃ys,K ys=O out/\(∀q u,aU P E T X s q->bA P E T s.b q.g s.tick r u->js P q el u=O (ys.map (enc T te)))/\∀d,Fg d r=F->R8 s te el r=O ys:=by
 unfold VJ at h;split at h
 .rename_i k p;split at h
  .rename_i G e' H;replace h:=az h;obtain⟨f,h⟩:=h;obtain rfl:=cC f;split at h
   .rename_i l o;replace h:=bind_some h;obtain⟨ys,a,h⟩:=h;refine⟨ys,h,λq u g b=>?_,λd t=>by cases t⟩;rw[Cx b];rcases pa a with⟨rfl,rfl⟩|⟨i,m,xs,rfl,y,z,rfl⟩
    .rfl
    .have c:=sS o g y;have A:=qb o;have B:T.hz k=P.cellsOf e':=by rw[L.hz k te e' A,x.cells]
     simp only[hD,js,c,B,mW,iT,z,cm,AX]
   .cases h
  .cases h
 .split at h
  .rename_i ys a;refine⟨ys,h,λq u g b=>?_,λd t=>a⟩;unfold R8 at a;split at a
   .rename_i t' xs w;obtain⟨e,rfl⟩:=bM a;subst e;cases b with
    |val _ _ _ av c hv=>obtain⟨_,rfl⟩:=hv;rcases oB (cs:=List.map (enc T te) xs) c with e|e<;>rw[e]<;>rfl
   .rename_i t' xs;obtain⟨e,rfl⟩:=bM a;simp only[Ty.bk.injEq]at e;subst e;cases b;rfl
   .rename_i v;obtain⟨n,a⟩:=az a;simp only[aN]at a;subst a;unfold fE at n;split at n
    .cases b;rfl
    .cases n
   .rename_i d w;split at a
    .rename_i t' e' xs j;replace a:=az a;obtain⟨f,a⟩:=a;obtain rfl:=cC f;obtain⟨e,rfl⟩:=bM a;simp only[Ty.bk.injEq]at e;subst e;rw[fG g b j];obtain⟨_,c⟩:=g.br j;simp[js,c,de]
    .cases a
   .rename_i d off m w;split at a
    .rename_i t' e' xs j;replace a:=az a;obtain⟨f,a⟩:=a;obtain rfl:=cC f;split at a
     .rename_i I C;simp only[aN]at a;subst a;obtain⟨e,rfl⟩:=bM C;simp only[Ty.bk.injEq]at e;subst e;obtain⟨_,c⟩:=g.br j;cases b with
      |sub _ _ _ _ D=>rw[(D _ _ _ _ (dG j)).1];simp[js,c,NL,AX]
     .cases a
    .cases a
   .cases a
  .cases h
theorem FC{r:R U.C}{ys:Z (bL U.C te)}(h:R8 s te el r=O ys)(g:Fg d r=F){q:St}(i:aU P E T X s q)(a:bA P E T s.b q.g s.tick r u)(k:∀d',d'≠d->q'.b d'=q.b d'/\q'.g d'=q.g d'):js P q' el u=js P q el u:=by
 unfold R8 at h;split at h
 .rename_i t' xs;obtain⟨e,rfl⟩:=bM h;subst e;cases a with
  |val _ _ _ av b hv=>obtain⟨_,rfl⟩:=hv;rcases oB (cs:=List.map (enc T te) xs) b with e|e<;>rw[e]<;>rfl
 .cases a;rfl
 .rename_i v;obtain⟨c,h⟩:=az h;unfold fE at c;split at c
  .cases a;rfl
  .cases c
 .rename_i d';split at h
  .rename_i t' e' xs f;have j:d'≠d:=λe=>by subst e;simp[Fg]at g
   rw[fG i a f]
   grind [js]
  .cases h
 .rename_i d' off m;split at h
  .rename_i t' e' xs f;have j:d'≠d:=λe=>by subst e;simp[Fg]at g
   cases a with
   |sub _ _ _ _ b=>
    rw[(b _ _ _ _ (dG f)).1]
    grind [js]
  .cases h
 .cases h
def uL(a:aU P E T X s q){xs:Z (bL U.C t)}(c:ns d s.b=W)(f:X.ty e=O t){ys:Z AV}(g:ys=xs.map (enc T t)):
  aU P E T X (({s with r:=jY d s.tick s.r,b:=(d,s.tick,.br t e xs)::bu s.b d,tick:=s.tick+1}:S U.C).put (O d) (.whole d)) (q.cQ d e ys):=by
 subst g;exact a.cQ c f
theorem CH{xs:Z (bL C t')}{a:Z (bL C te)}(h:er (.bk t') (.bk te) xs=O a):∃e:t'=te,a=e▸xs:=by
 obtain⟨e,h⟩:=bM h
 grind
include L in
theorem P7(n0:bJ P E T X)(J:ba n o=W){x:ah}{u:an}(G:o.op=.call {callee:=.builtin .append,args:=#[x,y],argTypes:=#[e,u]})(h:iA X kx esc fz o s K=O out):ew P E T X w0 I0 n fz o s kx K out:=by
 have d0:x∈o.op.operands:=by simp[G,Op.operands,Call.operands]
 have G0:y∈o.op.operands:=by simp[G,Op.operands,Call.operands]
 have R0:fA X s o.op=W:=by simp[G,fA]
 unfold iA at h;simp only[G]at h;split at h
 .rename_i te el S0 u0 T0 U0;have X0:=n0.ty _ _ u0;obtain⟨o0,g0⟩:=X0.elem te el rfl T0;have z:=n0.ty _ _ g0;obtain⟨H1,b1⟩:=nf (n0.ty _ _ U0);have p0:mg P u=W:=by unfold mg;rw[b1]
  have q0:vK P el:=by obtain⟨i,c1,g1,g2,g3,g4,_⟩:=z.zero;exact⟨z.pos,i,c1,g1,g2,g4⟩
  unfold N9 at h;split at h
  .rename_i d H;have a0:d∈eQ o:=by simp[eQ,H,G]
   replace h:=Oy L z h;obtain⟨ys,h,d1,f1⟩:=h;have x0:∀q,aU P E T X s q->js P q el (q.ev y)=O (ys.map (enc T te)):=λq c=>d1 q _ c (c.fL J G0);have H0:∀(xs:Z (bL U.C te)),((dv ((List.isEmpty (α:=bL U.C te) xs||!ys.isEmpty)&&cF (X.bytes el) (List.length (α:=bL U.C te) xs+ys.length) 140737488355328)).bind λ_=>s.new d (.br te el (List.append (α:=bL U.C te) xs ys)) λs=>K (s.put o.dst (.whole d)))=O out->(∀q,aU P E T X s q->q.ev x=.bF (xs.map (enc T te)))->ew P E T X w0 I0 n fz o s kx K out:=by intro xs h i1;obtain⟨_,j,h⟩:=bind_some h;have j:=dy j;simp only[cF,aP,lC,aV,iB]at j;obtain⟨I1,J1,j1⟩:=j;refine yd H a0 R0 h g0 λq c K1 L1=>?_;refine oY G J H o0 p0 q0 (i1 q c) (qc L z xs) (x0 q c) (qc L z ys) ?_ (by grind) (by simpa[z.bytes]using j1) (by simp_all);simp_all
   split at h
   .
    rename_i d' Q;split at h
    .rename_i t' e' b0 y0;split at h
     .rename_i xs h0 k1;obtain⟨i0,rfl⟩:=CH h0;subst i0;obtain rfl:=cC k1;obtain⟨_,j,h⟩:=bind_some h;have j:=dy j;simp only[cF,aP,aV]at j;obtain⟨⟨A0,l1⟩,h⟩:=mF h;refine .one _ h (((uG _).trans (kH _ _)).trans (bi _ _)) λq c=>?_;have C:=c.fL J d0;rw[Q]at C;obtain⟨_,m1⟩:=c.br y0;refine oX G J H o0 p0 q0 (fG c C y0) rfl m1 (x0 q c) (qc L z ys) (by grind) (by simpa[z.bytes]using j.2) ⟨?_,λN1=>?_⟩
      .rw[H];refine uL (c.drop d') A0 g0 ?_;rw[de aH];simp_all
      .refine ⟨λt u0 _=>.inl (aO _ _ λe=>u0 (by rw[H,e])),λD r0 I=>?_,λ_ _ _ _=>⟨rfl,rfl⟩,rfl,λD I=>?_,λh=>by grind⟩
       .have f:D≠d:=λe=>I (e▸a0);have j0:D≠d':=λe=>by subst e;rw[dG y0]at r0;cases r0
        exact⟨by simp only[St.cQ,aO _ _ f,aO _ _ j0],by simp only[St.cQ,aO _ _ f]⟩
       .have f:D≠d:=λe=>I (e▸a0);refine⟨?_,by simp only[St.cQ,aO _ _ f]⟩;simp only[St.cQ,aO _ _ f];exact .JG _ _ _
     .cases h
    .cases h
   .
    rename_i k p Q;cases k0:(Fg d (s.ev y)||Nat.blt k 2)with
    |true=>grind|false=>
     rw[k0]at h;simp only[aX]at h;have P1:2<=k:=by
      have:=(tB.1 k0).2;cases Nat.lt_or_ge k 2 with
      |inl h=>rw[jq.mpr h]at this;cases this
      |inr h=>exact h
     replace k0:=(tB.1 k0).1;have e0:=k0;have o1:=f1 d e0;split at h
     .rename_i t l B0;replace h:=bind_some h;obtain⟨xs,h0,h⟩:=h;replace h:=bind_some h;obtain⟨_,j,h⟩:=h;have j:=dy j;simp only[cF,aP,aV]at j;split at h
      .rename_i f0 p1;obtain⟨⟨J0,s0⟩,K0⟩:=sT B0;obtain⟨_,L0⟩:=nH p1;have r1:=qb B0;replace h:({(s.put (O t) .none)with h:=f0,hv:=(s.put (O t) .none).tick,tick:=(s.put (O t) .none).tick+1}:S U.C).new d (.br te el (xs++ys)) (λs=>K (s.put o.dst (.whole d)))=O out:=h;replace h:=mF h;obtain⟨⟨A0,l1⟩,h⟩:=h;have Q1:oz P E T X ((d,s.tick+1+1,B.br te el (xs++ys))::bu s.b d) (λ_=>0) (s.tick+1+1+1) (O (s.tick+1+1,.br te el (xs++ys))) (O (.br el ((xs++ys).map (enc T te)))):=⟨g0,rfl⟩
       refine .one _ h ((((bi _ _).trans (o9 _)).trans (kH _ _)).trans (bi _ _)) λq c=>?_;have C:=c.fL J d0;rw[Q]at C;have N0:q.r t=.val (hD T p k):=Cx C;have s1:=x0 q c;have t1:=c.fL J G0;rw[H];have P0:∀(q':St)(A:Nat->V Ob),fB T s.m f0 A q.u->(∀t',t'≠t->q'.r t'=q.r t')->(∀d',d'≠d->q'.b d'=q.b d')->(∀d',d'≠d->q'.g d'=q.g d')->q'.a=A->q'.u=q.u->q'.df=q.df->aU P E T X (({s.put (O t) .none with h:=f0,hv:=(s.put (O t) .none).tick,r:=jY d ((s.put (O t) .none).tick+1) (s.put (O t) .none).r,b:=(d,(s.put (O t) .none).tick+1,.br te el (xs++ys))::bu (s.put (O t) .none).b d,tick:=(s.put (O t) .none).tick+1+1}:S U.C).put (O d) (.whole d)) (q'.cQ d el ((xs++ys).map (enc T te))):=by
        intro q' A l0 u1 Q0 i0 v1 w1 x1;have y1:aU P E T X ({(s.put (O t) .none)with h:=f0,hv:=(s.put (O t) .none).tick,tick:=(s.put (O t) .none).tick+1}:S U.C) {q.put (O t) (.bF [])with a:=A,u:=q.u}:=(c.put (O t) (r:=.none) (u:=.bF []) (.none _)).rk (hv:=(s.put (O t) .none).tick) (cO _) l0;have m0:=y1.VU A0 (b:=.br te el (xs++ys)) (q1:={q' with b:=b8 q'.b d (O (.br el ((xs++ys).map (enc T te)))),g:=b8 q'.g d (q'.g d+1)}) (λt' R=>?_) (λd' N=>?_) (ch _ _ _) (λd' N=>?_) v1 w1 x1 ⟨g0,rfl⟩
        .have:=m0.put (O d) (r:=.whole d) (u:=.view d (q'.g d+1) 0 ((xs++ys).map (enc T te)).length) (.whole d _ λst S0 Q0 R1 t0=>by simp only[aT,cm,aN,cz,B.br.injEq]at t0;obtain⟨_,rfl,_,t0⟩:=t0;cases t0;simp);exact this
        .have c0:t'≠t:=λe=>by grind [S.bG,S.put,aT]
         show q'.r t'=b8 q.r t (.bF []) t';rw[aO _ _ c0,u1 t' c0]
        .show b8 q'.b d _ d'=q.b d';rw[aO _ _ N,Q0 d' N]
        .show b8 q'.g d _ d'=q.g d';rw[aO _ _ N,i0 d' N]
       rcases pa h0 with⟨rfl,rfl⟩|⟨i,m,b0,rfl,A1,a2,rfl⟩
       .
        have l0:fB T s.m f0 q.a q.u:=by
         refine c.heap.set L s0 L0 (λi=>?_) λ_ _ _ _=>⟨rfl,rfl⟩
         exact c.heap.at s0 J0 K0 i
        have C0:jc P E w0 I0 n q {q with r:=b8 q.r t (.bF [])}:=λa w D0=>NW t N0 D0;refine C0.nv (oY G J H o0 p0 q0 (xs:=[]) (by simp[St.ev]) (λx d0=>by cases d0) (ys:=ys.map (enc T te)) ?_ (qc L z ys) (.inl rfl) (by grind) (by simpa[z.bytes]using j.2) ⟨?_,λ_=>?_⟩);rotate_left 2
        .refine ⟨λt' R E0=>.inl ?_,λD r0 I=>?_,λ_ _ _ _=>⟨rfl,rfl⟩,rfl,λD I=>?_,λh=>by grind⟩
         .have f:t'≠d:=λe=>R (by rw[H,e]);have j0:t'≠t:=λe=>E0 (by simp[ji,G,e]);simp only[St.cQ,aO _ _ f,aO _ _ j0]
         .have f:D≠d:=λe=>I (e▸a0);exact⟨by simp only[St.cQ,aO _ _ f],by simp only[St.cQ,aO _ _ f]⟩
         .have f:D≠d:=λe=>I (e▸a0);exact⟨.of_eq (by simp only[St.cQ,aO _ _ f]),by simp only[St.cQ,aO _ _ f]⟩
        .have c0:St.ev {q with r:=b8 q.r t (.bF [])} y=q.ev y:=by
          cases y with
          |tmp t'=>
           by_cases e:t'=t
           .subst e;rw[Q]at e0;cases e0
           .exact aO _ _ e
          |_=>rfl
         rw[c0];exact(FC o1 e0 c t1 λd' N=>⟨rfl,rfl⟩).trans s1
        .have:=P0 {q with r:=b8 q.r t (.bF [])} q.a l0 (λt' R=>aO _ _ R) (λ_ _=>rfl) (λ_ _=>rfl) rfl rfl rfl
         grind
       .
        have B1:T.hz k=P.cellsOf el:=by rw[L.hz k te el r1,z.cells]
        have C1:i<l.length:=by grind [e8,cr]
        have D1:=sS B0 c A1;have l0:fB T s.m f0 (b8 q.a (dY k i) Y) q.u:=c.heap.pF L s0 J0 K0 C1 (x:=Y) L0;have C0:jc P E w0 I0 n q {q with r:=b8 q.r t (.view d (q.g d+1) 0 m),b:=b8 q.b d (O (.br el (b0.map (enc T te)))),g:=b8 q.g d (q.g d+1),a:=b8 q.a (dY k i) Y}:=λa w D0=>Jj t d (n0.roK _ _ s0 λa b e=>by grind) (by rw[N0];simp[hD,B1]) D1 (by grind) (.inr (by have:=L.nk;unfold dY;omega)) D0;have E1:(b0.take m).length=m:=by grind
        refine C0.nv (oX G J H o0 p0 q0 (d':=d) (gg:=q.g d+1) (k:=m) (xs:=b0.map (enc T te)) (ys:=ys.map (enc T te)) (by simp[St.ev]) aH aH ?_ (qc L z ys) (by grind) (by rw[E1]at j;simpa[z.bytes]using j.2) ⟨?_,λ_=>?_⟩);rotate_left 2
        .refine ⟨λt' R E0=>.inl ?_,λD r0 I=>?_,λk' G1 S1 T1=>?_,rfl,λD I=>?_,λh=>by grind⟩
         .have f:t'≠d:=λe=>R (by rw[H,e]);have j0:t'≠t:=λe=>E0 (by simp[ji,G,e]);simp only[St.cQ,aO _ _ f,aO _ _ j0]
         .have f:D≠d:=λe=>I (e▸a0);exact⟨by simp only[St.cQ,aO _ _ f],by simp only[St.cQ,aO _ _ f]⟩
         .have c0:dY k' G1≠dY k i:=λe=>by grind [il]
          exact⟨aO _ _ c0,rfl⟩
         .have f:D≠d:=λe=>I (e▸a0);exact⟨.of_eq (by simp only[St.cQ,aO _ _ f]),by simp only[St.cQ,aO _ _ f]⟩
        .have c0:St.ev {q with r:=b8 q.r t (.view d (q.g d+1) 0 m),b:=b8 q.b d (O (.br el (b0.map (enc T te)))),g:=b8 q.g d (q.g d+1),a:=b8 q.a (dY k i) Y} y=q.ev y:=by
          cases y with
          |tmp t'=>
           by_cases e:t'=t
           .subst e;rw[Q]at e0;cases e0
           .exact aO _ _ e
          |_=>rfl
         grind [FC,aO,trans]
        .have:=P0 {q with r:=b8 q.r t (.view d (q.g d+1) 0 m),b:=b8 (b8 q.b d (O (.br el (b0.map (enc T te))))) d Y,g:=b8 q.g d (q.g d+1),a:=b8 q.a (dY k i) Y} _ l0 (λt' R=>aO _ _ R) (λd' N=>by simp only[aO _ _ N]) (λd' N=>aO _ _ N) rfl rfl rfl;simp_all
      .cases h
     .cases h
   .rename_i t' b0 Q;split at h
    .rename_i xs h0;obtain⟨i0,rfl⟩:=CH h0;subst i0;refine H0 _ h λq c=>?_;have C:=c.fL J d0;rw[Q]at C;generalize q.ev x=v at C;cases C;rfl
    .cases h
   .rename_i v Q;obtain⟨m0,h⟩:=az h;refine H0 [] (by simpa using h) λq c=>?_;have C:=c.fL J d0;rw[Q]at C;unfold fE at m0;split at m0
    .generalize q.ev x=v at C;cases C;rfl
    .cases m0
   .cases h
  .cases h
 .cases h
include L in
theorem V4(i:bJ P E T X)(g:ba n o=W){x:ah}{u:an}(c:o.op=.call {callee:=.builtin .copy,args:=#[x,y],argTypes:=#[e,u]})(h:iA X kx esc fz o s K=O out):ew P E T X w0 I0 n fz o s kx K out:=by
 have v:x∈o.op.operands:=by simp[c,Op.operands,Call.operands]
 have w:y∈o.op.operands:=by simp[c,Op.operands,Call.operands]
 have R:fA X s o.op=W:=by simp[c,fA]
 unfold iA at h;simp only[c]at h;split at h
 .rename_i d te el z j A;have B:=i.ty _ _ j;obtain⟨C,k⟩:=B.elem te el rfl A;have l:=i.ty _ _ k;replace h:=Oy L l h;obtain⟨ys,h,D,_⟩:=h;split at h
  .rename_i t' e' a f;split at h
   .rename_i xs G H;obtain⟨I,rfl⟩:=CH G;subst I;obtain rfl:=cC H;refine .one _ h ((iL _ _).trans (bi _ _)) λq b=>?_;have m:=b.fL g v;rw[z]at m;obtain⟨_,p⟩:=b.br f;refine LU c g (by simp[gV,C]) (fG b m f) rfl p (D q _ b (b.fL g w)) (qc L l ys) ?_;have J:(List.take (min ys.length a.length) ys++List.drop (min ys.length a.length) a).length=a.length:=by grind
    have N:bh (a.map (enc T t')) 0 ((ys.map (enc T t')).take (min (ys.map (enc T t')).length a.length))=(List.take (min ys.length a.length) ys++List.drop (min ys.length a.length) a).map (enc T t'):=by unfold bh;simp_all
    rw[N,iT];have Q:=b.hg f (b':=.br t' e' (List.take (min ys.length a.length) ys++List.drop (min ys.length a.length) a)) (x:=.br e' ((List.take (min ys.length a.length) ys++List.drop (min ys.length a.length) a).map (enc T t'))) ⟨rfl,J⟩ ⟨k,rfl⟩;refine⟨Q.put o.dst (bn (t:=.int .i64) rfl),λS=>?_⟩;refine .pc ⟨λ_=>.inl rfl,(λd' r=>aO _ _ λe=>by subst e;rw[dG f]at r;cases r),rfl,λ_ _ _ _=>⟨rfl,rfl⟩,rfl,Hw.b8 (.inr (.inr ⟨_,_,_,p,rfl,by grind⟩))⟩ λj=>by grind
   .cases h
  .cases h
 .cases h
theorem JP(l:o.dst=O d){gg len:Nat}{xs:Z AV}(c:dZ P E w0 I0 n o q (.view d' gg 0 len))(f:gg=q.g d')(g:q.b d'=O (.br e xs)){K:St->Prop}(h:K (q.BA d d' e xs len)):dL P E w0 I0 n o q K:=by rintro a w ⟨I,be,b⟩ m;obtain⟨v,i,j⟩:=c a w I be b;obtain⟨k,p⟩:=b.BA d d' j f g;exact fS i ⟨_,⟨I,k,by grind⟩,h⟩
theorem Zx(w:bJ P E T X)(g:ba n o=W){x:ah}{b hi:V ah}(i:o.op=.slice e x b hi Y){l r:V Int}(z:s.ev x=.whole d')(U:ox s Y b=O l)(A:ox s Y hi=O r)(B:X.ty e=O (.bk t))
  (h:VM X fz s o.dst e d' t l r K=O out):ew P E T X w0 I0 n fz o s kx K out:=by
 have C:x∈o.op.operands:=by simp[i,Op.operands]
 have D:∀y,hi=O y->ca y=W:=λy c=>bS g (by simp[i,Op.operands,c]);unfold VM at h;split at h
 .rename_i d t' el xs m j k;replace h:=az h;obtain⟨p,h⟩:=h;simp only[aP,aV]at p;obtain⟨rfl,G⟩:=p;replace h:=bind_some h;obtain⟨_,f,h⟩:=h;replace f:=dy f;simp only[aP,aV]at f;replace h:=mF h;obtain⟨⟨H,a0⟩,h⟩:=h;rw[<-j]at h;refine .one _ h (((uG _).trans (kH _ _)).trans (bi _ _)) λq a=>?_;have I:=w.ty _ _ B;obtain⟨J,_⟩:=I.elem _ _ rfl G;have u:=a.fL g C;rw[z]at u;obtain⟨L,v⟩:=a.br k;have N:b=Y:=by
   cases b with
   |none=>rfl|some y=>grind [ox]
  subst N;have Q:mS q 0 Y=O 0:=rfl;have R:mS q xs.length hi=O m.toNat:=qK (dflt:=xs.length) a D A λb0 e=>by grind
  have c:=lO (P:=P) (E:=E) (w0:=w0) (I0:=I0) (n:=n) (s:=q) i g (fH J) (fG a u k) rfl v (l:=0) (h:=m.toNat) Q R (eM _) f.2;rw[dN,qn]at c;rw[j];refine JP j c rfl v ⟨?_,λS=>by cases S⟩;refine uL (a.drop d') H L ?_;simp_all
 .cases h
theorem P8(b:ba n o=W){x:ah}(c:o.op=.assign x)(h:iA X kx esc fz o s K=O out):ew P E T X w0 I0 n fz o s kx K out:=by
 have g:x∈o.op.operands:=by simp[c,Op.operands]
 have y:∀r,r=s.ev x->K (s.put o.dst r)=O out->ew P E T X w0 I0 n fz o s kx K out:=λr f k=>by subst f;exact b4 k λq a=>⟨_,GI c b,a.fL b g⟩
 unfold iA at h;simp only[c]at h;split at h
 .rename_i d' d l i;split at h
  .rename_i t e xs j;cases m:Nat.beq d' d with
   |true=>simp_all|false=>rw[m]at h;simp only[aX]at h;replace h:=mF h;obtain⟨⟨p,z⟩,h⟩:=h;refine .one _ h (((uG _).trans (kH _ _)).trans (bi _ _)) λq a=>?_;have f:=a.fL b g;rw[l]at f;obtain⟨u,v⟩:=a.br j;rw[i];refine vN c b i (fG a f j) rfl v ⟨?_,λw=>by cases w⟩;refine uL (a.drop d') p u ?_;rw[de aH]
  .cases h
 grind
def HE(h:fD t=W):(∀x:bL U.C t,∀gj,Ht T t x gj↔gj=[enc T t x])/\(∀x:bL U.C t,j6 T t x=[.v (enc T t x)]):=by cases t<;>first|(exact⟨λx gj=>⟨λh=>h.2,λa=>⟨h,a⟩⟩,λx=>rfl⟩)|cases h
theorem Mx:∀(qs:Z Ty)(a:qs.all fD=W)(x:HL U.C qs)(gj:Z AV),Ht T (xS qs) x gj->gf P E T qs x gj
 |[],_,x,gj,h=>h|[t],a,x,gj,h=>by
  have b:fD t=W:=by grind
  have:=((HE (T:=T) b).1 x gj).1 h;exact⟨_,[],this,eg b,rfl⟩
 |t::u::ts,a,x,gj,h=>by simp only[tC,aP]at a;obtain⟨c,r,d,e⟩:=h;exact⟨_,r,d,eg c,Mx (u::ts) (by simp[a.2]) x.2 r e⟩
theorem My:∀(rs:Z RK)(y:HL U.C (rs.map RK.ty)),(∀r∈rs,PV X r)->rs.all (λr=>!r.gl)=W->db T rs y=j6 T (xS (rs.map RK.ty)) y
 |[],y,_,_=>rfl|[.v t],y,h,_=>by have a:fD t=W:=h (.v t) aH;exact((HE (T:=T) a).2 y).symm
 |[.bR t e],y,_,h=>by cases h
 |.bR t e::r::rs,y,_,h=>by simp[RK.gl]at h|.v t::r::rs,y,h,c=>by have:=My (r::rs) y.2 (λb d=>h b (by grind)) (by grind);show _::db T (r::rs) y.2=_::j6 T (xS ((r::rs).map RK.ty)) y.2;rw[this];rfl
theorem CI:∀(qs us:Z Ty)(x:HL U.C qs)(y:HL U.C us)(a b:Z AV),gf P E T qs x a->gf P E T us y b->gf P E T (qs++us) (Jq qs us x y) (a++b)
 |[],us,x,y,a,b,c,d=>by have:a=[]:=c;subst this;exact d|t::qs,us,x,y,a,b,c,d=>by
  obtain⟨z,r,rfl,f,e⟩:=c;refine⟨z,r++b,rfl,?_,?_⟩
  .show j7 P E T t (xp t (qs++us) (iE t (qs++us) (xp t qs x) (Jq qs us (xK t qs x) y))) z;simp_all
  .show gf P E T (qs++us) (xK t (qs++us) (iE t (qs++us) (xp t qs x) (Jq qs us (xK t qs x) y))) (r++b);rw[ht];exact CI qs us _ y r b e d
def kj(P:ai)(E:cd)(T:dt U.C)(caps:Z (R U.C))(gj:Z AV):Prop:=caps.length=gj.length/\∀(i:Nat)(r:R U.C)(av:AV),caps[i]?=O r->gj[i]?=O av->∀t v,ga t r=O v->j7 P E T t v av
theorem kj.tail {r:R U.C} {caps:Z (R U.C)} (h:kj P E T (r::caps) (av::gj)):kj P E T caps gj:=⟨by simpa using h.1,λi a b c d=>h.2 (i+1) a b (by grind) (by grind)⟩
theorem uM{bx:Z (Nat×Nat×B U.C)}{caps:Z (R U.C)}(h:bA P E T bx g tick (.fn f caps) u):∃gj,u=.val (.fn f gj)/\kj P E T caps gj:=by
 cases h with
 |fn _ _ gj a b=>
  refine⟨gj,rfl,a,λi r av c d t v hv=>?_⟩
  grind [oA,bz,aN]
def CJ:∀(us:Z Ty)(caps:Z (R U.C))(gj:Z AV)(y:HL U.C us),B6 us caps=O y->kj P E T caps gj->gf P E T us y gj
 |[],[],gj,y,h,b=>by
  have:=b.1;cases gj with
  |nil=>rfl|cons a l=>simp at this
 |[],_::_,gj,y,h,b=>by simp[B6]at h|t::us,[],gj,y,h,b=>by simp[B6]at h
 |t::us,r::caps,gj,y,h,b=>by
  cases gj with
  |nil=>have:=b.1;simp at this|cons av gj=>
   simp only[B6]at h;split at h
   .rename_i x xs c d;simp only[aN]at h;subst h;refine⟨av,gj,rfl,?_,?_⟩
    .rw[gd];exact b.2 0 r av rfl rfl t x c
    .rw[ht];exact CJ us caps gj xs d b.tail
   .cases h
def Mz{y:HL U.C us}{d:HL U.C ps->V (HL U.C (rs.map RK.ty))}(e:xS qs=a)(g:xS (rs.map RK.ty)=b)(h:ps=qs++us)(i:rs.all (λr=>!r.gl)=W)(j:qs.all fD=W)
  (k:gf P E T us y gj) (l:∀r∈rs,PV X r) (m:nu P E T f ps rs Y (.pure d)):j7 P E T (.fn a b) (λx=>Yg g (d (Oc h (Jq qs us (Oa e x) y)))) (.fn f gj):=by
 subst e g h;refine⟨f,gj,rfl,λx z n c o=>?_⟩;have:=m _ (c++gj) z (CI qs us x y c gj (Mx qs j x c o) k) n;rw[<-My (X:=X) rs z l i];exact this
def SL{y:HL U.C us}{d:HL U.C ps->U.C 0->V (HL U.C (rs.map RK.ty)×U.C 0)}(e:xS qs=a)(g:xS (rs.map RK.ty)=b)(i:ps=qs++us)(j:rs.all (λr=>!r.gl)=W)(k:qs.all fD=W)
  (l:gf P E T us y gj) (m:∀r∈rs,PV X r) (n:nu P E T f ps rs Y (.st d)):j7 P E T (.lP a b) (λx h=>Yh g (d (Oc i (Jq qs us (Oa e x) y)) h)) (.fn f gj):=by
 subst e g i;refine⟨f,gj,rfl,λx h z o p c q A Vloc s=>?_⟩;obtain⟨t,u,g1,v⟩:=n _ h (c++gj) z o A Vloc (CI qs us x y c gj (Mx qs k x c q) l) s p;refine⟨t,u,g1,?_⟩;rw[<-My (X:=X) rs z m j];exact v
theorem yf{f:bH}{a b:Ty}{caps:Z (R U.C)}{gj:Z AV}(d:kj P E T caps gj):∀(l:Z (bZ U))(φ:bL U.C (.fn a b)),(∀c∈l,eb P E T X f c)->ku a b caps l=O φ->j7 P E T (.fn a b) φ (.fn f gj)
 |[],φ,_,h=>by simp[ku]at h|⟨ps,rs,ea,e⟩::l,φ,i,h=>by
  have o:∀φ:bL U.C (.fn a b),ku a b caps l=O φ->j7 P E T (.fn a b) φ (.fn f gj):=λφ h=>yf d l φ (λc d=>i c (by simp[d])) h;have h0:=i _ (Rx ..);cases ea with
  |some p=>grind [ku]|none=>
   cases e with
   |rd e=>simp only[ku]at h;grind|st e=>simp only[ku]at h;grind
   |pure e=>
    simp only[ku]at h;split at h
    .rename_i y j;split at h
     .rename_i k;split at h
      .rename_i m;split at h
       .rename_i n;cases g:(rs.all (λr=>!r.gl)&&(Jr (ps.length-caps.length) a).all fD)with
        |false=>grind|true=>rw[g]at h;simp only[aW,aN]at h;subst h;simp only[aP]at g;exact Mz (X:=X) k m n g.1 g.2 (CJ _ _ _ _ j d) h0.rs h0.tr
       grind
      grind
     grind
    grind
theorem Oz{f:bH}{a b:Ty}{caps:Z (R U.C)}{gj:Z AV}(d:kj P E T caps gj):∀(l:Z (bZ U))(φ:bL U.C (.lP a b)),(∀c∈l,eb P E T X f c)->wm a b caps l=O φ->j7 P E T (.lP a b) φ (.fn f gj)
 |[],φ,_,h=>by simp[wm]at h|⟨ps,rs,ea,e⟩::l,φ,i,h=>by
  have o:∀φ:bL U.C (.lP a b),wm a b caps l=O φ->j7 P E T (.lP a b) φ (.fn f gj):=λφ h=>Oz d l φ (λc d=>i c (by simp[d])) h;have h0:=i _ (Rx ..);cases ea with
  |some p=>grind [wm]|none=>
   cases e with
   |rd e=>simp only[wm]at h;grind|pure e=>simp only[wm]at h;grind
   |st e=>
    simp only[wm]at h;split at h
    .rename_i y j;split at h
     .rename_i k;split at h
      .rename_i m;split at h
       .rename_i n;cases g:(rs.all (λr=>!r.gl)&&(Jr (ps.length-caps.length) a).all fD)with
        |false=>grind|true=>rw[g]at h;simp only[aW,aN]at h;subst h;simp only[aP]at g;exact SL (X:=X) k m n g.1 g.2 (CJ _ _ _ _ j d) h0.rs h0.tr
       grind
      grind
     grind
    grind
def zB{φ:bL U.C (.fn a b)}(h:j7 P E T (.fn a b) φ av):j7 P E T (.lP a b) (Md φ) av:=by obtain⟨f,caps,rfl,h⟩:=h;refine⟨f,caps,rfl,λx h0 y g c gj d A Vloc e=>?_⟩;obtain⟨z,hz,c⟩:=bind_some c;simp only[aN,cz]at c;obtain⟨rfl,rfl⟩:=c;exact⟨A,Vloc,e,(h x z hz gj d).h A Vloc⟩
theorem OA(d:bJ P E T X){bx:Z (Nat×Nat×B U.C)}{r:R U.C}{φ:bL U.C (.fn a b)}(h:Sa X a b r=O φ)(c:bA P E T bx g tick r u):∃av,bz u=O av/\j7 P E T (.fn a b) φ av:=by
 unfold Sa at h;split at h
 .rename_i t x;obtain⟨e,rfl⟩:=bM h;subst e;cases c with
  |val _ _ _ av j hv=>grind
 .rename_i f caps;obtain⟨gj,rfl,i⟩:=uM c;exact⟨_,rfl,yf (X:=X) i _ φ (d.lB f) h⟩
 .cases h
theorem SM(i:bJ P E T X){bx:Z (Nat×Nat×B U.C)}{r:R U.C}{φ:bL U.C (.lP a b)}(h:Od X a b r=O φ)(d:bA P E T bx g tick r u):∃av,bz u=O av/\j7 P E T (.lP a b) φ av:=by
 unfold Od at h;split at h
 .rename_i a' b' ψ;split at h
  .rename_i l c;obtain⟨e,rfl⟩:=bM c;simp only[Ty.fn.injEq]at e;obtain⟨rfl,rfl⟩:=e;simp only[aN]at h;subst h;cases d with
   |val _ _ _ av j hv=>exact ⟨av,j,zB hv⟩
  .cases h
 .rename_i t x m;obtain⟨e,rfl⟩:=bM h;subst e;cases d with
  |val _ _ _ av j hv=>grind
 .rename_i f caps;obtain⟨gj,rfl,c⟩:=uM d;split at h
  .rename_i ψ k;simp only[aN]at h;subst h;exact⟨_,rfl,zB (yf (X:=X) c _ ψ (i.lB f) k)⟩
  .exact ⟨_,rfl,Oz (X:=X) c _ φ (i.lB f) h⟩
 .cases h
include L in
theorem Zy(e:bJ P E T X)(l:(∃k,s.m k=W)->E.cT=F){fz:aa}{x:ah}(f:ca x=W){k:S U.C->bL U.C t->V α}(h:S.arg X fz s (s.ev x) t k=O out):
  ∃s' v,k s' v=O out/\bw s s'/\(∀d,aF s.b d=Y->aF s'.b d=Y)/\(∀y,mm (s.ev y)=F->s'.ev y=s.ev y)/\∀q,aU P E T X s q->∃q' av,abt P E T X w0 I0 n fz s s' x t v q q' av:=by
 unfold S.arg at h;split at h
 .rename_i a b k;split at h
  .rename_i φ g;refine⟨s,φ,h,.refl s,λ_ h=>h,λ_ _=>rfl,λq c=>?_⟩;obtain⟨av,i,j⟩:=OA e g (c.ev x f);exact⟨q,av,.refl q,c,i,j,.refl q,λ_=>.refl s q,λ_=>⟨rfl,rfl⟩⟩
  .cases h
 .rename_i a b k;split at h
  .rename_i φ g;refine⟨s,φ,h,.refl s,λ_ h=>h,λ_ _=>rfl,λq c=>?_⟩;obtain⟨av,i,j⟩:=SM e g (c.ev x f);exact⟨q,av,.refl q,c,i,j,.refl q,λ_=>.refl s q,λ_=>⟨rfl,rfl⟩⟩
  .cases h
 .exact lb L e l f h
structure Zz(P:Program)(E:cd)(T:dt U.C)(X:gy U)(w0:World)(I0:aA)(n:Nat)(fz:Bool)(s s':S U.C)(l:List Operand)(q q':St)(xs:List AV):Prop where
 oP:jc P E w0 I0 n q q'
 oM:aU P E T X s' q'
 jO:lG q q'
 fr:fz=F->Aq s q q'
 still:(∀x∈l,mm (s.ev x)=F)->q'=q/\s'=s
 Ek:da q' l=O xs
include L in
theorem qd(g:bJ P E T X):∀(ts:Z Ty)(l:Z ah)(s:S U.C)(caps:Z (R U.C)){K:S U.C->HL U.C ts->V α},((∃k,s.m k=W)->E.cT=F)->pW X fz s ts l caps K=O out->(∀x∈l,ca x=W)->
  ∃s' vs,K s' vs=O out/\bw s s'/\(∀d,aF s.b d=Y->aF s'.b d=Y)/\∀q gj,aU P E T X s q->kj P E T caps gj->∃q' xs,Zz P E T X w0 I0 n fz s s' l q q' xs/\gf P E T ts vs (xs++gj)
 |[],[],s,[],K,b,h,c=>by
  refine⟨s,(),h,.refl s,λ_ h=>h,λq gj f e=>?_⟩;have:gj=[]:=by
   have:=e.1
   grind
  subst this;exact⟨q,[],⟨.refl q,f,.refl q,λ_=>.refl s q,λ_=>⟨rfl,rfl⟩,rfl⟩,rfl⟩
 |[],[],s,_::_,K,b,h,c=>by simp[pW]at h|[],_::_,s,caps,K,b,h,c=>by simp[pW]at h
 |t::ts,[],s,[],K,b,h,c=>by simp[pW]at h|t::ts,[],s,r::caps,K,b,h,c=>by
  simp only[pW]at h;split at h
  .rename_i v hv;obtain⟨s',vs,h,hm,i,j⟩:=qd g ts [] s caps b h c;refine⟨s',_,h,hm,i,λq gj f e=>?_⟩;cases gj with
   |nil=>have:=e.1;simp at this|cons av gj=>
    obtain⟨q',xs,a,z⟩:=j q gj f e.tail;have A:xs=[]:=by have:=a.Ek;grind [da,aN]
    subst A;refine⟨q',[],a,av,gj,rfl,?_,?_⟩
    .rw[gd];exact e.2 0 r av rfl rfl t v hv
    simp_all
  .cases h
 |t::ts,x::l,s,caps,K,b,h,c=>by
  have h:S.arg X fz s (s.ev x) t (λs v=>pW X fz s ts l caps λs vs=>K s (iE t ts v vs))=O out:=by cases caps<;>exact h
  obtain⟨B,v,h,m,p,I,C⟩:=Zy (w0:=w0) (I0:=I0) (n:=n) L g b (c x aH) h;obtain⟨s',vs,h,hm,i,j⟩:=qd g ts l B caps (by rw[m.m];exact b) h λy o=>c y (by simp[o]);refine⟨s',_,h,m.trans hm,λd D=>i d (p d D),λq gj f e=>?_⟩;obtain⟨q1,av,hv⟩:=C q f;obtain⟨q',xs,a,z⟩:=j q1 gj hv.oM e;refine⟨q',av::xs,⟨hv.oP.trans a.oP,a.oM,hv.jO.trans a.jO,λu=>(hv.fr u).trans (a.fr u) hv.oM p m.m,λw=>?_,?_⟩,av,xs++gj,rfl,?_,?_⟩
  .obtain ⟨G,H⟩:=hv.still (w x aH);subst G H;exact a.still λy o=>w y (by simp[o])
  .simp only[da,a.jO x _ hv.Ek,a.Ek]
  .rw[gd];exact hv.ED
  simp_all
include L in
theorem CK(i:bJ P E T X):∀(l:Z ah)(a:Ty)(s:S U.C){K:S U.C->bL U.C a->V α},((∃k,s.m k=W)->E.cT=F)->B7 fz s a l K=O out->(∀x∈l,ca x=W)->
  ∃s' v,K s' v=O out/\bw s s'/\(∀d,aF s.b d=Y->aF s'.b d=Y)/\∀q,aU P E T X s q->∃q' xs,Zz P E T X w0 I0 n fz s s' l q q' xs/\Ht T a v xs
 |[],a,s,K,c,h,e=>by cases a<;>simp[B7]at h
 |[x],a,s,K,c,h,e=>by
  have h:(bif fD a then s.val fz (s.ev x) a K else Y)=O out:=by cases a<;>exact h
  obtain⟨f,h⟩:=az h;obtain⟨s',v,h,hm,j,N,m⟩:=lb (w0:=w0) (I0:=I0) (n:=n) L i c (e x aH) h;refine⟨s',v,h,hm,j,λq o=>?_⟩;obtain⟨q',av,hv⟩:=m q o;refine⟨q',[av],⟨hv.oP,hv.oM,hv.jO,hv.fr,λg=>hv.still (g x aH),by simp[da,hv.Ek]⟩,?_⟩;rw[gm hv.ED f];exact((HE (T:=T) f).1 v _).2 rfl
 |x::y::l,a,s,K,c,h,e=>by
  cases a with
  |iz t u=>
   simp only[B7]at h;obtain⟨f,h⟩:=az h;obtain⟨B,v,h,p,r,Q,C⟩:=lb (w0:=w0) (I0:=I0) (n:=n) L i c (e x aH) h;obtain⟨s',vs,h,hm,j,m⟩:=CK i (y::l) u B (by rw[p.m];exact c) h λz D=>e z (by grind);refine⟨s',_,h,p.trans hm,λd G=>j d (r d G),λq o=>?_⟩;obtain⟨q1,av,hv⟩:=C q o;obtain⟨q',xs,b,H⟩:=m q1 hv.oM;refine⟨q',av::xs,⟨hv.oP.trans b.oP,b.oM,hv.jO.trans b.jO,λw=>(hv.fr w).trans (b.fr w) hv.oM r p.m,λg=>?_,?_⟩,f,xs,?_,H⟩
   .obtain ⟨I,J⟩:=hv.still (g x aH);subst I J;exact b.still λz D=>g z (by grind)
   .have A:=b.Ek;simp only[da]at A⊢;simp only[b.jO x _ hv.Ek,A]
   .rw[gm hv.ED f]
  |_=>simp[B7]at h
include L in
theorem SN(r:bJ P E T X){x:ah}(g:ca x=W){k:bL U.C t->V α}(h:Sb X s t (s.ev x) k=O out):∃v,k v=O out/\∀q,aU P E T X s q->∃av,(xQ P q (q.ev x)=O av∨bz (q.ev x)=O av)/\j7 P E T t v av:=by
 unfold Sb at h;split at h
 .rename_i d j;split at h
  .rename_i t' e xs u;split at h
   .rename_i v hv;obtain⟨n,rfl⟩:=bM hv;subst n;refine⟨_,h,λq a=>?_⟩;obtain⟨c,y⟩:=a.br u;have f:=a.ev x g;rw[j]at f;rw[fG a f u];refine⟨_,.inl (by simp[xQ,y,de];rfl),(r.ty _ _ c).ok,rfl⟩
   .cases h
  .cases h
 .rename_i m p j;have w:∀q,aU P E T X s q->q.ev x=.val (hD T p m):=λq a=>by have f:=a.ev x g;rw[j]at f;exact Cx f
  split at h
  .rename_i t' k;split at h
   .rename_i G e H;split at h
    .rename_i l b;replace b:=az b;obtain⟨c,b⟩:=b;replace c:=e4 c;replace h:=bind_some h;obtain⟨xs,z,h⟩:=h;refine⟨xs,h,λq a=>?_⟩;rw[w q a];have A:=qb b;have o:=r.ty _ _ c;rcases pa z with⟨rfl,rfl⟩|⟨i,I,J,rfl,B,a2,a3,rfl⟩
     .exact ⟨.sl [],.inl rfl,o.ok,rfl⟩
     .have C:=sS b a B;have D:T.hz m=P.cellsOf e:=by rw[L.hz m t' e A,o.cells]
      refine⟨_,.inl ?_,o.ok,rfl⟩;simp only[hD,xQ,C,D,mW,iT,a2,and_self,cm,enc,AX]
    .cases h
   .cases h
  .rename_i t k K;split at h
   .rename_i v hv;obtain⟨n,rfl⟩:=bM hv;subst n;exact⟨_,h,λq a=>⟨_,.inr (by rw[w q a];rfl),rfl,rfl⟩⟩
   .cases h
 .split at h
  .rename_i v hv;refine⟨v,h,λq a=>?_⟩;obtain⟨av,N,Q⟩:=oA (a.ev x g) hv
   grind
  .cases h
include L in
theorem SO(c:bJ P E T X){x:ah}(d:ca x=W){k:bL U.C t->V α}(h:Sc X s t (s.ev x) k=O out):∃v,k v=O out/\∀q,aU P E T X s q->∃av,(xQ P q (q.ev x)=O av∨bz (q.ev x)=O av)/\j7 P E T t v av:=by
 unfold Sc at h;split at h
 .rename_i a b k;split at h
  .rename_i φ e;refine⟨φ,h,λq f=>?_⟩;obtain⟨av,g,i⟩:=OA c e (f.ev x d)
   grind
  .cases h
 .cases h
 .exact SN L c d h
include L in
theorem FD(c:bJ P E T X):∀(ts:Z Ty)(l:Z ah){K:HL U.C ts->V α},xX X s ts l K=O out->(∀x∈l,ca x=W)->∃vs,K vs=O out/\∀q,aU P E T X s q->∃xs,looks P q l xs/\gf P E T ts vs xs
 |[],[],K,h,a=>⟨(),h,λq b=>⟨[],⟨rfl,λj p x h=>by simp at h⟩,rfl⟩⟩|[],_::_,K,h,a=>by simp[xX]at h
 |_::_,[],K,h,a=>by simp[xX]at h|t::ts,x::l,K,h,a=>by
  simp only[xX]at h;obtain⟨v,h,hv⟩:=SO L c (a x aH) h;obtain⟨vs,h,f⟩:=FD c ts l h λy d=>a y (by simp[d]);refine⟨_,h,λq b=>?_⟩;obtain⟨av,g,i⟩:=hv q b;obtain⟨xs,e,k⟩:=f q b;refine⟨av::xs,⟨by simp[e.1],λj p y m d=>?_⟩,av,xs,rfl,by simp_all,by simp_all⟩;cases j with
  |zero=>grind|succ j=>exact e.2 j p y (by grind) (by grind)
structure MA(q q':St)(rj:Nat->Prop):Prop where
 b:∀d,¬rj d->q'.b d=q.b d/\q'.g d=q.g d
 a:q'.a=q.a
 u:q'.u=q.u
 df:q'.df=q.df
theorem HF(d:Nat):∀(rs:Z RK)(j:Nat)(y:HL U.C (rs.map RK.ty))(s:S U.C){K:S U.C->Z (R U.C)->V α},(∀r∈rs,PV X r)->Me d j rs y s K=O out->
  ∃s' l,K s' l=O out/\bw s s'/\∀q,aU P E T X s q->aU P E T X s' (q.cS d j (db T rs y)).2/\eC P E T s'.b (q.cS d j (db T rs y)).2.g s'.tick l (q.cS d j (db T rs y)).1/\(q.cS d j (db T rs y)).2.r=q.r/\MA q (q.cS d j (db T rs y)).2 (λd'=>∃k,j<=k/\k<j+rs.length/\d'=h6 d k)/\(∀d',(∀k,j<=k->d'≠h6 d k)->kG s.b s'.b q.g (q.cS d j (db T rs y)).2.g s.tick d')/\s.tick<=s'.tick/\(rs.any RK.gl=F->(q.cS d j (db T rs y)).2=q)
 |[],j,y,s,K,b,h=>⟨s,[],h,.refl s,λq g=>⟨g,.nil,rfl,⟨λ_ _=>⟨rfl,rfl⟩,rfl,rfl,rfl⟩,λ_ _=>.refl _,bq _,λ_=>rfl⟩⟩|.v t::rs,j,y,s,K,b,h=>by simp only[Me]at h;have G:fD t=W:=b (.v t) aH;obtain⟨s',l,h,hm,p⟩:=HF d rs (j+1) (xK t (rs.map RK.ty) y) s (λr u=>b r (by simp[u])) h;refine⟨s',_,h,hm,λq g=>?_⟩;obtain⟨v,A,H,n,I,J,L⟩:=p q g;refine⟨v,.cons (bn G) A,H,⟨λd' a=>n.b d' λ⟨k,i,m,w⟩=>a ⟨k,M,by grind,w⟩,n.a,n.u,n.df⟩,λd' a=>I d' λk x=>a k M,J,λC=>L (by grind)⟩
 |.bR t e::rs,j,y,s,K,b,h=>by
  simp only[Me]at h;have N:X.ty e=O t:=b (.bR t e) aH;replace h:=mF h;obtain⟨⟨v,A⟩,h⟩:=h;obtain⟨s',l,h,hm,p⟩:=HF d rs (j+1) (xK (.bk t) (rs.map RK.ty) y) _ (λr u=>b r (by simp[u])) h;refine⟨s',_,h,(kH _ _).trans hm,λq g=>?_⟩;have Q:oz P E T X ((h6 d j,s.tick,B.br t e (xp (.bk t) (rs.map RK.ty) y))::bu s.b (h6 d j)) (b8 q.g (h6 d j) (q.g (h6 d j)+1)) (s.tick+1) (O (s.tick,.br t e (xp (.bk t) (rs.map RK.ty) y))) (O (.br e (List.map (enc T t) (xp (.bk t) (rs.map RK.ty) y)))):=⟨N,rfl⟩
  have a0:=g.Ml v Q;obtain⟨b0,g2,g3,g4,g5,g6,l0⟩:=p _ a0;have m0:∀k,j+1<=k->h6 d j≠h6 d k:=λk x e=>by simp only[h6]at e;omega
  refine⟨b0,.cons ?_ g2,g3,⟨λd' a=>?_,g4.a,g4.u,g4.df⟩,λd' a=>?_,by grind,λC=>by simp[RK.gl]at C⟩
  .have c0:bA P E T ((h6 d j,s.tick,B.br t e (xp (.bk t) (rs.map RK.ty) y))::bu s.b (h6 d j)) (b8 q.g (h6 d j) (q.g (h6 d j)+1)) (s.tick+1) (.whole (h6 d j)) (.view (h6 d j) (q.g (h6 d j)+1) 0 (List.map (enc T t) (xp (.bk t) (rs.map RK.ty) y)).length):=.whole _ _ λst n0 D o0 o=>by simp only[aT,cm,aN,cz,B.br.injEq]at o;obtain⟨_,rfl,_,o⟩:=o;cases o;simp
   refine c0.mono (λd' a=>g5 d' λk x e=>?_) g6;simp only[R.bb]at a;simp_all
  .have c:d'≠h6 d j:=λe=>a ⟨j,bq _,by grind,e⟩;obtain⟨d0,D⟩:=g4.b d' λ⟨k,i,m,w⟩=>a ⟨k,M,by grind,w⟩;exact⟨by rw[show(q.cS d j (db T (.bR t e::rs) y)).2.b d'=_ from d0];exact aO _ _ c,by rw[show(q.cS d j (db T (.bR t e::rs) y)).2.g d'=_ from D];exact aO _ _ c⟩
  .have c:d'≠h6 d j:=a j (bq _);have i:=g5 d' λk x=>a k M;have e0:aF ((h6 d j,s.tick,B.br t e (xp (.bk t) (rs.map RK.ty) y))::bu s.b (h6 d j)) d'=aF s.b d':=by rw[aT,ao (eN c),aR,ao (eN c)]
   have m:b8 q.g (h6 d j) (q.g (h6 d j)+1) d'=q.g d':=aO _ _ c;unfold kG at i⊢;simp only[e0]at i;rcases i with⟨f,z⟩|f|⟨f,z⟩|⟨f,st,t3,e3,f0,g0,e',h0,i0,b2,j0,p0⟩
   .left;exact ⟨f,by rw[show(q.cS d j (db T (.bR t e::rs) y)).2.g d'=_ from z];exact m⟩
   simp_all
   .right;right;left;exact⟨by rw[show(q.cS d j (db T (.bR t e::rs) y)).2.g d'=_ from f];exact m,z⟩
   .right;right;right;exact⟨by rw[show(q.cS d j (db T (.bR t e::rs) y)).2.g d'=_ from f];exact m,st,t3,e3,f0,g0,e',h0,i0,b2,j0,M⟩
def yg(dst:V Nat):Nat->Prop:=λd'=>∃d,dst=O d/\(d'=d∨∃k,k<8/\d'=h6 d k)
theorem CM{dst:V Nat}{y:HL U.C (rs.map RK.ty)}(c:∀r∈rs,PV X r)(h:rZ s dst rs y K=O out):
  ∃s',K s'=O out/\bw s s'/\∀q,aU P E T X s q->aU P E T X s' (q.take dst (db T rs y))/\(∀t,dst≠O t->(q.take dst (db T rs y)).r t=q.r t)/\MA q (q.take dst (db T rs y)) (yg dst)/\(rs.any RK.gl=F->(q.take dst (db T rs y)).b=q.b/\(q.take dst (db T rs y)).g=q.g):=by
 cases dst with
 |none=>
  have h:K s=O out:=h;have j:∀q:St,q.take Y (db T rs y)=q:=λq=>by
   unfold St.take
   grind
  exact⟨s,h,.refl s,λq f=>by rw[j];exact ⟨f,λ_ _=>rfl,⟨λ_ _=>⟨rfl,rfl⟩,rfl,rfl,rfl⟩,λ_=>⟨rfl,rfl⟩⟩⟩
 |some d=>
  have many:∀(m:∀r,rs≠[r]),(bif Nat.ble rs.length 8 then Me d 0 rs y s λs l=>K (s.put (O d) (.gw l))else Y)=O out->∃s',K s'=O out/\bw s s'/\∀q,aU P E T X s q->aU P E T X s' (q.take (O d) (db T rs y))/\(∀t,O d≠O t->(q.take (O d) (db T rs y)).r t=q.r t)/\MA q (q.take (O d) (db T rs y)) (yg (O d))/\(rs.any RK.gl=F->(q.take (O d) (db T rs y)).b=q.b/\(q.take (O d) (db T rs y)).g=q.g):=by
   intro m h;obtain⟨w,h⟩:=az h;rw[rD]at w;obtain⟨s',l,h,hm,j⟩:=HF (P:=P) (E:=E) (T:=T) d rs 0 y s c h;refine⟨_,h,hm.trans (bi _ _),λq f=>?_⟩;have e:q.take (O d) (db T rs y)=((q.cS d 0 (db T rs y)).2).put (O d) (.gw (q.cS d 0 (db T rs y)).1):=by
    match rs,y,m with
    |[],_,_=>rfl|[r],_,m=>grind
    |.v _::.v _::_,_,_=>rfl|.v _::.bR _ _::_,_,_=>rfl
    |.bR _ _::.v _::_,_,_=>rfl|.bR _ _::.bR _ _::_,_,_=>rfl
   obtain⟨n,o,B,g,C,D,G⟩:=j q f;rw[e];refine⟨n.put (O d) (.gw _ _ o.1 o.2),λt i=>?_,⟨λd' p=>g.b d' λ⟨k,H,I,x⟩=>p ⟨d,rfl,.inr ⟨k,M,x⟩⟩,g.a,g.u,g.df⟩,λu=>?_⟩
   .show b8 (q.cS d 0 (db T rs y)).2.r d _ t=_
    grind [aO]
   simp_all
  match rs,y,c,h,many with
  |[.v t],y,c,h,_=>have z:fD t=W:=c (.v t) aH;refine⟨_,h,bi _ _,λq f=>⟨f.put (O d) (bn z),λt i=>aO _ _ λe=>i (by rw[e]),⟨λ_ _=>⟨rfl,rfl⟩,rfl,rfl,rfl⟩,λ_=>⟨rfl,rfl⟩⟩⟩|[.bR t e],y,c,h,_=>
   have A:X.ty e=O t:=c (.bR t e) aH;replace h:s.new d (.br t e y) (λs=>K (s.put (O d) (.whole d)))=O out:=h;replace h:=mF h;obtain⟨⟨n,o⟩,h⟩:=h;refine⟨_,h,(kH _ _).trans (bi _ _),λq f=>⟨f.cQ n A,λt i=>aO _ _ λe=>i (by rw[e]),⟨λd' p=>?_,rfl,rfl,rfl⟩,λu=>by simp[RK.gl]at u⟩⟩;have v:d'≠d:=λe=>p ⟨d,rfl,.inl e⟩;exact⟨aO _ _ v,aO _ _ v⟩
  |[],y,c,h,many=>exact many (λr e=>by cases e) h
  |a::b::rs,y,c,h,many=>exact many (λr e=>by cases e) (by cases a<;>exact h)
theorem yh(h:d'=d∨∃k,k<8/\d'=h6 d k):d'∈d::(Sj 8).map (h6 d):=by
 rcases h with rfl|⟨k,a,rfl⟩
 .simp
 .refine IX _ (gC.2 ⟨k,?_,rfl⟩);have:k=0∨k=1∨k=2∨k=3∨k=4∨k=5∨k=6∨k=7:=M;rcases this with rfl|rfl|rfl|rfl|rfl|rfl|rfl|rfl<;>simp[Sj]
theorem OB{s:S U.C}{q q'':St}{x:ah}{args:Array ah}{argTypes:Array an}(j:o.op=.call {callee:=.value x,args:=args,argTypes:=argTypes})(h:Aq s q q')(l:∀t,o.dst≠O t->q''.r t=q'.r t)(m:∀d,¬yg o.dst d->q''.b d=q'.b d/\q''.g d=q'.g d)
  (n:∀k i,k<U.nk->s.m k=F->q''.a (dY k i)=q'.a (dY k i)/\q''.u (dY k i)=q'.u (dY k i)) (b:q''.df=q'.df)
  (p:fA X s o.op=F->q'=q/\q''.b=q'.b/\q''.g=q'.g/\q''.a=q'.a/\q''.u=q'.u):Fr X s o q q'':=by
 obtain⟨r,a2,a3,a4,a5,u⟩:=h;refine⟨λt c _=>?_,λd v a=>?_,λk i w y=>?_,by rw[b,a5],λd a=>?_,λc=>?_⟩
 grind [yg,eQ,yh]
 .have e:¬yg o.dst d:=λ⟨f,e1,g⟩=>a (by grind [eQ,yh])
  grind
 grind
 .have e:¬yg o.dst d:=λ⟨f,e1,g⟩=>a (by grind [eQ,yh])
  grind
 grind
end
end Go.X
