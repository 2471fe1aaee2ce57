import Derived.Test.YtlacgaedkjhfhaaGreatDoorZC3
set_option linter.all false
open Option renaming some->O,none->Y
open Bool renaming true->W,false->F
namespace Go.X
open Go Go.Ev
variable{e:JA}{t:Ty}{d k tick f m len:Nat}{u:cy}{β:Type}{g:Nat->Nat}{y:qm}{av:AV}{parts:Array (Nat×qm)}{K':St->Prop}{p:V (Nat×Nat)}{q':St}{qs:Z cy}
section
variable{P:qK}{E:cm}{U:cg}{T:dm U.C}{X:gj U}{w0:zI}{I0:aD}{n:Nat}{o:JB}{s:S U.C}{q:St}{α:Type}{out:α}{fz:tl}{kx:rq U->S U.C->V α}{K:S U.C->V α}{esc:Z (Nat×Nat)}
variable(L:cw U T)
structure Fr(X:gj U)(s:S U.C)(o:Oper)(q q1:St):Prop where
 r:∀t,o.dst≠O t->t∉hM o->q1.r t=q.r t∨∃d gg off len,q.r t=.view d gg off len/\aB s.b d≠Y/\(q1.b d=Y∨d∈ez o)
 b:∀d,aB s.b d=Y->d∉ez o->q1.b d=q.b d/\q1.g d=q.g d
 a:∀k i,k<U.nk->s.m k=F->q1.a (dI k i)=q.a (dI k i)/\q1.u (dI k i)=q.u (dI k i)
 df:q1.df=q.df
 ev:∀d,d∉ez o->FN (q.b d) (q1.b d)/\q1.g d=q.g d
 still:eS X s o.op=F->q1.b=q.b/\q1.g=q.g/\q1.a=q.a/\q1.u=q.u/\∀t,o.dst≠O t->q1.r t=q.r t
inductive eo(P:Program)(E:cm)(T:dm U.C)(X:gj U)(w0:World)(I0:aD)(n:Nat)(fz:Bool)(o:Oper)(s:S U.C)(kx:rq U->S U.C->Option α)(K:S U.C->Option α)(out:α):Prop
 |one (s1:S U.C) (hK:K s1=O out) (hm:bE s s1) (h:∀q,aX P E T X s q->dE P E w0 I0 n o q λq1=>aX P E T X s1 q1/\(fz=F->Fr X s o q q1))
 |fO (hf:fz=W) (s1 s2:S U.C) (h1:K s1=O out) (h2:K s2=O out) (m1:bE s s1) (m2:bE s s2) (h:∀q,aX P E T X s q->dE P E w0 I0 n o q λq1=>aX P E T X s1 q1∨aX P E T X s2 q1)
 |dO (p:rq U) (s1:S U.C) (hK:kx p s1=O out) (hm:bE s s1) (h:∀q,aX P E T X s q->eV p.t=W/\nq P E w0 I0 n o q (λ_=>False) λav q1=>aX P E T X s1 q1/\av=.mQ p.TC (enc T p.t p.x))
def bX{r:R U.C}(f:K (s.put o.dst r)=O out)(h:KC P E T X w0 I0 n o s r):eo P E T X w0 I0 n fz o s kx K out:=by
 refine .one _ f (bh _ _) λq b=>?_;obtain⟨u,h1,g⟩:=h q b;refine jQ u ⟨b.put o.dst g,λ_=>?_⟩ h1;cases i:o.dst with
 |none=>exact ⟨λt a _=>.inl rfl,λd _ _=>⟨rfl,rfl⟩,λ_ _ _ _=>⟨rfl,rfl⟩,rfl,λ_ _=>⟨.refl _,rfl⟩,λ_=>⟨rfl,rfl,rfl,rfl,λ_ _=>rfl⟩⟩|some d=>have c:∀t,o.dst≠O t->aa q.r d u t=q.r t:=λt a=>aJ _ _ λe=>a (by rw[i,e]);exact⟨λt a _=>.inl (c t a),λd _ _=>⟨rfl,rfl⟩,λ_ _ _ _=>⟨rfl,rfl⟩,rfl,λ_ _=>⟨.refl _,rfl⟩,λ_=>⟨rfl,rfl,rfl,rfl,c⟩⟩
def TQ(a:aW n o=W){x:qm}(b:o.op=.move x)(c:K (s.put o.dst (s.ev x))=O out):eo P E T X w0 I0 n fz o s kx K out:=by refine bX c (ky a λq d=>?_);unfold fU;simp only[b];exact d.fq a (by simp[b,Op.operands])
def TR(r:bP P E T X)(d:aW n o=W){c a b:qm}(f:o.op=.pick c a b)(h:hS X kx esc fz o s K=O out):eo P E T X w0 I0 n fz o s kx K out:=by
 have g:c∈o.op.operands:=by simp[f,Op.operands]
 have j:a∈o.op.operands:=by simp[f,Op.operands]
 have k:b∈o.op.operands:=by simp[f,Op.operands]
 unfold hS at h;simp only[f]at h;split at h
 .rename_i l t i u;split at h
  .rename_i v w m p;refine bX h (ky d λq e=>?_);unfold fU;simp only[f,lb (e.fq d g) i];cases l with
   |true=>exact DV (e.fq d j) m|false=>exact DV (e.fq d k) p
  .cases l with
   |true=>simp only[bf]at h;refine bX h (ky d λq e=>?_);unfold fU;simp only[f,lb (e.fq d g) i];exact e.fq d j|false=>simp only[bq]at h;refine bX h (ky d λq e=>?_);unfold fU;simp only[f,lb (e.fq d g) i];exact e.fq d k
 .cases h
def dE.xd {q:St} {K:St->Prop} (h:dE P E w0 I0 n o q K) (c:∀q1,K q1->∃b,iz P E w0 I0 n q1 b/\K' b):dE P E w0 I0 n o q K':=λa w d e=>lZ (λa' w' ⟨q1,g1,f⟩=>by obtain⟨b,g3,g⟩:=c q1 f;exact⟨b,g3 a' w' g1,g⟩) (h a w d e)
def FP(f:Nat->β)(d:Nat)(x y:β):aa (aa f d x) d y=aa f d y:=by funext z;unfold aa;split<;>rfl
def D6{r:R U.C}(c:K (s.put o.dst (A7 r))=O out)(h:KC P E T X w0 I0 n o s r):eo P E T X w0 I0 n fz o s kx K out:=by
 cases r with
 |gx t=>
  refine .one _ c (bh _ _) λq f=>?_;obtain⟨u,h1,j⟩:=h q f;cases j with
  |gx _ k=>
   refine dE.xd (jQ (.val .gx) (K:=λq1=>q1=q.put o.dst (.val .gx)) rfl h1) λq1 l=>?_;subst l;refine⟨q.put o.dst (.bM []),?_,f.put o.dst (.bM t [] k),λ_=>?_⟩
   .cases g:o.dst with
    |none=>exact .refl _|some d=>intro a w m;have:=Mk (s:=q.put (O d) (.val .gx)) d (bK _ _ _) m;simpa only[St.qZ,FP]using this
   .cases g:o.dst with
    |none=>exact ⟨λt b _=>.inl rfl,λd _ _=>⟨rfl,rfl⟩,λ_ _ _ _=>⟨rfl,rfl⟩,rfl,λ_ _=>⟨.refl _,rfl⟩,λ_=>⟨rfl,rfl,rfl,rfl,λ_ _=>rfl⟩⟩|some d=>have i:∀t,o.dst≠O t->aa q.r d (.bM []) t=q.r t:=λt b=>aJ _ _ λe=>b (by rw[g,e]);exact⟨λt b _=>.inl (i t b),λd _ _=>⟨rfl,rfl⟩,λ_ _ _ _=>⟨rfl,rfl⟩,rfl,λ_ _=>⟨.refl _,rfl⟩,λ_=>⟨rfl,rfl,rfl,rfl,i⟩⟩
 |_=>exact bX c h
def dE.ZE {q:St} {K:St->Prop} (h:dE P E w0 I0 n o q K) (b:∀q,K q->K' q):dE P E w0 I0 n o q K':=λa w c d=>lZ (λa' w' ⟨q',g1,e⟩=>⟨q',g1,b q' e⟩) (h a w c d)
def eo.xd {s s':S U.C} (c:bE s s') (d:∀q,aX P E T X s q->∃q',iz P E w0 I0 n q q'/\aX P E T X s' q') (h:eo P E T X w0 I0 n W o s' kx K out):eo P E T X w0 I0 n W o s kx K out:=by
 cases h with
 |one a e f h=>refine .one a e (c.trans f) λq b=>?_;obtain⟨q',h1,i⟩:=d q b;exact h1.mr (dE.ZE (h q' i) λq1 g=>⟨g.1,λj=>by cases j⟩)
 |fO j a s2 h1 i l m h=>refine .fO j a s2 h1 i (c.trans l) (c.trans m) λq b=>?_;obtain⟨q',g1,k⟩:=d q b;exact g1.mr (h q' k)|dO p a e f h=>refine .dO p a e (c.trans f) λq b=>?_;obtain⟨q',g1,k⟩:=d q b;obtain⟨r,t⟩:=h q' k;exact⟨r,g1.KD t⟩
def vB(f:bP P E T X):∀(rs:Z (R U.C))(fz:tl)(s:S U.C),DO fz rs s K=O out->∃s',K s'=O out/\bE s s'/\(fz=F->s'=s)/\(∀y,lC (s.ev y)=F->s'.ev y=s.ev y)/\∀q,aX P E T X s q->∃q',iz P E w0 I0 n q q'/\aX P E T X s' q'
 |[],fz,s,h=>⟨s,h,.refl s,λ_=>rfl,λ_ _=>rfl,λq b=>⟨q,.refl q,b⟩⟩|r::rs,fz,s,h=>by
  cases r with
  |whole d=>
   simp only[DO]at h;split at h
   .rename_i t e xs i;cases fz with
    |false=>cases h
    |true=>
     simp only[bf]at h;obtain⟨s',l,m,G,o,p⟩:=vB f rs W _ h;refine⟨s',l,(vA d t xs).trans m,(λu=>by cases u),λy j=>?_,λq b=>?_⟩
     .have k:(s.AP d t xs).ev y=s.ev y:=FO j;rw[o y (by rw[k];exact j),k]
     .obtain ⟨v,x⟩:=b.bi i;have z:=f.ty _ _ v;have A:aX P E T X (s.AP d t xs) (q.cv d λoff len=>O (.sl (((xs.map (enc T t)).drop off).take len))):=
       b.Z0 (c:=λoff len=>O (.sl (((xs.map (enc T t)).drop off).take len))) i (av:=.sl (xs.map (enc T t))) (by simp[dh]) (λbx g tick=>.val (.aq t) xs _ _ rfl ⟨z.ok,rfl⟩) b.heap
      obtain⟨q',B,C⟩:=p _ A;exact⟨q',iz.trans (λa w D=>tA x D) B,C⟩
   .cases h
  |_=>exact vB f rs fz s h
def nZ{l:Z (V (Z β))}{ys:Z β}(h:ad l p=O ys):(p=Y/\ys=[])∨∃i n xs,p=O (i,n)/\bz l i=O xs/\n<=xs.length/\ys=xs.take n:=by
 unfold ad at h;split at h
 .simp only[ax]at h;exact .inl ⟨rfl,h.symm⟩
 .rename_i i n;obtain⟨xs,h1,h⟩:=bind_some h;obtain⟨a,h⟩:=aA h;simp only[qW]at a;simp only[ax]at h;exact .inr ⟨i,n,xs,rfl,h1,a,h.symm⟩
def Br{bx:Z (Nat×Nat×B U.C)}(h:bC P E T bx g tick (.val (.hs k) p) u):u=.val (gz T p k):=by
 cases h with
 |val _ _ _ av a hv=>
  obtain⟨_,rfl⟩:=hv;have a:bu u=O (gz T p k):=a;have:∀xs,gz T p k≠.sl xs:=λxs e=>by unfold gz at e;split at e<;>cases e
  cases u<;>simp[bu]at a
  .rw[a]
  .exact (this _ a.symm).elim
include L in
theorem Xs(y:bP P E T X)(Q:aW n o=W){x:qm}(C:o.op=.load e x)(f0:X.ty e=O t)(g0:MB X.VV e x=W)(h:(vm X s t (s.ev x) λr=>Xj X s o.dst r K)=O out):eo P E T X w0 I0 n fz o s kx K out:=by
 obtain⟨r,h1,h0⟩:=HS L y (y.ty _ _ f0) h;unfold Xj at h1;split at h1
 .rename_i k p d R;split at h1
  .rename_i c D S;split at h1
   .rename_i l g;replace g:=aA g;obtain⟨G,g⟩:=g;replace G:=di G;have a0:=y.ty _ _ G;replace h1:=bind_some h1;obtain⟨xs,i0,h1⟩:=h1;split at h1
    .rename_i h' j0;obtain⟨⟨H,j⟩,b0⟩:=r9 g;obtain⟨_,c0⟩:=mF j0;refine .one _ h1 ((bh _ _).trans (nX _)) λq f=>?_;obtain⟨u,y1,l0⟩:=yo (r:=.val (.hs k) p) Q (λq f=>(h0 q _ f (f.fq Q (by simp[C,Op.operands]))).value C) q f;obtain rfl:=Br l0;have m0:eS X s o.op=W:=by simp[C,eS,g0]
     have n0:bC P E T s.b q.g s.tick (.val (.aq c) xs) (.val (.sl (xs.map (enc T c)))):=bg (t:=.aq c) a0.ok;have d0:∀A:Nat->V Ob,eY T s.m h' A q.u->(∀k' v,k'<U.nk->s.m k'=F->A (dI k' v)=q.a (dI k' v))->
       aX P E T X {(s.put (O d) (.val (.aq c) xs))with h:=h',hv:=(s.put (O d) (.val (.aq c) xs)).tick,tick:=(s.put (O d) (.val (.aq c) xs)).tick+1} {q.put (O d) (.val (.sl (xs.map (enc T c))))with a:=A,u:=q.u}/\
       (fz=F->Fr X s o q {q.put (O d) (.val (.sl (xs.map (enc T c))))with a:=A,u:=q.u}):=λA o0 p0=>
      ⟨(f.put (O d) n0).qv (cO _) o0,λ_=>⟨λv0 q0 _=>.inl (aJ _ _ λe=>q0 (by rw[R,e])),λd _ _=>⟨rfl,rfl⟩,λk' v I z=>⟨p0 k' v I z,rfl⟩,rfl,λ_ _=>⟨.refl _,rfl⟩,λh=>by rw[m0]at h;cases h⟩⟩
     refine dE.xd (jQ (.val (gz T p k)) (K:=λq1=>q1=q.put (O d) (.val (gz T p k))) (by rw[R]) y1) λq1 r0=>?_;subst r0;rcases nZ i0 with⟨rfl,rfl⟩|⟨i,m,x0,rfl,B,a2,rfl⟩
     .have J:eY T s.m h' q.a q.u:=by
       refine f.heap.set L j c0 (λi=>?_) λ_ _ _ _=>⟨rfl,rfl⟩
       exact f.heap.at j H b0 i
      refine⟨_,λa w N=>?_,d0 q.a J λ_ _ _ _=>rfl⟩;have:=W0 (s:=q.put (O d) (.val .gx)) d (bK _ _ _) N;simpa only[St.qZ,FP,qU]using this
     .have s0:T.hz k=P.cellsOf D:=by rw[L.hz k c D S,a0.cells]
      have t0:i<l.length:=by
       unfold bz at B;cases e0:l[i]? with
       |none=>rw[e0]at B;cases B
       |some w=>exact (aY.1 e0).1
      have u0:=r8 g f B;have J:eY T s.m h' (aa q.a (dI k i) Y) q.u:=f.heap.kQ L j H b0 t0 (x:=Y) c0;refine⟨_,λa w N=>?_,d0 (aa q.a (dI k i) Y) J λk' v I z=>aJ _ _ λe=>by have:=(hg L I j e).1;subst this;rw[H]at z;cases z⟩;have:=TB (s:=q.put (O d) (.val (.view (dI k i) (P.cellsOf D) m))) d (y.ZB _ _ j λa b e=>by rw[S]at e;cases e) (bK _ _ _) u0 (by simpa using a2) (by simpa[gz,s0]using N);simpa only[St.qZ,FP,mZ]using this
    .cases h1
   .cases h1
  .cases h1
 .cases h1
include L in
theorem Qr(a:bP P E T X)(c:aW n o=W){x:qm}(f:o.op=.load e x)(j:X.ty e=O t)(h:(Qe fz s t (s.ev x) λs=>vm X s t (s.ev x) λr=>K (s.put o.dst (A7 r)))=O out):eo P E T X w0 I0 n fz o s kx K out:=by
 have plain:∀s:S U.C,(vm X s t (s.ev x) λr=>K (s.put o.dst (A7 r)))=O out->eo P E T X w0 I0 n fz o s kx K out:=λs h=>by obtain⟨r,h1,b⟩:=HS L a (a.ty _ _ j) h;refine D6 h1 (yo c λq g=>?_);exact(b q _ g (g.fq c (by simp[f,Op.operands]))).value f
 unfold Qe at h;split at h
 .rename_i d k l;split at h
  .cases i:aV t with
   |false=>rw[i]at h;exact plain s h|true=>
    rw[i]at h;simp only[bf]at h;obtain⟨s',h1,b,m,p,u⟩:=vB (P:=P) (E:=E) (T:=T) (w0:=w0) (I0:=I0) (n:=n) a _ fz s h;have v:s'.ev x=s.ev x:=p x (by rw[l];rfl);cases fz with
    |false=>rw[m rfl]at h1;exact plain s h1|true=>exact eo.xd b u (plain s' h1)
  .cases h
 .exact plain s h
def Bs{bx:Z (Nat×Nat×B U.C)}{g:Nat->Nat}{tick:Nat}:∀{rs:Z (R U.C)}{cs:Z cy},ee P E T bx g tick rs cs->rs.all V5=W->∃a,cZ cs=O a/\rs.length=a.length/\(∀(i:Nat)(r:R U.C)(av:AV),rs[i]?=O r->a[i]?=O av->bC P E T bx g tick r (.val av))/\∀(i:Nat)(av:AV),a[i]?=O av->av.isAgg=F
 |[],[],_,_=>⟨[],rfl,rfl,λi r av h=>by simp at h,λi av h=>by simp at h⟩|[],_::_,h,_=>by have:=h.1;simp at this
 |_::_,[],h,_=>by have:=h.1;simp at this|r::rs,c::cs,h,j=>by
  simp only[qQ,aI]at j;obtain⟨a,h1,k,l,m⟩:=Bs (rs:=rs) (cs:=cs) ⟨by simpa using h.1,λi r c d e=>h.2 (i+1) r c (by simpa using d) (by simpa using e)⟩ j.2;have h0:=h.2 0 r c rfl rfl;have e:=j.1;have n:∃av,c=.val av/\av.isAgg=F:=by
   cases h0 with
   |fn f caps a _ _=>exact ⟨_,rfl,rfl⟩|const v=>
    cases v with
    |nilFunc=>exact ⟨_,rfl,rfl⟩|_=>cases e
   |_=>cases e
  obtain⟨o,rfl,p⟩:=n;refine⟨o::a,by simp[cZ,bu,h1],by simp[k],λi q av d b=>?_,λi av b=>?_⟩
  .cases i with
   |zero=>simp at d b;subst d b;exact h0|succ i=>exact l i q av (by simpa using d) (by simpa using b)
  .cases i with
   |zero=>simp at b;subst b;exact p|succ i=>exact m i av (by simpa using b)
include L in
theorem TS(y:bP P E T X)(l:aW n o=W){x:qm}(g:o.op=.load e x)(h:hS X kx esc fz o s K=O out):eo P E T X w0 I0 n fz o s kx K out:=by
 unfold hS at h;simp only[g]at h;split at h
 .rename_i t G;split at h
  .rename_i rs m b;have B:=y.ty _ _ G;replace b:=aA b;obtain⟨_,b⟩:=b;unfold Mz at b;split at b
   .rename_i d k z;split at b
    .rename_i u R A;replace b:=aA b;obtain⟨p,b⟩:=b;simp only[aI,qW]at p;simp only[ax]at b;subst b;refine bX h (yo l λq j=>?_);have a:=j.fq l (x:=x) (by simp[g,Op.operands]);rw[z]at a;obtain⟨_,_,cs,H,v⟩:=j.cells A;refine rA.value g (.inl ?_);rw[iY j a A];unfold u9;simp only[H,B.agg,aV,lY,cX];rw[kv]at p⊢;have C:ee P E T s.b q.g s.tick ((R.drop k).take (bD U D (.struct m))) ((cs.drop k).take (bD U D (.struct m))):=by
      have w:=v.drop k;exact⟨by simp[w.1,v.1],λi r c a p=>by
       rw[gf]at a p;split at a
       .rename_i hi;rw[aj hi]at p;exact w.2 i r c a p
       .cases a⟩
     obtain⟨S,a0,a2,a3,b0⟩:=Bs C p.2;rw[B.cells,a0];have:=v.1;exact⟨⟨trivial,by rw[<-B.cells];exact B.pos,by rw[zQ];omega⟩,.agg m _ S a2 a3 b0⟩
    .cases b
   .cases b
  .cases I:MB X.VV e x with
   |true=>rw[I]at h;exact Xs L y l g G I h|false=>rw[I]at h;exact Qr L y l g G h
 .split at h
  .rename_i r z;obtain⟨J,h⟩:=aA h;obtain⟨C,w⟩:=y.JM e J;refine bX h (yo l λq j=>?_);have a:=j.fq l (x:=x) (by simp[g,Op.operands]);rw[z]at a;refine rA.value g (.inl ?_);generalize q.ev x=u at a;cases a with
   |pw _ av a=>unfold u9 iV;simp only[w];exact⟨⟨M,by simp[C]⟩,a⟩
  .rename_i d k z;split at h
   .rename_i u rs A;split at h
    .rename_i f N;obtain⟨J,h⟩:=aA h;obtain⟨C,w⟩:=y.JM e J;refine bX h (yo l λq j=>?_);have a:=j.fq l (x:=x) (by simp[g,Op.operands]);rw[z]at a;obtain⟨_,_,cs,H,v⟩:=j.cells A;refine rA.value g (.inl ?_);rw[iY j a A];unfold u9;simp only[H,w,lY,cX];have Q:k<cs.length:=by rw[<-v.1];exact (aY.1 N).1
     refine⟨⟨trivial,M,cM⟩,?_⟩;have:=v.2 k _ cs[k] N (bS Q);rw[x7 Q];exact this
    .cases h
   .cases h
  .cases h
def FQ(a:bP P E T X)(c:aW n o=W){x:qm}(b:o.op=.fieldAddr e x f)(h:hS X kx esc fz o s K=O out):eo P E T X w0 I0 n fz o s kx K out:=by
 unfold hS at h;simp only[b]at h;split at h
 .rename_i t d;replace h:=aA h;obtain⟨g,h⟩:=h;obtain⟨r,h1,i⟩:=Df (w0:=w0) (I0:=I0) a (a.ty _ _ d) (by simpa using g) b c h;exact bX h1 i
 .cases h
include L in
theorem FR(C:bP P E T X)(g:aW n o=W){x:qm}(c:o.op=.indexAddr e x y)(h:hS X kx esc fz o s K=O out):eo P E T X w0 I0 n fz o s kx K out:=by
 unfold hS at h;simp only[c]at h;split at h
 .rename_i m t I w D J;obtain⟨r,h1,i0⟩:=Dg (w0:=w0) (I0:=I0) L C (C.ty _ _ D) J c g w h;exact bX h1 i0
 .rename_i m j0 w D;replace h:=aA h;obtain⟨l0,h⟩:=h;obtain⟨I,J⟩:=Ab.1 l0;obtain⟨N,hu,Q,G,m0⟩:=C.j9 e I J;obtain⟨C0,_,_⟩:=m0 j0 D;have S:∀(k j:Nat),FC s (s.ev x) m k j (λr=>K (s.put o.dst r))=O out->∃i r,i<k/\m=((j+i:Nat):Int)/\Ks s (j+i) (s.ev x)=O r/\K (s.put o.dst r)=O out:=by
   intro k;induction k with
   |zero=>intro j h;cases h
   |succ k a0=>
    intro j h;simp only[FC]at h;cases l:bp m (j:Int)with
    |true=>
     rw[l]at h;simp only[bf]at h;split at h
     .rename_i r a;exact⟨0,r,Nat.succ_pos _,by simpa[bp]using l,a,h⟩
     .cases h
    |false=>rw[l]at h;obtain⟨i,r,g1,g2,g3,b0⟩:=a0 (j+1) h;exact⟨i+1,r,M,by rw[g2];congr 1;omega,by rw[<-g3];congr 1;omega,b0⟩
  obtain⟨i,r,g1,g2,g3,b0⟩:=S _ 0 h;rw[cX]at g2 g3;refine bX b0 λq f=>?_;obtain⟨k,c0⟩:=jr (f.fq g (x:=y) (by simp[c,Op.operands])) w;have a:=f.fq g (x:=x) (by simp[c,Op.operands]);have b:=λn0=>AM (P:=P) (E:=E) (w0:=w0) (I0:=I0) (n:=n) (s:=q) c g hu Q c0 M (by rw[g2];omega) n0;rw[(M:m.toNat=i)]at b;generalize D0:s.ev x=E0 at a g3;unfold Ks at g3;split at g3
  .rename_i d k';split at g3
   .rename_i u G0 p;simp only[ax]at g3;subst g3;have A:=iY f a p;obtain⟨_,_,cs,d0,_⟩:=f.cells p;refine⟨_,b (.inr (.inl ⟨_,_,_,_,_,A,rfl,by rw[d0];simp⟩)),?_⟩;rw[A];exact .dT _ _ _ λst u v H0=>rfl
   .cases g3
  .rename_i d J0 k' K0 f0 z;split at g3
   .rename_i L0 e' xs p;simp only[ax]at g3;subst g3;cases a with
    |fV _ _ _ _ _ _ _ o0 p0=>obtain⟨q1,q0,r0⟩:=p0 _ _ _ _ (dq p);obtain⟨_,d0⟩:=f.bi p;refine⟨_,b (.inr (.inl ⟨_,_,_,_,_,q1,rfl,by rw[d0];simp⟩)),?_⟩;rw[q1];refine .fV _ _ _ _ _ _ _ o0 λst N0 g0 P0 s0=>?_;have:=dq p;rw[s0]at this;simp only[ax,bc,B.bi.injEq]at this;obtain⟨rfl,rfl,_,this⟩:=this;cases this;exact⟨rfl,q0,r0⟩
   .cases g3
  .rename_i f0 z k';simp only[ax]at g3;subst g3;generalize A:q.ev x=u at a b;cases a with
   |dJ _ _ _ t0=>refine⟨_,b (.inl ⟨_,rfl⟩),?_⟩;simp only[P6,Hg];exact .dJ f0 z (k'+i) t0
  .simp only[ax]at g3;subst g3;generalize A:q.ev x=u at a b;cases a with
   |ji u0 i2 off=>exact ⟨_,b (.inr (.inr ⟨_,_,rfl⟩)),.ji _ _ _⟩
  .simp only[ax]at g3;subst g3;generalize A:q.ev x=u at a b;cases a with
   |kn u0 i2 Q0 off=>refine⟨_,b (.inr (.inr ⟨_,_,rfl⟩)),?_⟩;simp only[P6,jd];exact .kn _ _ _ _
  .cases g3
 .rename_i m w D;split at h
  .rename_i rs v0;obtain⟨x0,h⟩:=aA h;obtain⟨I,hu,_,Q⟩:=C.JL e x0;have S:∀(v:Z (R U.C))(j:Nat),MA m v j (λr=>K (s.put o.dst r))=O out->∃i r,v[i]?=O r/\m=((j+i:Nat):Int)/\K (s.put o.dst (.pw r))=O out:=by
    intro v;induction v with
    |nil=>intro j h;cases h
    |cons r v a0=>
     intro j h;simp only[MA]at h;cases l:bp m (j:Int)with
     |true=>rw[l]at h;exact⟨0,r,rfl,by simpa[bp]using l,h⟩|false=>rw[l]at h;obtain⟨i,y0,g1,g2,g3⟩:=a0 (j+1) h;exact⟨i+1,y0,by simpa using g1,by rw[g2];congr 1;omega,g3⟩
   obtain⟨i,r,g1,g2,g3⟩:=S rs 0 h;rw[cX]at g2;refine bX g3 (ky g λq f=>?_);obtain⟨k,c0⟩:=jr (f.fq g (x:=y) (by simp[c,Op.operands])) w;have a:=f.fq g (x:=x) (by simp[c,Op.operands]);rw[v0]at a;unfold fU;simp only[c];rw[c0];generalize q.ev x=u at a;cases a with
   |sJ _ H A0 g0 B0=>
    have hi:i<H.length:=by rw[<-A0];exact (aY.1 g1).1
    have e0:=bS hi;have G:=B0 i _ e0;have h0:(H[i]).cells=[H[i]]:=by revert G;generalize H[i]=z;intro G;cases z<;>first|rfl|cases G
    unfold iL;simp only[fa hu,g2,dV,e0];refine⟨⟨M,M,by rw[h0,Q];rfl⟩,?_⟩;rw[h0];exact .pw r _ (g0 i r _ g1 e0)
  .cases h
 .cases h
include L in
theorem Qs(i:bP P E T X)(d:aW n o=W){x:qm}(b:o.op=.field e x f)(h:hS X kx esc fz o s K=O out):eo P E T X w0 I0 n fz o s kx K out:=by
 unfold hS at h;simp only[b]at h;split at h
 .rename_i m a;replace a:=aA a;obtain⟨c,a⟩:=a;have c:X.j9 e=Y:=by simpa using c
  split at h
  .rename_i v off t hv j;split at h
   .rename_i k l;have p:=i.ty _ _ a;obtain⟨D,r,g,w,y,z⟩:=p.field c m rfl f off t j;refine bX h (ky d λq A=>?_);unfold fU;simp only[b,r,r7 (cs:=T.cl m v) (dk (A.fq d (by simp[b,Op.operands])) hv rfl)];obtain⟨B,C⟩:=ym L P E l g rfl;exact yl L w y z B C (K:=λu=>bC P E T s.b q.g s.tick (.val t k) (.val u)) (bg g)
   .cases h
  .cases h
 .cases h
include L in
theorem Qt(b0:bP P E T X)(f:aW n o=W){x:qm}(d:o.op=.index e x y)(h:hS X kx esc fz o s K=O out):eo P E T X w0 I0 n fz o s kx K out:=by
 unfold hS at h;simp only[d]at h;split at h
 .rename_i c0 l;split at h
  .rename_i a m B C;cases G:X.pK e with
   |true=>rw[G]at l;cases l
   |false=>
   rw[G]at l;replace l:X.j9 e=O c0:=l;obtain⟨N,hu,H,I,g0⟩:=b0.j9 e c0 l;replace I:=I G;obtain⟨q0,r0,s0⟩:=g0 a B;have h0:∀(rs:Z (R U.C))(j:Nat),FD m rs j (λr=>K (s.put o.dst (A7 r)))=O out->∃i r,rs[i]?=O r/\m=((j+i:Nat):Int)/\K (s.put o.dst (A7 r))=O out:=by
    intro rs;induction rs with
    |nil=>intro j h;cases h
    |cons r rs i0=>
     intro j h;simp only[FD]at h;cases J:bp m (j:Int)with
     |true=>rw[J]at h;exact⟨0,r,rfl,by simpa[bp]using J,h⟩|false=>rw[J]at h;obtain⟨i,j0,g1,g2,Q⟩:=i0 (j+1) h;exact⟨i+1,j0,by simpa using g1,by rw[g2];congr 1;omega,Q⟩
   obtain⟨i,r,g1,g2,Q⟩:=h0 _ 0 h;rw[cX]at g2;refine D6 Q λq p=>?_;obtain⟨k,S⟩:=jr (p.fq f (x:=y) (by simp[d,Op.operands])) C;have w:=p.fq f (x:=x) (by simp[d,Op.operands]);have l0:∃b,q.ev x=.val (.agg b)/\b.length<=N/\∃av,b[i]?=O av/\bC P E T s.b q.g s.tick r (.val av):=by
    generalize t0:s.ev x=u0 at w g1;unfold HM at g1;split at g1
    .rename_i m0 rs;cases z:Nat.beq m0 a&&Nat.beq rs.length (bD U D (.struct a))with
     |false=>rw[z]at g1;simp at g1|true=>
      rw[z]at g1;simp only[bf]at g1;generalize d0:q.ev x=u at w;cases w with
      |agg _ _ b n0 o0 v0=>
       simp only[aI]at z;have x0:=bV z.2;have hi:i<b.length:=by rw[<-n0];exact (aY.1 g1).1
       exact⟨b,rfl,M,_,bS hi,o0 i r _ g1 (bS hi)⟩
    .split at g1
     .rename_i v hv;have d0:=r7 (cs:=T.cl a v) (dk (t:=.struct a) w hv rfl);have a0:=h9 (P:=P) (E:=E) (T:=T) (bx:=s.b) (g:=q.g) (tick:=s.tick) L D (.struct a) v (hO L _) rfl;have e0:(enc T (.struct a) v).cells=T.cl a v:=rfl;rw[e0]at a0;have hlen:=a0.1;rw[dd]at hlen;have hi:i<(T.cl a v).length:=by rw[<-hlen];exact (aY.1 g1).1
      have p0:=ew (T:=T) L (t:=.struct a) v;rw[e0]at p0;exact⟨_,d0,M,_,bS hi,a0.2 i r _ g1 (by rw[dC,bS hi];rfl)⟩
     .simp at g1
   obtain⟨b,h1,hlen,av,A,f0⟩:=l0;have hi:i<b.length:=(aY.1 A).1;exact⟨_,AN d f hu H I S M (by rw[g2];omega) h1 (by rw[(M:m.toNat=i)];exact A),f0⟩
  .cases h
 split at h
 .rename_i v m B hv C;obtain⟨c,H,h⟩:=bind_some h;obtain⟨h1,A,f0⟩:=DI H;refine bX h (ky f λq p=>?_);obtain⟨k,S⟩:=jr (p.fq f (x:=y) (by simp[d,Op.operands])) C;unfold fU;simp only[d,dF (dk (p.fq f (x:=x) (by simp[d,Op.operands])) hv rfl),S];rw[A];exact⟨⟨(b0.ty _ _ B).str rfl,h1⟩,bg (t:=.int .u8) rfl⟩
 .cases h
def TU(l:bP P E T X)(c:aW n o=W){f:UnOp}{x:qm}(a:o.op=.unOp f e x)(h:hS X kx esc fz o s K=O out):eo P E T X w0 I0 n fz o s kx K out:=by
 have g:x∈o.op.operands:=by simp[a,Op.operands]
 cases f with
 |not=>
  unfold hS at h;simp only[a]at h;split at h
  .rename_i b i;refine bX h (ky c λq d=>?_);unfold fU;simp only[a,lb (d.fq c g) i];exact bg (t:=.bool) rfl
  .cases h
 |neg=>
  unfold hS at h;simp only[a]at h;split at h
  .rename_i k p;split at h
   .rename_i m j;refine bX h (ky c λq d=>?_);unfold fU;simp only[a,dF (dk (d.fq c g) j rfl)];exact bg (t:=.int k) rfl
   .cases h
  .cases h
 |_=>unfold hS at h;simp only[a]at h;cases h
def TV{r:R U.C}(h:Xf s r=O m)(n:bP P E T X):∀q u,aX P E T X s q->bC P E T s.b q.g s.tick r u->(gy q u=O m/\∀v,u≠.val (.fl v))∨(∃i sz,u=.val (.view i sz m))∨(u=.val .gx/\m=0):=by
 intro q u f b;unfold Xf at h;split at h
 .rename_i t xs;simp only[ax]at h;subst h;left;cases b with
  |val _ _ _ av a hv=>obtain⟨_,rfl⟩:=hv;rcases nt (cs:=xs.map (enc T t)) a with e|e<;>rw[e]<;>simp[gy]
 .rename_i k p;simp only[ax]at h;subst h;right;cases b with
  |val _ _ _ av a hv=>
   obtain⟨_,rfl⟩:=hv;have l:∃c:V (Nat×Nat),c=p:=⟨_,rfl⟩
   obtain⟨c,g⟩:=l;cases c with
   |none=>subst g;right;refine⟨?_,rfl⟩;cases u<;>simp[bu,enc,gz]at a;rw[a]
   |some z=>subst g;left;refine⟨dI k z.1,T.hz k,?_⟩;cases u<;>simp[bu,enc,gz]at a;rw[a];rfl
 .rename_i t xs;simp only[ax]at h;subst h;left;cases b with
  |bM _ _ o=>simp[gy]
 .rename_i v;left;cases b with
  |const _ w=>
   split at h
   .simp only[ax]at h;subst h;exact ⟨rfl,λv h=>by cases h⟩
   .cases h
 .rename_i d;split at h
  .rename_i t e xs j;simp only[ax]at h;subst h;left;rw[eZ f b j];obtain⟨_,a⟩:=f.bi j;simp[gy,a]
  .cases h
 .cases h
def mb(b:jj P E T X e (.aq t)):∃a,P.underlying e=O (.slice a):=by obtain⟨a,h,_⟩:=b.aq t rfl;exact⟨a,h⟩
def H6{a b:Ty}{l:Z (Z (bL U.C a×bL U.C b))}{p:V Nat}{e:Z (bL U.C a×bL U.C b)}(k:maps U m a b s=O l)(d:dX l p=O e){x:qm}{r:R U.C}(n:r=.val (.mp m) p):∀q,aX P E T X s q->bC P E T s.b q.g s.tick r (q.ev x)->
  (∃i c,q.ev x=.val (.mp i)/\q.a i=O (.map (e.map λp=>(enc T a p.1,enc T b p.2)) c))∨(q.ev x=.val (.fl (.map Y))/\(e.map λp=>(enc T a p.1,enc T b p.2))=[]):=by
 intro q o h;subst n;generalize q.ev x=u at h;cases h with
 |val _ _ _ av f hv=>
  obtain⟨_,rfl⟩:=hv;have t:∃g:V Nat,g=p:=⟨_,rfl⟩
  obtain⟨g,j⟩:=t;cases g with
  |none=>subst j;right;unfold dX at d;simp only[ax]at d;subst d;refine⟨?_,rfl⟩;exact dF f|some i=>subst j;left;obtain⟨c,v⟩:=FM k o d;refine⟨dI m i,c,?_,v⟩;cases u<;>simp[bu,enc,Bh]at f;rw[f]
def Xt(g:bP P E T X)(c:aW n o=W){x:qm}{B:JA}(e:o.op=.call {callee:=.builtin .len,args:=#[x],argTypes:=#[B]})(h:hS X kx esc fz o s K=O out):eo P E T X w0 I0 n fz o s kx K out:=by
 have y:x∈o.op.operands:=by simp[e,Op.operands,Call.operands]
 unfold hS at h;simp only[e]at h;split at h
 .rename_i k j;have f:=g.ty _ _ j;split at h
  .rename_i m p z;obtain⟨S,h⟩:=aA h;split at h
   .rename_i U a0 b0;split at h
    .rename_i l G;obtain⟨c0,H,h⟩:=bind_some h;obtain⟨a,b,hu,_⟩:=f.mp k rfl;refine bX h λq d=>⟨_,Fo e c hu (H6 G H z q d (d.fq c y)),?_⟩
     rw[dd];exact bg (t:=.int .i64) rfl
    .cases h
   .cases h
  .cases h
 .rename_i j;have f:=g.ty _ _ j;split at h
  .rename_i v hv;refine bX h λq d=>?_;have C:=dF (dk (d.fq c y) hv rfl);refine⟨_,wK e c (by unfold ly;rw[f.str rfl]) (m:=List.length (α:=NT) v) (by rw[C];simp[gy,bs,ByteArray.size]) (by rw[C];exact f.str rfl),bg (t:=.int .i64) rfl⟩
  .cases h
 .rename_i t j;have f:=g.ty _ _ j;obtain⟨A,hu⟩:=mb f;split at h
  .rename_i m I;refine bX h λq d=>?_;rcases TV I g q _ d (d.fq c y)with⟨r,J⟩|⟨i,sz,r⟩|⟨r,rfl⟩
   .refine ⟨_,wK e c (by unfold ly;rw[hu]) r ?_,bg (t:=.int .i64) rfl⟩;split
    .rename_i v hv;exact (J v hv).elim
    .exact ⟨A,hu⟩
   .exact ⟨_,sH e c hu (.inl ⟨i,sz,r⟩),bg (t:=.int .i64) rfl⟩
   .exact ⟨_,sH e c hu (.inr ⟨r,rfl⟩),bg (t:=.int .i64) rfl⟩
  .cases h
 .split at h
  .rename_i rs z;obtain⟨L,h⟩:=aA h;obtain⟨A,hu,_,d0⟩:=g.JL B L;refine bX h λq d=>?_;have w:=d.fq c y;rw[z]at w;refine⟨_,wK e c (by unfold ly;rw[hu]) (m:=rs.length) ?_ ?_,bg (t:=.int .i64) rfl⟩
   .generalize q.ev x=u at w;cases w with
    |sJ _ N D Q R=>rw[D];rfl
   .generalize q.ev x=u at w;cases w with
    |sJ _ N D Q R=>exact ⟨A,hu⟩
  .cases h
 .cases h
def KE(c:aW n o=W){x:qm}(a:o.op=.extract x k)(h:hS X kx esc fz o s K=O out):eo P E T X w0 I0 n fz o s kx K out:=by
 unfold hS at h;simp only[a]at h;split at h
 .rename_i rs f;split at h
  .rename_i r d;refine bX h (ky c λq g=>?_);have b:=g.fq c (x:=x) (by simp[a,Op.operands]);rw[f]at b;unfold fU;simp only[a];generalize q.ev x=u at b;cases b with
   |fK _ qs i j=>
    have l:k<qs.length:=by rw[<-i];exact (aY.1 d).1
    have e:qs[k]?=O qs[k]:=bS l;simp only[e];exact j k r _ d e
  .cases h
 .cases h
def xe(f:bP P E T X)(g:∀e t,X.ty e=O t->P.concrete e=W)(b:aW n o=W){x:qm}(a:o.op=.makeInterface e x)(h:hS X kx esc fz o s K=O out):eo P E T X w0 I0 n fz o s kx K out:=by
 unfold hS at h;simp only[a]at h;split at h
 .rename_i t c;split at h
  .rename_i v hv;refine bX h (ky b λq i=>?_);have d:=f.ty _ _ c;unfold fU;simp only[a,dk (i.fq b (x:=x) (by simp[a,Op.operands])) hv d.ok];exact⟨g _ _ c,.mQ e t v d.ok⟩
  .cases h
 .cases h
def H7(c:aW n o=W){x:qm}(g:o.op=.nilCheck x)(h:hS X kx esc fz o s K=O out):eo P E T X w0 I0 n fz o s kx K out:=by
 have m:x∈o.op.operands:=by simp[g,Op.operands]
 unfold hS at h;simp only[g]at h;split at h
 .rename_i k p f;obtain⟨i,hi,h⟩:=bind_some h;refine bX h λq b=>?_;have a:=b.fq c m;rw[f]at a;have l:=vx a hi;exact⟨_,gZ g c (λw I be v hv=>by rw[l]at hv;exact vd hv),by rw[l];exact .ji k i 0⟩
 .rename_i t p f;obtain⟨y,hi,h⟩:=bind_some h;refine bX h λq b=>?_;have a:=b.fq c m;rw[f]at a;obtain⟨r,l⟩:=Bn a hi;exact⟨_,gZ g c (λw I be v hv=>by rw[l]at hv;exact AH hv),by rw[l];exact .dJ t y 0 r⟩
 .rename_i d k f;split at h
  .rename_i u rs z;refine bX h λq b=>?_;have a:=b.fq c m;rw[f]at a;have l:=iY b a z;obtain⟨_,_,cs,A,_⟩:=b.cells z;refine⟨_,gZ g c (λw I be v hv=>?_),a⟩;rw[l]at hv;obtain⟨B,_,e⟩:=tp hv rfl (by rw[A];simp);exact⟨_,e⟩
  .cases h
 .rename_i t y k f;refine bX h λq b=>?_;have a:=b.fq c m;rw[f]at a;refine⟨_,gZ g c (λw I be v hv=>?_),a⟩;generalize q.ev x=u at a hv;cases a with
  |dJ _ _ _ r=>exact AH hv
 .rename_i k i off f;refine bX h λq b=>?_;have a:=b.fq c m;rw[f]at a;refine⟨_,gZ g c (λw I be v hv=>?_),a⟩;generalize q.ev x=u at a hv;cases a;exact vd hv
 .rename_i k i j off f;refine bX h λq b=>?_;have a:=b.fq c m;rw[f]at a;refine⟨_,gZ g c (λw I be v hv=>?_),a⟩;generalize q.ev x=u at a hv;cases a;exact vd hv
 .cases h
def xf(L:cw U T)(xs:Z (bL U.C t)):∀x∈xs.map (enc T t),x.cells.length=bD U D t:=λx a=>by obtain⟨y,_,rfl⟩:=dP.1 a;exact ew L y
def TW{γ:Type}(f:β->γ)(xs:Z β)(l m:Nat):((xs.map f).drop l).take m=((xs.drop l).take m).map f:=by simp[wF,mZ]
include L in
theorem Qu(J:bP P E T X)(i:aW n o=W){x:qm}{S hi mx:V qm}(C:o.op=.slice e x S hi mx)(p0:mx=Y->∀(d':Nat)(t:Ty)(l r:V Int),s.ev x=.whole d'->nr s Y S=O l->nr s Y hi=O r->X.ty e=O (.aq t)->TG X fz s o.dst e d' t l r K=O out->eo P E T X w0 I0 n fz o s kx K out)(h:hS X kx esc fz o s K=O out):eo P E T X w0 I0 n fz o s kx K out:=by
 have Q:x∈o.op.operands:=by simp[C,Op.operands]
 have l0:∀y,S=O y->bW y=W:=λy D=>bR i (by simp[C,Op.operands,D]);have a0:∀y,hi=O y->bW y=W:=λy D=>bR i (by simp[C,Op.operands,D]);cases mx with
 |none=>
  unfold hS at h;simp only[C]at h;split at h
  .rename_i l r i0 g;have m0:∀(a:Ty)(xs:Z (bL U.C a)),X.ty e=O (.aq a)->(∀q,aX P E T X s q->bu (q.ev x)=O (.sl (xs.map (enc T a))))->w4 (β:=bL U.C a) xs l r (λys=>K (s.put o.dst (.val (.aq a) ys)))=O out->eo P E T X w0 I0 n fz o s kx K out:=by
    intro a xs j w h;have G:=J.ty _ _ j;obtain⟨j0,hu,N⟩:=G.aq a rfl;have H:=J.ty _ _ N;obtain⟨l',b0,e1,e2,h0,h1,R,c0,h⟩:=yp h;refine bX h (ky i λq c=>?_);have b1:=pP (dflt:=0) c l0 i0 h0;have b2:=pP (dflt:=(xs.map (enc T a)).length) c a0 g h1;rw[e1]at b1;rw[dd]at b2;rw[e2]at b2;unfold fU;simp only[C];have d0:∀K',(bC P E T s.b q.g s.tick (.val (.aq a) ((xs.drop l').take (b0-l'))) (.val (.sl (((xs.map (enc T a)).drop l').take (b0-l'))))->K' (.val (.sl (((xs.map (enc T a)).drop l').take (b0-l')))))->jo P q e (xs.map (enc T a)) S hi Y K':=λK' q0=>by unfold jo;simp only[fa hu,b1,dd,b2];refine⟨⟨H.pos,λy D=>by rw[xf L xs y D,H.cells],R,by simpa using c0⟩,q0 ?_⟩;rw[TW];exact bg (t:=.aq a) G.ok
    rcases nt (w q c)with e'|e'<;>rw[e']<;>exact d0 _ λh=>h
   split at h
   .rename_i a xs t I j;cases A:decide (a=t)with
    |false=>rw[A]at h;cases h
    |true=>
     rw[A]at h;obtain rfl:=di A;simp only[bf]at h;refine m0 a xs j (λq c=>?_) h;have g:=c.fq i Q;rw[I]at g;generalize q.ev x=u at g;cases g with
     |val _ _ _ av w hv=>obtain ⟨_,rfl⟩:=hv;exact w
   .rename_i a xs t I j;cases A:decide (a=t)with
    |false=>rw[A]at h;cases h
    |true=>
     rw[A]at h;obtain rfl:=di A;simp only[bf]at h;refine m0 a xs j (λq c=>?_) h;have g:=c.fq i Q;rw[I]at g;generalize q.ev x=u at g;cases g with
     |bM _ _ _=>rfl
   .rename_i d' t I j;cases l with
    |none=>exact p0 rfl d' t Y r I i0 g j h|some l=>
     simp only at h;unfold Zx at h;split at h
     .rename_i A0 j0 xs e0;replace h:=aA h;obtain⟨f0,h⟩:=h;simp only[aI,aU]at f0;obtain⟨rfl,N⟩:=f0;have G:=J.ty _ _ j;obtain⟨hu,_⟩:=G.elem _ _ rfl N;have part:∀(b:Nat),Qn xs.length r=b->0<=l->(∀m,r=O m->0<=m)->l.toNat<=b->b<=xs.length->K (s.put o.dst (.sub d' l.toNat (b-l.toNat)))=O out->eo P E T X w0 I0 n fz o s kx K out:=by
       intro b r0 h0 h1 R c0 h;refine bX h λq c=>?_;have g0:=c.fq i Q;rw[I]at g0;obtain⟨_,w⟩:=c.bi e0;have b1:=pP (dflt:=0) c l0 i0 λm e=>by simp only[ax]at e;subst e;exact h0
       have b2:=pP (dflt:=xs.length) c a0 g h1;rw[r0]at b2;have D:=k9 (P:=P) (E:=E) (w0:=w0) (I0:=I0) (n:=n) (s:=q) C i (fa hu) (eZ c g0 e0) rfl w (l:=l.toNat) (h:=b) b1 b2 R c0;rw[cX]at D;refine⟨_,D,.sub _ _ _ _ λst B0 e2 C0 s0=>?_⟩;have:=dq e0;rw[s0]at this;simp only[ax,bc,B.bi.injEq]at this;obtain⟨_,rfl,_,this⟩:=this;cases this;exact⟨rfl,M⟩
      cases r with
      |none=>simp only at h;replace h:=bind_some h;obtain⟨_,f,h⟩:=h;replace f:=dp f;simp only[aI,aU]at f;exact part xs.length rfl f.1 (λm e=>by cases e) f.2 (a6 _) h
      |some r=>simp only at h;replace h:=bind_some h;obtain⟨_,f,h⟩:=h;replace f:=dp f;simp only[aI,aU]at f;exact part r.toNat rfl f.1 (λm e=>by simp only[ax]at e;subst e;exact f.2.1) f.2.2.1 f.2.2.2 h
     .cases h
   .rename_i k p t I j;split at h
    .rename_i m a j0 D0;replace h:=aA h;obtain⟨f0,h⟩:=h;simp only[aI,aU]at f0;obtain⟨rfl,N⟩:=f0;have G:=J.ty _ _ j;obtain⟨hu,t0⟩:=G.elem _ _ rfl N;have H:=J.ty _ _ t0;replace h:=bind_some h;obtain⟨p,rfl,h⟩:=h;replace h:=bind_some h;obtain⟨_,f,h⟩:=h;replace f:=dp f;simp only[aI,aU]at f;refine bX h λq c=>?_;have g0:=c.fq i Q;rw[I]at g0;have b2:=pP (dflt:=p.2) c a0 g λu0 e=>by simp only[ax]at e;subst e;exact f.1
     exact⟨_,AL (P:=P) (E:=E) (w0:=w0) (I0:=I0) (n:=n) (s:=q) C i (fa hu) H.pos (Br g0) (h:=m.toNat) rfl b2 f.2,bg (t:=.hs k) (x:=O (p.1,m.toNat)) rfl⟩
    .cases h
   .rename_i b0 j;split at h
    .rename_i v hv;have G:=J.ty _ _ j;obtain⟨l',b0,e1,e2,h0,h1,R,c0,h⟩:=yp h;refine bX h (ky i λq c=>?_);have w:=dF (dk (c.fq i Q) hv rfl);have b1:=pP (dflt:=0) c l0 i0 h0;have b2:=pP (dflt:=List.length (α:=NT) v) c a0 g h1;rw[e1]at b1;rw[e2]at b2;unfold fU;simp only[C];rw[w];unfold Fg;simp only[b1,b2];exact⟨⟨trivial,G.str rfl,R,c0⟩,bg (t:=.str) rfl⟩
    .cases h
   .cases h
  .cases h
 |some z=>
  unfold hS at h;simp only[C]at h;cases h0:sl0 S hi z with
  |false=>
   rw[h0]at h;simp only[bq]at h;split at h
   .rename_i r m n0 v0;split at h
    .rename_i a xs t I j;cases A:decide (a=t)with
     |false=>rw[A]at h;cases h
     |true=>
      rw[A]at h;obtain rfl:=di A;simp only[bf]at h;replace h:=bind_some h;obtain⟨_,f,h⟩:=h;replace f:=dp f;simp only[aI,aU]at f;obtain⟨o0,rfl,x0⟩:=f;have G:=J.ty _ _ j;obtain⟨j0,hu,N⟩:=G.aq a rfl;have H:=J.ty _ _ N;obtain⟨y,rfl⟩:∃y,hi=O y:=by
       cases hi with
       |none=>cases n0
       |some y=>exact ⟨y,rfl⟩
      refine bX h (ky i λq c=>?_);have g:=c.fq i Q;rw[I]at g;have w:bu (q.ev x)=O (.sl (xs.map (enc T a))):=by
       generalize q.ev x=u at g;cases g with
       |val _ _ _ av w hv=>obtain ⟨_,rfl⟩:=hv;exact w
      have b2:∀dflt,lU q dflt (O y)=O r.toNat:=λdflt=>pP (dflt:=dflt) c a0 n0 λu0 e=>by simp only[ax]at e;subst e;exact o0
      obtain⟨E0,hz⟩:=jr (c.fq i (x:=z) (by simp[C,Op.operands])) v0;have d0:jo P q e (xs.map (enc T a)) Y (O y) (O z) λu=>bC P E T s.b q.g s.tick (.bM a (xs.take r.toNat)) u:=by
       unfold jo;have y0:lU q 0 (O z)=O r.toNat:=by simp[lU,hz,o0]
       simp only[fa hu,b2,y0];refine⟨⟨H.pos,λy D=>by rw[xf L xs y D,H.cells],dS _,by simpa using x0,rfl,trivial⟩,?_⟩;simp only[oA,uF,<-mZ];exact .bM a _ H.ok
      unfold fU;simp only[C];rcases nt w with e'|e'<;>rw[e']<;>exact d0
    .cases h
   .cases h
  |true=>
   rw[h0]at h;simp only[bf]at h;obtain⟨h1,R,rfl,rfl,rfl⟩:∃k k',S=Y/\hi=O (.const (.int k 0))/\z=.const (.int k' 0):=by
    unfold sl0 at h0;split at h0
    .exact ⟨_,_,rfl,rfl,rfl⟩
    .cases h0
   split at h
   .rename_i a xs t I j;cases A:decide (a=t)with
    |false=>rw[A]at h;cases h
    |true=>
     rw[A]at h;obtain rfl:=di A;simp only[bf]at h;have G:=J.ty _ _ j;obtain⟨j0,hu,N⟩:=G.aq a rfl;have H:=J.ty _ _ N;refine bX h (ky i λq c=>?_);have g:=c.fq i Q;rw[I]at g;have w:bu (q.ev x)=O (.sl (xs.map (enc T a))):=by
      generalize q.ev x=u at g;cases g with
      |val _ _ _ av w hv=>obtain ⟨_,rfl⟩:=hv;exact w
     have d0:jo P q e (xs.map (enc T a)) Y (O (.const (.int h1 0))) (O (.const (.int R 0))) λu=>bC P E T s.b q.g s.tick (.bM a []) u:=by
      unfold jo;have e0:∀k d,lU q d (O (.const (.int k 0)))=O 0:=λk d=>by simp[lU,St.ev,ct]
      simp only[fa hu,e0];refine⟨⟨H.pos,λy D=>by rw[xf L xs y D,H.cells],dS _,dS _,rfl,trivial⟩,?_⟩;simp only[wH,qV];exact .bM a [] H.ok
     unfold fU;simp only[C];rcases nt w with e'|e'<;>rw[e']<;>exact d0
   .cases h
def D7{a b:V β}{r:β}(h:both a b=O r):a=O r/\b=O r:=by
 unfold both at h;by_cases e:a=b
 .rw[aj e]at h;exact ⟨h,e▸h⟩
 .rw[ai e]at h;cases h
include L in
theorem Qv(m:bP P E T X)(i:aW n o=W){bo:VQ}{e':JA}{x:qm}(f:o.op=.binOp bo e x y e')(h:hS X kx esc fz o s K=O out):eo P E T X w0 I0 n fz o s kx K out:=by
 unfold hS at h;simp only[f]at h;split at h
 .rename_i t k;have B:x∈o.op.operands:=by simp[f,Op.operands]
  have p:=m.ty _ _ k;obtain⟨G,r⟩:=mb p;have u:Fx y=W->y=.const (.slice Y 0 0):=λc=>by
   unfold Fx at c;split at c
   .rfl
   .cases c
  have w:∀(a:Z (bL U.C t)),fD (.aq t) (s.ev x)=O a->Fx y=W->(bo=.eql∨bo=.neq)->(bif !fz then Y else cond (List.isEmpty (α:=bL U.C t) a) (both (K (s.put o.dst (.val .bool (if bo=.eql then W else !W)))) (K (s.put o.dst (.val .bool (if bo=.eql then F else !F))))) (K (s.put o.dst (.val .bool (if bo=.eql then F else !F)))))=O out->eo P E T X w0 I0 n fz o s kx K out:=by
   intro a g c z h;cases fz with
   |false=>cases h
   |true=>
    simp only[kb,bq]at h;have A:∀q,aX P E T X s q->bu (q.ev x)=O (.sl (a.map (enc T t))):=λq d=>dk (d.fq i B) g p.ok;cases l:List.isEmpty (α:=bL U.C t) a with
    |true=>
     rw[l]at h;simp only[bf]at h;have j:=D7 h;refine .fO rfl _ _ j.1 j.2 (bh _ _) (bh _ _) λq d=>?_;refine yf f i z (u c) r (A q d) λb _=>?_;cases b with
     |true=>exact .inl (d.put o.dst (bg (t:=.bool) rfl))|false=>exact .inr (d.put o.dst (bg (t:=.bool) rfl))
    |false=>
     rw[l]at h;simp only[bq]at h;refine .one _ h (bh _ _) λq d=>?_;refine yf f i z (u c) r (A q d) λb j=>?_;cases b with
     |true=>
      have:=j rfl;have:a=[]:=by simpa using this
      subst this;cases l
     |false=>exact ⟨d.put o.dst (bg (t:=.bool) rfl),λh=>by cases h⟩
  split at h
  .rename_i a g c;exact w a g c (.inl rfl) h
  .rename_i a g c;exact w a g c (.inr rfl) h
  .cases h
 .rename_i t H k;replace h:=aA h;obtain⟨C,h⟩:=h;obtain⟨I,v,h1,D⟩:=TO (w0:=w0) (I0:=I0) L (m.ty _ _ k) (by simpa using C) f i h;exact bX h1 D
 .cases h
def Qw{bx:Z (Nat×Nat×B U.C)}{st:Nat}{b:B U.C}:∀d',d'≠d->ku bx ((d,st,b)::bB bx d) g (aa g d (g d+1)) tick d':=λd' e=>by left;rw[aQ,ai (dz e),aN,ai (dz e),aJ _ _ e];exact⟨rfl,rfl⟩
def aX.jn {s:S U.C} {q:St} (h:aX P E T X s q) {rs:Z (R U.C)} {cs:Z cy} (j:mm d s.b=W) (k:(B.cells t rs).aT d=F) (l:eV t=W) (m:bD U D t=rs.length) (a:ee P E T s.b q.g s.tick rs cs):
  aX P E T X (({s with r:=ko d s.tick s.r,b:=(d,s.tick,.cells t rs)::bB s.b d,tick:=s.tick+1}:S U.C).put (O d) (.dT d 0)) (q.jn d cs):=by
 have n:nM P E T X ((d,s.tick,B.cells t rs)::bB s.b d) (aa q.g d (q.g d+1)) (s.tick+1) (O (s.tick,.cells t rs)) (O (.cells cs)):=by refine⟨l,m,cs,rfl,a.1,λi r c f o=>(a.2 i r c f o).mono (λd' g=>Qw d' λe=>?_) (cO _)⟩;subst e;have:=eF.1 k r (bF f);rw[this]at g;cases g
 have:=(h.Kx j n).put (O d) (r:=.dT d 0) (u:=.dT d (q.g d+1) 0 0 0) (.dT d 0 _ λst u p v=>aE);exact this
def aX.cH {s:S U.C} {q:St} (h:aX P E T X s q) {xs:Z (bL U.C t)} (c:mm d s.b=W) (f:X.ty e=O t):
  aX P E T X (({s with r:=ko d s.tick s.r,b:=(d,s.tick,.bi t e xs)::bB s.b d,tick:=s.tick+1}:S U.C).put (O d) (.whole d)) (q.cH d e (xs.map (enc T t))):=by
 have g:nM P E T X ((d,s.tick,B.bi t e xs)::bB s.b d) (aa q.g d (q.g d+1)) (s.tick+1) (O (s.tick,.bi t e xs)) (O (.bi e (xs.map (enc T t)))):=⟨f,rfl⟩
 have:=(h.Kx c g).put (O d) (r:=.whole d) (u:=.view d (q.g d+1) 0 (xs.map (enc T t)).length) (.whole d _ λst i e' j a=>by simp only[aQ,ca,ax,bc,B.bi.injEq]at a;obtain⟨_,rfl,_,a⟩:=a;cases a;simp);exact this
def Qx{r:cy}{x:Bx}(f:o.dst=O d)(c:d∈ez o)(i:eS X s o.op=W):Fr X s o q {q with r:=aa q.r d r,b:=aa q.b d (O x),g:=aa q.g d (q.g d+1)}:=by
 refine⟨λt j _=>.inl (aJ _ _ λe=>j (by rw[f,e])),λd' _ a=>?_,λ_ _ _ _=>⟨rfl,rfl⟩,rfl,λd' a=>?_,λh=>by rw[i]at h;cases h⟩
 .have:d'≠d:=λe=>a (e▸c);exact⟨aJ _ _ this,aJ _ _ this⟩
 .have:d'≠d:=λe=>a (e▸c);exact⟨.HY (aJ _ _ this),aJ _ _ this⟩
def oa(a:o.dst=O d)(c:d∈ez o)(e:eS X s o.op=W){rs:Z (R U.C)}(h:s.new d (.cells t rs) (λs=>K (s.put o.dst (.dT d 0)))=O out)(f:eV t=W)(g:bD U D t=rs.length)
  (i:∀q,aX P E T X s q->∃cs,ee P E T s.b q.g s.tick rs cs/\∀K':St->Prop,K' (q.jn d cs)->dE P E w0 I0 n o q K'):eo P E T X w0 I0 n fz o s kx K out:=by
 obtain⟨⟨j,k⟩,h⟩:=lM h;rw[a]at h;refine .one _ h ((jU _ _).trans (bh _ _)) λq b=>?_;obtain⟨cs,l,m⟩:=i q b;exact m _ ⟨b.jn j k f g l,λ_=>Qx a c e⟩
def xg(a:o.dst=O d)(c:d∈ez o)(f:eS X s o.op=W){xs:Z (bL U.C t)}(h:s.new d (.bi t e xs) (λs=>K (s.put o.dst (.whole d)))=O out)(g:X.ty e=O t)
  (i:∀q,aX P E T X s q->∀K':St->Prop,K' (q.cH d e (xs.map (enc T t)))->dE P E w0 I0 n o q K'):eo P E T X w0 I0 n fz o s kx K out:=by
 obtain⟨⟨j,k⟩,h⟩:=lM h;rw[a]at h;exact .one _ h ((jU _ _).trans (bh _ _)) λq b=>i q b _ ⟨b.cH j g,λ_=>Qx a c f⟩
def H8(h:bu u=O av)(a:av.isAgg=W):gY u=O (av.cells.map .val):=by
 cases u<;>simp[bu]at h
 .subst h;rfl
 .subst h;cases a
def sR(h:bu u=O av)(b:av.isAgg=F):gY u=O [u]/\E8 u∨∃xs,u=.bM xs:=by
 cases u<;>simp[bu]at h
 .subst h;left;rename_i v;have:v.cells=[v]:=by cases v<;>first|rfl|(simp[AV.isAgg]at b)
  refine⟨by simp[gY,this],?_⟩;show v.wf;intro c a;rw[this]at a;simp at a;rw[a];exact b
 .right;exact ⟨_,rfl⟩
def D8{x:bL U.C t}(a:aV t=F):(enc T t x).isAgg=F:=pa a
def H9{r B:R U.C}(h:Mr s t r=O B)(C:aV t=F):∀q u,aX P E T X s q->bC P E T s.b q.g s.tick r u->gY u=O [u]/\E8 u/\PE q u/\bC P E T s.b q.g s.tick B u:=by
 intro q u n g;unfold Mr at h;split at h
 .rename_i d;split at h
  .rename_i G e xs l;simp only[ax]at h;subst h;have p:=eZ n g l;obtain⟨_,b⟩:=n.bi l;subst p;exact⟨rfl,trivial,⟨rfl,_,_,b⟩,g⟩
  .cases h
 .rename_i d k;split at h
  .rename_i G rs l;simp only[ax]at h;subst h;have p:=iY n g l;obtain⟨_,_,cs,b,_⟩:=n.cells l;subst p;exact⟨rfl,trivial,⟨rfl,by rw[b];simp⟩,g⟩
  .cases h
 .rename_i f caps;simp only[ax]at h;subst h;have w:=g;cases g with
  |fn _ _ H i o=>exact ⟨rfl,(λc y=>by simp[AV.cells]at y;subst y;rfl),trivial,w⟩
 .rename_i j xs;cases D:decide (t=.aq j)with
  |false=>rw[D]at h;cases h
  |true=>
   rw[D]at h;simp only[bf,ax]at h;subst h;have w:=g;cases g with
   |bM _ _ a=>exact ⟨rfl,trivial,trivial,w⟩
 .rename_i v;cases m:eW v with
  |true=>
   rw[m]at h;simp only[bf]at h;split at h
   .rename_i j;cases a:eV j with
    |false=>rw[a]at h;cases h
    |true=>
     rw[a]at h;simp only[bf,ax]at h;subst h;unfold eW at m;split at m
     .cases g with
      |const _ y=>exact ⟨rfl,trivial,trivial,.bM j [] a⟩
     .cases m
   .cases h
  |false=>
   rw[m]at h;simp only[bq]at h;cases a:eV t with
   |false=>rw[a]at h;cases h
   |true=>
    rw[a]at h;simp only[bf]at h;split at h
    .rename_i x z;simp only[ax]at h;subst h;have b:bu u=O (enc T t x):=dk (r:=.const v) g (by simp[fD,a,z]) a;rcases sR b (D8 C)with⟨i,o⟩|⟨xs,i⟩
     .refine ⟨i,o,?_,.val t x u _ b (gu a)⟩;cases u<;>first|trivial|(simp[bu]at b)
     .subst i;exact⟨rfl,trivial,trivial,.val t x _ _ b (gu a)⟩
    .cases h
 .rename_i j x;split at h
  .rename_i A z;cases a:eV t with
   |false=>rw[a]at h;cases h
   |true=>
    rw[a]at h;simp only[bf,ax]at h;subst h;have b:bu u=O (enc T t A):=dk (r:=.val j x) g (by simpa[fD]using z) a;rcases sR b (D8 C)with⟨i,o⟩|⟨xs,i⟩
    .refine ⟨i,o,?_,.val t A u _ b (gu a)⟩;cases u<;>first|trivial|(simp[bu]at b)
    .subst i;exact⟨rfl,trivial,trivial,.val t A _ _ b (gu a)⟩
  .cases h
 .cases h
def lc:∀(k:Nat)(t:Ty)(rs:Z (R U.C)),gk U k t=W->lJ U k t=O rs->rs.length=bD U k t
 |k,t,rs,a,h=>by
  cases t with
  |struct m=>
   cases k with
   |zero=>simp[gk]at a|succ k=>
    simp only[gk,cS]at a;have b:∀(ts:Z Ty)(rs:Z (R U.C)),(∀t∈ts,gk U k t=W)->rm (lJ U k) ts=O rs->rs.length=jA (bD U k) ts:=by
     intro ts;induction ts with
     |nil=>intro rs _ h;simp only[rm,ax]at h;subst h;rfl|cons t ts c=>
      intro rs a h;simp only[rm]at h;split at h
      .rename_i x xs d e;simp only[ax]at h;subst h;rw[ey,lc k t x (a t aE) d,c xs (λt f=>a t (by simp[f])) e];rfl
      .cases h
    simp only[lJ]at h;exact b _ _ a h
  |mp m=>cases g:Nat.blt m 1000<;>cases k<;>simp only[lJ,g,bf,bq,ax,reduceCtorEq]at h<;>(first|(subst h;rfl)|cases h)
  |_=>cases k<;>simp only[lJ,ax,reduceCtorEq]at h<;>(first|(subst h;rfl)|cases h)
include L in
theorem Qy(z:bP P E T X)(f0:aW n o=W)(k:o.op=.alloc e)(N:ox esc o.dst=Y)(h:hS X kx esc fz o s K=O out):eo P E T X w0 I0 n fz o s kx K out:=by
 unfold hS at h;simp only[k,N]at h;split at h
 .rename_i d t cs l w m;rw[w]at m;have m:lJ U D t=O cs:=m;have p:=z.ty _ _ w;cases A:(fz||(s.box d).isNone)with
  |false=>rw[A]at h;cases h
  |true=>
   rw[A]at h;simp only[bf]at h;obtain⟨i,f,u,x,B,I,Q,J⟩:=p.zero;obtain⟨C,S⟩:=J cs m;refine oa l (by simp[ez,l,k]) (by simp[eS,k]) h p.ok (lc D t cs (hO L t) m).symm λq a0=>?_;have b0:∃y:Z cy,y.length=cs.length/\∀(j:Nat)(r:R U.C)(v:Jz)(c:cy),cs[j]?=O r->f.cells[j]?=O v->y[j]?=O c->(c=ct v∨(v=.slice Y 0 0/\c=.val .gx))/\bC P E T s.b q.g s.tick r c:=by
    have:∀j:Fin cs.length,∃c:cy,∀v,f.cells[j.1]?=O v->(c=ct v∨(v=.slice Y 0 0/\c=.val .gx))/\bC P E T s.b q.g s.tick cs[j] c:=λj=>by
     have g:j.1<f.cells.size:=by rw[C];exact j.2
     rcases S j.1 cs[j] f.cells[j.1] aE (by simp[g])with a|⟨a,b⟩
     .exact ⟨ct f.cells[j.1],λv hv=>by
       have:v=f.cells[j.1]:=by simpa[g]using hv.symm
       subst this;exact⟨.inl rfl,a _ _ _⟩⟩
     .exact ⟨.val .gx,λv hv=>by
       have:v=f.cells[j.1]:=by simpa[g]using hv.symm
       subst this;exact⟨.inr ⟨a,rfl⟩,b _ _ _⟩⟩
    refine⟨List.ofFn λj:Fin cs.length=>(this j).choose,aE,λj r v c a b G=>?_⟩;have g:j<cs.length:=(aY.1 a).1;rw[List.getElem?_ofFn]at G;simp only[g,dite_true,ax]at G;subst G;have:=(this ⟨j,g⟩).choose_spec v b;have c0:cs[j]=r:=by simpa[g]using a
    subst c0;exact this
   obtain⟨y,z1,z2⟩:=b0;refine⟨y,⟨z1.symm,λj r c a b=>?_⟩,λK' H=>?_⟩
   .have g:j<f.cells.size:=by rw[C];exact (aY.1 a).1
    exact(z2 j r f.cells[j] c a (by simp[g]) b).2
   .refine vf k l u x B (by rw[z1,C]) (λj v c a b=>?_) H;have g:j<cs.length:=by have:=(aY.1 b).1;omega
    exact(z2 j cs[j] v c (by simp[g]) a b).1
 .rename_i d t l w m;have p:=z.ty _ _ w;replace h:=aA h;obtain⟨A,h⟩:=h;obtain⟨i,f,u,x,B,I,Q,J⟩:=p.zero;have d0:f.cells.size=bD U D t:=by rw[I,<-p.cells];unfold Program.cellsOf;rw[u];rfl
  refine oa l (by simp[ez,l,k]) (by simp[eS,k]) h p.ok aE λq a0=>?_;refine⟨f.cells.toList.map ct,⟨by simp[d0],λj r c a b=>?_⟩,λK' H=>?_⟩
  .have:r=bif X.pK e then .const .nilFunc else .none:=by
    rw[zN]at a;split at a
    .simpa using a.symm
    .cases a
   subst this;cases e0:X.pK e with
   |false=>exact .none _|true=>simp only[dC,ck]at b;obtain⟨v,hv,rfl⟩:=b;rw[z.pK e e0 i f u x v (bF hv)];exact .const .nilFunc rfl
  .refine vf k l u x B aE (λj v c a b=>.inl ?_) H;simp only[dC,jO,a,cj,ax]at b;exact b.symm
 .cases h
include L in
theorem Xu(w:bP P E T X)(i:aW n o=W){x:qm}(a:o.op=.box e x)(y:ox esc o.dst=Y)(h:hS X kx esc fz o s K=O out):eo P E T X w0 I0 n fz o s kx K out:=by
 have m:x∈o.op.operands:=by simp[a,Op.operands]
 unfold hS at h;simp only[a,y]at h;split at h
 .rename_i d t b z;have c:=w.ty _ _ z;cases p:(fz||(s.box d).isNone)with
  |false=>rw[p]at h;cases h
  |true=>
   rw[p]at h;simp only[bf]at h;cases f:aV t with
   |true=>
    rw[f]at h;simp only[bf]at h;split at h
    .rename_i v hv;have A:(mn U D t v).length=bD U D t:=by have:=(h9 (P:=P) (E:=E) (T:=T) (bx:=[]) (g:=λ_=>0) (tick:=0) L D t v (hO L t) c.ok).1;rw[this,dd,ew L]
     refine oa b (by simp[ez,b,a]) (by simp[eS,a]) h c.ok A.symm λq j=>⟨(enc T t v).cells.map .val,h9 L D t v (hO L t) c.ok,λK' k=>?_⟩
     have l:=dk (j.fq i m) hv c.ok;have B:(enc T t v).isAgg=W:=by cases t<;>first|rfl|(simp[aV]at f)
     refine DE a i b (H8 l B) ?_ k;generalize q.ev x=u at l;cases u<;>first|trivial|(simp[bu]at l)
    .cases h
   |false=>
    rw[f]at h;simp only[bq]at h;split at h
    .rename_i r C;have G:bD U D t=1:=by cases t<;>first|rfl|(simp[aV]at f)
     refine oa b (by simp[ez,b,a]) (by simp[eS,a]) h c.ok (by rw[G];rfl) λq j=>?_;obtain⟨q1,J,H,I⟩:=H9 C f q _ j (j.fq i m);exact⟨[q.ev x],.cons I .nil,λK' k=>DE a i b q1 H k⟩
    .cases h
 .cases h
def D9(g:bP P E T X){b:Ty}(d:eV b=W)(L:cw U T):∀(l:Z (Nat×qm))(m:Nat)(xs:Z (bL U.C b)),A6 s b l m=O xs->l.map (·.1)=(List.range l.length).map (·+m)/\l.length=xs.length/\∀q,aX P E T X s q->(∀p∈l,bW p.2=W)->cP q (l.map (·.2))=O (xs.map (enc T b))
 |[],m,xs,h=>by simp only[A6,ax]at h;subst h;exact ⟨rfl,rfl,λq _ _=>rfl⟩|(i,x)::l,m,xs,h=>by
  simp only[A6]at h;cases c:Nat.beq i m with
  |false=>rw[c]at h;cases h
  |true=>
   rw[c]at h;simp only[bf]at h;obtain rfl:=bV c;split at h
   .rename_i v vs j k;simp only[ax]at h;subst h;obtain⟨q1,n,o⟩:=D9 g d L l (i+1) vs k;refine⟨?_,by simp[n],λq e f=>?_⟩
    .simp only[dy,ec,List.range_succ_eq_map,s5];rw[q1];simp only[cX,Dz,ke];apply qT;intro a _;simp only[Function.comp];omega
    .simp only[dy,cP];rw[dk (e.ev x (f (i,x) aE)) j d,o q e λp r=>f p (by simp[r])]
   .cases h
def tN{bx:Z (Nat×Nat×B U.C)}{c:Nat->Nat->V AV}{r:R U.C}(q:bC P E T bx g tick r u)(v:r.aT d=F):bC P E T (bB bx d) (aa g d (g d+1)) (tick+1) r (iM d (g d+1) c u):=by
 have o:=q.mono (bx':=bB bx d) (g':=aa g d (g d+1)) (λd' s=>.inl (by
  have f:d≠d':=λe=>by subst e;rw[v]at s;cases s
  rw[aN,ai f,aJ _ _ (dz f)];exact⟨rfl,rfl⟩)) (cO tick)
 have f:∀d' st x,aB (bB bx d) d'=O (st,x)->d'≠d/\aB bx d'=O (st,x):=λd' st x n=>by
  rw[aN]at n;split at n
  .cases n
  .rename_i h;exact ⟨dz h,n⟩
 cases q with
 |none=>exact .none _|val t x _ av a hv=>rw[Bp a];exact o
 |const w A=>rw[yt];exact o|dT d' k _ a=>refine .dT d' k _ λst u rs j=>?_;obtain⟨b,l⟩:=f _ _ _ j;rw[a _ _ _ l,aJ _ _ b];rfl
 |whole d' _ a=>refine .whole d' _ λst t e xs j=>?_;obtain⟨b,l⟩:=f _ _ _ j;rw[a _ _ _ _ l,aJ _ _ b];simp[iM,b]|fV d' i k y t x _ C a=>refine .fV d' i k y t x _ M λst D e xs j=>?_;obtain⟨b,l⟩:=f _ _ _ j;obtain⟨q1,p,z⟩:=a _ _ _ _ l;rw[q1,aJ _ _ b];exact⟨rfl,p,z⟩
 |sub d' off m _ a=>refine .sub d' off m _ λst t e xs j=>?_;obtain⟨b,l⟩:=f _ _ _ j;obtain⟨q1,p⟩:=a _ _ _ _ l;rw[q1,aJ _ _ b];exact⟨by simp[iM,b],p⟩|_=>exact o
def FT:∀(l:Z (Nat×qm))(g:∀p∈l,bW p.2=W),(tE s (gb l)).all TH=W->∀q,aX P E T X s q->∃a,cP q (l.map (·.2))=O a/\(tE s (gb l)).length=a.length/\(∀(i:Nat)(r:R U.C)(av:AV),(tE s (gb l))[i]?=O r->a[i]?=O av->bC P E T s.b q.g s.tick r (.val av))/\∀(i:Nat)(av:AV),a[i]?=O av->av.isAgg=F/\av.cells=[av]
 |[],_,_,q,k=>⟨[],rfl,rfl,λi r av h=>by simp[tE,gb]at h,λi av h=>by simp at h⟩|(j,x)::l,g,h,q,k=>by
  simp only[gb,tE,qQ,aI]at h;obtain⟨a,d,e,n,o⟩:=FT l (λy t=>g y (by simp[t])) h.2 q k;have b:=k.ev x (g (j,x) aE);have:∃av,q.ev x=.val av/\(av.isAgg=F/\av.cells=[av])/\bC P E T s.b q.g s.tick (s.ev x) (.val av):=by
   have m:=h.1;revert b m;generalize s.ev x=r;generalize q.ev x=u;intro b m;cases b with
   |fn f caps a d e=>exact ⟨_,rfl,⟨rfl,rfl⟩,.fn f caps a d e⟩|lT f caps a d e=>exact ⟨_,rfl,⟨rfl,rfl⟩,.lT f caps a d e⟩
   |_=>cases m
  obtain⟨v,w,z,A⟩:=this;refine⟨v::a,by simp[cP,w,bu,d],by simp[tE,gb,e],λi r av b c=>?_,λi av c=>?_⟩
  .cases i with
   |zero=>simp[tE,gb]at b c;subst b c;exact A|succ i=>exact n i r av (by simpa[tE,gb]using b) (by simpa using c)
  .cases i with
   |zero=>simp at c;subst c;exact z|succ i=>exact o i av (by simpa using c)
def yu:∀{l:Z (Nat×qm)}{n:Nat},yh l n=W->l.map (·.1)=(List.range l.length).map (·+n)
 |[],n,h=>rfl|(i,x)::l,n,h=>by simp only[yh,aI]at h;have e:=bV h.1;rw[ec,List.range_succ_eq_map,dy,dy,yu h.2,s5];simp only[e,cX,Dz,ke];apply qT;intro a _;simp only[Function.comp];omega
def Xv(e0:bP P E T X)(I:aW n o=W)(J:o.op=.buildSlice e len parts)(h:Xi X fz s o.dst e len parts.toList K=O out):eo P E T X w0 I0 n fz o s kx K out:=by
 unfold Xi at h;split at h
 .rename_i d L;replace h:=aA h;obtain⟨m,h⟩:=h;simp only[aI,aU]at m;obtain⟨rfl,A,hlen,f0,g0,C0,h0,i0⟩:=m;have hlen:=bV hlen;obtain⟨v,hu,hz,N⟩:=e0.JL e A;have j0:bE s ({s with r:=ko d s.tick s.r,b:=bB s.b d,tick:=s.tick+1}:S U.C):=by
   refine⟨rfl,cO _,λt st x f l0=>?_,λe st x f l0=>?_,λh=>⟨rfl,rfl⟩⟩
   .simp only[jT,ck]at f;obtain⟨⟨st',Q⟩,e1,g⟩:=f;split at g
    .simp only[bc]at g;omega
    .simp only[bc]at g;rw[e1,g.1,g.2]
   .simp only[aN]at f;split at f
    .cases f
    .exact f
  refine .one _ h (j0.trans (bh _ _)) λq k=>?_;have m0:∀p∈parts.toList,bW p.2=W:=λp n0=>bR I (by simp only[J,Op.operands,wG,dP];simpa using⟨p.1,by simpa using n0⟩);obtain⟨j,o0,a2,a3,a0⟩:=FT parts.toList m0 g0 q k;have p0:parts.toList.map (·.1)=List.range len:=by rw[yu f0,hlen];exact(qT λa _=>lX a).trans (zS _)
  have q0:kW P v j:=λy r0=>by obtain⟨i,hi⟩:=kc.1 r0;obtain⟨e1,g⟩:=a0 i y hi;exact⟨by rw[N,g];rfl,λc m=>by rw[g]at m;simp at m;subst m;exact e1⟩
  refine dE.xd (oR (K:=λq1=>q1=q.cH d v j) J I L (fa hu) hz p0 (by rw[N];omega) o0 q0 rfl) λq1 e1=>?_;subst e1;refine⟨(q.cH d v j).cv d λoff len=>O (.sl ((j.drop off).take len)),λa w l=>tA (bK _ _ _) l,?_,λA=>by cases A⟩;have s0:∀t,((({s with r:=ko d s.tick s.r,b:=bB s.b d,tick:=s.tick+1}:S U.C)).bQ t).aT d=F/\((({s with r:=ko d s.tick s.r,b:=bB s.b d,tick:=s.tick+1}:S U.C)).bQ t=s.bQ t∨(({s with r:=ko d s.tick s.r,b:=bB s.b d,tick:=s.tick+1}:S U.C)).bQ t=.none):=λt=>by
   rw[S.gA,S.gA];simp only[jT];cases B:aB s.r t with
   |none=>exact ⟨rfl,.inl rfl⟩|some x=>
    obtain⟨st,x⟩:=x;simp only[cj];cases f:x.aT d with
    |true=>simp[R.aT]|false=>simp[f]
  rw[L];refine⟨λt=>?_,λd'=>?_,λt st x f=>?_,λd' st x f=>?_,k.heap,k.df⟩
  .by_cases C:d=t
   .subst C;have e1:(S.put ({s with r:=ko d s.tick s.r,b:=bB s.b d,tick:=s.tick+1}:S U.C) (O d) (.sJ (tE s (gb parts.toList)))).bQ d=.sJ (tE s (gb parts.toList)):=by unfold S.bQ S.put;simp[aQ]
    have g:((q.cH d v j).cv d λoff len=>O (.sl ((j.drop off).take len))).r d=.val (.sl j):=by simp[St.cv,St.cH,iM,dh]
    rw[e1,g];refine .sJ _ _ a2 (λi r av l D=>?_) λi av D=>(a0 i av D).1;have t0:=tN (d:=d) (c:=λoff len=>O (.sl ((j.drop off).take len))) (a3 i r av l D) (by simpa using cS.1 i0 r (bF l));exact t0.later (cO _)
   .obtain ⟨b0,m2⟩:=s0 t;have e1:(S.put ({s with r:=ko d s.tick s.r,b:=bB s.b d,tick:=s.tick+1}:S U.C) (O d) (.sJ (tE s (gb parts.toList)))).bQ t=({s with r:=ko d s.tick s.r,b:=bB s.b d,tick:=s.tick+1}:S U.C).bQ t:=by unfold S.bQ S.put;simp[aQ,C]
    have g:((q.cH d v j).cv d λoff len=>O (.sl ((j.drop off).take len))).r t=iM d (q.g d+1) (λoff len=>O (.sl ((j.drop off).take len))) (q.r t):=by simp only[St.cv,St.cH,aJ _ _ (dz C),bK]
    rw[e1,g];rcases m2 with m2|m2
    .rw[m2]at b0⊢;exact(tN (k.cu t) b0).later (cO _)
    .rw[m2];exact .none _
  .show nM P E T X (bB s.b d) _ _ (aB (bB s.b d) d') _;by_cases z:d=d'
   .rw[aN,aj z];trivial
   .have G:=k.bG d';have g:((q.cH d v j).cv d λoff len=>O (.sl ((j.drop off).take len))).b d'=(q.b d').map (PY d (q.g d+1) λoff len=>O (.sl ((j.drop off).take len))):=by simp only[St.cv,St.cH,Oa,ai (dz z),aJ _ _ (dz z),bK]
    rw[aN,ai z,g];cases B:aB s.b d' with
    |none=>trivial|some x=>
     obtain⟨st,x⟩:=x;rw[B]at G;have u0:=tI h0 (t:=d') (st:=st) (x:=x) (by rw[aN,ai z];exact B);cases x with
     |bi t e xs=>obtain⟨H,b2⟩:=G;exact⟨H,by rw[b2];rfl⟩|cells u rs=>obtain⟨H,b2,cs,v0,x0,y0⟩:=G;refine⟨H,b2,_,by rw[v0];rfl,by simpa using x0,λi r D0 l d0=>?_⟩;simp only[dC,ck]at d0;obtain⟨A0,B0,rfl⟩:=d0;exact(tN (y0 i r A0 l B0) (eF.1 u0 r (bF l))).later (cO _)
  .simp only[S.put,aQ]at f⊢;split at f
   .simp only[ax,bc]at f;omega
   .rw[jT]at f;simp only[ck]at f;obtain⟨⟨st',Q⟩,e1,g⟩:=f;split at g
    .simp only[bc]at g;omega
    .simp only[bc]at g;have:=k.Bj t st' Q e1;omega
  .simp only[S.put]at f⊢;rw[aN]at f;split at f
   .cases f
   .have:=k.DU d' st x f;omega
 .cases h
include L in
theorem Di(c:bP P E T X)(x:∀e t,X.ty e=O t->P.cellsOf e<=256)(j:aW n o=W)(b:o.op=.buildSlice e len parts)(h:hS X kx esc fz o s K=O out):eo P E T X w0 I0 n fz o s kx K out:=by
 unfold hS at h
 simp only[b]at h
 split at h
 .rename_i d A k l B C
  obtain⟨s',h,u,v,D,w⟩:=vB (P:=P) (E:=E) (T:=T) (w0:=w0) (I0:=I0) (n:=n) c _ fz s h
  suffices m:eo P E T X w0 I0 n fz o s' kx K out by
   cases fz with
   |false=>rw[v rfl]at m;exact m
   |true=>exact eo.xd u w m
  clear u v D w
  split at h
  .rename_i xs G
   cases f:(Nat.beq parts.toList.length len&&decide (len<=65536))with
   |false=>rw[f]at h;cases h
   |true=>
    rw[f]at h
    simp only[bf]at h
    simp only[aI,aU]at f
    have H:=bV f.1
    have I:=c.ty _ _ B
    obtain⟨J,r⟩:=I.elem A k rfl C
    have g:=c.ty _ _ r
    obtain⟨q1,g0,N⟩:=D9 c g.ok L _ _ _ G
    refine xg l (by simp[ez,l,b]) (by simp[eS,b]) h r λq Q K' R=>?_
    have S:tt P k=W:=by
     obtain⟨i,h0,U,a0,b0,c0,_⟩:=g.zero
     simp only[tt,aI,aU]
     refine⟨g.pos,?_⟩
     unfold ng
     simp only[U,a0]
     rw[aj (by rw[b0,c0];simp)]
     rfl
    refine oR b j l (fa J) S (by rw[q1,H];exact (qT λa _=>lX a).trans (zS _)) ?_ (N q Q λp d0=>bR j ?_) (λy e0=>?_) R
    .have f0:=x _ _ r
     calc len*P.cellsOf k<=65536*256:=Nat.mul_le_mul f.2 f0
      _=16777216:=rfl
    .simp only[b,Op.operands,wG,dP]
     simpa using⟨p.1,by simpa using d0⟩
    .obtain ⟨z,_,rfl⟩:=dP.1 e0
     exact⟨by rw[ew L,g.cells],pO L z⟩
  .cases h
 .exact Xv c j b h
 .cases h
def ze.trans {s s':S U.C} {q q'':St} (j:ze s q q') (l:ze s' q' q'') (m:aX P E T X s' q') (f:∀d,aB s.b d=Y->aB s'.b d=Y) (n:s'.m=s.m):ze s q q'':=by
 obtain⟨o,a2,a3,a4,a5,p⟩:=j;obtain⟨r,b2,v,w,y,z⟩:=l;have A:∀d,q'.b d=Y->q''.b d=Y:=λd e2=>by
  have:aB s'.b d=Y:=by
   have b:=m.bG d;cases B:aB s'.b d with
   |none=>rfl|some x=>
    obtain⟨st,x⟩:=x;rw[B]at b;cases x with
    |cells u rs=>obtain ⟨_,_,cs,a,_⟩:=b;rw[e2]at a;cases a
    |bi t e xs=>obtain ⟨_,a⟩:=b;rw[e2]at a;cases a
  rw[b2 d this,e2]
 refine⟨λt=>?_,λd h=>by rw[b2 d (f d h),a2 d h],by rw[v,a3],λk i g h=>?_,by rw[y,a5],λd=>(p d).trans (z d)⟩
 .rcases o t with e'|⟨d,gg,off,len,e1,e2,c⟩
  .rcases r t with e|⟨d,gg,off,len,e1,e2,c⟩
   .left;rw[e,e']
   .right;exact ⟨d,gg,off,len,by rw[<-e',e1],λh=>e2 (f d h),c⟩
  .right;exact ⟨d,gg,off,len,e1,e2,A d c⟩
 .have e:=w k i g (by rw[n];exact h);have e':=a4 k i g h;exact⟨by rw[e.1,e'.1],by rw[e.2,e'.2]⟩
def Fr.oc {s:S U.C} {q:St} (h:ze s q q') (l:eS X s o.op=F->q'=q):Fr X s o q (q'.put o.dst u):=by
 obtain⟨m,a2,a3,a4,a5,n⟩:=h;have f:∀t,o.dst≠O t->(q'.put o.dst u).r t=q'.r t:=λt a=>by
  cases c:o.dst with
  |none=>rfl|some d=>exact aJ _ _ λe=>a (by rw[c,e])
 have p:(q'.put o.dst u).b=q'.b/\(q'.put o.dst u).g=q'.g/\(q'.put o.dst u).a=q'.a/\(q'.put o.dst u).u=q'.u/\(q'.put o.dst u).df=q'.df:=by cases o.dst<;>exact ⟨rfl,rfl,rfl,rfl,rfl⟩
 obtain⟨b,b2,g,j,r⟩:=p;refine⟨λt a _=>by rw[f t a,b];exact (m t).imp id λ⟨d,gg,off,len,e1,e2,v⟩=>⟨d,gg,off,len,e1,e2,.inl v⟩,λd c _=>⟨by rw[b];exact a2 d c,by rw[b2,a3]⟩,λk i w x=>by rw[g,j];exact a4 k i w x,by rw[r,a5],λd _=>⟨by rw[b];exact n d,by rw[b2,a3]⟩,λa=>?_⟩;have:=l a;subst this;exact⟨b,b2,g,j,f⟩
def Ea{U:cg}:∀{k:Nat}{fs:Z Ty}{f off:Nat}{t:Ty},oX U k fs f=O (off,t)->t∈fs
 |k,[],f,off,t,h=>by cases f<;>simp[oX]at h
 |k,a::fs,0,off,t,h=>by simp only[oX,ax,bc]at h;simp[h.2]|k,a::fs,f+1,off,t,h=>by simp only[oX]at h;exact s6 _ (Ea h)
def ld:∀{qs:Z cy}{zs:Z AV},cZ qs=O zs↔qs.map bu=zs.map O
 |[],zs=>by cases zs<;>simp[cZ]
 |r::qs,zs=>by
  cases zs with
  |nil=>simp only[cZ,qU,dy,reduceCtorEq,iff_false];intro h;split at h<;>simp at h|cons z zs=>simp only[cZ,dy,Dz];rw[<-ld (qs:=qs) (zs:=zs)];cases a:bu r<;>cases b:cZ qs<;>simp
def rC{zs vs:Z AV}(h:cZ qs=O zs):cZ (bd qs k (vs.map .val))=O (bd zs k vs):=by rw[ld]at h⊢;unfold bd;simp only[kZ,mZ,wF,h,dd,s5];rfl
def ee.bd {bx:Z (Nat×Nat×B U.C)} {rs vs:Z (R U.C)} {ws:Z cy} (h:ee P E T bx g tick rs qs) (h':ee P E T bx g tick vs ws):ee P E T bx g tick (Ev.bd rs k vs) (Ev.bd qs k ws):=by unfold Ev.bd;rw[h'.1];exact((h.take k).append h').append (h.drop _)
include L in
theorem xh(r:bP P E T X){fs:Z Ty}(u:fs.all eV=W){pl:Z (Nat×Nat)}(w:∀f off t,oX U 0 fs f=O (off,t)->pl[f]?=O (off,bD U D t)){K:S U.C->Z (R U.C)->V α}:
  ∀(l:Z (Nat×qm))(s:S U.C)(cs:Z (R U.C)),((∃k,s.m k=W)->E.dc=F)->O1 fz fs s l cs K=O out->(∀p∈l,bW p.2=W)->
  ∃s' a,K s' a=O out/\bE s s'/\(∀d,aB s.b d=Y->aB s'.b d=Y)/\∀q,aX P E T X s q->∃q' ps,iz P E w0 I0 n q q'/\aX P E T X s' q'/\kX q q'/\(fz=F->ze s q q')/\((∀p∈l,lC (s.ev p.2)=F)->q'=q/\s'=s)/\iu q' pl l=O ps/\∀qs b,ee P E T [] (λ_=>0) 0 cs qs->cZ qs=O b->∃y,ee P E T [] (λ_=>0) 0 a y/\cZ y=O (dj b ps)
 |[],s,cs,c,h,e=>⟨s,cs,h,.refl s,λ_ h=>h,λq g=>⟨q,[],.refl q,g,.refl q,λ_=>.refl s q,λ_=>⟨rfl,rfl⟩,rfl,λqs b h1 j=>⟨qs,h1,j⟩⟩⟩|(i,x)::l,s,cs,c,h,e=>by
  simp only[O1]at h;split at h
  .rename_i off t z;have A:eV t=W:=cS.1 u t (Ea z);obtain⟨H,v,h,m,B,i0,I⟩:=lD (w0:=w0) (I0:=I0) (n:=n) L r c (e (i,x) aE) h;obtain⟨s2,a,h,J,N,Q⟩:=xh r u w l H _ (by rw[m.m];exact c) h λp o=>e p (by simp[o]);refine⟨s2,a,h,m.trans J,λd a0=>N d (B d a0),λq g=>?_⟩;obtain⟨q1,av,hv⟩:=I q g;obtain⟨b0,ps,c0,a2,a3,a4,a5,d0,e0⟩:=Q q1 hv.nN;have f0:=fW hv.Dh A;subst f0;refine⟨b0,(off,enc T t v)::ps,hv.oE.trans c0,a2,hv.jb.trans a3,λC=>(hv.fr C).trans (a4 C) hv.nN B m.m,λG=>?_,?_,λqs b h1 j=>?_⟩
   .obtain ⟨g0,h0⟩:=hv.still (G (i,x) aE);subst g0 h0;exact a5 λp o=>G p (by simp[o])
   .simp only[iu,w _ _ _ z,a3 x _ hv.CU,d0,ew L];simp
   .simp only[dj];refine e0 _ _ ?_ (rC j);rw[mU];exact h1.bd (h9 L D t v (hO L t) A)
  .cases h
def yv(A:jj P E T X e t){rs:Z (R U.C)}(p:lJ U D t=O rs)(f:R U.C->R U.C)(B:∀r v,(bC P E T [] (λ_=>0) 0 r (ct v)∨(v=.slice Y 0 0/\bC P E T [] (λ_=>0) 0 r (.val .gx)))->bC P E T [] (λ_=>0) 0 (f r) (ct v)∨(v=.slice Y 0 0/\bC P E T [] (λ_=>0) 0 (f r) (.val .gx))):∃qs a,ee P E T [] (λ_=>0) 0 (rs.map f) qs/\cZ qs=O a/\ZC P e a/\a.length=rs.length:=by
 obtain⟨i,q,g1,g2,g3,g4,g5,C⟩:=A.zero;obtain⟨x,G⟩:=C rs p;have d:∀(rs:Z (R U.C))(vs:Z Jz),rs.length=vs.length->(∀v∈vs,v.oneCell'=W)->(∀(i:Nat)(r:R U.C)(v:Jz),rs[i]?=O r->vs[i]?=O v->bC P E T [] (λ_=>0) 0 r (ct v)∨(v=.slice Y 0 0/\bC P E T [] (λ_=>0) 0 r (.val .gx)))->
   ∃qs a,ee P E T [] (λ_=>0) 0 rs qs/\cZ qs=O a/\a.length=vs.length/\∀(j:Nat)(v:Jz)(c:AV),vs[j]?=O v->a[j]?=O c->Hm v c:=by
  intro rs;induction rs with
  |nil=>intro vs l _ _;cases vs with
   |nil=>exact ⟨[],[],.nil,rfl,rfl,λj v c h=>by simp at h⟩|cons v vs=>simp at l
  |cons r rs H=>
   intro vs l m hv;cases vs with
   |nil=>simp at l|cons v vs=>
    obtain⟨qs,a,b1,b2,n,s⟩:=H vs (by simpa using l) (λv hv=>m v (by simp[hv])) λi I g d b=>hv (i+1) I g (by simpa using d) (by simpa using b);have y:∀(u:cy)(c:AV),bC P E T [] (λ_=>0) 0 r u->bu u=O c->Hm v c->∃qs a,ee P E T [] (λ_=>0) 0 (r::rs) qs/\cZ qs=O a/\a.length=(v::vs).length/\∀(j:Nat)(g:Jz)(c:AV),(v::vs)[j]?=O g->a[j]?=O c->Hm g c:=by
     intro u c J w p;refine⟨u::qs,c::a,.cons J b1,by simp[cZ,w,b2],by simp[n],λj g K d b=>?_⟩;cases j with
     |zero=>simp at d b;subst d b;exact p|succ j=>exact s j g K (by simpa using d) (by simpa using b)
    rcases hv 0 r v rfl rfl with k|⟨k,L⟩
    .refine y _ (dM v) k ?_ (.inl rfl);rw[Ht (m v aE)];unfold VT;split
     .rename_i e;rw[e];rfl
     .rfl
    .exact y _ .gx L rfl (.inr ⟨k,rfl⟩)
 have m:∀v∈q.cells.toList,v.oneCell'=W:=λv hv=>qO.1 g3 v (by simpa using hv);obtain⟨qs,a,b1,b2,n,s⟩:=d (rs.map f) q.cells.toList (by simpa using x.symm) m λj r v o hv=>by
  simp only[dC,ck]at o;obtain⟨z,o,rfl⟩:=o;refine B z v ?_;rcases G j z v o (by simpa using hv)with b|⟨b,k⟩
  .exact .inl (b _ _ _)
  .exact .inr ⟨b,k _ _ _⟩
 refine⟨qs,a,b1,b2,⟨i,q,g1,g2,g3,g4,by simpa using n,λj v c hv w=>s j v c (by simpa using hv) w⟩,?_⟩;rw[n];simpa using x
theorem Bt(b:jj P E T X e t){rs:Z (R U.C)}(c:lJ U D t=O rs):∃qs a,ee P E T [] (λ_=>0) 0 rs qs/\cZ qs=O a/\ZC P e a/\a.length=rs.length:=by have:=yv (P:=P) (E:=E) (X:=X) b c id λr v h=>h;rwa[zS]at this
def Ia(c:jj P E T X e t){rs:Z (R U.C)}(d:lJ U D t=O rs):∃qs b,ee P E T [] (λ_=>0) 0 (rs.map My) qs/\cZ qs=O b/\ZC P e b/\b.length=rs.length:=by
 refine yv c d My λr v h=>?_;unfold My;split
 .rename_i i;rcases h with h|⟨j,f⟩
  .right;generalize a:ct v=u at h;cases h with
   |bM _ _ g=>
    refine⟨?_,.gx _ g⟩;unfold ct at a;split at a
    .rfl
    .cases a
    .cases a
  .cases f
 .exact h
def KF{x:bL U.C t}(h:kr P E T t x av)(hs:aV t=F):av.isAgg=F:=by
 cases t with
 |struct n=>cases hs
 |fn a b=>obtain ⟨f,caps,rfl,_⟩:=h;rfl|qu a b=>obtain ⟨f,caps,rfl,_⟩:=h;rfl
 |jR a b=>obtain ⟨f,caps,rfl,_⟩:=h;rfl|Mm f t=>obtain ⟨_,rfl⟩:=h;rfl
 |zb k off=>obtain ⟨_,rfl⟩:=h;rfl|int k=>obtain ⟨_,rfl⟩:=h;rfl
 |bool=>obtain ⟨_,rfl⟩:=h;rfl|str=>obtain ⟨_,rfl⟩:=h;rfl
 |unit=>obtain ⟨h,_⟩:=h;cases h
 |aq t=>obtain ⟨_,rfl⟩:=h;rfl|ref t=>obtain ⟨_,rfl⟩:=h;cases x<;>rfl
 |cell t=>obtain ⟨_,rfl⟩:=h;rfl|gn a b=>obtain ⟨h,_⟩:=h;cases h
 |ptr k=>obtain ⟨_,rfl⟩:=h;cases x<;>rfl
 |hs k=>obtain ⟨_,rfl⟩:=h;cases x<;>rfl
 |mp k=>obtain ⟨_,rfl⟩:=h;cases x<;>rfl
include L in
theorem Qz(j0:bP P E T X)(P0:(∃k,s.m k=W)->E.dc=F)(b0:aW n o=W)(y:o.op=.build e parts)(h:hS X kx esc fz o s K=O out):eo P E T X w0 I0 n fz o s kx K out:=by
 unfold hS at h;simp only[y]at h;split at h
 .rename_i m B;have z:=j0.ty _ _ B;have n1:∀p∈parts.toList,bW p.2=W:=λp a=>bR b0 (by simp only[y,Op.operands,wG,dP];simpa using⟨p.1,by simpa using a⟩);cases l0:((X.j9 e).isSome&&(Nat.beq parts.toList.length (U.dA m).length&&(yh parts.toList 0&&(tE s (gb parts.toList)).all TH)))with
  |true=>
   rw[l0]at h;simp only[bf]at h;simp only[aI]at l0;obtain⟨o1,G,q1,r1⟩:=l0;have G:=bV G;obtain⟨H,s1⟩:=Ab.1 o1;obtain⟨N,s0,c0,Q0,t1⟩:=j0.j9 e H s1;obtain⟨t0,u1,_⟩:=t1 m B;refine bX h λq d0=>?_;obtain⟨e0,I,f0,u0,J⟩:=FT parts.toList n1 r1 q d0;obtain⟨i,m0,R0,v1,w1,S0,_⟩:=z.zero;have v0:m0.cells.size=N:=by rw[S0,<-u1,<-z.cells];unfold Program.cellsOf;rw[R0];rfl
   have x1:e0.length=N:=by have:=(lz I).1;simp only[dd]at this;omega
   have y1:ki P e=O ((List.range N).map λj=>(j*P.cellsOf H,P.cellsOf H)):=by unfold ki;simp only[s0];rw[aj M]
   have A1:∀(i:Nat)(av:AV),e0[i]?=O av->av.cells=[av]:=λi av b=>(J i av b).2;have A:ZC P e (m0.cells.toList.map dM):=⟨i,m0,R0,v1,w1,S0,aE,λj v c hv c0=>by simp only[dC,jO,hv,cj,ax]at c0;exact .inl c0.symm⟩
   have B1:∀(l:Z (Nat×qm))(j:Nat)(Q:Z AV),yh l j=W->cP q (l.map (·.2))=O Q->j+l.length<=N->(∀(i:Nat)(av:AV),Q[i]?=O av->av.cells=[av])->∃ps,iu q ((List.range N).map λj=>(j*P.cellsOf H,P.cellsOf H)) l=O ps/\∀zs:Z AV,zs.length=N->dj zs ps=zs.take j++Q++zs.drop (j+Q.length):=by
    intro l;induction l with
    |nil=>intro j Q _ d _ _;simp only[qU,cP,ax]at d;subst d;exact⟨[],rfl,λzs _=>by simp[dj]⟩|cons p l x0=>
     intro j Q hi d C1 T0;obtain⟨i,x⟩:=p;simp only[yh,aI]at hi;have e:=bV hi.1;subst e;simp only[dy,cP]at d;split at d
     .rename_i av r b C;simp only[ax]at d;subst d;simp only[ec]at C1;obtain⟨ps,y0,A0⟩:=x0 (i+1) r hi.2 C M λk U0 D1=>T0 (k+1) U0 (by simpa using D1);have X0:=T0 0 av rfl;refine⟨(i,av)::ps,?_,λzs E1=>?_⟩
      .simp only[iu,b,y0];have:((List.range N).map λj=>(j*P.cellsOf H,P.cellsOf H))[i]?=O (i,1):=by simp[c0,(M:i<N)]
       simp[this,X0]
      .simp only[dj,X0];rw[A0 _ (by rw[bI cM];exact E1)];have N1:i<zs.length:=M;unfold bd;simp only[x9,ec,kU,cX];rw[show List.take (i+1) (List.take i zs++[av]++List.drop (i+1) zs)=List.take i zs++[av] by rw[JQ cM];exact dh cM];rw[show List.drop (i+1+r.length) (List.take i zs++[av]++List.drop (i+1) zs)=List.drop (i+(r.length+1)) zs by rw[List.drop_append];rw[List.drop_eq_nil_of_le cM];simp only[oy,ey,jE,x9,Hg];congr 1;omega];simp
     .cases d
   obtain⟨ps,y0,A0⟩:=B1 parts.toList 0 e0 q1 I M A1;have n0:=A0 (m0.cells.toList.map dM) (by simp[v0]);simp only[qV,oy,cX]at n0;rw[List.drop_eq_nil_of_le (by simp[v0,x1]),zK]at n0;have S:dQ P E w0 I0 n o q (.val (.agg e0)):=by have:=nU (E:=E) (w0:=w0) (I0:=I0) (n:=n) y b0 y1 A (by simp[v0,c0];omega) y0;rwa[n0]at this
   exact⟨_,S,.agg m _ e0 f0 u0 λi av b=>(J i av b).1⟩
  |false=>
  rw[l0]at h;simp only[bq]at h;split at h
  .rename_i cs A;obtain⟨pl,g0,d1⟩:=z.Ky m rfl;have f1:∀p∈parts.toList,bW p.2=W:=λp a=>bR b0 (by simp only[y,Op.operands,wG,dP];simpa using⟨p.1,by simpa using a⟩);split at h
   .obtain ⟨s',a0,h,B0,G1,C0⟩:=xh (w0:=w0) (I0:=I0) (n:=n) L j0 (L.ok m) d1 _ _ _ P0 h f1;replace h:=aA h;obtain⟨Q0,h⟩:=h;refine .one _ h (B0.trans (bh _ _)) λq d0=>?_;obtain⟨q',ps,I,f0,u0,J,D0,o0,E0⟩:=C0 q d0;obtain⟨qs,f,G0,H0,J0,h0⟩:=Ia z A;obtain⟨p0,q0,i0⟩:=E0 qs f G0 H0;have S:dQ P E w0 I0 n o q' (.val (.agg (dj f ps))):=by refine nU y b0 g0 J0 ?_ o0;have:=z.rz m rfl pl g0;rw[h0,lc D _ cs (hO L _) A];exact this
    have G:a0.length=(dj f ps).length:=by have:=bH List.length (ld.1 i0);simp only[dd]at this;rw[q0.1,this]
    have i1:∀(i:Nat)(r:R U.C)(av:AV),a0[i]?=O r->(dj f ps)[i]?=O av->(∀bx g tick,bC P E T bx g tick r (.val av))/\av.isAgg=F:=λi r av C b=>by
     have d:(p0.map bu)[i]?=O (O av):=by rw[ld.1 i0,dC,b];rfl
     simp only[dC,ck]at d;obtain⟨u,s0,K0⟩:=d;have j1:=q0.2 i r u C s0;have r0:=cS.1 Q0 r (bF C);cases j1 with
     |val t x _ U0 k1 l1=>rw[K0]at k1;cases k1;exact⟨λbx g tick=>.val t x _ av rfl l1,KF l1 (by simpa[V6]using r0)⟩
     |gx t y=>simp only[bu,ax]at K0;subst K0;exact⟨λbx g tick=>.gx t y,rfl⟩|_=>cases r0
    have H1:∀(i:Nat)(av:AV),(dj f ps)[i]?=O av->∃r,a0[i]?=O r:=λi av b=>⟨_,bS (by rw[G];exact (aY.1 b).1)⟩
    refine I.mr (jQ _ ⟨f0.put o.dst (.agg m a0 _ G (λi r av C b=>(i1 i r av C b).1 _ _ _) λi av b=>?_),λL0=>.oc (J L0) λB=>?_⟩ S)
    .obtain ⟨r,C⟩:=H1 i av b;exact(i1 i r av C b).2
    .refine (D0 λp a=>?_).1;simp only[y,eS,uD]at B;simpa using B p a
   obtain⟨s',a0,h,B0,G1,C0⟩:=xh (w0:=w0) (I0:=I0) (n:=n) L j0 (L.ok m) d1 _ _ _ P0 h f1;split at h
   .rename_i v I1 hv;refine .one _ h (B0.trans (bh _ _)) λq d0=>?_;obtain⟨q',ps,I,f0,u0,J,D0,o0,E0⟩:=C0 q d0;obtain⟨qs,f,G0,H0,J0,h0⟩:=Bt z A;obtain⟨p0,q0,i0⟩:=E0 qs f G0 H0;have S:dQ P E w0 I0 n o q' (.val (.agg (dj f ps))):=by refine nU y b0 g0 J0 ?_ o0;have:=z.rz m rfl pl g0;rw[h0,lc D _ cs (hO L _) A];exact this
    have J1:AV.agg (dj f ps)=enc T (.struct m) v:=by
     obtain⟨_,P1,N0⟩:=hP L D (.struct m) a0 p0 v I1 (hO L _) z.ok q0 hv;have G:p0.length=bD U D (.struct m):=by
      have K1:(dj f ps).length=f.length:=by
       have:=z.rz m rfl pl g0;have L1:∀(l:Z (Nat×qm))(ps:Z (Nat×AV))(zs:Z AV),iu q' pl l=O ps->zs.length=bD U D (.struct m)->(dj zs ps).length=zs.length:=by
        intro l;induction l with
        |nil=>intro ps zs a _;simp only[iu,ax]at a;subst a;rfl|cons p l x0=>
         intro ps zs a A;obtain⟨i,x⟩:=p;simp only[iu]at a;split at a
         .rename_i off sz w r d j1 r0;split at a
          .rename_i n0;simp only[ax]at a;subst a;have Q1:off+sz<=bD U D (.struct m):=by have:=cS.1 this (off,sz) (bF d);simpa using this
           have t0:(bd zs off w.cells).length=zs.length:=bI M;simp only[dj];rw[x0 r _ r0 (by rw[t0,A]),t0]
          .cases a
         .cases a
       exact L1 _ _ _ o0 (by rw[h0,lc D _ cs (hO L _) A])
      have m1:=bH List.length (ld.1 i0);simp only[dd]at m1;rw[m1,K1,h0,lc D _ cs (hO L _) A]
     rw[<-G,lW,i0]at N0;simp only[ax]at N0;rw[N0];exact iZ v rfl
    rw[J1]at S;refine I.mr (jQ _ ⟨f0.put o.dst (bg z.ok),λL0=>.oc (J L0) λB=>?_⟩ S);refine(D0 λp a=>?_).1;simp only[y,eS,uD]at B;simpa using B p a
   .cases h
  .cases h
 .cases h
end
end Go.X
namespace Go.X
open Go Go.Ev Go.MapKept
variable{e:JA}{k:Nat}{t:Ty}
section
variable{P:qK}{E:cm}{U:cg}{T:dm U.C}{X:gj U}{w0:zI}{I0:aD}{n:Nat}{o:JB}{s:S U.C}{q:St}{α:Type}{out:α}{fz:tl}{kx:rq U->S U.C->V α}{K:S U.C->V α}{esc:Z (Nat×Nat)}
variable(L:cw U T)
include L in
theorem od(d:jj P E T X e t){z:bL U.C t}(a:vo U t=O z):ZC P e (enc T t z).cells:=by
 unfold vo at a;split at a
 .rename_i g h b;simp only[ax]at a;subst a;obtain⟨rs,f,b⟩:=bind_some b;obtain⟨qs,k,b1,b2,i,l⟩:=Bt d f;obtain⟨_,d2,c⟩:=hP L D t rs qs g h (hO L _) d.ok b1 b;have j:qs.length=bD U D t:=by rw[<-b1.1];exact lc D _ rs (hO L _) f
  rw[<-j,lW,b2]at c;simp only[ax]at c;rw[<-c];exact i
 .cases a
include L in
theorem Bu:∀(k:Nat)(t:Ty)(x:bL U.C t),gk U k t=W->((gr U k t).all λ|.hs _=>F|_=>W)=W->∀c∈(enc T t x).cells,c≠.gx
 |k,t,x,d,e,c,a=>by
  by_cases b:aV t=W
  .cases t with
   |struct m=>
    cases k with
    |zero=>simp[gk]at d|succ k=>
     simp only[gk,cS]at d;have g:∀(ts:Z Ty)(y:HL U.C ts),(∀t∈ts,gk U k t=W)->((jS (gr U k) ts).all λ|.hs _=>F|_=>W)=W->∀c∈ka T ts y,c≠.gx:=by
      intro ts;induction ts with
      |nil=>intro y _ _ c a;simp[ka]at a|cons t ts i=>
       intro y h f c a;simp only[jS,List.all_append,aI]at f;simp only[ka]at a;rcases dR.1 a with a|a
       .exact Bu k t _ (h t aE) f.1 c a
       .exact i _ (λt j=>h t (by simp[j])) f.2 c a
     simp only[enc,AV.cells]at a;rw[L.cells]at a;exact g _ (U.un m x) d e c a
   |_=>simp[aV]at b
  .have b:aV t=F:=by simpa using b
   rw[iX b]at a;simp only[iC]at a;subst a;have:(match t with|.hs _=>F|_=>W)=W:=by cases t<;>first|(simp[aV]at b;done)|(cases k<;>simp[gr]at e<;>first|rfl|exact e)
   cases t<;>first|(simp[aV]at b;done)|(cases this;done)|(intro h;cases h;done)|skip
   all_goals
    change V _ at x;cases x<;>(intro h;cases h)
include L in
theorem QA(d:jj P E T X e t){z:bL U.C t}(l:Xh U t=W)(m:vo U t=O z):ng P e=O (enc T t z):=by
 obtain⟨i,a,h1,f,n,o,k,p⟩:=od L d m;have q:=Bu L D t z (hO L t) l;have g:(enc T t z).cells=a.cells.toList.map dM:=by
  refine sC λj=>?_;have r:a.cells.toList[j]?=a.cells[j]?:=aE;rw[dC,r];cases b:a.cells[j]? with
  |none=>
   have:a.cells.size<=j:=by simpa using b
   rw[iE,uG (by rw[k];exact this)]
  |some v=>
   have s:j<a.cells.size:=by
    rcases tf j a.cells.size with h|h
    .exact h
    .rw[G8 h]at b;cases b
   have:(enc T t z).cells[j]?=O ((enc T t z).cells[j]'(by rw[k];exact s)):=bS _;rw[this,cj];congr 1;rcases p j v _ b this with h|⟨_,h⟩
   .exact h
   .exact absurd h (q _ (gw _))
 have u:ng P e=O (nf a):=by unfold ng;rw[h1];simp only;rw[f];simp only;exact aj (by rw[n,o];simp)
 rw[u];congr 1;cases c:aV t with
 |false=>obtain⟨w,x⟩:=d.zv1 c i a h1 f;rw[x];rw[iX c,w]at g;simpa using g.symm|true=>obtain⟨y,A,g1,g2,g3,g4,g5,B⟩:=d.zero;rw[h1]at g1;cases g1;rw[f]at g2;cases g2;obtain⟨cs,rfl⟩:=g5 c;rw[<-iZ z c,g];rfl
include L in
theorem FU(u:bP P E T X)(v:aW n o=W){m l:qm}(c:o.op=.makeSlice e m l)(h:hS X kx esc fz o s K=O out):eo P E T X w0 I0 n fz o s kx K out:=by
 have B:m∈o.op.operands:=by simp[c,Op.operands]
 have b0:l∈o.op.operands:=by simp[c,Op.operands]
 unfold hS at h;simp only[c]at h;split at h
 .rename_i d C D k p G H f g;have I:=u.ty _ _ G;obtain⟨J,w⟩:=I.elem C D rfl H;have r:=u.ty _ _ w;split at h
  .rename_i z N;obtain⟨_,i,h⟩:=bind_some h;have i:=dp i;simp only[cE,aI,aU]at i;obtain⟨Q,R,S⟩:=i;refine xg p (by simp[ez,p,c]) (by simp[eS,c]) h w λq U c0 x=>?_;obtain⟨a0,y⟩:=jr (U.fq v B) f;have t:∃A,q.ev l=.val (.fl (.int A k)):=by
    split at g
    .rename_i a b;obtain rfl:=bV g;exact⟨a0,y⟩
    .rename_i j a d0 b;obtain rfl:=di g;have:s.ev (.const (.int j a))=.const (.int j a):=rfl;rw[this]at f;simp only[AS,ax]at f;subst f;exact⟨_,rfl⟩
    .cases g
   obtain⟨A,t⟩:=t;refine wW c v p J (od L r N) (pO L z) r.pos y t Q R (by rw[<-r.bytes];exact S) ?_;rw[List.map_replicate]at x;exact x
  .cases h
 .cases h
def QB(j:bP P E T X)(d:aW n o=W){x:qm}(b:o.op=.panic x)(h:hS X kx esc fz o s K=O out):eo P E T X w0 I0 n fz o s kx K out:=by
 have g:x∈o.op.operands:=by simp[b,Op.operands]
 unfold hS at h;simp only[b]at h;split at h
 .rename_i e t v i;have f:∀q,aX P E T X s q->eV t=W/\q.ev x=.val (.mQ e (enc T t v)):=λq a=>by
   have c:=a.fq d g;rw[i]at c;generalize q.ev x=u at c;cases c with
   |mQ _ _ _ h=>exact ⟨h,rfl⟩
  exact .dO _ _ h (.refl s) λq a=>⟨(f q a).1,Hu b d (f q a).2 ⟨a,rfl⟩⟩
 .cases h
include L in
theorem KG(a:bP P E T X)(b:aW n o=W){e':JA}{x:qm}(d:o.op=.convert e e' x)(h:hS X kx esc fz o s K=O out):eo P E T X w0 I0 n fz o s kx K out:=by
 have p:x∈o.op.operands:=by simp[d,Op.operands]
 unfold hS at h;simp only[d]at h;split at h
 .rename_i k k' j l;split at h
  .rename_i m r;refine bX h (ky b λq f=>?_);obtain⟨A,u⟩:=jr (f.fq b p) r;unfold fU;simp only[d,u,PU,(a.ty _ _ j).int k rfl,(a.ty _ _ l).int k' rfl];exact bg (t:=.int k') rfl
  .cases h
 .rename_i j l;split at h
  .rename_i v hv;obtain⟨_,i,h⟩:=bind_some h;have i:=dp i;simp only[aU]at i;have w:=a.ty _ _ l;obtain⟨B,hu,y⟩:=w.aq _ rfl;refine .one _ h (bh _ _) λq f=>?_;have z:=dF (dk (f.fq b p) hv rfl);refine Hs d b ((a.ty _ _ j).str rfl) hu ((a.ty _ _ y).int .u8 rfl) z i ⟨?_,λ_=>.oc (.refl s q) λ_=>rfl⟩;have:bC P E T s.b q.g s.tick (.val (.aq (.int .u8)) (List.map (λc:NT=>(c.toNat:Int)) v)) (.val (.sl (nV v))):=by have:=bg (P:=P) (E:=E) (T:=T) (bx:=s.b) (g:=q.g) (tick:=s.tick) (t:=.aq (.int .u8)) (x:=List.map (λc:NT=>(c.toNat:Int)) v) rfl;simp only[enc,s5]at this;exact this
   exact f.put o.dst this
  .cases h
 .cases h
include L in
theorem MI{a:AK}(b:aX P E T X s q)(c:k<U.nk)(d:s.m k=W){l:Z (wY U.C a)}(e:tB U a k s.h=O l){x:wY U.C a}{h':U.C 0}(f:zc U a k s.h (l++[x])=O h'){ob:Ob}(i:Bi T a x=O ob){r:R U.C}{u:cy}(m:∀bx g tick,bC P E T bx g tick r u)(dst:V Nat):
  q.u (dI k l.length)=F/\aX P E T X (({s with h:=h',hv:=s.tick,tick:=s.tick+1}:S U.C).put dst r) ((q.qt (dI k l.length) ob).put dst u):=by
 obtain⟨v,n,o⟩:=b.heap.push L c d e f;refine⟨n,?_⟩;have p:eY T s.m h' (aa q.a (dI k l.length) (O ob)) (aa q.u (dI k l.length) W):=by rw[<-i];exact o _ λj t=>aJ _ _ t
 exact(b.qv (hv:=s.tick) (cO _) p).put dst (m _ _ _)
include L in
theorem ze.qt {q q1:St} (h:ze s q q1) {j:Nat} (d:k<U.nk) (f:s.m k=W) (ob:Ob):ze s q (q1.qt (dI k j) ob):=by
 obtain⟨g,a2,a3,a4,a5,l⟩:=h;refine⟨g,a2,a3,λk' i b a=>?_,a5,l⟩;have c:dI k' i≠dI k j:=λe=>by obtain⟨rfl,_⟩:=hg L b d e;rw[f]at a;cases a
 obtain⟨m,n⟩:=a4 k' i b a;exact⟨by rw[<-m];exact aJ _ _ c,by rw[<-n];exact aJ _ _ c⟩
include L in
theorem KH(z:bP P E T X)(d:(∃k,s.m k=W)->E.dc=F)(a:o.op=.makeMap e Y)(h:hS X kx esc fz o s K=O out):eo P E T X w0 I0 n fz o s kx K out:=by
 unfold hS at h;simp only[a]at h;split at h
 .rename_i k b;split at h
  .rename_i f g A;split at h
   .rename_i l i;split at h
    .rename_i h' j;obtain⟨⟨c,b⟩,m⟩:=xb i;obtain⟨_,p⟩:=vz j;refine .one _ h ((nX _).trans (bh _ _)) λq t=>?_;obtain⟨v,w⟩:=MI L t b c m (x:=([]:Z (bL U.C f×bL U.C g))) p (ob:=.map []) rfl (r:=.val (.mp k) (O l.length)) (u:=.val (.mp (dI k l.length))) (λ_ _ _=>.val (.mp k) _ _ _ rfl ⟨rfl,rfl⟩) o.dst;exact Fl a (d ⟨k,c⟩) v ⟨w,λ_=>Fr.oc (ze.qt L (.refl s q) b c _) λy=>by simp[eS,a]at y⟩
    .cases h
   .cases h
  .cases h
 .cases h
include L in
theorem MJ(c:(∃k,s.m k=W)->E.dc=F){v:bL U.C t}(h:TF s o.dst k t v K=O out):
  ∃s' i,K s'=O out/\bE s s'/\E.dc=F/\(∃k j,i=dI k j/\k<U.nk/\s.m k=W)/\∀q,aX P E T X s q->q.u i=F/\aX P E T X s' ((q.qt i (.cells (enc T t v).cells)).put o.dst (.val (.ptr i 0))):=by
 unfold TF at h;split at h
 .rename_i l d;split at h
  .rename_i h' e;obtain⟨⟨a,b⟩,f⟩:=DY d;obtain⟨_,g⟩:=vy e;refine⟨_,dI k l.length,h,(nX _).trans (bh _ _),c ⟨k,a⟩,⟨k,_,rfl,b,a⟩,λq m=>?_⟩;exact MI L m b a f (x:=v) g (ob:=.cells (enc T t v).cells) rfl (r:=.val (.ptr k) (O l.length)) (u:=.val (.ptr (dI k l.length) 0)) (λ_ _ _=>.val (.ptr k) _ _ _ rfl ⟨rfl,rfl⟩) o.dst
  .cases h
 .cases h
include L in
theorem Ol(g:bP P E T X)(x:(∃k,s.m k=W)->E.dc=F)(b:o.op=.alloc e)(y:ox esc o.dst=O k)(h:hS X kx esc fz o s K=O out):eo P E T X w0 I0 n fz o s kx K out:=by
 unfold hS at h;simp only[b,y]at h;split at h
 .rename_i t i0;split at h
  .rename_i z l d a;obtain⟨p,h⟩:=aA h;obtain⟨s',i,A,B,C,⟨j0,l0,D,G,H⟩,r⟩:=MJ (P:=P) (X:=X) L x h;have I:ZC P e (enc T t z).cells:=by
    cases u:decide (l=t)with
    |true=>obtain rfl:=di u;exact od L (g.ty _ _ a) d|false=>
     rw[u,Hc,aI]at p;obtain⟨J,N⟩:=p;cases t with
     |hs m=>
      cases l with
      |aq Q=>
       have R:z=Y:=by
        have:vo U (.hs m)=O (Y:V (Nat×Nat)):=by simp[vo,lJ,iW,fD,eh]
        rw[this]at d;exact(cr d).symm
       subst R;obtain⟨i,S,a0,b0,c0,d0,f0,g0⟩:=od (T:=T) L (g.ty _ _ a) (z:=([]:Z (bL U.C Q))) (by simp[vo,lJ,iW,fD,eh]);refine⟨i,S,a0,b0,c0,d0,f0,λj v c hv f=>?_⟩;have h0:j=0:=by
        cases j with
        |zero=>rfl|succ j=>simp[enc,gz,AV.cells]at f
       subst h0;have:=g0 0 v (.sl []) hv rfl;simp[enc,gz,AV.cells]at f;subst f;rcases this with h|⟨_,h⟩
       .refine .inr ⟨?_,rfl⟩;unfold dM at h;split at h
        .rfl
        .cases h
       .cases h
      |_=>cases N
     |_=>cases J
   exact .one _ A B λq w=>AI b C (r q w).1 I ⟨(r q w).2,λ_=>Fr.oc (by rw[D];exact ze.qt L (.refl s q) G H _) λa=>by simp[eS,b]at a⟩
  .cases h
 .cases h
include L in
theorem TX(b:bP P E T X)(c:(∃k,s.m k=W)->E.dc=F)(d:aW n o=W){x:qm}(a:o.op=.box e x)(g:ox esc o.dst=O k)(h:hS X kx esc fz o s K=O out):eo P E T X w0 I0 n fz o s kx K out:=by
 have j:x∈o.op.operands:=by simp[a,Op.operands]
 unfold hS at h;simp only[a,g]at h;split at h
 .rename_i t l;obtain⟨C,v,h,hm,D,G,m⟩:=lD (w0:=w0) (I0:=I0) (n:=n) L b c (bR d j) h;obtain⟨s',i,h1,p,r,⟨H,I,e2,u,w⟩,f⟩:=MJ (P:=P) (X:=X) L (by rw[hm.m];exact c) h;refine .one _ h1 (hm.trans p) λq y=>?_;obtain⟨q1,av,hv⟩:=m q y;have z:=fW hv.Dh (b.hC _ _ l);subst z;exact hv.oE.mr (Fk a d r (f q1 hv.nN).1 hv.CU ⟨(f q1 hv.nN).2,λA=>Fr.oc (by rw[e2];exact ze.qt L (hv.fr A) u (by rw[<-hm.m];exact w) _) λB=>by simp[eS,a]at B⟩)
 .cases h
def QC(a:jj P E T X e t)(c:w6 t=W):∃d,P.underlying e=O d/\∀x:bL U.C t,∃v,enc T t x=.fl v/\IsKey d v/\Tk v/\∀y:bL U.C t,∃b,enc T t y=.fl b/\Instr.sameNow d v b=O (h8 t x y):=by
 cases t with
 |int k=>exact ⟨_,a.int k rfl,λx=>⟨_,rfl,rfl,rfl,λy=>⟨_,rfl,by simp[Instr.sameNow,h8]⟩⟩⟩|bool=>exact ⟨_,a.bool rfl,λx=>⟨_,rfl,trivial,rfl,λy=>⟨_,rfl,by simp[Instr.sameNow,h8]⟩⟩⟩
 |str=>refine⟨_,a.str rfl,λx=>⟨_,rfl,trivial,rfl,λy=>⟨_,rfl,?_⟩⟩⟩;simp only[bs,Instr.sameNow,h8,c7,ax];rw[Hb,bytes_beq,gH];simp|_=>cases c
def Bv{d:TypeDesc}{a b:Ty}{e:bL U.C a}{f:Jz}(l:∀y:bL U.C a,∃h,enc T a y=.fl h/\Instr.sameNow d f h=O (h8 a e y))(k:enc T a e=.fl f)(w:bL U.C b):∀(c:Z (bL U.C a×bL U.C b))(i:Nat),
  ∃r,vh d f (c.map λp=>(enc T a p.1,enc T b p.2)) i=O r/\match a8 (h8 a) c e with
   |some v=>∃j,r=O (j,enc T b v)/\i<=j/\(eX (h8 a) c e w).map (λp=>(enc T a p.1,enc T b p.2))=(c.map λp=>(enc T a p.1,enc T b p.2)).set (j-i) (.fl f,enc T b w)|none=>r=Y/\(eX (h8 a) c e w).map (λp=>(enc T a p.1,enc T b p.2))=(c.map λp=>(enc T a p.1,enc T b p.2))++[(.fl f,enc T b w)]
 |[],i=>⟨Y,rfl,rfl,by simp[eX,k]⟩|(y,v)::c,i=>by
  obtain⟨h,h1,m⟩:=l y;simp only[dy,h1,vh,m,a8,eX];cases t:h8 a e y with
  |true=>refine⟨_,rfl,?_⟩;simp only[bf];exact⟨i,rfl,a6 _,by simp[k]⟩|false=>
   obtain⟨r,n,g⟩:=Bv l k w c (i+1);refine⟨r,n,?_⟩;simp only[bq];split at g
   .rename_i u o;obtain⟨j,q,x,s⟩:=g;refine⟨j,q,M,?_⟩;rw[dy,s,h1,(M:j-i=(j-(i+1))+1),List.set_cons_succ]
   .rename_i o;refine⟨g.1,?_⟩;rw[dy,g.2,h1,qR]
include L in
theorem Om(u:bP P E T X)(y:aW n o=W){x i:qm}{A:tl}(w:o.op=.lookup e x i A)(h:hS X kx esc fz o s K=O out):eo P E T X w0 I0 n fz o s kx K out:=by
 have Q:x∈o.op.operands:=by simp[w,Op.operands]
 have hi:i∈o.op.operands:=by simp[w,Op.operands]
 unfold hS at h;simp only[w]at h;split at h
 .rename_i p0 R;unfold Mx at h;split at h
  .rename_i m p S;obtain⟨U,h⟩:=aA h;obtain rfl:=bV U;split at h
   .rename_i f g C;split at h
    .rename_i l a z a0 b0 c0;obtain⟨c,d0,h⟩:=bind_some h;obtain⟨q0,r0,hu,s0,t0,h1,D,e0,f0⟩:=(u.ty _ _ R).mp _ rfl;rw[C]at h1;simp only[AK.map.injEq]at h1;obtain⟨rfl,rfl⟩:=h1;obtain⟨g0,G⟩:=u.map _ _ _ C;obtain⟨d,h0,i0⟩:=QC (u.ty _ _ D) g0;obtain⟨j0,H,l0,u0,m0⟩:=i0 a;obtain⟨r,n0,B⟩:=Bv (b:=g) m0 H z c 0;have I:(r.map (·.2)).getD (enc T g z)=enc T g ((a8 (h8 f) c a).getD z)/\r.isSome=(a8 (h8 f) c a).isSome:=by
      split at B
      .rename_i v hv;obtain⟨j,rfl,_⟩:=B;simp[hv]
      .rename_i hv;obtain⟨rfl,_⟩:=B;simp[hv]
     have J:∀q,aX P E T X s q->dQ P E w0 I0 n o q (if A then .fK [.val (enc T g ((a8 (h8 f) c a).getD z)),.val (.fl (.bool (a8 (h8 f) c a).isSome))]else .val (enc T g ((a8 (h8 f) c a).getD z))):=λq k=>by
      have o0:q.ev i=.val (.fl j0):=by have:=dk (k.fq y hi) b0 ((u.ty _ _ D).ok);rw[H]at this;exact dF this
      have:=Fm (E:=E) (w0:=w0) (I0:=I0) w y hu h0 (H6 a0 d0 S q k (k.fq y Q)) o0 l0 n0 (QA L (u.ty _ _ e0) f0 c0);rw[I.1,I.2]at this;exact this
     cases A with
     |true=>
      refine bX h λq k=>⟨_,J q k,?_⟩
      simp only[ca];have N:ee P E T s.b q.g s.tick [.val g ((a8 (h8 f) c a).getD z),.val .bool (a8 (h8 f) c a).isSome] [.val (enc T g ((a8 (h8 f) c a).getD z)),.val (.fl (.bool (a8 (h8 f) c a).isSome))]:=.cons (bg G) (.cons (bg (t:=.bool) rfl) .nil);exact .fK _ _ N.1 N.2
     |false=>
      refine bX h λq k=>⟨_,J q k,?_⟩
      simp only[iA,cG];exact bg G
    .cases h
   .cases h
  .cases h
 .cases h
include L in
theorem Bw(f:bP P E T X)(i0:X.wr=W)(j0:(∃k,s.m k=W)->E.dc=F)(C:aW n o=W){x y z:qm}(c:o.op=.mapUpdate e x y z∨o.op=.insert e x y z)(Q:o.dst=Y){g:Nat}(D:X.ty e=O (.mp g))(h:zq fz s g (s.ev x) (s.ev y) (s.ev z) K=O out):eo P E T X w0 I0 n fz o s kx K out:=by
 have l0:x∈o.op.operands:=by rcases c with c|c<;>simp[c,Op.operands]
 have m0:y∈o.op.operands:=by rcases c with c|c<;>simp[c,Op.operands]
 have n0:z∈o.op.operands:=by rcases c with c|c<;>simp[c,Op.operands]
 have o0:eS X s o.op=W:=by rcases c with c|c<;>simp[c,eS]
 unfold zq at h;split at h
 .rename_i m p p0;obtain⟨q0,h⟩:=aA h;obtain rfl:=bV q0;split at h
  .rename_i t w R;split at h
   .rename_i G r0;obtain⟨S,v,h,U,s0,c1,t0⟩:=lD (w0:=w0) (I0:=I0) (n:=n) L f j0 (bR C n0) h;split at h
    .rename_i l a0;obtain⟨i,u0,h⟩:=bind_some h;obtain⟨A,b0,h⟩:=bind_some h;split at h
     .rename_i h' v0;obtain⟨d1,e1,hu,f1,g1,h1,c0,i1,j1⟩:=(f.ty _ _ D).mp _ rfl;rw[R]at h1;simp only[AK.map.injEq]at h1;obtain⟨rfl,rfl⟩:=h1;obtain⟨x0,y0⟩:=f.map _ _ _ R;obtain⟨d,A0,B0⟩:=QC (f.ty _ _ c0) x0;obtain⟨d0,e0,C0,D0,E0⟩:=B0 G;obtain⟨r,G0,I⟩:=Bv (b:=w) E0 e0 v A 0;have H0:TA d d0 (enc T w v) (A.map λp=>(enc T t p.1,enc T w p.2))=O ((eX (h8 t) A G v).map λp=>(enc T t p.1,enc T w p.2)):=by
       unfold TA;rw[G0];split at I
       .obtain ⟨j,rfl,_,H⟩:=I;rw[oA]at H;simp[H]
       .obtain ⟨rfl,H⟩:=I;simp[H]
      obtain⟨⟨f0,g0⟩,J0⟩:=xb a0;obtain⟨_,K0⟩:=vz v0;refine .one _ h (U.trans (nX _)) λq J=>?_;obtain⟨q1,av,hv⟩:=t0 q J;have L0:=fW hv.Dh y0;subst L0;have B:bu (q1.ev x)=O (.mp (dI g i)):=hv.jb x _ (by
       have N:=J.fq C l0;rw[p0]at N;subst u0;generalize q.ev x=u at N;cases N with
       |val _ _ _ av N0 hv=>obtain ⟨_,rfl⟩:=hv;exact N0)
      have B:q1.ev x=.val (.mp (dI g i)):=by generalize q1.ev x=u at B;cases u<;>simp[bu]at B;rw[B]
      have P0:q1.ev y=.val (.fl d0):=by have:=dk (J.fq C m0) r0 ((f.ty _ _ c0).ok);rw[e0]at this;exact dF (hv.jb y _ this)
      have Q0:i<l.length:=(aY.1 b0).1;obtain⟨l1,R0⟩:=FM a0 hv.nN b0;refine hv.oE.mr (y8 c C Q hu A0 (f.ro i0 _) B R0 P0 C0 D0 hv.CU H0 ⟨?_,λS0=>?_⟩)
      .have T0:=hv.nN.heap.kQ L g0 f0 J0 Q0 (x:=eX (h8 t) A G v) K0;exact hv.nN.qv (hv:=S.tick) (cO _) T0
      .have U0:=(hv.fr S0).trans (s':=S) (q'':={q1 with a:=aa q1.a (dI g i) (O (.map ((eX (h8 t) A G v).map λp=>(enc T t p.1,enc T w p.2))))}) ⟨λ_=>.inl rfl,λ_ _=>rfl,rfl,λk' X0 a1 h0=>?_,rfl,λ_=>.refl _⟩ hv.nN s0 U.m
       .have:=Fr.oc (X:=X) (o:=o) (u:=.val (.fl undef)) U0 λD=>by rw[o0]at D;cases D
        rw[Q]at this;exact this
       .have b1:dI k' X0≠dI g i:=λe=>by have:=(hg L a1 g0 e).1;subst this;rw[f0]at h0;cases h0
        exact⟨aJ _ _ b1,rfl⟩
     .cases h
    .cases h
   .cases h
  .cases h
 .cases h
end
end Go.X
namespace Go.X
open Go Go.Ev
variable{t te a b t':Ty}{e el:JA}{d k d' tick:Nat}{g:Nat->Nat}{f:JC}{u:cy}{q':St}{C:Nat->Type}{fw:Z AV}{rs:Z RK}{p y:qm}{av:AV}{qs us ps:Z Ty}
section
variable{P:qK}{E:cm}{U:cg}{T:dm U.C}{X:gj U}{w0:zI}{I0:aD}{n:Nat}{o:JB}{s:S U.C}{q:St}{α:Type}{out:α}{fz:tl}{kx:rq U->S U.C->V α}{K:S U.C->V α}{esc:Z (Nat×Nat)}
variable(L:cw U T)
def zt(c:jj P E T X e t)(h:Of U t te k=O t'):eV t'=W/\bD U D t'=P.cellsOf e/\(aV t=F->aV t'=F):=by
 unfold Of at h;cases d:aV t with
 |true=>rw[d]at h;simp only[bf,ax]at h;subst h;exact⟨c.ok,c.cells.symm,λh=>by cases h⟩
 |false=>
  rw[d]at h;simp only[bq]at h;split at h
  .rename_i b i;cases a:(aV b||!eV b)with
   |true=>rw[a]at h;cases h
   |false=>
    rw[a]at h;simp only[bq,ax]at h;subst h;simp only[x4,qn]at a;refine⟨a.2,?_,λ_=>a.1⟩;rw[c.cells];have f:bD U D t=1:=by cases t<;>first|rfl|(simp[aV]at d)
    have g:bD U D b=1:=by cases b<;>first|rfl|(simp[aV]at a)
    rw[f,g]
  .cases h
include L in
theorem By(P:qK)(E:cm){x:bL U.C te}{v:bL U.C t}{y:bL U.C te}(h:AT t te x k v=O y)(q:eV t=W)(l:eV te=W):
  k+(enc T t v).cells.length<=(enc T te x).cells.length/\((enc T te x).isAgg=W∨(k=0/\(enc T t v).isAgg=F))/\fZ (enc T te x) k (enc T t v).cells=enc T te y/\bd (enc T te x).cells k (enc T t v).cells=(enc T te y).cells:=by
 unfold AT at h;cases f:(Nat.beq k 0&&decide (t=te))with
 |true=>
  rw[f]at h;simp only[bf]at h;obtain⟨e,rfl⟩:=bN h;subst e;simp only[aI]at f;obtain rfl:k=0:=bV f.1;have j:(enc T t v).cells.length=(enc T t x).cells.length:=by rw[ew L,ew L]
  have d:bd (enc T t x).cells 0 (enc T t v).cells=(enc T t v).cells:=by simp[bd,j]
  refine⟨M,?_,?_,d⟩
  .cases b:aV t with
   |true=>left;cases t<;>first|rfl|(simp[aV]at b)
   |false=>right;exact ⟨rfl,pa b⟩
  .cases b:aV t with
   |true=>have i:=iZ (T:=T) x b;rw[<-i];simp only[fZ,d];exact iZ v b|false=>
    have m:=pa (T:=T) (x:=x) b;rw[iX b];generalize enc T t x=a at m;cases a<;>first|rfl|cases m
 |false=>
  rw[f]at h;simp only[bq]at h;obtain⟨c,h⟩:=aA h;simp only[aI,qW]at c;split at h
  .rename_i n w o;simp only[ax]at h;subst h;have j:(bd (enc T te x).cells k (enc T t v).cells).length=bD U D te:=by rw[bI (by rw[ew L,ew L];exact c.2),ew L]
   have d:bd (enc T te x).cells k (enc T t v).cells=(enc T te n).cells:=by
    have r:=h9 (P:=P) (E:=E) (bx:=[]) (g:=λ_=>0) (tick:=0) L D te x (hO L te) l;have s:=h9 (P:=P) (E:=E) (bx:=[]) (g:=λ_=>0) (tick:=0) L D t v (hO L t) q;rw[mU]at o;have:=r.bd (k:=k) s;obtain⟨_,z,p⟩:=hP L D te _ _ _ _ (hO L te) l this o;have i:cZ (bd ((enc T te x).cells.map cy.val) k ((enc T t v).cells.map cy.val))=O (bd (enc T te x).cells k (enc T t v).cells):=rC (tM _);have u:(bd ((enc T te x).cells.map cy.val) k ((enc T t v).cells.map cy.val)).length=bD U D te:=by have:=bH List.length (ld.1 i);simp only[dd]at this;rw[this,j]
    rw[<-u,lW,i]at p;simpa using p
   refine⟨by rw[ew L,ew L];exact c.2,.inl ?_,?_,d⟩
   .cases te<;>first|rfl|(simp[aV]at c)
   .rw[<-iZ (T:=T) x c.1];simp only[fZ,d];exact iZ n c.1
  .cases h
def Ib{b b':B U.C}(f:s.box d=O b)(a:V9 b b'):∀d',ku s.b ((d,s.tick,b')::bB s.b d) g g s.tick d':=λd'=>by
 have c:=dq f;by_cases e:d=d'
 .subst e;right;right;rw[aQ,aj rfl];cases b with
  |cells u rs=>
   cases b' with
   |cells u' h=>left;exact ⟨rfl,_,_,_,_,_,_,c,rfl⟩|bi _ _ _=>exact a.elim
  |bi t e xs=>
   cases b' with
   |cells u' h=>exact a.elim|bi t' e' i=>obtain⟨rfl,h1⟩:=a;right;exact ⟨rfl,_,_,_,_,_,_,_,c,rfl,h1,a6 _⟩
 .left;rw[aQ,ai e,aN,ai e];exact ⟨rfl,rfl⟩
def mG(g:aX P E T X s q){u:Ty}{rs a:Z (R U.C)}(e:s.box d=O (.cells u rs)){f:Z cy}(j:a.length=rs.length)(h:ee P E T s.b q.g s.tick a f):aX P E T X (s.gm d (.cells u a)) {q with b:=aa q.b d (O (.cells f))}:=by obtain⟨k,l,_⟩:=g.cells e;refine g.gm e (b':=.cells u a) trivial ⟨k,by rw[l,j],f,rfl,h.1,λi r c m n=>(h.2 i r c m n).mono (λd' _=>Ib e (b':=.cells u a) trivial d') (cO _)⟩
def Fr.MK {s:S U.C} {q:St} (f:eS X s o.op=W) (g:o.dst=Y) {b:B U.C} (h:s.box d=O b) (x:V Bx) (i:FN (q.b d) x):Fr X s o q {q with b:=aa q.b d x}:=by
 have:ze s q {q with b:=aa q.b d x}:=⟨λ_=>.inl rfl,(λd' a=>aJ _ _ λe=>by subst e;rw[dq h]at a;cases a),rfl,λ_ _ _ _=>⟨rfl,rfl⟩,rfl,FN.aa i⟩
 have:=Fr.oc (X:=X) (o:=o) (u:=.val (.fl undef)) this λc=>by rw[f]at c;cases c
 rw[g]at this;exact this
def Fr.QD {s:S U.C} {q:St} (b:eS X s o.op=W) (c:o.dst=Y) (h:ze s q q'):Fr X s o q q':=by
 have:=Fr.oc (X:=X) (o:=o) (u:=.val (.fl undef)) h λa=>by rw[b]at a;cases a
 rw[c]at this;exact this
include L in
theorem Bz(c:bP P E T X)(I:(∃k,s.m k=W)->E.dc=F)(g:aW n o=W){x:qm}(d:o.op=.store e p x)(j:o.dst=Y)(J:X.ty e=O t){i off:Nat}(N:∀q,aX P E T X s q->q.ev p=.val (.ptr (dI k i) off))
  (h:FA.zp fz s t k i off (s.ev x) K=O out):eo P E T X w0 I0 n fz o s kx K out:=by
 have Q:x∈o.op.operands:=by simp[d,Op.operands]
 have m:=c.ty _ _ J;have R:eS X s o.op=W:=by simp[d,eS]
 unfold FA.zp at h;split at h
 .rename_i te r;split at h
  .rename_i t' S;obtain⟨u,U,_⟩:=zt m S;obtain⟨w,v,h,A,a0,r0,b0⟩:=lD (w0:=w0) (I0:=I0) (n:=n) L c I (bR g Q) h;split at h
   .rename_i l B;obtain⟨y,C,h⟩:=bind_some h;split at h
    .rename_i z c0;split at h
     .rename_i h' d0;obtain⟨e0,c2,c3,f0⟩:=By (T:=T) L P E c0 u (c.hC _ _ r);obtain⟨⟨D,f⟩,g0⟩:=DY B;obtain⟨_,h0⟩:=vy d0;refine .one _ h (A.trans (nX _)) λq G=>?_;obtain⟨q1,av,hv⟩:=b0 q G;have i0:=fW hv.Dh u;subst i0;have j0:q1.ev p=.val (.ptr (dI k i) off):=pd (hv.jb p _ (by rw[N q G];rfl));have l0:i<l.length:=(aY.1 C).1;refine hv.oE.mr (C9 d g j (c.ZB _ _ f λa b e=>by rw[r]at e;cases e) j0 (MH B hv.nN C) hv.CU (pO L v) m.pos (by rw[ew L,U]) e0 ⟨?_,λm0=>?_⟩)
      .have n0:=hv.nN.heap.kQ L f D g0 l0 (x:=z) h0;rw[f0];exact hv.nN.qv (hv:=w.tick) (cO _) n0
      .refine Fr.QD R j ((hv.fr m0).trans (s':=w) ⟨λ_=>.inl rfl,λ_ _=>rfl,rfl,λk' o0 p0 H=>?_,rfl,λ_=>.refl _⟩ hv.nN a0 A.m);have q0:dI k' o0≠dI k i:=λe=>by have:=(hg L p0 f e).1;subst this;rw[D]at H;cases H
       exact⟨aJ _ _ q0,rfl⟩
     .cases h
    .cases h
   .cases h
  .cases h
 .cases h
include L in
theorem QF(a0:bP P E T X)(E0:(∃k,s.m k=W)->E.dc=F)(C:aW n o=W){x:qm}(N:o.op=.store e p x)(h:hS X kx esc fz o s K=O out):eo P E T X w0 I0 n fz o s kx K out:=by
 have g0:p∈o.op.operands:=by simp[N,Op.operands]
 have m0:x∈o.op.operands:=by simp[N,Op.operands]
 have n0:eS X s o.op=W:=by simp[N,eS]
 unfold hS at h;simp only[N]at h;split at h
 .rename_i t G0 H;have J:=a0.ty _ _ G0;unfold FA at h;split at h
  .
   rename_i d k Q;split at h
   .rename_i u rs G;have b0:∀q,aX P E T X s q->q.ev p=.dT d (q.g d) 0 0 k:=λq A=>by have B:=A.fq C g0;rw[Q]at B;exact iY A B G
    cases h0:aV t with
    |true=>
     rw[h0]at h;simp only[bf]at h;split at h
     .rename_i v hv;obtain⟨e0,h⟩:=aA h;rw[qW]at e0;refine .one _ h (hU _ _) λq A=>?_;obtain⟨r0,H0,cs,R,S⟩:=A.cells G;have s0:=dk (A.fq C m0) hv J.ok;have P0:(enc T t v).isAgg=W:=by cases t<;>first|rfl|(simp[aV]at h0)
      have Q0:q.ev x=.val (enc T t v):=by
       generalize q.ev x=w at s0;generalize enc T t v=z at s0 P0;cases w<;>simp[bu]at s0
       .rw[s0]
       .subst s0;cases P0
      have R0:=S.1;have f1:=h9 (P:=P) (E:=E) (T:=T) (bx:=s.b) (g:=q.g) (tick:=s.tick) L D t v (hO L t) J.ok;have v1:(mn U D t v).length=bD U D t:=by rw[f1.1,dd,ew L]
      refine ir N C H (b0 q A) rfl R (vs:=(enc T t v).cells.map .val) (by rw[Q0];rfl) (by rw[Q0];trivial) (by rw[Q0];exact pO L v) J.pos (by rw[dd,ew L,J.cells]) (by rw[dd,ew L];omega) ⟨?_,λc0=>Fr.MK n0 H G _ (.inr (.inl ⟨_,_,R,rfl⟩))⟩;rw[lY,cX,mU];exact mG A G (bI (by rw[v1];exact e0)) (S.bd f1)
     .split at h
      .rename_i m vs w1;replace h:=aA h;obtain⟨t0,h⟩:=h;simp only[aI,aU,qW]at t0;obtain⟨_,u0,e0⟩:=t0;have u0:=bV u0;refine .one _ h (hU _ _) λq A=>?_;obtain⟨r0,H0,cs,R,S⟩:=A.cells G;have B:=A.fq C m0;rw[w1]at B;generalize i0:q.ev x=w at B;cases B with
       |agg _ _ fw v0 S0 x1=>
        have R0:=S.1;have y1:∀c∈fw,c.isAgg=F:=λc J0=>by obtain⟨i,hi⟩:=kc.1 J0;exact x1 i c hi
        refine ir N C H (b0 q A) rfl R (vs:=fw.map .val) (by rw[i0];rfl) (by rw[i0];trivial) (by rw[i0];exact y1) J.pos (by rw[dd,<-v0,u0,J.cells]) (by rw[dd,<-v0,u0];omega) ⟨?_,λc0=>Fr.MK n0 H G _ (.inr (.inl ⟨_,_,R,rfl⟩))⟩;rw[lY,cX,mU];refine mG A G (bI (by rw[u0];exact e0)) (S.bd ⟨by rw[v0,dd],λi r c B J0=>?_⟩);simp only[dC,ck]at J0;obtain⟨av,y0,rfl⟩:=J0;exact S0 i r av B y0
      .cases h
    |false=>
     rw[h0]at h;simp only[bq]at h;split at h
     .rename_i t' d0;obtain⟨_,K0,A1⟩:=zt J d0;split at h
      .rename_i r B;obtain⟨e0,h⟩:=aA h;rw[fQ]at e0;have T0:P.cellsOf e=1:=by rw[J.cells];cases t<;>first|rfl|(simp[aV]at h0)
       refine .one _ h (hU _ _) λq A=>?_;obtain⟨r0,H0,cs,R,S⟩:=A.cells G;obtain⟨q1,B1,C1,D1⟩:=H9 B (A1 h0) q _ A (A.fq C m0);have R0:=S.1;refine ir N C H (b0 q A) rfl R q1 C1 B1 J.pos (by rw[T0];rfl) (by simp only[x9];omega) ⟨?_,λc0=>Fr.MK n0 H G _ (.inr (.inl ⟨_,_,R,rfl⟩))⟩;rw[lY,cX,mU];exact mG A G (bI (by simp only[x9];omega)) (S.bd (.cons D1 .nil))
      .cases h
     .cases h
   .cases h
  .
   rename_i d i k A0 te y Q;split at h
   .rename_i t' d0;obtain⟨B0,K0,_⟩:=zt J d0;obtain⟨I,v,h,o0,U0,g1,L0⟩:=lD (w0:=w0) (I0:=I0) (n:=n) L a0 E0 (bR C m0) h;have i1:I.ev p=.fV d i k A0 te y:=by rw[g1 p (by rw[Q];rfl),Q]
    split at h
    .rename_i f0 e' xs G;have j1:∀(p0 z:bL U.C f0),xs[i]?=O p0->AT t' f0 p0 k v=O z->K (I.gm d (.bi f0 e' (xs.set i z)))=O out->(∀q u,aX P E T X I q->bC P E T I.b q.g I.tick (.fV d i k A0 te y) u->u=.dT d (q.g d) (bD U D f0) i k)->eo P E T X w0 I0 n fz o s kx K out:=by
      intro p0 z X0 j0 h C0;refine .one _ h (o0.trans (hU _ _)) λq A=>?_;obtain⟨q1,av,hv⟩:=L0 q A;have y0:=fW hv.Dh B0;subst y0;obtain⟨q0,k1⟩:=hv.nN.bi G;have D0:=a0.ty _ _ q0;obtain⟨a1,c2,c3,E1⟩:=By (T:=T) L P E j0 B0 D0.ok;have l0:=hv.nN.fq C g0;rw[i1]at l0;have b0:=C0 q1 _ hv.nN l0;refine hv.oE.mr (yU N C H b0 rfl k1 D0.cells.symm hv.CU (pO L v) J.pos (by rw[ew L,K0]) (y:=enc T f0 p0) (by simp[X0]) a1 c2 ⟨?_,λc0=>?_⟩)
      .rw[c3];refine hv.nN.gm G (b':=.bi f0 e' (xs.set i z)) ⟨rfl,aE⟩ ⟨q0,?_⟩;rw[List.map_set]
      .refine Fr.QD n0 H ((hv.fr c0).trans (s':=I) ⟨λ_=>.inl rfl,λd' l1=>aJ _ _ λe=>?_,rfl,λ_ _ _ _=>⟨rfl,rfl⟩,rfl,FN.aa (.inr (.inr ⟨_,_,_,k1,rfl,aE⟩))⟩ hv.nN U0 o0.m);subst e;rw[dq G]at l1;cases l1
     have C0:∀q u,aX P E T X I q->bC P E T I.b q.g I.tick (.fV d i k A0 te y) u->u=.dT d (q.g d) (bD U D f0) i k/\(Nat.beq A0 (I.Mn d)=W->(⟨f0,xs[i]?⟩:(u:Ty)×V (bL U.C u))=⟨te,O y⟩):=λq u A B=>by
      cases B with
      |fV _ _ _ _ _ _ _ X1 l0=>obtain⟨r0,H0,G1⟩:=l0 _ _ _ _ (dq G);exact⟨r0,λH1=>G1 (bV H1).symm⟩
     cases b1:Nat.beq A0 (I.Mn d)with
     |true=>
      rw[b1]at h;simp only[bf]at h;split at h
      .rename_i a2 I1;obtain⟨e,rfl⟩:=bN I1;subst e;split at h
       .rename_i z j0;by_cases m1:∃q,aX P E T X s q
        .obtain ⟨q,A⟩:=m1;obtain⟨q1,av,hv⟩:=L0 q A;have l0:=hv.nN.fq C g0;rw[i1]at l0;have:=(C0 q1 _ hv.nN l0).2 b1;simp only[Sigma.mk.injEq,heq_eq_eq,ke]at this;exact j1 _ z this j0 h λq u A B=>(C0 q u A B).1
        .exact .one _ h (o0.trans (hU _ _)) λq A=>(m1 ⟨q,A⟩).elim
       .cases h
      .cases h
     |false=>
      rw[b1]at h;simp only[bq]at h;obtain⟨p0,X0,h⟩:=bind_some h;split at h
      .rename_i z j0;exact j1 p0 z X0 j0 h λq u A B=>(C0 q u A B).1
      .cases h
    .cases h
   .cases h
  .rename_i k i off Q;refine Bz L a0 E0 C N H G0 (λq A=>?_) h;have B:=A.fq C g0;rw[Q]at B;generalize q.ev p=u at B;cases B;rfl
  .rename_i k b2 Q;obtain⟨i,J1,h⟩:=bind_some h;refine Bz L a0 E0 C N H G0 (λq A=>?_) h;have B:=A.fq C g0;rw[Q]at B;exact vx B J1
  .
   rename_i k i j off Q;split at h
   .rename_i te e' n1;split at h
    .rename_i t' d0;replace d0:=aA d0;obtain⟨q0,d0⟩:=d0;replace q0:=di q0;obtain⟨B0,K0,_⟩:=zt J d0;obtain⟨I,v,h,o0,U0,g1,L0⟩:=lD (w0:=w0) (I0:=I0) (n:=n) L a0 E0 (bR C m0) h;split at h
     .rename_i l o1;obtain⟨xs,N0,h⟩:=bind_some h;obtain⟨y,K1,h⟩:=bind_some h;split at h
      .rename_i z j0;split at h
       .rename_i h' L1;have D0:=a0.ty _ _ q0;obtain⟨a1,c2,c3,E1⟩:=By (T:=T) L P E j0 B0 D0.ok;obtain⟨⟨p1,d1⟩,N1⟩:=r9 o1;obtain⟨_,h0⟩:=mF L1;refine .one _ h (o0.trans (nX _)) λq A=>?_;obtain⟨q1,av,hv⟩:=L0 q A;have y0:=fW hv.Dh B0;subst y0;have P1:T.hz k=P.cellsOf e':=by rw[L.hz k te e' n1,D0.cells]
        have b0:q1.ev p=.val (.ptr (dI k i) (j*P.cellsOf e'+off)):=by refine pd (hv.jb p _ ?_);have B:=A.fq C g0;rw[Q]at B;generalize q.ev p=u at B;cases B;rw[P1];rfl
        have Q1:i<l.length:=by
         unfold bz at N0;cases r1:l[i]? with
         |none=>rw[r1]at N0;cases N0
         |some w=>exact (aY.1 r1).1
        refine hv.oE.mr (wU N C H (a0.ZB _ _ d1 λa b e=>by rw[n1]at e;cases e) b0 (r8 o1 hv.nN N0) hv.CU (pO L v) J.pos (by rw[ew L,K0]) (y:=enc T te y) (by simp[K1]) a1 c2 ⟨?_,λc0=>?_⟩)
        .have R1:=hv.nN.heap.kQ L d1 p1 N1 Q1 (x:=(O (xs.set j z):V (Z (bL U.C te)))) h0;rw[c3,<-List.map_set];exact hv.nN.qv (hv:=I.tick) (cO _) R1
        .refine Fr.QD n0 H ((hv.fr c0).trans (s':=I) ⟨λ_=>.inl rfl,λ_ _=>rfl,rfl,λk' S1 T1 t1=>?_,rfl,λ_=>.refl _⟩ hv.nN U0 o0.m);have U1:dI k' S1≠dI k i:=λe=>by have:=(hg L T1 d1 e).1;subst this;rw[p1]at t1;cases t1
         exact⟨aJ _ _ U1,rfl⟩
       .cases h
      .cases h
     .cases h
    .cases h
   .cases h
  .cases h
 .rename_i G0 H;replace h:=aA h;obtain⟨c0,h⟩:=h;obtain⟨T0,P0⟩:=a0.JM e c0;split at h
  .rename_i d k f Q hv;split at h
   .rename_i u rs G;replace h:=aA h;obtain⟨e0,h⟩:=h;rw[fQ]at e0;refine .one _ h (hU _ _) λq A=>?_;have u1:=A.fq C g0;rw[Q]at u1;have b0:=iY A u1 G;obtain⟨r0,H0,cs,R,S⟩:=A.cells G;have B:=A.fq C m0;rw[hv]at B;generalize i0:q.ev x=w at B;cases B with
    |fn _ _ fw v0 S0=>have R0:=S.1;refine ir N C H b0 rfl R (vs:=[.val (.fn f fw)]) (by rw[i0];rfl) (by rw[i0];trivial) (by rw[i0];intro c t0;simp[AV.cells]at t0;subst t0;rfl) M (by rw[T0];rfl) (by simp only[x9];omega) ⟨?_,λc0=>Fr.MK n0 H G _ (.inr (.inl ⟨_,_,R,rfl⟩))⟩;rw[lY,cX,mU];exact mG A G (bI (by simp only[x9];omega)) (S.bd (.cons (.fn f [] fw v0 S0) .nil))
   .cases h
  .cases h
 .cases h
def BA{C:Nat->Type}(d:Nat)(t:Ty)(x:bL C t):R C->R C
 |.dT d' k=>if d'=d then .dJ t x k else .dT d' k|r=>r
def sa(d a:Nat)(t:Ty)(x:bL C t)(l:Z (Nat×Nat×R C))(z:Nat):(aB (lL d a t x l) z).map (·.2)=(aB l z).map (λe=>BA d t x e.2)/\∀st r,aB (lL d a t x l) z=O (st,r)->st=a∨∃f,aB l z=O (st,f):=by
 induction l with
 |nil=>exact ⟨rfl,λst r h=>by simp[lL,aB]at h⟩|cons e l b=>
  obtain⟨g,st,y⟩:=e;cases y with
  |dT d' k=>
   simp only[lL];by_cases c:d'=d
   .subst c;simp only[py,bf,aQ];split
    .simp[BA]
    .exact b
   .simp only[ry c,bq,aQ];split
    .simp[BA,c]
    .exact b
  |_=>
   simp only[lL,aQ];split
   .simp[BA]
   .exact b
def KI{s:S C}(d:Nat)(t:Ty)(x:bL C t):bE s {s with r:=lL d s.tick t x s.r,b:=bB s.b d,tick:=s.tick+1}:=by
 refine⟨rfl,cO _,λz st y h n=>?_,λ_ _ _ h _=>hj h,λ_=>⟨rfl,rfl⟩⟩;have a:=(sa d s.tick t x s.r z).1;have c:=(sa d s.tick t x s.r z).2 st y h;have h:aB (lL d s.tick t x s.r) z=O (st,y):=h;rcases c with c|⟨f,c⟩
 .omega
 .rw[h,c]at a;simp only[cj,ax]at a;cases f with
  |dT d' k=>
   simp only[BA]at a;split at a
   .rename_i g;subst g;have:∀l:Z (Nat×Nat×R C),aB l z=O (st,.dT d' k)->aB (lL d' s.tick t x l) z=O (s.tick,.dJ t x k):=by
     intro l;induction l with
     |nil=>intro h;cases h
     |cons e l i=>
      obtain⟨o,st',j⟩:=e;intro h;rw[aQ]at h;split at h
      .rename_i hz;simp only[ax,bc]at h;obtain⟨rfl,rfl⟩:=h;simp[lL,aQ,hz]
      .rename_i hz;have:=i h;cases j with
       |dT m p=>simp only[lL];cases q:Nat.beq m d'<;>simp[aQ,hz,this]
       |_=>simp[lL,aQ,hz,this]
    rw[this _ c]at h;simp only[ax,bc]at h;omega
   .rw[c,a]
  |_=>simp only[BA]at a;rw[c,a]
include L in
theorem ML(h:s.Hz d K=O out):∃s',K s'=O out/\bE s s'/\∀q,aX P E T X s q->∃q',iz P E w0 I0 n q q'/\aX P E T X s' q'/\kX q q':=by
 unfold S.Hz at h;split at h
 .rename_i t rs p;split at h
  .rename_i x J N;obtain⟨n0,h⟩:=aA h;refine⟨_,h,KI _ _ _,λq l=>?_⟩;obtain⟨C,Q,cs,R,G⟩:=l.cells p;have hv:cZ cs=O (enc T t x).cells:=by obtain⟨_,_,o⟩:=hP L D t rs cs x J (hO L t) C G N;rwa[Q,G.1,lW]at o
   refine⟨q.gv d (enc T t x).cells,λa w U=>Da d R hv U,?_,.Qq λz av g=>by show bu (sI d (q.g d) (enc T t x).cells (q.r z))=O av;cases f:q.r z<;>rw[f]at g<;>first|exact g|(simp[bu]at g)⟩;have H:∀d',ku s.b (bB s.b d) q.g q.g s.tick d':=λd'=>by
    by_cases e:d=d'
    .right;left;rw[aN,aj e]
    .left;rw[aN,ai e];exact ⟨rfl,rfl⟩
   refine⟨λz=>?_,λd'=>?_,λz st r g=>?_,λd' st r g=>?_,l.heap,l.df⟩
   .have o:=l.cu z;have A:=o.mono (λd' _=>H d') (cO _);have a0:=(sa d s.tick t x s.r z).1;have b0:S.bQ {r:=lL d s.tick t x s.r,b:=bB s.b d,tick:=s.tick+1,h:=s.h,hv:=s.hv,m:=s.m} z=BA d t x (s.bQ z):=by rw[S.gA,S.gA];simp only;cases c0:aB s.r z<;>cases p:aB (lL d s.tick t x s.r) z<;>rw[c0,p]at a0<;>simp_all[BA]
    rw[b0];have d0:∀r u,bC P E T s.b q.g s.tick r u->bC P E T (bB s.b d) q.g (s.tick+1) r u->bC P E T (bB s.b d) q.g (s.tick+1) (BA d t x r) (sI d (q.g d) (enc T t x).cells u):=by
     intro r u o A;have e0:∀av,bu u=O av->sI d (q.g d) (enc T t x).cells u=u:=λav f=>by cases u<;>first|rfl|(simp[bu]at f)
     cases o with
     |none=>exact .none _|val t' y _ av I f0=>rw[e0 _ I];exact .val t' y _ av I f0
     |const v o0=>
      have:sI d (q.g d) (enc T t x).cells (ct v)=ct v:=by unfold ct;split<;>rfl
      rw[this];exact A
     |dT d' k _ f=>
      by_cases j:d'=d
      .subst j;have:=f _ _ _ (dq p);subst this;simp only[BA,ca,sI,and_self,lY,cX];exact .dJ t x k C
      .simp only[BA,j,cG];refine .dT d' k _ λst u' p0 c=>?_;rw[aN,ai (dz j)]at c;rw[f _ _ _ c];simp[sI,j]
     |whole d' _ f=>
      refine .whole d' _ λst t' e xs c=>?_;rw[aN]at c;split at c
      .cases c
      .rw[f _ _ _ _ c];rfl
     |fV d' i k g0 t' y _ q0 f=>
      refine .fV d' i k g0 t' y _ M λst h0 e xs c=>?_;rw[aN]at c;split at c
      .cases c
      .rename_i j;obtain⟨q1,B,i0⟩:=f _ _ _ _ c;rw[q1];exact⟨by simp[sI,dz j],B,i0⟩
     |sub d' off m _ f=>
      refine .sub d' off m _ λst h0 e xs c=>?_;rw[aN]at c;split at c
      .cases c
      .obtain ⟨q1,B⟩:=f _ _ _ _ c;rw[q1];exact⟨rfl,B⟩
     |_=>exact A
    exact d0 _ _ o A
   .show nM P E T X _ _ _ (aB (bB s.b d) d') (aa q.b d Y d');rw[aN];by_cases j:d=d'
    .rw[aj j];trivial
    .rw[ai j,aJ _ _ (dz j)];exact(l.bG d').mono (λ_ _ _ j0 _=>H j0) (cO _)
   .show st<s.tick+1;rcases(sa d s.tick t x s.r z).2 st r g with rfl|⟨l0,m0⟩
    .omega
    .have:=l.Bj z st l0 m0;omega
   .show st<s.tick+1;simp only[aN]at g;split at g
    .cases g
    .have:=l.DU d' st r g;omega
  .cases h
 .cases h
include L in
theorem pf:∀(l:Z qm)(fz:tl)(s:S U.C),sL fz s l K=O out->∃s',K s'=O out/\bE s s'/\(fz=F->s'=s)/\∀q,aX P E T X s q->∃q',iz P E w0 I0 n q q'/\aX P E T X s' q'/\(fz=F->q'=q)
 |[],fz,s,h=>⟨s,h,.refl s,λ_=>rfl,λq a=>⟨q,.refl q,a,λ_=>rfl⟩⟩|x::l,fz,s,h=>by
  simp only[sL]at h;split at h
  .rename_i d k t;obtain⟨c,h,e,f⟩:=ML (P:=P) (E:=E) (X:=X) (w0:=w0) (I0:=I0) (n:=n) L h;obtain⟨s2,h,g,u,i⟩:=pf l W c h;refine⟨s2,h,e.trans g,(λb=>by cases b),λq a=>?_⟩;obtain⟨q1,j,m,_⟩:=f q a;obtain⟨o,p,r,v⟩:=i q1 m;exact⟨o,j.trans p,r,λb=>by cases b⟩
  .exact pf l _ s h
def FV:∀(l:Z qm)(c:∀x∈l,bW x=W),(tE s l).all Zw=W->∀q,aX P E T X s q->∃fw,cP q l=O fw/\(tE s l).length=fw.length/\∀(i:Nat)(r:R U.C)(av:AV),(tE s l)[i]?=O r->fw[i]?=O av->∀bx g tick,bC P E T bx g tick r (.val av)∨bC P E T s.b q.g s.tick r (.val av)
 |[],_,_,q,d=>⟨[],rfl,rfl,λi r av h=>by simp[tE]at h⟩|x::l,c,h,q,d=>by
  simp only[tE,qQ,aI]at h;obtain⟨fw,b,e,n⟩:=FV l (λy o=>c y (by simp[o])) h.2 q d;have a:=d.ev x (c x aE);have:∃av,bu (q.ev x)=O av/\bC P E T s.b q.g s.tick (s.ev x) (.val av):=by
   have j:=h.1;revert a j;generalize s.ev x=r;generalize q.ev x=u;intro a j;cases a with
   |val t y _ av p hv=>exact ⟨av,p,.val t y _ av rfl hv⟩|dJ t y k v=>exact ⟨_,rfl,.dJ t y k v⟩
   |fn f caps fw b e=>exact ⟨_,rfl,.fn f caps fw b e⟩|pw r av b=>exact ⟨_,rfl,.pw r av b⟩
   |_=>cases j
  obtain⟨av,w,z⟩:=this;refine⟨av::fw,by simp[cP,w,b],by simp[tE,e],λi r A a m bx g tick=>?_⟩;cases i with
  |zero=>simp[tE]at a m;subst a m;exact .inr z|succ i=>exact n i r A (by simpa[tE]using a) (by simpa using m) bx g tick
include L in
theorem Ic(d:aW n o=W){first caps:Array qm}(b:o.op=.makeFunc (.func f) first caps)(h:hS X kx esc fz o s K=O out):eo P E T X w0 I0 n fz o s kx K out:=by
 unfold hS at h;simp only[b]at h;cases e:(!first.toList.isEmpty&&(caps.toList.isEmpty&&(tE s first.toList).all VZ))with
 |true=>
  rw[e]at h;simp only[bf]at h;simp only[aI]at e;obtain⟨_,m,p⟩:=e;have t:caps=#[]:=by
   cases caps with
   |mk l=>cases l with
    |nil=>rfl|cons a l=>cases m
  subst t;refine bX h λq g=>?_;obtain⟨fw,h1,u,v⟩:=FV (s:=s) first.toList (λy w=>bR d (by simp[b,Op.operands];simpa using w)) (cS.2 λr c=>by have:=cS.1 p r c;cases r<;>first|rfl|cases this) q g;refine⟨_,za b d h1,.lT f _ fw u λi r av c j=>?_⟩;rcases v i r av c j s.b q.g s.tick with h|h<;>exact h
 |false=>
 rw[e]at h;simp only[bq]at h;obtain⟨z,h⟩:=aA h;have A:first=#[]:=by
  cases first with
  |mk l=>cases l with
   |nil=>rfl|cons a l=>cases z
 subst A;obtain⟨k,h,hm,Q,B⟩:=pf (P:=P) (E:=E) (X:=X) (w0:=w0) (I0:=I0) (n:=n) L _ _ _ h;obtain⟨C,h⟩:=aA h;refine .one _ h (hm.trans (bh _ _)) λq g=>?_;obtain⟨q1,D,a2,G⟩:=B q g;have H:∀x∈caps.toList,bW x=W:=λx I=>bR d (by simp[b,Op.operands];simpa using I);obtain⟨fw,b1,b2,J⟩:=FV _ H C q1 a2;refine D.mr (jQ _ ⟨a2.put o.dst (.fn f _ fw b2 λi r av c j=>?_),λN=>?_⟩ (rb b d b1))
 .rcases J i r av c j k.b q1.g k.tick with h|h<;>exact h
 .have:=G N;subst this;exact .oc (.refl s q1) λ_=>rfl
include L in
theorem pg(a:jj P E T X el te)(ys:Z (bL U.C te)):kW P el (ys.map (enc T te)):=λy b=>by obtain⟨z,_,rfl⟩:=dP.1 b;exact⟨by rw[ew L,a.cells],pO L z⟩
include L in
theorem MM(x:jj P E T X el te){r:R U.C}{K:Z (bL U.C te)->V α}(h:TD s te el r K=O out):∃ys,K ys=O out/\(∀q u,aX P E T X s q->bC P E T s.b q.g s.tick r u->iH P q el u=O (ys.map (enc T te)))/\∀d,DN d r=F->P8 s te el r=O ys:=by
 unfold TD at h;split at h
 .rename_i k p;split at h
  .rename_i D e' G;replace h:=aA h;obtain⟨f,h⟩:=h;obtain rfl:=bV f;split at h
   .rename_i l o;replace h:=bind_some h;obtain⟨ys,a,h⟩:=h;refine⟨ys,h,λq u g b=>?_,λd t=>by cases t⟩;rw[Br b];rcases nZ a with⟨rfl,rfl⟩|⟨i,m,xs,rfl,h1,y,rfl⟩
    .rfl
    .have c:=r8 o g h1;have z:=pe o;have A:T.hz k=P.cellsOf e':=by rw[L.hz k te e' z,x.cells]
     simp only[gz,iH,c,A,ke,dd,y,ca,mZ]
   .cases h
  .cases h
 .split at h
  .rename_i ys a;refine⟨ys,h,λq u g b=>?_,λd t=>a⟩;unfold P8 at a;split at a
   .rename_i t' xs w;obtain⟨e,rfl⟩:=bN a;subst e;cases b with
    |val _ _ _ av c hv=>obtain⟨_,rfl⟩:=hv;rcases nt (cs:=List.map (enc T te) xs) c with e|e<;>rw[e]<;>rfl
   .rename_i t' xs;obtain⟨e,rfl⟩:=bN a;simp only[Ty.aq.injEq]at e;subst e;cases b;rfl
   .rename_i v;obtain⟨n,a⟩:=aA a;simp only[ax]at a;subst a;unfold eW at n;split at n
    .cases b;rfl
    .cases n
   .rename_i d w;split at a
    .rename_i t' e' xs j;replace a:=aA a;obtain⟨f,a⟩:=a;obtain rfl:=bV f;obtain⟨e,rfl⟩:=bN a;simp only[Ty.aq.injEq]at e;subst e;rw[eZ g b j];obtain⟨_,c⟩:=g.bi j;simp[iH,c,dh]
    .cases a
   .rename_i d off m w;split at a
    .rename_i t' e' xs j;replace a:=aA a;obtain⟨f,a⟩:=a;obtain rfl:=bV f;split at a
     .rename_i H B;simp only[ax]at a;subst a;obtain⟨e,rfl⟩:=bN B;simp only[Ty.aq.injEq]at e;subst e;obtain⟨_,c⟩:=g.bi j;cases b with
      |sub _ _ _ _ C=>rw[(C _ _ _ _ (dq j)).1];simp[iH,c,wF,mZ]
     .cases a
    .cases a
   .cases a
  .cases h
def Eb{r:R U.C}{ys:Z (bL U.C te)}(h:P8 s te el r=O ys)(j:DN d r=F){q:St}(k:aX P E T X s q)(a:bC P E T s.b q.g s.tick r u)(c:∀d',d'≠d->q'.b d'=q.b d'/\q'.g d'=q.g d'):iH P q' el u=iH P q el u:=by
 unfold P8 at h;split at h
 .rename_i t' xs;obtain⟨e,rfl⟩:=bN h;subst e;cases a with
  |val _ _ _ av f hv=>obtain⟨_,rfl⟩:=hv;rcases nt (cs:=List.map (enc T te) xs) f with e|e<;>rw[e]<;>rfl
 .cases a;rfl
 .rename_i v;obtain⟨g,h⟩:=aA h;unfold eW at g;split at g
  .cases a;rfl
  .cases g
 .rename_i d';split at h
  .rename_i t' e' xs i;have b:d'≠d:=λe=>by subst e;simp[DN]at j
   rw[eZ k a i];simp only[iH,(c d' b).1,(c d' b).2]
  .cases h
 .rename_i d' off m;split at h
  .rename_i t' e' xs i;have b:d'≠d:=λe=>by subst e;simp[DN]at j
   cases a with
   |sub _ _ _ _ f=>rw[(f _ _ _ _ (dq i)).1];simp only[iH,(c d' b).1,(c d' b).2]
  .cases h
 .cases h
def tO(a:aX P E T X s q){xs:Z (bL U.C t)}(c:mm d s.b=W)(f:X.ty e=O t){ys:Z AV}(g:ys=xs.map (enc T t)):
  aX P E T X (({s with r:=ko d s.tick s.r,b:=(d,s.tick,.bi t e xs)::bB s.b d,tick:=s.tick+1}:S U.C).put (O d) (.whole d)) (q.cH d e ys):=by
 subst g;exact a.cH c f
def BC{xs:Z (bL C t')}{a:Z (bL C te)}(h:eh (.aq t') (.aq te) xs=O a):∃e:t'=te,a=e▸xs:=by obtain⟨e,h⟩:=bN h;simp only[Ty.aq.injEq]at e;subst e;exact⟨rfl,h⟩
include L in
theorem On(q0:bP P E T X)(N:aW n o=W){x:qm}{u:JA}(H:o.op=.call {callee:=.builtin .append,args:=#[x,y],argTypes:=#[e,u]})(h:hS X kx esc fz o s K=O out):eo P E T X w0 I0 n fz o s kx K out:=by
 have f0:x∈o.op.operands:=by simp[H,Op.operands,Call.operands]
 have L0:y∈o.op.operands:=by simp[H,Op.operands,Call.operands]
 have r0:eS X s o.op=W:=by simp[H,eS]
 unfold hS at h;simp only[H]at h;split at h
 .rename_i te el j1 A0 k1 l1;have m1:=q0.ty _ _ A0;obtain⟨s0,h0⟩:=m1.elem te el rfl k1;have z:=q0.ty _ _ h0;obtain⟨Q1,o1⟩:=mb (q0.ty _ _ l1);have t0:ly P u=W:=by unfold ly;rw[o1]
  have u0:uP P el:=by obtain⟨i,p1,g1,g2,g3,g4,_⟩:=z.zero;exact⟨z.pos,i,p1,g1,g2,g4⟩
  unfold Ms at h;split at h
  .rename_i d I;have b0:d∈ez o:=by simp[ez,I,H]
   replace h:=MM L z h;obtain⟨ys,h,r1,s1⟩:=h;have B0:∀q,aX P E T X s q->iH P q el (q.ev y)=O (ys.map (enc T te)):=λq c=>r1 q _ c (c.fq N L0);have N0:∀(xs:Z (bL U.C te)),((cR ((List.isEmpty (α:=bL U.C te) xs||!ys.isEmpty)&&cE (X.bytes el) (List.length (α:=bL U.C te) xs+ys.length) 140737488355328)).bind λ_=>s.new d (.bi te el (List.append (α:=bL U.C te) xs ys)) λs=>K (s.put o.dst (.whole d)))=O out->(∀q,aX P E T X s q->q.ev x=.bM (xs.map (enc T te)))->eo P E T X w0 I0 n fz o s kx K out:=by
    intro xs h t1;obtain⟨_,j,h⟩:=bind_some h;have j:=dp j;simp only[cE,aI,kS,aU,il]at j;obtain⟨i0,u1,v1⟩:=j;refine xg I b0 r0 h h0 λq c R1 w1=>?_;refine nT H N I s0 t0 u0 (t1 q c) (pg L z xs) (B0 q c) (pg L z ys) ?_ (by simpa using u1) (by simpa[z.bytes]using v1) (by rw[<-kZ];exact w1);rcases i0 with i0|i0
    .left;cases xs with
     |nil=>rfl|cons a l=>cases i0
    .right;intro x1;have:ys=[]:=by simpa using x1
     subst this;cases i0
   split at h
   .
    rename_i d' Q;split at h
    .rename_i t' e' c0 C0;split at h
     .rename_i xs j0 y1;obtain⟨l0,rfl⟩:=BC j0;subst l0;obtain rfl:=bV y1;obtain⟨_,j,h⟩:=bind_some h;have j:=dp j;simp only[cE,aI,aU]at j;obtain⟨⟨D0,A1⟩,h⟩:=lM h;refine .one _ h (((tK _).trans (jU _ _)).trans (bh _ _)) λq c=>?_;have C:=c.fq N f0;rw[Q]at C;obtain⟨_,B1⟩:=c.bi C0;refine nS H N I s0 t0 u0 (eZ c C C0) rfl B1 (B0 q c) (pg L z ys) (by simpa using j.1) (by simpa[z.bytes]using j.2) ⟨?_,λS1=>?_⟩
      .rw[I];refine tO (c.drop d') D0 h0 ?_;rw[dh aE];exact kZ.symm
      .refine ⟨λt A0 _=>.inl (aJ _ _ λe=>A0 (by rw[I,e])),λG v0 J=>?_,λ_ _ _ _=>⟨rfl,rfl⟩,rfl,λG J=>?_,λh=>by rw[r0]at h;cases h⟩
       .have f:G≠d:=λe=>J (e▸b0);have m0:G≠d':=λe=>by subst e;rw[dq C0]at v0;cases v0
        exact⟨by simp only[St.cH,aJ _ _ f,aJ _ _ m0],by simp only[St.cH,aJ _ _ f]⟩
       .have f:G≠d:=λe=>J (e▸b0);refine⟨?_,by simp only[St.cH,aJ _ _ f]⟩;simp only[St.cH,aJ _ _ f];exact .HZ _ _ _
     .cases h
    .cases h
   .
    rename_i k p Q;cases g0:(DN d (s.ev y)||Nat.blt k 2)with
    |true=>rw[g0]at h;cases h
    |false=>
     rw[g0]at h;simp only[bq]at h;have T1:2<=k:=by
      have:=(x4.1 g0).2;cases tf k 2 with
      |inl h=>rw[fQ.mpr h]at this;cases this
      |inr h=>exact h
     replace g0:=(x4.1 g0).1;have d0:=g0;have P0:=s1 d d0;split at h
     .rename_i t l E0;replace h:=bind_some h;obtain⟨xs,j0,h⟩:=h;replace h:=bind_some h;obtain⟨_,j,h⟩:=h;have j:=dp j;simp only[cE,aI,aU]at j;split at h
      .rename_i h' C1;obtain⟨⟨G0,n0⟩,Q0⟩:=r9 E0;obtain⟨_,R0⟩:=mF C1;have S0:=pe E0;replace h:({(s.put (O t) .none)with h:=h',hv:=(s.put (O t) .none).tick,tick:=(s.put (O t) .none).tick+1}:S U.C).new d (.bi te el (xs++ys)) (λs=>K (s.put o.dst (.whole d)))=O out:=h;replace h:=lM h;obtain⟨⟨D0,A1⟩,h⟩:=h;have U1:nM P E T X ((d,s.tick+1+1,B.bi te el (xs++ys))::bB s.b d) (λ_=>0) (s.tick+1+1+1) (O (s.tick+1+1,.bi te el (xs++ys))) (O (.bi el ((xs++ys).map (enc T te)))):=⟨h0,rfl⟩
       refine .one _ h ((((bh _ _).trans (nX _)).trans (jU _ _)).trans (bh _ _)) λq c=>?_;have C:=c.fq N f0;rw[Q]at C;have T0:q.r t=.val (gz T p k):=Br C;have U0:=B0 q c;have X0:=c.fq N L0;rw[I];have b1:∀(q':St)(A:Nat->V Ob),eY T s.m h' A q.u->(∀t',t'≠t->q'.r t'=q.r t')->(∀d',d'≠d->q'.b d'=q.b d')->(∀d',d'≠d->q'.g d'=q.g d')->q'.a=A->q'.u=q.u->q'.df=q.df->aX P E T X (({s.put (O t) .none with h:=h',hv:=(s.put (O t) .none).tick,r:=ko d ((s.put (O t) .none).tick+1) (s.put (O t) .none).r,b:=(d,(s.put (O t) .none).tick+1,.bi te el (xs++ys))::bB (s.put (O t) .none).b d,tick:=(s.put (O t) .none).tick+1+1}:S U.C).put (O d) (.whole d)) (q'.cH d el ((xs++ys).map (enc T te))):=by
        intro q' A o0 D1 c1 l0 E1 G1 H1;have I1:aX P E T X ({(s.put (O t) .none)with h:=h',hv:=(s.put (O t) .none).tick,tick:=(s.put (O t) .none).tick+1}:S U.C) {q.put (O t) (.bM [])with a:=A,u:=q.u}:=(c.put (O t) (r:=.none) (u:=.bM []) (.none _)).qv (hv:=(s.put (O t) .none).tick) (cO _) o0;have p0:=I1.TN D0 (b:=.bi te el (xs++ys)) (q1:={q' with b:=aa q'.b d (O (.bi el ((xs++ys).map (enc T te)))),g:=aa q'.g d (q'.g d+1)}) (λt' R=>?_) (λd' D=>?_) (bK _ _ _) (λd' D=>?_) E1 G1 H1 ⟨h0,rfl⟩
        .have:=p0.put (O d) (r:=.whole d) (u:=.view d (q'.g d+1) 0 ((xs++ys).map (enc T te)).length) (.whole d _ λst j1 c1 X1 x0=>by simp only[aQ,ca,ax,bc,B.bi.injEq]at x0;obtain⟨_,rfl,_,x0⟩:=x0;cases x0;simp);exact this
        .have a0:t'≠t:=λe=>by subst e;exact R (by simp[S.bQ,S.put,aQ])
         show q'.r t'=aa q.r t (.bM []) t';rw[aJ _ _ a0,D1 t' a0]
        .show aa q'.b d _ d'=q.b d';rw[aJ _ _ D,c1 d' D]
        .show aa q'.g d _ d'=q.g d';rw[aJ _ _ D,l0 d' D]
       rcases nZ j0 with⟨rfl,rfl⟩|⟨i,m,c0,rfl,y0,a2,rfl⟩
       .
        have o0:eY T s.m h' q.a q.u:=by
         refine c.heap.set L n0 R0 (λi=>?_) λ_ _ _ _=>⟨rfl,rfl⟩
         exact c.heap.at n0 G0 Q0 i
        have H0:iz P E w0 I0 n q {q with r:=aa q.r t (.bM [])}:=λa w J0=>Mk t T0 J0;refine H0.mr (nT H N I s0 t0 u0 (xs:=[]) (by simp[St.ev]) (λx f0=>by cases f0) (ys:=ys.map (enc T te)) ?_ (pg L z ys) (.inl rfl) (by simpa using j.1) (by simpa[z.bytes]using j.2) ⟨?_,λ_=>?_⟩);rotate_left 2
        .refine ⟨λt' R K0=>.inl ?_,λG v0 J=>?_,λ_ _ _ _=>⟨rfl,rfl⟩,rfl,λG J=>?_,λh=>by rw[r0]at h;cases h⟩
         .have f:t'≠d:=λe=>R (by rw[I,e]);have m0:t'≠t:=λe=>K0 (by simp[hM,H,e]);simp only[St.cH,aJ _ _ f,aJ _ _ m0]
         .have f:G≠d:=λe=>J (e▸b0);exact⟨by simp only[St.cH,aJ _ _ f],by simp only[St.cH,aJ _ _ f]⟩
         .have f:G≠d:=λe=>J (e▸b0);exact⟨.HY (by simp only[St.cH,aJ _ _ f]),by simp only[St.cH,aJ _ _ f]⟩
        .have a0:St.ev {q with r:=aa q.r t (.bM [])} y=q.ev y:=by
          cases y with
          |tmp t'=>
           by_cases e:t'=t
           .subst e;rw[Q]at d0;cases d0
           .exact aJ _ _ e
          |_=>rfl
         rw[a0];exact(Eb P0 d0 c X0 λd' D=>⟨rfl,rfl⟩).trans U0
        .have:=b1 {q with r:=aa q.r t (.bM [])} q.a o0 (λt' R=>aJ _ _ R) (λ_ _=>rfl) (λ_ _=>rfl) rfl rfl rfl;simpa using this
       .
        have J1:T.hz k=P.cellsOf el:=by rw[L.hz k te el S0,z.cells]
        have K1:i<l.length:=by
         unfold bz at y0;cases d1:l[i]? with
         |none=>rw[d1]at y0;cases y0
         |some w=>exact (aY.1 d1).1
        have L1:=r8 E0 c y0;have o0:eY T s.m h' (aa q.a (dI k i) Y) q.u:=c.heap.kQ L n0 G0 Q0 K1 (x:=Y) R0;have H0:iz P E w0 I0 n q {q with r:=aa q.r t (.view d (q.g d+1) 0 m),b:=aa q.b d (O (.bi el (c0.map (enc T te)))),g:=aa q.g d (q.g d+1),a:=aa q.a (dI k i) Y}:=λa w J0=>HB t d (q0.ZB _ _ n0 λa b e=>by rw[S0]at e;cases e) (by rw[T0];simp[gz,J1]) L1 (by simpa using a2) (.inr (by have:=L.nk;unfold dI;omega)) J0;have f1:(c0.take m).length=m:=by simp[zX a2]
        refine H0.mr (nS H N I s0 t0 u0 (d':=d) (gg:=q.g d+1) (k:=m) (xs:=c0.map (enc T te)) (ys:=ys.map (enc T te)) (by simp[St.ev]) aE aE ?_ (pg L z ys) (by rw[f1]at j;simpa using j.1) (by rw[f1]at j;simpa[z.bytes]using j.2) ⟨?_,λ_=>?_⟩);rotate_left 2
        .refine ⟨λt' R K0=>.inl ?_,λG v0 J=>?_,λk' N1 P1 i1=>?_,rfl,λG J=>?_,λh=>by rw[r0]at h;cases h⟩
         .have f:t'≠d:=λe=>R (by rw[I,e]);have m0:t'≠t:=λe=>K0 (by simp[hM,H,e]);simp only[St.cH,aJ _ _ f,aJ _ _ m0]
         .have f:G≠d:=λe=>J (e▸b0);exact⟨by simp only[St.cH,aJ _ _ f],by simp only[St.cH,aJ _ _ f]⟩
         .have a0:dI k' N1≠dI k i:=λe=>by have:=(hg L P1 n0 e).1;subst this;rw[G0]at i1;cases i1
          exact⟨aJ _ _ a0,rfl⟩
         .have f:G≠d:=λe=>J (e▸b0);exact⟨.HY (by simp only[St.cH,aJ _ _ f]),by simp only[St.cH,aJ _ _ f]⟩
        .have a0:St.ev {q with r:=aa q.r t (.view d (q.g d+1) 0 m),b:=aa q.b d (O (.bi el (c0.map (enc T te)))),g:=aa q.g d (q.g d+1),a:=aa q.a (dI k i) Y} y=q.ev y:=by
          cases y with
          |tmp t'=>
           by_cases e:t'=t
           .subst e;rw[Q]at d0;cases d0
           .exact aJ _ _ e
          |_=>rfl
         rw[a0];exact(Eb P0 d0 c X0 λd' D=>⟨aJ _ _ D,aJ _ _ D⟩).trans U0
        .have:=b1 {q with r:=aa q.r t (.view d (q.g d+1) 0 m),b:=aa (aa q.b d (O (.bi el (c0.map (enc T te))))) d Y,g:=aa q.g d (q.g d+1),a:=aa q.a (dI k i) Y} _ o0 (λt' R=>aJ _ _ R) (λd' D=>by simp only[aJ _ _ D]) (λd' D=>aJ _ _ D) rfl rfl rfl;rw[kZ,mZ]at this;exact this
      .cases h
     .cases h
   .rename_i t' c0 Q;split at h
    .rename_i xs j0;obtain⟨l0,rfl⟩:=BC j0;subst l0;refine N0 _ h λq c=>?_;have C:=c.fq N f0;rw[Q]at C;generalize q.ev x=v at C;cases C;rfl
    .cases h
   .rename_i v Q;obtain⟨p0,h⟩:=aA h;refine N0 [] (by simpa using h) λq c=>?_;have C:=c.fq N f0;rw[Q]at C;unfold eW at p0;split at p0
    .generalize q.ev x=v at C;cases C;rfl
    .cases p0
   .cases h
  .cases h
 .cases h
include L in
theorem TY(j:bP P E T X)(i:aW n o=W){x:qm}{u:JA}(c:o.op=.call {callee:=.builtin .copy,args:=#[x,y],argTypes:=#[e,u]})(h:hS X kx esc fz o s K=O out):eo P E T X w0 I0 n fz o s kx K out:=by
 have w:x∈o.op.operands:=by simp[c,Op.operands,Call.operands]
 have z:y∈o.op.operands:=by simp[c,Op.operands,Call.operands]
 have A:eS X s o.op=W:=by simp[c,eS]
 unfold hS at h;simp only[c]at h;split at h
 .rename_i d te el B f C;have D:=j.ty _ _ f;obtain⟨G,k⟩:=D.elem te el rfl C;have l:=j.ty _ _ k;replace h:=MM L l h;obtain⟨ys,h,H,_⟩:=h;split at h
  .rename_i t' e' a g;split at h
   .rename_i xs I J;obtain⟨N,rfl⟩:=BC I;subst N;obtain rfl:=bV J;refine .one _ h ((hU _ _).trans (bh _ _)) λq b=>?_;have m:=b.fq i w;rw[B]at m;obtain⟨_,p⟩:=b.bi g;refine Ke c i (by simp[ga,G]) (eZ b m g) rfl p (H q _ b (b.fq i z)) (pg L l ys) ?_;have r:(List.take (min ys.length a.length) ys++List.drop (min ys.length a.length) a).length=a.length:=by simp only[ey,jE,zQ];omega
    have Q:bd (a.map (enc T t')) 0 ((ys.map (enc T t')).take (min (ys.map (enc T t')).length a.length))=(List.take (min ys.length a.length) ys++List.drop (min ys.length a.length) a).map (enc T t'):=by unfold bd;simp only[qV,oy,dd,cX,kZ,mZ,wF,jE];congr 2;omega
    rw[Q,dd];have R:=b.gm g (b':=.bi t' e' (List.take (min ys.length a.length) ys++List.drop (min ys.length a.length) a)) (x:=.bi e' ((List.take (min ys.length a.length) ys++List.drop (min ys.length a.length) a).map (enc T t'))) ⟨rfl,r⟩ ⟨k,rfl⟩;refine⟨R.put o.dst (bg (t:=.int .i64) rfl),λS=>?_⟩;refine .oc ⟨λ_=>.inl rfl,(λd' v=>aJ _ _ λe=>by subst e;rw[dq g]at v;cases v),rfl,λ_ _ _ _=>⟨rfl,rfl⟩,rfl,FN.aa (.inr (.inr ⟨_,_,_,p,rfl,by simp only[dd];exact r⟩))⟩ λf=>by rw[A]at f;cases f
   .cases h
  .cases h
 .cases h
def Ie(c:o.dst=O d){gg len:Nat}{xs:Z AV}(f:dQ P E w0 I0 n o q (.view d' gg 0 len))(g:gg=q.g d')(h:q.b d'=O (.bi e xs)){K:St->Prop}(i:K (q.Au d d' e xs len)):dE P E w0 I0 n o q K:=by rintro a w ⟨I,be,b⟩ m;obtain⟨v,h1,j⟩:=f a w I be b;obtain⟨k,l⟩:=b.Au d d' j g h;exact fm h1 ⟨_,⟨I,k,by rw[c];exact l⟩,i⟩
def Xw(z:bP P E T X)(i:aW n o=W){x:qm}{c hi:V qm}(j:o.op=.slice e x c hi Y){l r:V Int}(A:s.ev x=.whole d')(f:nr s Y c=O l)(B:nr s Y hi=O r)(C:X.ty e=O (.aq t))
  (h:TG X fz s o.dst e d' t l r K=O out):eo P E T X w0 I0 n fz o s kx K out:=by
 have D:x∈o.op.operands:=by simp[j,Op.operands]
 have G:∀y,hi=O y->bW y=W:=λy g=>bR i (by simp[j,Op.operands,g]);unfold TG at h;split at h
 .rename_i d t' el xs m k p;replace h:=aA h;obtain⟨u,h⟩:=h;simp only[aI,aU]at u;obtain⟨rfl,H⟩:=u;replace h:=bind_some h;obtain⟨_,a,h⟩:=h;replace a:=dp a;simp only[aI,aU]at a;replace h:=lM h;obtain⟨⟨I,a0⟩,h⟩:=h;rw[<-k]at h;refine .one _ h (((tK _).trans (jU _ _)).trans (bh _ _)) λq b=>?_;have J:=z.ty _ _ C;obtain⟨L,_⟩:=J.elem _ _ rfl H;have v:=b.fq i D;rw[A]at v;obtain⟨N,w⟩:=b.bi p;have Q:c=Y:=by
   cases c with
   |none=>rfl|some y=>unfold nr at f;simp only at f;split at f<;>simp at f
  subst Q;have R:lU q 0 Y=O 0:=rfl;have S:lU q xs.length hi=O m.toNat:=pP (dflt:=xs.length) b G B λb0 e=>by simp only[ax]at e;subst e;exact a.1
  have g:=k9 (P:=P) (E:=E) (w0:=w0) (I0:=I0) (n:=n) (s:=q) j i (fa L) (eZ b v p) rfl w (l:=0) (h:=m.toNat) R S (dS _) a.2;rw[cX,oA]at g;rw[k];refine Ie k g rfl w ⟨?_,λU=>by cases U⟩;refine tO (b.drop d') I N ?_;rw[mZ]
 .cases h
def Oo(b:aW n o=W){x:qm}(c:o.op=.assign x)(h:hS X kx esc fz o s K=O out):eo P E T X w0 I0 n fz o s kx K out:=by
 have i:x∈o.op.operands:=by simp[c,Op.operands]
 have j:∀r,r=s.ev x->K (s.put o.dst r)=O out->eo P E T X w0 I0 n fz o s kx K out:=λr f p=>by subst f;exact bX p λq a=>⟨_,E7 c b,a.fq b i⟩
 unfold hS at h;simp only[c]at h;split at h
 .rename_i d' d k l;split at h
  .rename_i t e xs m;cases g:Nat.beq d' d with
   |true=>rw[g]at h;simp only[bf]at h;obtain rfl:=bV g;exact j _ k.symm h|false=>rw[g]at h;simp only[bq]at h;replace h:=lM h;obtain⟨⟨u,z⟩,h⟩:=h;refine .one _ h (((tK _).trans (jU _ _)).trans (bh _ _)) λq a=>?_;have f:=a.fq b i;rw[k]at f;obtain⟨v,w⟩:=a.bi m;rw[l];refine uS c b l (eZ a f m) rfl w ⟨?_,λy=>by cases y⟩;refine tO (a.drop d') u v ?_;rw[dh aE]
  .cases h
 .exact j _ rfl h
def FW(h:eV t=W):(∀x:bL U.C t,∀fw,FK T t x fw↔fw=[enc T t x])/\(∀x:bL U.C t,jq T t x=[.v (enc T t x)]):=by cases t<;>first|(exact⟨λx fw=>⟨λh=>h.2,λh'=>⟨h,h'⟩⟩,λx=>rfl⟩)|cases h
def KJ:∀(qs:Z Ty)(a:qs.all eV=W)(x:HL U.C qs)(fw:Z AV),FK T (wX qs) x fw->fy P E T qs x fw
 |[],_,x,fw,h=>h|[t],a,x,fw,h=>by
  have b:eV t=W:=by simpa using a
  have:=((FW (T:=T) b).1 x fw).1 h;exact⟨_,[],this,gu b,rfl⟩
 |t::u::ts,a,x,fw,h=>by simp only[qQ,aI]at a;obtain⟨c,r,d,e⟩:=h;exact⟨_,r,d,gu c,KJ (u::ts) (by simp[a.2]) x.2 r e⟩
def KK:∀(rs:Z RK)(y:HL U.C (rs.map RK.ty)),(∀r∈rs,Og X r)->rs.all (λr=>!r.eM)=W->cL T rs y=jq T (wX (rs.map RK.ty)) y
 |[],y,_,_=>rfl|[.v t],y,h,_=>by have c:eV t=W:=h (.v t) aE;exact((FW (T:=T) c).2 y).symm
 |[.bU t e],y,_,h=>by cases h
 |.bU t e::r::rs,y,_,h=>by simp[RK.eM]at h|.v t::r::rs,y,h,a=>by have:=KK (r::rs) y.2 (λd b=>h d (by simp at b⊢;exact .inr b)) (by simp at a⊢;exact a.2);show _::cL T (r::rs) y.2=_::jq T (wX ((r::rs).map RK.ty)) y.2;rw[this];rfl
def BD:∀(qs us:Z Ty)(x:HL U.C qs)(y:HL U.C us)(a b:Z AV),fy P E T qs x a->fy P E T us y b->fy P E T (qs++us) (HI qs us x y) (a++b)
 |[],us,x,y,a,b,c,d=>by have:a=[]:=c;subst this;exact d|t::qs,us,x,y,a,b,c,d=>by
  obtain⟨z,r,rfl,e,f⟩:=c;refine⟨z,r++b,rfl,?_,?_⟩
  .show kr P E T t (wD t (qs++us) (hJ t (qs++us) (wD t qs x) (HI qs us (wC t qs x) y))) z;rw[eJ];exact e
  .show fy P E T (qs++us) (wC t (qs++us) (hJ t (qs++us) (wD t qs x) (HI qs us (wC t qs x) y))) (r++b);rw[eK];exact BD qs us _ y r b f d
def jB(P:qK)(E:cm)(T:dm U.C)(caps:Z (R U.C))(fw:Z AV):Prop:=caps.length=fw.length/\∀(i:Nat)(r:R U.C)(av:AV),caps[i]?=O r->fw[i]?=O av->∀t v,fD t r=O v->kr P E T t v av
def jB.tail {r:R U.C} {caps:Z (R U.C)} (h:jB P E T (r::caps) (av::fw)):jB P E T caps fw:=⟨by simpa using h.1,λi a b c d=>h.2 (i+1) a b (by simpa using c) (by simpa using d)⟩
def tP{bx:Z (Nat×Nat×B U.C)}{caps:Z (R U.C)}(h:bC P E T bx g tick (.fn f caps) u):∃fw,u=.val (.fn f fw)/\jB P E T caps fw:=by
 cases h with
 |fn _ _ fw h1 b=>refine⟨fw,rfl,h1,λi r av c d t v hv=>?_⟩;obtain⟨j,a,e⟩:=ns (b i r av c d) hv;simp only[bu,ax]at a;subst a;exact e
def BE:∀(us:Z Ty)(caps:Z (R U.C))(fw:Z AV)(y:HL U.C us),AU us caps=O y->jB P E T caps fw->fy P E T us y fw
 |[],[],fw,y,h,b=>by
  have:=b.1;cases fw with
  |nil=>rfl|cons a l=>simp at this
 |[],_::_,fw,y,h,b=>by simp[AU]at h|t::us,[],fw,y,h,b=>by simp[AU]at h
 |t::us,r::caps,fw,y,h,b=>by
  cases fw with
  |nil=>have:=b.1;simp at this|cons av fw=>
   simp only[AU]at h;split at h
   .rename_i x xs c d;simp only[ax]at h;subst h;refine⟨av,fw,rfl,?_,?_⟩
    .rw[eJ];exact b.2 0 r av rfl rfl t x c
    .rw[eK];exact BE us caps fw xs d b.tail
   .cases h
def KL{y:HL U.C us}{d:HL U.C ps->V (HL U.C (rs.map RK.ty))}(e:wX qs=a)(g:wX (rs.map RK.ty)=b)(h:ps=qs++us)(i:rs.all (λr=>!r.eM)=W)(j:qs.all eV=W)
  (k:fy P E T us y fw) (l:∀r∈rs,Og X r) (m:nY P E T f ps rs Y (.pure d)):kr P E T (.fn a b) (λx=>VX g (d (Mu h (HI qs us (Mt e x) y)))) (.fn f fw):=by
 subst e g h;refine⟨f,fw,rfl,λx z n c o=>?_⟩;have:=m _ (c++fw) z (BD qs us x y c fw (KJ qs j x c o) k) n;rw[<-KK (X:=X) rs z l i];exact this
def QG{y:HL U.C us}{d:HL U.C ps->U.C 0->V (HL U.C (rs.map RK.ty)×U.C 0)}(e:wX qs=a)(g:wX (rs.map RK.ty)=b)(i:ps=qs++us)(j:rs.all (λr=>!r.eM)=W)(k:qs.all eV=W)
  (l:fy P E T us y fw) (m:∀r∈rs,Og X r) (n:nY P E T f ps rs Y (.st d)):kr P E T (.qu a b) (λx h=>VY g (d (Mu i (HI qs us (Mt e x) y)) h)) (.fn f fw):=by
 subst e g i;refine⟨f,fw,rfl,λx h z h' o c p A Vloc q=>?_⟩;obtain⟨s,t,g1,u⟩:=n _ h (c++fw) z h' A Vloc (BD qs us x y c fw (KJ qs k x c p) l) q o;refine⟨s,t,g1,?_⟩;rw[<-KK (X:=X) rs z m j];exact u
def xi{f:JC}{a b:Ty}{caps:Z (R U.C)}{fw:Z AV}(i:jB P E T caps fw):∀(l:Z (b7 U))(φ:bL U.C (.fn a b)),(∀c∈l,jV P E T X f c)->jI a b caps l=O φ->kr P E T (.fn a b) φ (.fn f fw)
 |[],φ,_,h=>by simp[jI]at h|⟨ps,rs,dO,e⟩::l,φ,j,h=>by
  have d:∀φ:bL U.C (.fn a b),jI a b caps l=O φ->kr P E T (.fn a b) φ (.fn f fw):=λφ h=>xi i l φ (λc i=>j c (by simp[i])) h;have h0:=j _ (EV ..);cases dO with
  |some p=>cases e<;>(simp only[jI]at h;exact d φ h)
  |none=>
   cases e with
   |rd e=>simp only[jI]at h;exact d φ h|st e=>simp only[jI]at h;exact d φ h
   |pure e=>
    simp only[jI]at h;split at h
    .rename_i y k;split at h
     .rename_i m;split at h
      .rename_i n;split at h
       .rename_i o;cases g:(rs.all (λr=>!r.eM)&&(HJ (ps.length-caps.length) a).all eV)with
        |false=>rw[g]at h;exact d φ h|true=>rw[g]at h;simp only[bf,ax]at h;subst h;simp only[aI]at g;exact KL (X:=X) m n o g.1 g.2 (BE _ _ _ _ k i) h0.rs h0.sy
       .exact d φ h
      .exact d φ h
     .exact d φ h
    .exact d φ h
def MN{f:JC}{a b:Ty}{caps:Z (R U.C)}{fw:Z AV}(i:jB P E T caps fw):∀(l:Z (b7 U))(φ:bL U.C (.qu a b)),(∀c∈l,jV P E T X f c)->vn a b caps l=O φ->kr P E T (.qu a b) φ (.fn f fw)
 |[],φ,_,h=>by simp[vn]at h|⟨ps,rs,dO,e⟩::l,φ,j,h=>by
  have d:∀φ:bL U.C (.qu a b),vn a b caps l=O φ->kr P E T (.qu a b) φ (.fn f fw):=λφ h=>MN i l φ (λc i=>j c (by simp[i])) h;have h0:=j _ (EV ..);cases dO with
  |some p=>cases e<;>(simp only[vn]at h;exact d φ h)
  |none=>
   cases e with
   |rd e=>simp only[vn]at h;exact d φ h|pure e=>simp only[vn]at h;exact d φ h
   |st e=>
    simp only[vn]at h;split at h
    .rename_i y k;split at h
     .rename_i m;split at h
      .rename_i n;split at h
       .rename_i o;cases g:(rs.all (λr=>!r.eM)&&(HJ (ps.length-caps.length) a).all eV)with
        |false=>rw[g]at h;exact d φ h|true=>rw[g]at h;simp only[bf,ax]at h;subst h;simp only[aI]at g;exact QG (X:=X) m n o g.1 g.2 (BE _ _ _ _ k i) h0.rs h0.sy
       .exact d φ h
      .exact d φ h
     .exact d φ h
    .exact d φ h
def yw{φ:bL U.C (.fn a b)}(h:kr P E T (.fn a b) φ av):kr P E T (.qu a b) (Kq φ) av:=by obtain⟨f,caps,rfl,h⟩:=h;refine⟨f,caps,rfl,λx h0 y h' c fw d A Vloc e=>?_⟩;obtain⟨z,hz,c⟩:=bind_some c;simp only[ax,bc]at c;obtain⟨rfl,rfl⟩:=c;exact⟨A,Vloc,e,(h x z hz fw d).h A Vloc⟩
def MO(d:bP P E T X){bx:Z (Nat×Nat×B U.C)}{r:R U.C}{φ:bL U.C (.fn a b)}(h:Qa X a b r=O φ)(c:bC P E T bx g tick r u):∃av,bu u=O av/\kr P E T (.fn a b) φ av:=by
 unfold Qa at h;split at h
 .rename_i t x;obtain⟨e,rfl⟩:=bN h;subst e;cases c with
  |val _ _ _ av i hv=>exact ⟨av,i,hv⟩
 .rename_i f caps;obtain⟨fw,rfl,j⟩:=tP c;exact⟨_,rfl,xi (X:=X) j _ φ (d.con f) h⟩
 .cases h
def QH(j:bP P E T X){bx:Z (Nat×Nat×B U.C)}{r:R U.C}{φ:bL U.C (.qu a b)}(h:Mv X a b r=O φ)(d:bC P E T bx g tick r u):∃av,bu u=O av/\kr P E T (.qu a b) φ av:=by
 unfold Mv at h;split at h
 .rename_i a' b' ψ;split at h
  .rename_i l c;obtain⟨e,rfl⟩:=bN c;simp only[Ty.fn.injEq]at e;obtain⟨rfl,rfl⟩:=e;simp only[ax]at h;subst h;cases d with
   |val _ _ _ av i hv=>exact ⟨av,i,yw hv⟩
  .cases h
 .rename_i t x m;obtain⟨e,rfl⟩:=bN h;subst e;cases d with
  |val _ _ _ av i hv=>exact ⟨av,i,hv⟩
 .rename_i f caps;obtain⟨fw,rfl,c⟩:=tP d;split at h
  .rename_i ψ k;simp only[ax]at h;subst h;exact⟨_,rfl,yw (xi (X:=X) c _ ψ (j.con f) k)⟩
  .exact ⟨_,rfl,MN (X:=X) c _ φ (j.con f) h⟩
 .cases h
include L in
theorem Xx(e:bP P E T X)(j:(∃k,s.m k=W)->E.dc=F){fz:tl}{x:qm}(f:bW x=W){k:S U.C->bL U.C t->V α}(h:S.arg X fz s (s.ev x) t k=O out):
  ∃s' v,k s' v=O out/\bE s s'/\(∀d,aB s.b d=Y->aB s'.b d=Y)/\(∀y,lC (s.ev y)=F->s'.ev y=s.ev y)/\∀q,aX P E T X s q->∃q' av,ZD P E T X w0 I0 n fz s s' x t v q q' av:=by
 unfold S.arg at h;split at h
 .rename_i a b k;split at h
  .rename_i φ g;refine⟨s,φ,h,.refl s,λ_ h=>h,λ_ _=>rfl,λq c=>?_⟩;obtain⟨av,h1,i⟩:=MO e g (c.ev x f);exact⟨q,av,.refl q,c,h1,i,.refl q,λ_=>.refl s q,λ_=>⟨rfl,rfl⟩⟩
  .cases h
 .rename_i a b k;split at h
  .rename_i φ g;refine⟨s,φ,h,.refl s,λ_ h=>h,λ_ _=>rfl,λq c=>?_⟩;obtain⟨av,h1,i⟩:=QH e g (c.ev x f);exact⟨q,av,.refl q,c,h1,i,.refl q,λ_=>.refl s q,λ_=>⟨rfl,rfl⟩⟩
  .cases h
 .exact lD L e j f h
structure Xy(P:Program)(E:cm)(T:dm U.C)(X:gj U)(w0:World)(I0:aD)(n:Nat)(fz:Bool)(s s':S U.C)(l:List Operand)(q q':St)(xs:List AV):Prop where
 oE:iz P E w0 I0 n q q'
 nN:aX P E T X s' q'
 jb:kX q q'
 fr:fz=F->ze s q q'
 still:(∀x∈l,lC (s.ev x)=F)->q'=q/\s'=s
 CU:cP q' l=O xs
include L in
theorem ph(g:bP P E T X):∀(ts:Z Ty)(l:Z qm)(s:S U.C)(caps:Z (R U.C)){K:S U.C->HL U.C ts->V α},((∃k,s.m k=W)->E.dc=F)->oZ X fz s ts l caps K=O out->(∀x∈l,bW x=W)->
  ∃s' vs,K s' vs=O out/\bE s s'/\(∀d,aB s.b d=Y->aB s'.b d=Y)/\∀q fw,aX P E T X s q->jB P E T caps fw->∃q' xs,Xy P E T X w0 I0 n fz s s' l q q' xs/\fy P E T ts vs (xs++fw)
 |[],[],s,[],K,b,h,c=>by
  refine⟨s,(),h,.refl s,λ_ h=>h,λq fw f e=>?_⟩;have:fw=[]:=by
   have:=e.1;cases fw with
   |nil=>rfl|cons a l=>simp at this
  subst this;exact⟨q,[],⟨.refl q,f,.refl q,λ_=>.refl s q,λ_=>⟨rfl,rfl⟩,rfl⟩,rfl⟩
 |[],[],s,_::_,K,b,h,c=>by simp[oZ]at h|[],_::_,s,caps,K,b,h,c=>by simp[oZ]at h
 |t::ts,[],s,[],K,b,h,c=>by simp[oZ]at h|t::ts,[],s,r::caps,K,b,h,c=>by
  simp only[oZ]at h;split at h
  .rename_i v hv;obtain⟨s',vs,h,hm,i,j⟩:=ph g ts [] s caps b h c;refine⟨s',_,h,hm,i,λq fw f e=>?_⟩;cases fw with
   |nil=>have:=e.1;simp at this|cons av fw=>
    obtain⟨q',xs,h1,m⟩:=j q fw f e.tail;have A:xs=[]:=by have:=h1.CU;simp only[cP,ax]at this;exact this.symm
    subst A;refine⟨q',[],h1,av,fw,rfl,?_,?_⟩
    .rw[eJ];exact e.2 0 r av rfl rfl t v hv
    .rw[eK];exact m
  .cases h
 |t::ts,x::l,s,caps,K,b,h,c=>by
  have h:S.arg X fz s (s.ev x) t (λs v=>oZ X fz s ts l caps λs vs=>K s (hJ t ts v vs))=O out:=by cases caps<;>exact h
  obtain⟨B,v,h,o,u,I,C⟩:=Xx (w0:=w0) (I0:=I0) (n:=n) L g b (c x aE) h;obtain⟨s',vs,h,hm,i,j⟩:=ph g ts l B caps (by rw[o.m];exact b) h λy p=>c y (by simp[p]);refine⟨s',_,h,o.trans hm,λd D=>i d (u d D),λq fw f e=>?_⟩;obtain⟨q1,av,hv⟩:=C q f;obtain⟨q',xs,h1,m⟩:=j q1 fw hv.nN e;refine⟨q',av::xs,⟨hv.oE.trans h1.oE,h1.nN,hv.jb.trans h1.jb,λw=>(hv.fr w).trans (h1.fr w) hv.nN u o.m,λz=>?_,?_⟩,av,xs++fw,rfl,?_,?_⟩
  .obtain ⟨G,H⟩:=hv.still (z x aE);subst G H;exact h1.still λy p=>z y (by simp[p])
  .simp only[cP,h1.jb x _ hv.CU,h1.CU]
  .rw[eJ];exact hv.Dh
  .rw[eK];exact m
include L in
theorem BF(i:bP P E T X):∀(l:Z qm)(a:Ty)(s:S U.C){K:S U.C->bL U.C a->V α},((∃k,s.m k=W)->E.dc=F)->AW fz s a l K=O out->(∀x∈l,bW x=W)->
  ∃s' v,K s' v=O out/\bE s s'/\(∀d,aB s.b d=Y->aB s'.b d=Y)/\∀q,aX P E T X s q->∃q' xs,Xy P E T X w0 I0 n fz s s' l q q' xs/\FK T a v xs
 |[],a,s,K,b,h,c=>by cases a<;>simp[AW]at h
 |[x],a,s,K,b,h,c=>by
  have h:(bif eV a then s.val fz (s.ev x) a K else Y)=O out:=by cases a<;>exact h
  obtain⟨e,h⟩:=aA h;obtain⟨s',v,h,hm,j,J,m⟩:=lD (w0:=w0) (I0:=I0) (n:=n) L i b (c x aE) h;refine⟨s',v,h,hm,j,λq o=>?_⟩;obtain⟨q',av,hv⟩:=m q o;refine⟨q',[av],⟨hv.oE,hv.nN,hv.jb,hv.fr,λg=>hv.still (g x aE),by simp[cP,hv.CU]⟩,?_⟩;rw[fW hv.Dh e];exact((FW (T:=T) e).1 v _).2 rfl
 |x::y::l,a,s,K,b,h,c=>by
  cases a with
  |gn t u=>
   simp only[AW]at h;obtain⟨e,h⟩:=aA h;obtain⟨B,v,h,p,r,N,C⟩:=lD (w0:=w0) (I0:=I0) (n:=n) L i b (c x aE) h;obtain⟨s',vs,h,hm,j,m⟩:=BF i (y::l) u B (by rw[p.m];exact b) h λz f=>c z (by simp at f⊢;exact .inr f);refine⟨s',_,h,p.trans hm,λd D=>j d (r d D),λq o=>?_⟩;obtain⟨q1,av,hv⟩:=C q o;obtain⟨q',xs,h1,G⟩:=m q1 hv.nN;refine⟨q',av::xs,⟨hv.oE.trans h1.oE,h1.nN,hv.jb.trans h1.jb,λw=>(hv.fr w).trans (h1.fr w) hv.nN r p.m,λg=>?_,?_⟩,e,xs,?_,G⟩
   .obtain ⟨H,I⟩:=hv.still (g x aE);subst H I;exact h1.still λz f=>g z (by simp at f⊢;exact .inr f)
   .have A:=h1.CU;simp only[cP]at A⊢;simp only[h1.jb x _ hv.CU,A]
   .rw[fW hv.Dh e]
  |_=>simp[AW]at h
include L in
theorem QI(r:bP P E T X){x:qm}(g:bW x=W){k:bL U.C t->V α}(h:Qb X s t (s.ev x) k=O out):∃v,k v=O out/\∀q,aX P E T X s q->∃av,(wV P q (q.ev x)=O av∨bu (q.ev x)=O av)/\kr P E T t v av:=by
 unfold Qb at h;split at h
 .rename_i d j;split at h
  .rename_i t' e xs u;split at h
   .rename_i v hv;obtain⟨n,rfl⟩:=bN hv;subst n;refine⟨_,h,λq a=>?_⟩;obtain⟨c,y⟩:=a.bi u;have f:=a.ev x g;rw[j]at f;rw[eZ a f u];refine⟨_,.inl (by simp[wV,y,dh];rfl),(r.ty _ _ c).ok,rfl⟩
   .cases h
  .cases h
 .rename_i m p j;have w:∀q,aX P E T X s q->q.ev x=.val (gz T p m):=λq a=>by have f:=a.ev x g;rw[j]at f;exact Br f
  split at h
  .rename_i t' k;split at h
   .rename_i H e I;split at h
    .rename_i l b;replace b:=aA b;obtain⟨c,b⟩:=b;replace c:=di c;replace h:=bind_some h;obtain⟨xs,z,h⟩:=h;refine⟨xs,h,λq a=>?_⟩;rw[w q a];have A:=pe b;have o:=r.ty _ _ c;rcases nZ z with⟨rfl,rfl⟩|⟨i,J,K,rfl,B,a2,a3,rfl⟩
     .exact ⟨.sl [],.inl rfl,o.ok,rfl⟩
     .have C:=r8 b a B;have D:T.hz m=P.cellsOf e:=by rw[L.hz m t' e A,o.cells]
      refine⟨_,.inl ?_,o.ok,rfl⟩;simp only[gz,wV,C,D,ke,dd,a2,and_self,ca,enc,mZ]
    .cases h
   .cases h
  .rename_i t k N;split at h
   .rename_i v hv;obtain⟨n,rfl⟩:=bN hv;subst n;exact⟨_,h,λq a=>⟨_,.inr (by rw[w q a];rfl),rfl,rfl⟩⟩
   .cases h
 .split at h
  .rename_i v hv;refine⟨v,h,λq a=>?_⟩;obtain⟨av,h1,G⟩:=ns (a.ev x g) hv;exact⟨av,.inr h1,G⟩
  .cases h
include L in
theorem QJ(c:bP P E T X){x:qm}(d:bW x=W){k:bL U.C t->V α}(h:Qc X s t (s.ev x) k=O out):∃v,k v=O out/\∀q,aX P E T X s q->∃av,(wV P q (q.ev x)=O av∨bu (q.ev x)=O av)/\kr P E T t v av:=by
 unfold Qc at h;split at h
 .rename_i a b k;split at h
  .rename_i φ e;refine⟨φ,h,λq f=>?_⟩;obtain⟨av,h1,g⟩:=MO c e (f.ev x d);exact⟨av,.inr h1,g⟩
  .cases h
 .cases h
 .exact QI L c d h
include L in
theorem Ec(e:bP P E T X):∀(ts:Z Ty)(l:Z qm){K:HL U.C ts->V α},w5 X s ts l K=O out->(∀x∈l,bW x=W)->∃vs,K vs=O out/\∀q,aX P E T X s q->∃xs,looks P q l xs/\fy P E T ts vs xs
 |[],[],K,h,a=>⟨(),h,λq c=>⟨[],⟨rfl,λj p x h=>by simp at h⟩,rfl⟩⟩|[],_::_,K,h,a=>by simp[w5]at h
 |_::_,[],K,h,a=>by simp[w5]at h|t::ts,x::l,K,h,a=>by
  simp only[w5]at h;obtain⟨v,h,hv⟩:=QJ L e (a x aE) h;obtain⟨vs,h,g⟩:=Ec e ts l h λy b=>a y (by simp[b]);refine⟨_,h,λq c=>?_⟩;obtain⟨av,h1,i⟩:=hv q c;obtain⟨xs,f,k⟩:=g q c;refine⟨av::xs,⟨by simp[f.1],λj p y d b=>?_⟩,av,xs,rfl,by rw[eJ];exact i,by rw[eK];exact k⟩;cases j with
  |zero=>simp at d b;subst d b;exact h1|succ j=>exact f.2 j p y (by simpa using d) (by simpa using b)
structure KM(q q':St)(qM:Nat->Prop):Prop where
 b:∀d,¬qM d->q'.b d=q.b d/\q'.g d=q.g d
 a:q'.a=q.a
 u:q'.u=q.u
 df:q'.df=q.df
def FX(d:Nat):∀(rs:Z RK)(j:Nat)(y:HL U.C (rs.map RK.ty))(s:S U.C){K:S U.C->Z (R U.C)->V α},(∀r∈rs,Og X r)->Kr d j rs y s K=O out->
  ∃s' l,K s' l=O out/\bE s s'/\∀q,aX P E T X s q->aX P E T X s' (q.cp d j (cL T rs y)).2/\ee P E T s'.b (q.cp d j (cL T rs y)).2.g s'.tick l (q.cp d j (cL T rs y)).1/\(q.cp d j (cL T rs y)).2.r=q.r/\KM q (q.cp d j (cL T rs y)).2 (λd'=>∃k,j<=k/\k<j+rs.length/\d'=gU d k)/\(∀d',(∀k,j<=k->d'≠gU d k)->ku s.b s'.b q.g (q.cp d j (cL T rs y)).2.g s.tick d')/\s.tick<=s'.tick/\(rs.any RK.eM=F->(q.cp d j (cL T rs y)).2=q)
 |[],j,y,s,K,c,h=>⟨s,[],h,.refl s,λq g=>⟨g,.nil,rfl,⟨λ_ _=>⟨rfl,rfl⟩,rfl,rfl,rfl⟩,λ_ _=>.refl _,a6 _,λ_=>rfl⟩⟩|.v t::rs,j,y,s,K,c,h=>by simp only[Kr]at h;have G:eV t=W:=c (.v t) aE;obtain⟨s',l,h,hm,u⟩:=FX d rs (j+1) (wC t (rs.map RK.ty) y) s (λr v=>c r (by simp[v])) h;refine⟨s',_,h,hm,λq g=>?_⟩;obtain⟨w,C,H,n,I,J,L⟩:=u q g;refine⟨w,.cons (bg G) C,H,⟨λd' a=>n.b d' λ⟨k,i,m,x⟩=>a ⟨k,M,by simp only[ec];omega,x⟩,n.a,n.u,n.df⟩,λd' a=>I d' λk o=>a k M,J,λz=>L (by simpa[RK.eM]using z)⟩
 |.bU t e::rs,j,y,s,K,c,h=>by
  simp only[Kr]at h;have N:X.ty e=O t:=c (.bU t e) aE;replace h:=lM h;obtain⟨⟨w,C⟩,h⟩:=h;obtain⟨s',l,h,hm,u⟩:=FX d rs (j+1) (wC (.aq t) (rs.map RK.ty) y) _ (λr v=>c r (by simp[v])) h;refine⟨s',_,h,(jU _ _).trans hm,λq g=>?_⟩;have Q:nM P E T X ((gU d j,s.tick,B.bi t e (wD (.aq t) (rs.map RK.ty) y))::bB s.b (gU d j)) (aa q.g (gU d j) (q.g (gU d j)+1)) (s.tick+1) (O (s.tick,.bi t e (wD (.aq t) (rs.map RK.ty) y))) (O (.bi e (List.map (enc T t) (wD (.aq t) (rs.map RK.ty) y)))):=⟨N,rfl⟩
  have a0:=g.Kx w Q;obtain⟨b0,g2,g3,g4,g5,g6,i0⟩:=u _ a0;have c0:∀k,j+1<=k->gU d j≠gU d k:=λk o e=>by simp only[gU]at e;omega
  refine⟨b0,.cons ?_ g2,g3,⟨λd' a=>?_,g4.a,g4.u,g4.df⟩,λd' a=>?_,by have:=g6;show s.tick<=s'.tick;simp only at this;omega,λz=>by simp[RK.eM]at z⟩
  .have d0:bC P E T ((gU d j,s.tick,B.bi t e (wD (.aq t) (rs.map RK.ty) y))::bB s.b (gU d j)) (aa q.g (gU d j) (q.g (gU d j)+1)) (s.tick+1) (.whole (gU d j)) (.view (gU d j) (q.g (gU d j)+1) 0 (List.map (enc T t) (wD (.aq t) (rs.map RK.ty) y)).length):=.whole _ _ λst j0 D l0 p=>by simp only[aQ,ca,ax,bc,B.bi.injEq]at p;obtain⟨_,rfl,_,p⟩:=p;cases p;simp
   refine d0.mono (λd' a=>g5 d' λk o e=>?_) g6;simp only[R.aT]at a;have:=bV a;exact c0 k o (this.trans e)
  .have f:d'≠gU d j:=λe=>a ⟨j,a6 _,by simp only[ec];omega,e⟩;obtain⟨e0,D⟩:=g4.b d' λ⟨k,i,m,x⟩=>a ⟨k,M,by simp only[ec];omega,x⟩;exact⟨by rw[show(q.cp d j (cL T (.bU t e::rs) y)).2.b d'=_ from e0];exact aJ _ _ f,by rw[show(q.cp d j (cL T (.bU t e::rs) y)).2.g d'=_ from D];exact aJ _ _ f⟩
  .have f:d'≠gU d j:=a j (a6 _);have i:=g5 d' λk o=>a k M;have k0:aB ((gU d j,s.tick,B.bi t e (wD (.aq t) (rs.map RK.ty) y))::bB s.b (gU d j)) d'=aB s.b d':=by rw[aQ,ai (dz f),aN,ai (dz f)]
   have m:aa q.g (gU d j) (q.g (gU d j)+1) d'=q.g d':=aJ _ _ f;unfold ku at i⊢;simp only[k0]at i;rcases i with⟨b,A⟩|b|⟨b,A⟩|⟨b,st,t3,e3,f0,st',e',g0,b1,b2,h0,m0⟩
   .left;exact ⟨b,by rw[show(q.cp d j (cL T (.bU t e::rs) y)).2.g d'=_ from A];exact m⟩
   .right;left;exact b
   .right;right;left;exact⟨by rw[show(q.cp d j (cL T (.bU t e::rs) y)).2.g d'=_ from b];exact m,A⟩
   .right;right;right;exact⟨by rw[show(q.cp d j (cL T (.bU t e::rs) y)).2.g d'=_ from b];exact m,st,t3,e3,f0,st',e',g0,b1,b2,h0,M⟩
def xj(dst:V Nat):Nat->Prop:=λd'=>∃d,dst=O d/\(d'=d∨∃k,k<8/\d'=gU d k)
def BG{dst:V Nat}{y:HL U.C (rs.map RK.ty)}(c:∀r∈rs,Og X r)(h:rr s dst rs y K=O out):
  ∃s',K s'=O out/\bE s s'/\∀q,aX P E T X s q->aX P E T X s' (q.take dst (cL T rs y))/\(∀t,dst≠O t->(q.take dst (cL T rs y)).r t=q.r t)/\KM q (q.take dst (cL T rs y)) (xj dst)/\(rs.any RK.eM=F->(q.take dst (cL T rs y)).b=q.b/\(q.take dst (cL T rs y)).g=q.g):=by
 cases dst with
 |none=>
  have h:K s=O out:=h;have m:∀q:St,q.take Y (cL T rs y)=q:=λq=>by unfold St.take;split<;>rfl
  exact⟨s,h,.refl s,λq f=>by rw[m];exact ⟨f,λ_ _=>rfl,⟨λ_ _=>⟨rfl,rfl⟩,rfl,rfl,rfl⟩,λ_=>⟨rfl,rfl⟩⟩⟩
 |some d=>
  have many:∀(i:∀r,rs≠[r]),(bif Nat.ble rs.length 8 then Kr d 0 rs y s λs l=>K (s.put (O d) (.fK l))else Y)=O out->∃s',K s'=O out/\bE s s'/\∀q,aX P E T X s q->aX P E T X s' (q.take (O d) (cL T rs y))/\(∀t,O d≠O t->(q.take (O d) (cL T rs y)).r t=q.r t)/\KM q (q.take (O d) (cL T rs y)) (xj (O d))/\(rs.any RK.eM=F->(q.take (O d) (cL T rs y)).b=q.b/\(q.take (O d) (cL T rs y)).g=q.g):=by
   intro i h;obtain⟨w,h⟩:=aA h;rw[qW]at w;obtain⟨s',l,h,hm,m⟩:=FX (P:=P) (E:=E) (T:=T) d rs 0 y s c h;refine⟨_,h,hm.trans (bh _ _),λq f=>?_⟩;have e:q.take (O d) (cL T rs y)=((q.cp d 0 (cL T rs y)).2).put (O d) (.fK (q.cp d 0 (cL T rs y)).1):=by
    match rs,y,i with
    |[],_,_=>rfl|[r],_,i=>exact (i r rfl).elim
    |.v _::.v _::_,_,_=>rfl|.v _::.bU _ _::_,_,_=>rfl
    |.bU _ _::.v _::_,_,_=>rfl|.bU _ _::.bU _ _::_,_,_=>rfl
   obtain⟨n,o,x,j,D,G,z⟩:=m q f;rw[e];refine⟨n.put (O d) (.fK _ _ o.1 o.2),λt g=>?_,⟨λd' p=>j.b d' λ⟨k,H,I,A⟩=>p ⟨d,rfl,.inr ⟨k,M,A⟩⟩,j.a,j.u,j.df⟩,λu=>?_⟩
   .show aa (q.cp d 0 (cL T rs y)).2.r d _ t=_;rw[aJ _ _ (λe=>g (by rw[e])),x]
   .show(q.cp d 0 (cL T rs y)).2.b=q.b/\(q.cp d 0 (cL T rs y)).2.g=q.g;rw[z u];exact⟨rfl,rfl⟩
  match rs,y,c,h,many with
  |[.v t],y,c,h,_=>have B:eV t=W:=c (.v t) aE;refine⟨_,h,bh _ _,λq f=>⟨f.put (O d) (bg B),λt g=>aJ _ _ λe=>g (by rw[e]),⟨λ_ _=>⟨rfl,rfl⟩,rfl,rfl,rfl⟩,λ_=>⟨rfl,rfl⟩⟩⟩|[.bU t e],y,c,h,_=>
   have C:X.ty e=O t:=c (.bU t e) aE;replace h:s.new d (.bi t e y) (λs=>K (s.put (O d) (.whole d)))=O out:=h;replace h:=lM h;obtain⟨⟨n,o⟩,h⟩:=h;refine⟨_,h,(jU _ _).trans (bh _ _),λq f=>⟨f.cH n C,λt g=>aJ _ _ λe=>g (by rw[e]),⟨λd' p=>?_,rfl,rfl,rfl⟩,λu=>by simp[RK.eM]at u⟩⟩;have v:d'≠d:=λe=>p ⟨d,rfl,.inl e⟩;exact⟨aJ _ _ v,aJ _ _ v⟩
  |[],y,c,h,many=>exact many (λr e=>by cases e) h
  |a::b::rs,y,c,h,many=>exact many (λr e=>by cases e) (by cases a<;>exact h)
def xk(h:d'=d∨∃k,k<8/\d'=gU d k):d'∈d::(Qh 8).map (gU d):=by
 rcases h with rfl|⟨k,a,rfl⟩
 .simp
 .refine s6 _ (dP.2 ⟨k,?_,rfl⟩);have:k=0∨k=1∨k=2∨k=3∨k=4∨k=5∨k=6∨k=7:=M;rcases this with rfl|rfl|rfl|rfl|rfl|rfl|rfl|rfl<;>simp[Qh]
def MP{s:S U.C}{q q'':St}{x:qm}{args:Array qm}{argTypes:Array JA}(a:o.op=.call {callee:=.value x,args:=args,argTypes:=argTypes})(h:ze s q q')(j:∀t,o.dst≠O t->q''.r t=q'.r t)(b:∀d,¬xj o.dst d->q''.b d=q'.b d/\q''.g d=q'.g d)
  (r:∀k i,k<U.nk->s.m k=F->q''.a (dI k i)=q'.a (dI k i)/\q''.u (dI k i)=q'.u (dI k i)) (u:q''.df=q'.df)
  (v:eS X s o.op=F->q'=q/\q''.b=q'.b/\q''.g=q'.g/\q''.a=q'.a/\q''.u=q'.u):Fr X s o q q'':=by
 obtain⟨w,a2,a3,a4,a5,y⟩:=h;refine⟨λt c _=>?_,λd z f=>?_,λk i l m=>?_,by rw[u,a5],λd f=>?_,λc=>?_⟩
 .rcases w t with e|⟨d,gg,off,len,e1,e2,e3⟩
  .left;rw[j t c,e]
  .right;refine⟨d,gg,off,len,e1,e2,?_⟩;by_cases n:xj o.dst d
   .right;obtain⟨p,f1,A⟩:=n;simp only[ez,f1,a];exact xk A
   .left;rw[(b d n).1,e3]
 .have g:¬xj o.dst d:=λ⟨p,e1,e2⟩=>f (by simp only[ez,e1,a];exact xk e2);obtain⟨e1,e2⟩:=b d g;exact⟨by rw[e1,a2 d z],by rw[e2,a3]⟩
 .obtain ⟨e1,e2⟩:=r k i l m;obtain⟨e3,e4⟩:=a4 k i l m;exact⟨by rw[e1,e3],by rw[e2,e4]⟩
 .have g:¬xj o.dst d:=λ⟨p,e1,e2⟩=>f (by simp only[ez,e1,a];exact xk e2);obtain⟨e1,e2⟩:=b d g;exact⟨by rw[e1];exact y d,by rw[e2,a3]⟩
 .obtain ⟨e1,e2,e3,e4,e5⟩:=v c;subst e1;exact⟨e2,e3,e4,e5,j⟩
end
end Go.X
