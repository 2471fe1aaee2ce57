import Derived.Test.YtlacgaedkjhfhaaGreatDoorZC27
set_option linter.all false
set_option maxRecDepth 20000
open Option renaming some->O,none->Y
open Bool renaming true->W,false->F
open Go.Proofs.Tryz
noncomputable section
namespace Go.Proofs.Mo
open Go Go.Ev Go.X
variable{m:hD}{c:Z c8}{P:Z db}{i N:Nat}{self bT:Int}{A:Z Int}{ls:Z cW}
def oM(m:hD)(id:Int):Z Int:=match gR m id with
 |some n=>n.bj|none=>[]
def qk(m:hD):Nat->Int->Z Int
 |0,_=>[]|d+1,id=>(oM m id).flatMap λk=>k::qk m d k
def Jt:∀{l s:Z Int},l.Nodup->(∀x∈l,x∈s)->l.length<=s.length
 |[],s,_,_=>aE|x::l,s,h,a=>by obtain⟨d,f⟩:=lV.1 h;have b:=a x aE;have:=Jt (s:=s.erase x) f λy c=>(List.mem_erase_of_ne (λe=>d (by grind))).2 (a y (by simp[c]));grind
structure VL(m:hD):Prop where
 ready:EN m
 bj:∀n∈m.ay,∀k∈n.bj,yR m n k
 agW:∀n∈m.ay,n.bj.Nodup
 abZ:∀n∈m.ay,hB m 64 n=W
def NH(f:xR m)(h:fJ m=W):VL m:=by
 have c:=rR f h;have d:=rQ c;have e:(m.ay.all λn=>(SI m n&&EM m n)&&oL m 64 n)=W:=by unfold fJ at h;grind
 rw[e,aI]at d;have a:=d.2;unfold jN at a;rw[aI,aI]at a;refine⟨c,di a.1,λn b=>?_,λn b=>cS.1 a.2.2 n b⟩;have:=cS.1 e n b;rw[aI,aI]at this;exact(di this.1.2).2
section
variable{m:hD}(hT:VL m)
include hT
theorem ql{id k:Int}(h:k∈oM m id):∃n x,gR m id=O n/\n∈m.ay/\n.iD=id/\k∈n.bj/\gR m k=O x/\x∈m.ay/\x.iD=k/\x.cQ=id:=by
 unfold oM at h;split at h
 .rename_i n a;obtain⟨h1,b⟩:=nI a;obtain⟨x,c,d,e⟩:=hT.bj n h1 k h;obtain⟨i,hi,rfl⟩:=gX c;have:=lS hT.ready.sorted hi;grind
 .cases h
theorem CI(c:A.Nodup):(A.flatMap (oM m)).Nodup:=by
 unfold List.Nodup;rw[List.pairwise_flatMap];refine⟨λa k=>?_,?_⟩
 .unfold oM;split
  .rename_i n d;exact hT.agW n (nI d).1
  simp_all
 .refine List.Pairwise.imp (λ{a b} f x g y h e=>?_) c;subst e;obtain⟨_,l,_,_,_,_,g1,_,_,i⟩:=ql hT g;obtain⟨_,o,_,_,_,_,g3,_,_,j⟩:=ql hT h;rw[g1]at g3;cases g3;exact f (i.symm.trans j)
theorem VM(c:A.Nodup):(A.flatMap (oM m)).length<=m.ay.length:=by
 have:=Jt (s:=m.ay.map Nd.iD) (CI hT c) λx b=>by obtain⟨a,f,b⟩:=EW.1 b;obtain⟨_,y,_,_,_,_,_,d,e,_⟩:=ql hT b;grind
 simpa using this
omit hT in
theorem Pb(K:Z Int)(g:Int->Z Int):(K.flatMap λk=>k::g k).length=K.length+(K.flatMap g).length:=by
 induction K with
 |nil=>rfl|cons k K a=>grind
theorem SR:∀(d:Nat){A:Z Int},A.Nodup->(A.flatMap (qk m d)).length<=d*m.ay.length
 |0,A,_=>by
  have:A.flatMap (qk m 0)=[]:=by
   induction A with
   |nil=>rfl|cons a A c=>rw[sD];exact c (by grind)
  rw[this];simp
 |d+1,A,b=>by
  have e:A.flatMap (qk m (d+1))=(A.flatMap (oM m)).flatMap λk=>k::qk m d k:=by rw[List.flatMap_assoc];rfl
  rw[e,Pb];have f:=VM hT b;have g:=SR d (CI hT b);grind
theorem NI(d:Nat)(id:Int):(qk m d id).length<=d*m.ay.length:=by have:=SR hT d (A:=[id]) aE;grind
end
section
variable{N:Nat}(hN:1073741824<=N)
include hN
theorem Ju(hT:VL m)(hi:i<m.ay.length):Dn N (m,m.ay[i].iD)=O (i:Int):=by have c:=hT.ready.qM _ (gw hi);have d:=hT.ready.ok.len;obtain⟨r,a,b⟩:=SQ hN m hT.ready.sorted hT.ready.qM M m.ay[i].iD (by grind);rw[a,b,wu hT.ready.sorted hi]
structure Y4(h g:Hp)(j:Nat)(acc:List Int):Prop where
 fr:∃A B,g={h with Cc:=A,zf:=B}
 cell:∃e,g.Cc[j]?=O e/\ad g.zf e=O acc
omit hN in
theorem GW{g:Int->Z Int}(l:Z Int)(p:Nat):((l.take p).flatMap g).length<=(l.flatMap g).length:=by
 have:l.flatMap g=(l.take p).flatMap g++(l.drop p).flatMap g:=by rw[<-qS,zV]
 grind
theorem NJ{m:hD}(hT:VL m)(h:Hp)(j:Nat):∀(d l:Nat)(n:Nd)(g:Hp)(acc:Z Int)(K:Nat),l+d=64->n∈m.ay->hB m l n=F->Y4 h g j acc->(acc++qk m d n.iD).length<=1048576->d<=K->
  T (Cd N m (O j) (K+1) n.iD g) λr=>Y4 h r.2 j (acc++qk m d n.iD)
 |0,l,n,g,acc,K,he,a,f,w,t,P=>by have Q:=hT.abZ n a;grind
 |d+1,l,n,g,acc,K,he,a,f,w,t,P=>by
  obtain⟨i,hi,o⟩:=gX a;have z:=Ju hN hT hi;rw[o]at z;have R:aR m.ay (i:Int)=O n:=by rw[mK hi,o]
  have C:oM m n.iD=n.bj:=by have:=lS hT.ready.sorted hi;rw[o]at this;unfold oM;grind
  have S:qk m (d+1) n.iD=n.bj.flatMap λk=>k::qk m d k:=by show(oM m n.iD).flatMap _=_;rw[C]
  rw[S]at t⊢;have r0:=(hT.ready.ok.node n a).bj;obtain⟨q,rfl⟩:∃q,K=q+1:=⟨K-1,M⟩
  show T (Uo N (n.iD,m,O j,Cd N m (O j) (q+1)) g) _;unfold Uo;simp only[z,aM,R];refine aP (λs=>0<=s.1/\s.1<=n.bj.length/\Y4 h s.2 j (acc++(n.bj.take s.1.toNat).flatMap λk=>k::qk m d k)) (λs=>(n.bj.length-s.1).toNat) ⟨aE,aE,by grind⟩ dY ?_;rintro rec ⟨p,g⟩ ⟨D,U,b⟩ X;dsimp only at D U b⊢;apply a7<;>intro a0
  .refine aH D a0 λk b0 c0=>?_;have e1:n.bj.take (p.toNat+1)=n.bj.take p.toNat++[k]:=by obtain⟨d0,rfl⟩:=aY.1 c0;simp_all
   have E:=GW (g:=λk=>k::qk m d k) n.bj (p.toNat+1);rw[e1,qS,ey]at E;simp only[sD,DB,zK,ec]at E;rw[ey]at t;obtain⟨A,B,e0⟩:=b.fr;obtain⟨e,G,f0⟩:=b.cell;obtain⟨s0,x,_,_,_,_,t0,g0,H,h0⟩:=ql hT (id:=n.iD) (k:=k) (by grind);simp only[aM,G,f0];refine bY (dG (by grind) (by simp only[ey,ec,kU];omega)) ?_;refine fc λI q1=>bY aE (fc λi0 u=>?_);have J:i0.Cc[j]?=O e:=by grind
   simp only[J,aM];refine fc λc v=>?_;have j0:hB m (l+1) x=F:=by
    have u0:=(hT.ready.qM n a).1;have l0:gR m n.iD=O n:=by have:=lS hT.ready.sorted hi;grind
    unfold hB;rw[ai M,h0,l0];exact f
   have m0:Y4 h c j (acc++(n.bj.take p.toNat).flatMap (λk=>k::qk m d k)++[k]):=by
    have n0:=(aY.1 J).1;have o0:c.zf=ek g.zf e++[O (acc++(n.bj.take p.toNat).flatMap (λk=>k::qk m d k)++[k])]:=by grind
    have p0:I.zf=ek g.zf e:=by rw[q1]
    refine⟨⟨c.Cc,c.zf,by grind⟩,O (I.zf.length,(acc++(n.bj.take p.toNat).flatMap (λk=>k::qk m d k)++[k]).length),by grind,?_⟩;rw[o0,p0];exact GK _ _ _
   have L:=NJ hT h j d (l+1) x c _ q M g0 j0 m0 (by grind) M;rw[H]at L;refine aF L λy q0=>X _ ⟨?_,?_,?_⟩ ?_<;>dsimp only<;>rw[fG M M]
   .omega
   .omega
   .rw[(M:(p+1).toNat=p.toNat+1),e1,qS];grind
   .omega
  .rw[dh M]at b;exact ag b
theorem ab0(c:xR m)(b:fJ m=W)(o:m.ay.length<=60)(hi:i<m.ay.length)(h:Hp):T (RU N (m,m.ay[i].iD) h) λr=>r.1=qk m 64 m.ay[i].iD/\r.2={h with Cc:=r.2.Cc,zf:=r.2.zf}:=by
 have hT:=NH c b;have f:=Ju hN hT hi;have p:=NI hT 64 m.ay[i].iD;unfold RU;refine aF (YW hN m c) λy a=>?_;rw[aj b]at a;subst a;simp only[tj,kb,bq,f,aM];refine ao (λh=>by grind) λ_=>?_;unfold Rv;dsimp only;refine aF (Q:=λr=>r.1=qk m 64 m.ay[i].iD/\r.2={h with Cc:=r.2.Cc,zf:=r.2.zf}) ?_ λr b=>ag b;refine fc λd q1=>?_;obtain⟨K,rfl⟩:∃K,N=K+1:=⟨N-1,M⟩
 have g:Y4 h d h.Cc.length []:=⟨⟨_,_,by rw[q1]⟩,⟨Y,by grind,rfl⟩⟩
 have j:=NJ hN hT h h.Cc.length 64 0 m.ay[i] d [] K rfl (gw hi) rfl g (by grind) M;refine aF j λy a=>?_;rw[oy]at a;obtain⟨⟨A,B,k⟩,e,e2,l⟩:=a;simp only[aM,e2,l];refine fc λq n=>ag ⟨rfl,?_⟩;grind
end
def CJ{α:Type}{f:Nat->V α}{r:α}:∀{l:Z Nat},l≠[]->(∀i∈l,f i=O r)->Ku f l=O r
 |[],h,_=>(h rfl).elim|[i],_,h=>h i aE
 |i::j::l,_,h=>by show both (f i) (Ku f (j::l))=O r;rw[h i aE,CJ (l:=j::l) aE λk a=>h k (by grind)];exact Es _
def kP(l:Array tl)(i j:Nat)(h:(l.setIfInBounds i W).getD j F=W):i=j∨l.getD j F=W:=by
 by_cases e:i=j
 grind
 .right;rw[jl]at h⊢;rw[Dy e]at h;exact h
def SU{α:Type}{v:V Nat->Hp->V (eT×Hp)}{p:V Nat}{h:Hp}{s:YR}{k:YR->V α}{i:Nat}(hi:s.i=O i):qh v p h 5 s k=((match s.y with|none=>h|some y=>y.2).fj[i]?).bind λe=>k {s with e:=O e}:=by obtain⟨y,a,e⟩:=s;dsimp only at hi;subst hi;cases y<;>rfl
def GX:Nat->Array tl->tl
 |0,_=>F|n+1,l=>match Region.ready .any yQ l with
  |[]=>l.getD 1 F&&l.getD 5 F|rs=>rs.all λi=>(Nat.beq i 1||(Nat.beq i 3||(Nat.beq i 5||true)))&&((!Nat.beq i 5||l.getD 3 F)&&GX n (l.setIfInBounds i W))
def Pc:GX 10 (Array.replicate 9 F)=W:=au
section
variable{v26:V Nat->Hp->V (eT×Hp)}{i:Nat}{h h3:Hp}{v:eT}{e e':bO}{st:Int}
structure WQ(v:eT)(h3:Hp)(i:Nat)(st:Int)(l:Array Bool)(s:YR):Prop where
 y:s.y=Y∨s.y=O (v,h3)
 y1:l.getD 1 F=W->s.y=O (v,h3)
 i3:l.getD 3 F=W->s.i=O i
 e5:l.getD 5 F=W->∃e0,s.e=O e0/\e0.eC=st
def SV(hv:v26 (O i) h=O (v,h3))(he:h.fj[i]?=O e)(o:h3.fj[i]?=O e')(p:e.eC=st)(r:e'.eC=st):∀(n:Nat)(l:Array tl)(s:YR),GX n l=W->WQ v h3 i st l s->
  yP yQ (qh v26 (O i) h) Cz n l s=O ((v,st,0),h3)
 |0,_,_,b,_=>by cases b
 |n+1,l,s,b,a=>by
  unfold GX at b;unfold yP;cases t:Region.ready .any yQ l with
  |nil=>rw[t]at b;simp only[aI]at b;obtain⟨c,q1,x⟩:=a.e5 b.2;simp only[Cz,a.y1 b.1,q1,x]|cons j rs=>
   rw[t]at b;refine CJ aE λk z=>?_;have u:=cS.1 b k z;simp only[aI]at u;obtain⟨_,A,B⟩:=u;have d:∀s',WQ v h3 i st (l.setIfInBounds k W) s'->yP yQ (qh v26 (O i) h) Cz n (l.setIfInBounds k W) s'=O ((v,st,0),h3):=λs' C=>SV hv he o p r n _ s' B C;by_cases f:k=1
   .subst f;show((v26 (O i) h).bind λy=>_)=_;rw[hv];refine d {s with y:=O (v,h3)} ⟨.inr rfl,λ_=>rfl,λh=>?_,λh=>?_⟩
    .rcases kP _ _ _ h with e|e
     .cases e
     .exact a.i3 e
    .rcases kP _ _ _ h with e|e
     .cases e
     .exact a.e5 e
   by_cases g:k=3
   .subst g;refine d {s with i:=O i} ⟨a.y,λh=>?_,λ_=>rfl,λh=>?_⟩
    .rcases kP _ _ _ h with e|e
     .cases e
     .exact a.y1 e
    .rcases kP _ _ _ h with e|e
     .cases e
     .exact a.e5 e
   by_cases m:k=5
   .subst m;have D:s.i=O i:=a.i3 (by simp_all);rw[SU D];have w:∀c:bO,c.eC=st->yP yQ (qh v26 (O i) h) Cz n (l.setIfInBounds 5 W) {s with e:=O c}=O ((v,st,0),h3):=λc q=>d _ ⟨a.y,λh=>by
     rcases kP _ _ _ h with e|e
     .cases e
     .exact a.y1 e,λh=>by
     grind,λ_=>⟨c,rfl,q⟩⟩
    rcases a.y with q|q
    grind
    .simp only[q,o,aM];have:=w e' r;rw[q]at this;exact this
   .have:qh v26 (O i) h k s (λs=>yP yQ (qh v26 (O i) h) Cz n (l.setIfInBounds k W) s)=yP yQ (qh v26 (O i) h) Cz n (l.setIfInBounds k W) s:=by
     unfold qh;grind
    rw[this];refine d s ⟨a.y,λh=>?_,λh=>?_,λh=>?_⟩
    .rcases kP _ _ _ h with e|e
     grind
     .exact a.y1 e
    .rcases kP _ _ _ h with e|e
     grind
     .exact a.i3 e
    .rcases kP _ _ _ h with e|e
     grind
     .exact a.e5 e
end
def ov{a b:Int}:bp a b=W↔a=b:=by grind
def Jv(k:Int)(v:Nd)(q:Int):∀l:Z (Int×Nd),a8 bp (eX bp l k v) q=if q=k then O v else a8 bp l q
 |[]=>by
  by_cases h:q=k
  .rw[aj h];simp[eX,a8,ov.2 h]
  .rw[ai h];have:bp q k=F:=by grind
   simp[eX,a8,this]
 |(a,w)::l=>by
  by_cases b:k=a
  .have c:bp k a=W:=ov.2 b;simp only[eX,c,bf,a8];grind
  .have c:bp k a=F:=by grind
   simp only[eX,c,bq,a8];cases g:bp q a with
   |true=>grind|false=>simp only[bq];exact Jv k v q l
def GY(l:Z Nd):Z (Int×Nd):=l.foldl (λa n=>eX bp a n.iD n) []
def Pd(l:Z Nd)(n:Nd):GY (l++[n])=eX bp (GY l) n.iD n:=by unfold GY;grind
def Jw:∀(l:Z Nd)(a:Z (Int×Nd)){i:Int}{n:Nd},a8 bp (l.foldl (λa n=>eX bp a n.iD n) a) i=O n->n∈l∨a8 bp a i=O n
 |[],a,i,n,h=>.inr h|x::l,a,i,n,h=>by
  rw[sE]at h;rcases Jw l _ h with h|h
  grind
  .rw[Jv]at h;split at h
   .cases h;exact .inl aE
   .exact .inr h
def NK{l:Z Nd}{i:Int}{n:Nd}(h:a8 bp (GY l) i=O n):n∈l:=by
 rcases Jw l [] h with h|h
 grind
 .cases h
def rV(β:cI->cI->tl)(m:hD)(c:Z c8)(self:Int):Gm:=⟨m,c,self,β,qk m 64,GY m.ay⟩
def mi(m:hD)(self bT:Int):Prop:=self≠0/\gR m self=Y∨bT<0∨1048576<bT
instance(m:hD)(self bT:Int):Decidable (mi m self bT):=by
 unfold mi;have:Decidable (gR m self=Y):=by cases gR m self with|none=>exact .isTrue rfl|some x=>exact .isFalse (λh=>by grind)
 infer_instance
def dL(N:Nat)(m:hD)(c:Z c8)(self bT:Int):V Int:=
 if fJ m=W then match oK N c with
  |none=>O (if 1024<c.length then 4 else 110)|some _=>if mi m self bT then O 2 else Y
 else O 29
structure YX(B:oI)(t:Option Nat)(G:Gm)(bT:Int)(o:Option Int)(r:((Option Nat)×Int)×Hp):Prop where
 ok:B.ok r.2
 no:∀e,o=O e->r.1=(Y,e)/\e≠0
 yes:o=Y->∃i,r.1=(O i,0)/\xZ B t G i r.2 bT 0 ⟨0,[],[]⟩ (List.replicate G.c.length 0)
def Jx(a:pq c P):0<c.length:=by
 rcases Nat.eq_zero_or_pos c.length with h|h
 .have d:=a.first;have b:=a.aay;grind
 .exact h
section
variable{N:Nat}(hN:1073741824<=N){B:oI}{t:V Nat}
include hN
set_option maxHeartbeats 1000000 in
theorem ab1(β:cI->cI->tl)(m:hD)(C:xR m)(c:Z c8)(b0:c.length<=1048576)(c0:∀x∈c,x.text.length<=1048576)(self:Int)(a:jc self)(bT:Int)(h:Hp)(L:B.ok h):
  T (YQ N (t,m,qI.mk c,self,bT) h) (YX B t (rV β m c self) bT (dL N m c self bT)):=by
 have x0:=C.len;have D:∀{o:V Int}{e:Int}{g:Hp},o=O e->e≠0->B.ok g->T (O (((Y:V Nat),e),g)) (YX B t (rV β m c self) bT o):=λn d0 e0=>ag ⟨e0,λe' h'=>by grind,λh'=>by rw[n]at h';cases h'⟩;unfold YQ;refine aF (YW hN m C) λy0 E=>ba (λw=>?_) λw=>?_
 .have v:¬fJ m=W:=λe=>w (by grind);exact D (by unfold dL;grind) cd L
 have v:fJ m=W:=by
  grind
 refine aF (abG hN c b0 c0 h) λd ⟨⟨A0,B0,j⟩,n⟩=>?_;have G:B.ok d.2:=B.cK L (by rw[j]) (by rw[j]) (by rw[j]) (by rw[j]) (by rw[j]) (by rw[j]) (by rw[j]) (by rw[j]) (by rw[j]);cases y:oK N c with
 |none=>rw[y]at n;obtain⟨o1,o2⟩:=n;refine ba (λ_=>D (by unfold dL;grind) o1 G) λh0=>(o1 h0).elim|some P=>
  rw[y]at n;obtain⟨o1,f0⟩:=n;have C0:=Jx f0;have g0:dL N m c self bT=if mi m self bT then O 2 else Y:=by unfold dL;grind
  rw[g0];refine ba (λh0=>(h0 o1).elim) λ_=>aF (agV hN m C self a) λi0 Q=>?_;have H:i0.2=(gR m self).isSome:=by rw[Q];unfold Jo;grind
  have fO:mi m self bT->T (O (((Y:V Nat),(2:Int)),d.2)) (YX B t (rV β m c self) bT (if mi m self bT then O 2 else Y)):=λi=>D (by grind) cd G;refine ba (λI=>bZ (λi=>fO (.inl ⟨I,?_⟩)) λi=>?_) λI=>?_
  simp_all
  all_goals
   have j0:¬(self≠0/\gR m self=Y):=by
    first
     |exact λq=>by rw[H,q.2]at i;grind
     |exact λq=>q.1 I
   clear Q H;refine a7 (λR=>fO (.inr (.inl R))) λR=>a7 (λS=>fO (.inr (.inr S))) λS=>?_;have l0:¬mi m self bT:=λq=>by
    rcases q with q|q|q
    .exact j0 q
    .omega
    .omega
   rw[ai l0];have m0:((c.length:Int)).toNat=c.length:=M;dsimp only;rw[m0];refine fc λA q1=>bY (by simp only[aI,aU];exact ⟨M,dG M M⟩) (bY (by cases D0:c.length with|zero=>omega|succ k=>rfl) ?_);refine fc λK f=>fc λl b=>?_;have U:l.fj[K.fj.length]?=O ⟨t,m,c,O d.2.jt.length,self,bT,0,0,Y,Y,O (A.sg.length,(List.replicate c.length (0:Int)).length)⟩:=by rw[b];simp
   have n0:l.jt=d.2.jt++[[]]:=by rw[b,f,q1]
   have o0:bz l.sg A.sg.length=O (List.replicate c.length 0):=by rw[b,f];exact EB
   have p0:B.ok l:=B.cK G (by rw[b,f,q1]) (by rw[b,f,q1]) (by rw[b,f,q1]) (by rw[b,f,q1]) (by rw[b,f,q1]) (by rw[b,f,q1]) (by rw[b,f,q1]) (by rw[b,f,q1]) (by rw[b,f,q1]);refine az (λs=>s.2={l with jt:=d.2.jt++[GY m.ay]}) (λJ q0=>?_) λs a=>?_
   .refine aP (λs=>0<=s.1/\s.1<=m.ay.length/\s.2={l with jt:=d.2.jt++[GY (m.ay.take s.1.toNat)]}) (λs=>(m.ay.length-s.1).toNat) ⟨aE,aE,?_⟩ dY ?_
    .dsimp only;rw[Int.toNat_zero,qV];show l={l with jt:=d.2.jt++[[]]}
     rw[<-n0]
    rintro rec ⟨p,g⟩ ⟨X,r0,r⟩ s0;dsimp only at X r0 r⊢;apply a7<;>intro i
    .refine aH X i λz _ t0=>?_;have e1:m.ay.take (p.toNat+1)=m.ay.take p.toNat++[z]:=by obtain⟨u0,rfl⟩:=aY.1 t0;exact(ah u0).symm
     have em:g.fj[K.fj.length]?=O ⟨t,m,c,O d.2.jt.length,self,bT,0,0,Y,Y,O (A.sg.length,(List.replicate c.length (0:Int)).length)⟩:=by rw[r];exact U
     have v0:g.jt[d.2.jt.length]?=O (GY (m.ay.take p.toNat)):=by rw[r];simp
     simp only[aM,em,v0];refine fc λE0 w0=>s0 _ ⟨?_,?_,?_⟩ ?_<;>dsimp only<;>rw[fG M M]
     .omega
     .omega
     .rw[(M:(p+1).toNat=p.toNat+1),e1,Pd,w0,r];simp
     .omega
    .rw[dh M]at r;exact q0 _ r
   .obtain ⟨u,g⟩:=s;dsimp only at a⊢;have a0:B.ok g:=B.cK p0 (by rw[a]) (by rw[a]) (by rw[a]) (by rw[a]) (by rw[a]) (by rw[a]) (by rw[a]) (by rw[a]) (by rw[a]);refine ag ⟨a0,λe h'=>(by cases h'),λ_=>⟨K.fj.length,rfl,_,by rw[a];exact U,?_⟩⟩;refine⟨rfl,rfl,rfl,?_,rfl,rfl,rfl,rfl,rfl,⟨[],rfl,Ng.nil _⟩,⟨A.sg.length,rfl,?_⟩,a0⟩
    .rw[a];show(d.2.jt++[GY m.ay])[d.2.jt.length]?=_;simp;rfl
    .rw[a];exact o0
end
def ab2:jK (KS×Z Int)->eT×Int×Int
 |.gd e=>(⟨0,0,[],F,0,[]⟩,0,e)|.ok s k=>(k.1.top,s,0)
def k0(c:Z c8):KS×Z Int:=(⟨0,[],[]⟩,List.replicate c.length 0)
def qL(N:Nat)(β:cI->cI->tl)(m:hD)(c:Z c8)(self bT:Int)(o:jK (KS×Z Int)):Prop:=(∀e,dL N m c self bT=O e->o=.gd e)/\(dL N m c self bT=Y->∃n,we N (rV β m c self) n bT 0 (k0 c)=O o)
def qL.one {β:cI->cI->tl} {o o':jK (KS×Z Int)} (h:qL N β m c self bT o) (h':qL N β m c self bT o'):o=o':=by
 cases a:dL N m c self bT with
 |some e=>rw[h.1 e a,h'.1 e a]|none=>obtain⟨n,h⟩:=h.2 a;obtain⟨b,h'⟩:=h'.2 a;exact nA h h'
structure qF(N:Nat)(B:oI)(t:Option Nat)(β:cI->cI->Bool)(m:hD)(c:List c8)(sf:Int):Prop where
 below:∀h a b,B.ok h->T (GC N (t,a,b) h) λr=>r.1=β a b/\B.ok r.2/\r.2={h with dU:=r.2.dU,hQ:=r.2.hQ}
 md:xR m
 oo:m.ay.length<=60
 nd:∀n∈m.ay,Y5 n
 code:c.length<=1048576
 pX:∀x∈c,x.text.length<=1048576/\jc x.int
 bU:jc sf
section
variable{N:Nat}(hN:1073741824<=N){B:oI}{t:V Nat}{β:cI->cI->tl}{m:hD}{c:Z c8}{self bT:Int}{h:Hp}
include hN
theorem wz(a:qF N B t β m c self)(d:oK N c=O P):pq c P:=by obtain⟨r,_,_,b⟩:=abG hN c a.code (λx e=>(a.pX x e).1) (default:Hp);rw[d]at b;exact b.2
theorem YY(a:qF N B t β m c self)(d:fJ m=W):Z4 N B t (rV β m c self):=by
 have hT:=NH a.md d;refine⟨a.below,λh i n b=>?_,λi n b=>?_⟩
 .have b:n∈m.ay:=NK b;obtain⟨j,e,rfl⟩:=gX b;exact ab0 hN a.md d a.oo e h
 .have:=NI hT 64 n.iD;have:=a.oo;show(qk m 64 n.iD).length<=_;omega
omit hN in
theorem SW(a:qF N B t β m c self):Ds (rV β m c self):=⟨λi n b=>a.nd n (NK b),a.pX⟩
omit hN in
theorem WR(a:pq c P):Cn c P ⟨0,[],[]⟩:=⟨lH 0,⟨[],a.first,rfl,λj b l h=>by grind⟩,λv hv=>by cases hv⟩
theorem NL(f:qF N B t β m c self)(a:dL N m c self bT=Y)(p:bT<=300000)(s:xZ B t (rV β m c self) i h bT 0 ⟨0,[],[]⟩ (List.replicate c.length 0)):
  ∃P,pq c P/\T (Wn N (O i) h) λr=>∃o,qL N β m c self bT o/\WU B t (rV β m c self) P i bT o r:=by
 have u:=a;unfold dL at a;split at a
 .rename_i v;split at a
  grind
  .rename_i P w;split at a
   grind
   .rename_i x;have g:0<=bT:=iB.1 λq=>x (.inr (.inl q));have b:=wz hN f w;have k:=WR b;have l:=Ew c bT 0 ⟨0,[],[]⟩ (by grind);have z:=xK b k g;have H:=b.oo;have A:(⟨0,[],[]⟩:KS).eB=0:=rfl;have C:(⟨0,[],[]⟩:KS).loops=[]:=rfl;rw[A,C]at l;simp only[List.countP_nil]at l;refine⟨P,b,dr (afI hN (G:=rV β m c self) b (YY hN f v) (SW f) k (lH 0) g p s (by simp;rfl) (λj y d=>?_) ⟨z,?_⟩) λr ⟨n,o,D,E⟩=>⟨o,?_,E⟩⟩
    .rw[zN]at d;split at d
     .cases d;show 0<=(0:Int)/\(0:Int)<=_-mu c bT 0 ⟨0,[],[]⟩;omega
     grind
    .show mu c bT 0 ⟨0,[],[]⟩<_;omega
    .exact ⟨λe h=>(by grind),λ_=>⟨n,D⟩⟩
 .cases a
omit hN in
theorem VN(d:pq c P){k:KS}(e:Cn c P k)(h:(c.length:Int)<=k.eB):∃v,k=⟨k.eB,[]++[v],k.loops⟩/\k.top=v:=by
 obtain⟨L,a,_⟩:=e.jw;have i:=RY d a;have h0:=e.at0;have f:k.eB.toNat=c.length:=M;rw[f,d.aay]at a;have h3:(1:Int)=k.stack.length:=(db.mk.inj (cr a)).2.1;obtain⟨g,v,b⟩:=fP (st:=k.stack) M;have:g=[]:=by rw[b,fv]at h3;exact nQ M
 subst this;refine⟨v,?_,?_⟩
 .rw[<-b]
 .unfold KS.top;grind
theorem LO(f:qF N B t β m c self)(G:dL N m c self bT=Y->bT<=300000)(H:B.ok h):
  T (To N (t,m,qI.mk c,self,bT) h) λr=>B.ok r.2/\∃o,qL N β m c self bT o/\(∀e,o=.gd e->e≠0)/\r.1=ab2 o/\r.1.1.aq.length<=1048576:=by
 unfold To YS;refine aF (ab1 hN β m f.md c f.code (λx I=>(f.pX x I).1) self f.bU bT h H) λd0 ⟨K,L,Q⟩=>?_;cases a:dL N m c self bT with
 |some e=>
  obtain⟨b,n⟩:=L e a;refine az (λs=>s.1=e/\B.ok s.2) (λJ u=>aO (λq=>?_) λ_=>u _ ⟨?_,K⟩) λs d=>?_
  grind
  .rw[b]
  .obtain ⟨p,g⟩:=s;obtain⟨y,z⟩:=d;dsimp only at y z⊢;subst y;refine ba (λ_=>ag ⟨z,.gd p,?_,λe' h'=>?_,rfl,aE⟩) λq=>(n q).elim
   .exact ⟨λe' h=>(by rw[a]at h;cases h;rfl),λh=>(by rw[a]at h;cases h)⟩
   grind
 |none=>
  obtain⟨i,b,R⟩:=Q a;obtain⟨P,S,U⟩:=NL hN f a (G a) R;refine az (λs=>∃o,qL N β m c self bT o/\WU B t (rV β m c self) P i bT o s) (λJ u=>aO (λ_=>?_) λq=>?_) λs d=>?_
  .rw[b];exact aF U λr X=>u _ X
  grind
  .obtain ⟨p,g⟩:=s;obtain⟨o,A,d⟩:=d;dsimp only;cases o with
   |gd e=>obtain⟨q1,C,j⟩:=d;dsimp only at q1 j;subst q1;exact ba (λ_=>ag ⟨j.1,.gd p,A,λe' h'=>(by grind),rfl,aE⟩) λq=>(C q).elim
   |ok s k=>obtain⟨q1,⟨e,l,w⟩,j,a0⟩:=d;dsimp only at q1 l;subst q1;refine ba (λq=>(q rfl).elim) λ_=>?_;obtain⟨v,D,b0⟩:=VN S j a0;rw[D]at w;obtain⟨e0,c0,E⟩:=ot (N:=N) l w aE;rw[b];dsimp only;rw[SV c0 l (hx l _) w.eC E.eC 10 _ _ Pc ⟨.inl rfl,λh=>by simp at h,λh=>by simp at h,λh=>by simp at h⟩];refine ag ⟨E.dU,.ok s k,A,λe' h'=>(by grind),(by show _=(k.1.top,s,(0:Int));rw[b0]),?_⟩;have hv:=j.aaz v (by grind);exact hv.aq
theorem ab3(b:qF N B t β m c self)(u:dL N m c self bT=Y->bT<=300000)(v:B.ok h):
  T (Zd N (t,m,qI.mk c,self,bT) h) λr=>B.ok r.2/\∃o,qL N β m c self bT o/\(∀e,o=.gd e->e≠0/\r.1.2=e)/\∀s k,o=.ok s k->r.1=(k.2,0):=by
 unfold Zd;refine aF (ab1 hN β m b.md c b.code (λx w=>(b.pX x w).1) self b.bU bT h v) λL ⟨y,z,A⟩=>?_;cases a:dL N m c self bT with
 |some e=>
  obtain⟨d,j⟩:=z e a;rw[d];refine ba (λ_=>ag ⟨y,.gd e,?_,λe' h'=>?_,λs k h'=>(by grind)⟩) λq=>(j q).elim
  .exact ⟨λe' h=>(by rw[a]at h;cases h;rfl),λh=>(by rw[a]at h;cases h)⟩
  grind
 |none=>
  obtain⟨i,d,C⟩:=A a;obtain⟨P,Q,D⟩:=NL hN b a (u a) C;rw[d];refine ba (λq=>(q rfl).elim) λ_=>aF D λr ⟨o,l,n⟩=>?_;simp only[aM];cases o with
  |gd e=>obtain⟨q1,E,G,R,H,xs,f⟩:=n;simp only[H,f,aM];exact fc λg q=>ag ⟨B.cK G (by rw[q]) (by rw[q]) (by rw[q]) (by rw[q]) (by rw[q]) (by rw[q]) (by rw[q]) (by rw[q]) (by rw[q]),.gd e,l,λe' h'=>(by grind),λs k h'=>(by cases h')⟩
  |ok s k=>
   obtain⟨q1,⟨e,I,p⟩,S,U⟩:=n;obtain⟨q,J,K⟩:=p.fA;have f:ad r.2.sg e.fA=O k.2:=by rw[J,si K (a6 _),lW]
   simp only[I,f,aM];exact fc λg q=>ag ⟨B.cK p.dU (by rw[q]) (by rw[q]) (by rw[q]) (by rw[q]) (by rw[q]) (by rw[q]) (by rw[q]) (by rw[q]) (by rw[q]),.ok s k,l,λe' h'=>(by grind),λs' k' h'=>by cases h';rw[<-q1]⟩
end
section
variable{N:Nat}{G:Gm}{x:c8}{k:KS}{c:Int}{k':KS}
def xV{v:eT}{a:Nd->jK KS}{Q:Int->Prop}(hF:∀n c k',a n=.ok c k'->Q c)(h:p8 G v a=.ok c k'):Q c:=by
 unfold p8 at h;split at h
 .split at h
  .cases h
  .exact hF _ _ _ h
 .cases h
def SX(h:Lw G x k=.ok c k'):0<=c/\(x.op≠15->10<=x.op->x.op<=15->c=0):=by
 refine xV (G:=G) (v:=k.top) (Q:=λc=>0<=c/\(x.op≠15->10<=x.op->x.op<=15->c=0)) (λn c k' h=>?_) h;grind
def Pe(h:wa G x k=.ok c k'):c=0:=by
 unfold wa at h;split at h
 .exact xV (Q:=λc=>c=0) (λn c k' h=>by cases h;rfl) h
 split at h
 .exact xV (Q:=λc=>c=0) (λn c k' h=>by cases h;rfl) h
 grind
def SY(h:Dq N x k=.ok c k'):c=0:=by
 unfold Dq at h;split at h
 .split at h<;>cases h;rfl
 .cases h
def Jy(h:hY x k=.ok c k'):c=0:=by
 unfold hY at h;grind
def Pf(h:yI x k=.ok c k'):c=0:=by unfold yI at h;grind
def Pg(h:yJ x k=.ok c k'):0<=c:=by unfold yJ at h;split at h<;>cases h<;>decide
def Ph(h:yL G x k=.ok c k'):c=0:=by
 unfold yL at h;split at h
 .split at h
  .split at h<;>cases h;rfl
  .cases h
 .split at h
  .split at h
   .split at h<;>cases h<;>rfl
   .split at h<;>cases h<;>rfl
  .cases h
structure YZ(x:c8)(c:Int):Prop where
 nn:0<=c
 one:x.op=1->c=x.arg
 no:x.op≠1->x.op≠39->x.op≠15->c=0
def NM(j:hZ x)(h:fI N G x k=.ok c k'):YZ x c:=by
 obtain⟨⟨o1,o2⟩,_,l⟩:=j;have z:∀{v:eT},fI N G x k=.ok 0 (k.push v)->x.op≠1->YZ x c:=λe d=>by rw[e]at h;cases h;exact⟨lH 0,λq=>(d q).elim,λ_ _ _=>rfl⟩
 have f:c=0->x.op≠1->YZ x c:=λe d=>by subst e;exact⟨lH 0,λq=>(d q).elim,λ_ _ _=>rfl⟩
 by_cases d:x.op=1
 .rw[Lx d]at h;cases h;exact⟨Int.le_of_lt (l d),λ_=>rfl,λq=>(q d).elim⟩
 by_cases m:x.op=8
 .rw[Ly m]at h;unfold Cm at h;grind
 by_cases n:x.op=9
 .rw[Lz n]at h;grind
 by_cases u:x.op<=7
 .have o:x.op=2∨x.op=3∨x.op=4∨x.op=5∨x.op=6∨x.op=7:=M;rcases o with e|e|e|e|e|e
  .exact z (v:=zi x.int) (by simp[fI,e]) d
  .exact z (v:=sV x.text) (by simp[fI,e]) d
  .exact z (v:=af W) (by simp[fI,e]) d
  .exact z (v:=af F) (by simp[fI,e]) d
  .exact z (v:=nD G.self) (by simp[fI,e]) d
  .exact z (v:=nD 0) (by simp[fI,e]) d
 by_cases g:x.op<=15
 .rw[Cp M g]at h;obtain⟨a,b⟩:=SX h;exact⟨a,λq=>(d q).elim,λ_ _ q=>b q M g⟩
 by_cases p:x.op<=21
 .rw[xE M p]at h;exact f (Pe h) d
 by_cases r:x.op<=28
 .rw[Cq M r]at h;exact f (SY h) d
 by_cases s:x.op<=34
 .rw[hR M s]at h;exact f (Jy h) d
 by_cases t:x.op<=38
 .rw[xF M t]at h;exact f (Pf h) d
 by_cases i:x.op=39
 .rw[xG i]at h;exact⟨Pg h,λq=>(d q).elim,λ_ q=>(q i).elim⟩
 .rw[xH M]at h;exact f (Ph h) d
end
def uy(a:pq c P){x:c8}(h:c[i]?=O x):hZ x:=by obtain⟨_,_,_,b,_⟩:=a.pX i x h;grind
def zH{G:Gm}(a:pq G.c P)(k:KS×Z Int)(c:Int)(k':KS×Z Int)(h:xJ N G k=.ok c k'):0<=c:=by
 unfold xJ at h;split at h
 grind
 .rename_i x b;split at h
  grind
  .rename_i d e hi;cases h;exact(NM (uy a b) hi).nn
section
variable{N:Nat}(hN:1073741824<=N){B:oI}{t:V Nat}{β:cI->cI->tl}{m:hD}{c:Z c8}{self:Int}{f f':Int}{o o':jK (KS×Z Int)}
omit hN in
theorem nJ(h:dL N m c self f=Y):fJ m=W/\(∃P,oK N c=O P)/\¬mi m self f:=by
 unfold dL at h;split at h
 .rename_i a;split at h
  .cases h
  .rename_i P b;split at h
   .cases h
   .rename_i d;exact⟨a,⟨P,b⟩,d⟩
 .cases h
include hN
def G4:Z c8->Z Int->Int
 |x::c,t::ts=>(if x.op=1 then t*x.arg else 0)+G4 c ts|_,_=>0
omit hN in
theorem NS:∀(c:Z c8)(ts:Z Int)(i:Nat)(x:c8)(y:Int),c[i]?=O x->ts[i]?=O y->G4 c (ts.set i (y+1))=G4 c ts+if x.op=1 then x.arg else 0
 |[],_,i,_,_,h,_=>by simp at h|_::_,[],i,_,_,_,h=>by simp at h
 |a::c,t::ts,0,x,y,h,h'=>by
  cases h;cases h';simp only[s9,G4];split
  .rw[Int.add_mul];omega
  .omega
 |a::c,t::ts,i+1,x,y,h,h'=>by simp only[List.set_cons_succ,G4];rw[NS c ts i x y (by simpa using h) (by simpa using h')];omega
omit hN in
theorem Pj:∀(c:Z c8)(n:Nat),G4 c (List.replicate n 0)=0
 |[],n=>by cases n<;>rfl
 |x::c,0=>rfl|x::c,n+1=>by simp only[List.replicate_succ,G4,Pj c n];split<;>simp
structure ab4(c:List c8)(s s1:Int)(ts ts1:List Int):Prop where
 len:ts1.length=c.length
 nn:∀y∈ts1,0<=y
 le:G4 c ts1-G4 c ts<=s1-s
 eq:(∀x∈c,x.op≠39/\x.op≠15)->G4 c ts1-G4 c ts=s1-s
theorem SZ{G:Gm}{P:Z db}(l:pq G.c P)(q:Ds G)(B:f<=300000):∀(n:Nat){s:Int}{k:KS}{ts:Z Int}{s1:Int}{m:KS}{a:Z Int},0<=s->Cn G.c P k->ts.length=G.c.length->(∀y∈ts,0<=y)->we N G n f s (k,ts)=O (.ok s1 (m,a))->
  ab4 G.c s s1 ts a/\(1<=k.eB->a[0]?=ts[0]?)/\(k.eB=0->0<G.c.length->a[0]?=(ts[0]?).map (·+1))
 |0,_,_,_,_,_,_,_,_,_,_,h=>by cases h
 |n+1,s,k,ts,s1,m,a,Q,r,t,o,h=>by
  have h':(bif I9 G (k,ts)then O (jK.ok s (k,ts))else match xJ N G (k,ts)with
   |.gd e=>O (.gd e)|.ok c k'=>bif decide (f-s<c)then O (.gd 100)else we N G n f (s+c) k')=O (.ok s1 (m,a)):=by
   rw[<-h];show _=runK (I9 G) (xJ N G) (n+1) f s (k,ts);unfold runK;cases xJ N G (k,ts)<;>rfl
  clear h;cases g:I9 G (k,ts)with
  |true=>rw[g]at h';simp only[bf,ax,jK.ok.injEq,bc]at h';obtain⟨rfl,rfl,rfl⟩:=h';have R:(G.c.length:Int)<=k.eB:=di g;exact⟨⟨t,o,M,λ_=>M⟩,λ_=>rfl,λh0 C=>M⟩|false=>
   rw[g]at h';simp only[bq]at h';have S:¬(G.c.length:Int)<=k.eB:=qY g;have T:=r.at0;obtain⟨x,b⟩:∃x,G.c[k.eB.toNat]?=O x:=⟨_,bS M⟩
   obtain⟨y,d⟩:∃y,ts[k.eB.toNat]?=O y:=⟨_,bS M⟩
   have D:xJ N G (k,ts)=match fI N G x (k.go (k.eB+1))with
    |.gd e=>.gd e|.ok c k'=>.ok c (k',ts.set k.eB.toNat (y+1)):=by
    unfold xJ;simp only[b,JF d];cases fI N G x (k.go (k.eB+1))<;>rfl
   rw[D]at h';cases hi:fI N G x (k.go (k.eB+1))with
   |gd e=>rw[hi]at h';cases h'
   |ok c U=>
    rw[hi]at h';simp only at h';cases i:decide (f-s<c)with
    |true=>rw[i]at h';cases h'
    |false=>
     rw[i]at h';have i:=qY i;obtain⟨E,_,t3,u⟩:=EA (f:=f) (s:=s) l q r b M hi;have j:=NM (uy l b) hi;have X:=o y (bF d);have H:∀z∈ts.set k.eB.toNat (y+1),0<=z:=λz hz=>by
      rcases List.mem_or_eq_of_mem_set hz with hz|hz
      .exact o z hz
      .omega
     obtain⟨⟨I,b2,p,J⟩,v,_⟩:=SZ l q B n M E (by rw[Uh];exact t) H h';have w:=NS G.c ts k.eB.toNat x y b d;refine⟨⟨I,b2,?_,λA=>?_⟩,λa0=>?_,λh0 C=>?_⟩
     .rw[w]at p;have:=j.nn;by_cases e:x.op=1
      .rw[aj e,<-j.one e]at p;omega
      .rw[ai e]at p;omega
     .have:=J A;rw[w]at this;obtain⟨K,L⟩:=A x (bF b);by_cases e:x.op=1
      .rw[aj e,<-j.one e]at this;omega
      .rw[ai e]at this;have:=j.no e K L;omega
     .rw[v u,zO M]
     .rw[v u];have IV:k.eB.toNat=0:=M;rw[IV]at d⊢;rw[d,Hh M];rfl
theorem Y7(d:qF N B t β m c self)(h0:f<=300000){s:Int}{k:KS×Z Int}(h:qL N β m c self f (.ok s k)):
  k.2.length=c.length/\0<c.length/\k.2[0]?=O 1/\(∀y∈k.2,0<=y)/\G4 c k.2<=s/\s<=300000/\((∀x∈c,x.op≠39/\x.op≠15)->G4 c k.2=s)/\∀x∈c,0<=x.arg:=by
 have g:dL N m c self f=Y:=by
  cases o:dL N m c self f with
  |none=>rfl|some e=>have:=h.1 e o;grind
 obtain⟨H,⟨P,p⟩,r⟩:=nJ g;have u:0<=f:=iB.1 λq=>r (.inr (.inl q));have a:=wz hN d p;have b:=Jx a;obtain⟨n,j⟩:=h.2 g;obtain⟨I,a2,_⟩:=Gu (zH (G:=rV β m c self) a) u j;obtain⟨J,l⟩:=k;obtain⟨⟨v,b2,w,z⟩,_,A⟩:=SZ (G:=rV β m c self) (P:=P) hN a (SW d) h0 n (lH 0) (WR a) (by simp;rfl) (λy C=>by rw[VO C];exact lH 0) j;have K:G4 c (List.replicate c.length 0)=0:=Pj c c.length;have L:G4 c l-G4 c (List.replicate c.length 0)<=s-0:=w;refine⟨v,b,?_,b2,dY,M,λD=>?_,λx E=>?_⟩
 .have:=A rfl b;rw[this];show((List.replicate c.length (0:Int))[0]?).map (·+1)=_;rw[zN,aj b];rfl
 .have Q:G4 c l-G4 c (List.replicate c.length 0)=s-0:=z D;dsimp only;omega
 .obtain ⟨i,hi,rfl⟩:=gX E;exact(uy a (bS hi)).arg
end
section
variable{N:Nat}(hN:1073741824<=N)
include hN
theorem agX(l:Z Int)(g:l.length<=1048576):T (F15 N (l,l)) λr=>r=W:=by unfold F15;simp only[tj,kb,bq];refine az (λ_=>True) (λJ b=>?_) λ_ _=>ag rfl;refine aP (λs=>0<=s.1/\s.1<=l.length) (λs=>(l.length-s.1).toNat) ⟨aE,aE⟩ dY ?_;rintro rec ⟨p,u⟩ ⟨a,c⟩ d;dsimp only at a c⊢;refine a7 (λe=>?_) λ_=>b _ trivial;obtain⟨x,f,_,_⟩:=ib a e;simp only[f,aM,tj,kb,bq];refine d _ ⟨?_,?_⟩ ?_<;>dsimp only<;>rw[fG M M]<;>omega
theorem VP(v:eT)(hv:v.aq.length<=1048576):T (Zo N (v,v)) λr=>r=W:=by unfold Zo;simp only[tj,bf];exact aF (agX hN v.aq hv) λr a=>ag a
theorem tF6(w:Nj)(i:w.ls.length<=1048576):T (F6 N w) λr=>r=F->w.m.ay.length<=60/\(w.bT<=20000∨1048576<w.bT):=by
 unfold F6;refine az (λ_=>True) (λJ b=>?_) λs _=>?_
 .refine aP (λs=>0<=s.1.2/\s.1.2<=w.ls.length) (λs=>(w.ls.length-s.1.2).toNat) ⟨aE,aE⟩ dY ?_;rintro rec ⟨⟨a,p⟩,u⟩ ⟨c,e⟩ f;dsimp only at c e⊢;refine a7 (λg=>?_) λ_=>b _ trivial;refine ao (λ_=>ao (λ_=>aH c g λx _ _=>f _ ⟨?_,?_⟩ ?_) λ_=>b _ trivial) λ_=>b _ trivial<;>dsimp only<;>rw[fG M M]<;>omega
 .obtain ⟨p,u⟩:=s;dsimp only;refine ao (λ_=>ag λh=>by grind) λ_=>ao (λ_=>ag λh=>by grind) λ_=>a7 (λ_=>ag λh=>by grind) λj=>a7 (λd=>ag λh=>⟨M,.inr ?_⟩) λd=>ag λ_=>⟨M,.inl d⟩
  grind
theorem tF7(ls:Z cW)(b:jx ls)(h:Hp)(d:Jh h):T (F7 N ls h) λr=>r.1.1=Y∨r.1.1=O 0/\ur ls r.2:=by
 unfold F7;refine aF (agO hN ls b h d) λy e=>?_;rcases e with⟨a,_⟩|⟨a,c⟩
 .exact ba (λ_=>ag (.inl rfl)) λq=>(a q).elim
 .rw[a];refine ba (λq=>(q rfl).elim) λ_=>aF (agr hN ls b c.j7) λz _=>ao (λ_=>ag (.inl rfl)) λ_=>ag (.inr ⟨rfl,c⟩)
end
def ab5:oI:=⟨λ_=>True,λ_ _ _ _ _ _ _ _ _ _=>trivial⟩
def ab6:oI:=⟨Jh,λa b c h3 d e f g h i=>⟨b.trans a.dU,d.trans a.et,h3.trans a.jk,f.trans a.uB,e.trans a.uC,g.trans a.Cb,h.trans a.CV,i.trans a.all,c.trans a.hQ⟩⟩
def ab7(ls:Z cW):oI:=⟨ur ls,λa b c h3 d e _ _ _ _=>⟨by rw[b,c,e];exact a.dU,by rw[h3];exact a.jk,a.j7,a.len,by rw[d];exact a.et,a.xQ,a.named⟩⟩
section
variable{N:Nat}(hN:1073741824<=N)
def S6(h:Hp)(a b:cI):GC N (Y,a,b) h=O (a==b,h):=rfl
include hN
theorem Y6(ls:Z cW)(c:jx ls)(h:Hp)(a b:cI)(d:ur ls h):T (GC N (O 0,a,b) h) λr=>r.1=uu ls a b/\ur ls r.2/\r.2={h with dU:=r.2.dU,hQ:=r.2.hQ}:=by
 refine dr (abP hN ls c a b h d) λr ⟨e,f,A,B,h3⟩=>⟨e,f,?_⟩
 rw[h3]
end
def mA:hD:=hD.mk 3 [Nd.mk 1 [76,105,115,116] 0 [] [] [2] [],Nd.mk 2 [78,117,109] 1 [105,116,101,109] [Dm.mk [118] [53]] [] []]
def cA:Z c8:=[c8.mk 1 3 0 [],c8.mk 6 0 0 [],c8.mk 11 0 0 [105,116,101,109],c8.mk 35 0 0 [],c8.mk 39 12 0 [],c8.mk 1 3 0 [],c8.mk 8 0 0 [],c8.mk 10 0 0 [118],c8.mk 1 1 0 [],c8.mk 3 0 0 [53],c8.mk 25 0 0 [],c8.mk 40 4 0 []]
def bA(a b:cI):tl:=a==b
def agY(Mloc:Nat):dL (Mloc+64) mA cA 1 100=Y:=au
def ab8(Mloc:Nat):dL (Mloc+64) mA cA 1 7=Y:=au
def agZ(Mloc:Nat):we (Mloc+64) (rV bA mA cA 1) 13 100 0 (k0 cA)=O (.ok 8 (⟨12,[af W],[]⟩,List.replicate 12 1)):=au
def ab9(Mloc:Nat):we (Mloc+64) (rV bA mA cA 1) 13 7 0 (k0 cA)=O (.gd 100):=au
def ag0(N:Nat):qF N ab6 Y bA mA cA 1 where
 below:=λh a b e=>⟨_,S6 h a b,rfl,e,rfl⟩
 md:=⟨cd,λn c=>by simp only[mA,cT,s8,or_false]at c;rcases c with rfl|rfl<;>exact ⟨cd,cd,cd,aE,cd,by simp[jc],cd,aE,by simp[jc]⟩⟩
 oo:=cd
 nd:=λn c=>by simp only[mA,cT,s8,or_false]at c;rcases c with rfl|rfl<;>exact ⟨by simp[jc],cd,by simp[jc],⟨cd,aE⟩,cd,cd⟩
 code:=cd
 pX:=λx d=>by simp only[cA,cT,s8,or_false]at d;rcases d with rfl|rfl|rfl|rfl|rfl|rfl|rfl|rfl|rfl|rfl|rfl|rfl<;>simp[jc]
 bU:=by grind
def aca(hN:1073741824<=N)(h:Hp)(i:Jh h):T (F18 N () h) λr=>r.1=W/\Jh r.2:=by
 have a:=ag0 N;obtain⟨Mloc,rfl⟩:∃Mloc,N=Mloc+64:=⟨N-64,M⟩
 have e:∀o,qL (Mloc+64) bA mA cA 1 100 o->o=.ok 8 (⟨12,[af W],[]⟩,List.replicate 12 1):=λo b=>by obtain⟨n,c⟩:=b.2 (agY Mloc);exact nA c (agZ Mloc)
 have j:∀o,qL (Mloc+64) bA mA cA 1 7 o->o=.gd 100:=λo b=>by obtain⟨n,c⟩:=b.2 (ab8 Mloc);exact nA c (ab9 Mloc)
 unfold F18;refine aF (LO hN a (λ_=>cd) i) λu ⟨k,o1,l,_,f,_⟩=>aF (LO hN a (λ_=>cd) k) λv ⟨m,o2,p,_,g,_⟩=>aF (ab3 hN a (λ_=>cd) m) λw ⟨q,o3,s,_,d⟩=>?_;rw[e o1 l]at f;rw[j o2 p]at g;have d:=d _ _ (e o3 s);rw[f,g,d];refine ao (λ_=>?_) λh=>by cases h
 refine fh (aF (VP hN (af W) cd) λr t=>?_);rw[t];refine ao (λ_=>ao (λ_=>ao (λ_=>ao (λ_=>ao (λ_=>?_) λh=>by grind) λh=>by cases h) λh=>by cases h) λh=>by cases h) λh=>by cases h
 exact⟨_,rfl,rfl,q⟩
def NN:∀(c:Z c8)(ts:Z Int)(x:c8)(y:Int),c.length=ts.length->G4 (c++[x]) (ts++[y])=G4 c ts+if x.op=1 then y*x.arg else 0
 |[],[],x,y,_=>by simp[G4]|[],_::_,_,_,h=>by simp at h
 |_::_,[],_,_,h=>by simp at h|a::c,t::ts,x,y,h=>by simp only[qR,G4];rw[NN c ts x y (by simpa using h)];omega
def NO:∀(c:Z c8)(ts:Z Int),(∀x∈c,0<=x.arg)->(∀y∈ts,0<=y)->0<=G4 c ts
 |[],ts,_,_=>by cases ts<;>exact lH 0
 |x::c,[],_,_=>lH 0|x::c,t::ts,e,f=>by have a:=NO c ts (λz d=>e z (by simp[d])) λz d=>f z (by simp[d]);have b:=Int.mul_nonneg (f t aE) (e x aE);simp only[G4];split<;>omega
def Te:∀(c b:Z c8)(ts d:Z Int),c.length=ts.length->G4 (c++b) (ts++d)=G4 c ts+G4 b d
 |[],b,[],d,_=>by simp[G4]|[],_,_::_,_,h=>by simp at h
 |_::_,_,[],_,h=>by simp at h|a::c,b,t::ts,d,h=>by simp only[qR,G4];rw[Te c b ts d (by simpa using h)];omega
def W3{ts:Z Int}(a:ts.length=c.length)(b:∀x∈c,0<=x.arg)(d:∀y∈ts,0<=y)(i:Nat):G4 (c.take i) (ts.take i)<=G4 c ts:=by have e:=Te (c.take i) (c.drop i) (ts.take i) (ts.drop i) (by simp[a]);rw[zV,zV]at e;have:=NO (c.drop i) (ts.drop i) (λx f=>b x (zT f)) λy g=>d y (zT g);omega
def K4(c:Z c8):tl:=c.any λx=>x.op==39||x.op==15
structure In5(ls:List cW)(m:hD)(c:List c8)(sf fu:Int):Prop where
 ls:jx ls
 nd:∀n∈m.ay,LK n/\Y5 n
 code:c.length<=1048576
 pX:∀x∈c,x.text.length<=1048576/\jc x.int
 bU:jc sf
 bT:jc fu
section
variable{N:Nat}(hN:1073741824<=N)
include hN
theorem GP(d:In5 ls m c self bT)(i:m.ay.length<=60)(h:Hp)(k:Jh h):T (F7 N ls h) λr=>∃B β,B.ok r.2/\qF N B r.1.1 β m c self:=by
 have j:xR m:=⟨M,λn f=>(d.nd n f).1⟩
 refine dr (tF7 hN ls d.ls h k) λr l=>?_;rcases l with e|⟨e,g⟩
 .rw[e];exact⟨ab5,λa b=>a==b,trivial,λh a b _=>⟨_,S6 h a b,rfl,trivial,rfl⟩,j,i,λn f=>(d.nd n f).2,d.code,d.pX,d.bU⟩
 .rw[e];exact⟨ab7 ls,uu ls,g,λh a b g=>Y6 hN ls d.ls h a b g,j,i,λn f=>(d.nd n f).2,d.code,d.pX,d.bU⟩
theorem aco(A:In5 ls m c self bT)(h:Hp)(d:Jh h):T (F5 N (Nj.mk ls m self bT,qI.mk c) h) λr=>r.1=W:=by
 unfold F5;refine aF (aca hN h d) λd0 ⟨e0,f0⟩=>?_;rw[e0];refine bZ (λq=>by cases q) λ_=>aF (tF6 hN _ A.ls.len) λK0 g0=>ao (λ_=>ag rfl) λh0=>?_;obtain⟨L,i0⟩:=g0 h0;refine a7 (λ_=>ag rfl) λ_=>?_;dsimp only at L i0⊢;refine aF (GP hN A L d0.2 f0) λL0 ⟨B,β,j0,C⟩=>?_;have D:dL N m c self bT=Y->bT<=300000:=λd=>by obtain⟨_,_,l0⟩:=nJ d;have:¬1048576<bT:=λq=>l0 (.inr (.inr q));omega
 refine aF (LO hN C D j0) λN0 ⟨m0,o1,E,P0,n0,Q0⟩=>aF (ab3 hN C D m0) λR0 ⟨S0,o2,o0,p0,q0⟩=>?_;have r0:=E.one o0;subst r0;rw[n0];cases o1 with
 |gd e=>obtain⟨s0,t0⟩:=p0 e rfl;rw[t0];exact ba (λq=>(q rfl).elim) λ_=>ba (λ_=>ag (by show(e==e)=W;simp)) λq=>(s0 q).elim|ok s k=>
  have u0:dL N m c self bT=Y:=by
   cases d:dL N m c self bT with
   |none=>rfl|some e=>have:=E.1 e d;cases this
  obtain⟨g,T0,P,i,v0,U0,Q,t⟩:=Y7 hN C (D u0) E;rw[q0 s k rfl];obtain⟨v,ts⟩:=k;dsimp only at g P i v0 Q⊢;have X0:0<=G4 c ts:=NO c ts t i;have d1:=A.code;have w0:aR ts 0=O 1:=by have:=nz ts 0;rw[P]at this;exact this
  refine ba (λq=>(q rfl).elim) λ_=>ba (λq=>(q rfl).elim) λ_=>ba (λq=>?_) λ_=>aO (λq=>M) λ_=>?_
  .omega
  simp only[w0,aM];refine ba (λq=>(q rfl).elim) λ_=>az (λst=>st.1=(G4 c ts,K4 c)) (λJ x0=>?_) λst f=>?_
  .refine aP (λst=>0<=st.1.2.2/\st.1.2.2<=ts.length/\st.1.1=G4 (c.take st.1.2.2.toNat) (ts.take st.1.2.2.toNat)/\st.1.2.1=K4 (c.take st.1.2.2.toNat)) (λst=>(ts.length-st.1.2.2).toNat) ⟨aE,aE,by simp[G4],by simp[K4]⟩ dY ?_;rintro rec ⟨⟨a,b,p⟩,u⟩ ⟨v,y0,j,n⟩ A0;dsimp only at v y0 j n⊢;refine a7 (λd=>?_) λd=>x0 _ ?_
   .obtain ⟨y,B0,C0,D0⟩:=ib v d;obtain⟨x,G,E0,G0⟩:=ib (l:=c) v M;have H:=pu G0;have R:=pu D0;have H0:=i y C0;have I0:=t x E0;have S:=W3 g t i (p.toNat+1);rw[H,R,NN _ _ x y (by simp[g])]at S;have f1:=NO (c.take p.toNat) (ts.take p.toNat) (λz I=>t z (s7 I)) λz I=>i z (s7 I);refine az (λst=>st.1.1=G4 (c.take (p.toNat+1)) (ts.take (p.toNat+1))/\st.1.2=K4 (c.take (p.toNat+1))) (λh1 w=>?_) λst f=>?_
    .simp only[B0,G,aM];have J0:K4 (c.take (p.toNat+1))=(K4 (c.take p.toNat)||(x.op==39||x.op==15)):=by rw[H];unfold K4;rw[List.any_append];simp
     rw[J0,H,R,NN _ _ x y (by simp[g])]at w;refine a7 (λq=>M) λ_=>aO (λo=>w _ ⟨?_,?_⟩) λo=>?_
     .rw[aj o]at S;have i1:=Int.mul_nonneg H0 I0;dsimp only;rw[aj o,fG (x:=y*x.arg) M M,fG M M,j]
     .dsimp only;rw[o,n];simp
     .have U:a=G4 (c.take p.toNat) (ts.take p.toNat)+if x.op=1 then y*x.arg else 0:=by rw[ai o,j];omega
      refine az (λst=>st.1=(x.op==39||x.op==15)) (λj1 X=>aO (λo2=>X _ ?_) λo2=>X _ ?_) λst f=>?_
      .simp[o2]
      .simp[o2]
      .obtain ⟨q,u⟩:=st;dsimp only at f⊢;refine ao (λq1=>w _ ⟨U,?_⟩) λq1=>w _ ⟨U,?_⟩
       .rw[<-f,q1];simp
       .rw[<-f,q1,n];simp
    .obtain ⟨⟨m1,p1⟩,u⟩:=st;obtain⟨a0,b0⟩:=f;dsimp only at a0 b0;refine A0 _ ⟨?_,?_,?_,?_⟩ ?_<;>dsimp only<;>rw[fG M M]
     .omega
     .omega
     .rw[(M:(p+1).toNat=p.toNat+1)];exact a0
     .rw[(M:(p+1).toNat=p.toNat+1)];exact b0
     .omega
   .have c0:p.toNat=c.length:=M;dsimp only;rw[c0,lW,show c.length=ts.length from g.symm,lW]at j;rw[c0,lW]at n;rw[j,n]
  .obtain ⟨⟨a,b⟩,u⟩:=st;cases f;dsimp only;refine ht (λ_=>ao (λ_=>ag rfl) λK=>ag ?_) λq=>?_
   .have:G4 c ts=s:=Q λx G=>by unfold K4 at K;rw[uD]at K;have:=K x G;simp at this;exact this
    show(s==G4 c ts)=W;rw[this];simp
   .have q:s<G4 c ts:=q;omega
end
end Go.Proofs.Mo
