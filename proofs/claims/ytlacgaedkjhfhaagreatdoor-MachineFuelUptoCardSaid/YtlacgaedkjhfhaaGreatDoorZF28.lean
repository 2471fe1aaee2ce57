import Derived.Test.YtlacgaedkjhfhaaGreatDoorZF27
set_option linter.all false
set_option maxRecDepth 20000
open Option renaming some->O,none->Y
open Bool renaming true->W,false->F
open Go.Proofs.Tryz
noncomputable section
namespace Go.Proofs.Mo
open Go Go.Ev Go.X
variable{P:Z db}{m:hD}{i N:Nat}{c:Z c8}{A:Z Int}{s self bT:Int}{k:KS×Z Int}{ls:Z cW}
def oM(m:hD)(id:Int):Z Int:=match gR m id with
 |some n=>n.bj|none=>[]
def qk(m:hD):Nat->Int->Z Int
 |0,_=>[]|d+1,id=>(oM m id).flatMap λk=>k::qk m d k
theorem Jt:∀{l s:Z Int},l.Nodup->(∀x∈l,x∈s)->l.length<=s.length
 |[],s,_,_=>aE|x::l,s,h,a=>by obtain⟨d,f⟩:=lV.1 h;have b:=a x aE;have:=Jt (s:=s.erase x) f λy c=>(List.mem_erase_of_ne (λe=>d (by grind))).2 (a y (by grind));grind
structure VL(m:hD):Prop where
 ready:EN m
 bj:∀n∈m.ay,∀k∈n.bj,yR m n k
 agW:∀n∈m.ay,n.bj.Nodup
 abZ:∀n∈m.ay,hB m 64 n=W
theorem NH(f:xR m)(h:fJ m=W):VL m:=by
 have c:=rR f h;have d:=rQ c;have e:(m.ay.all λn=>(SI m n&&EM m n)&&oL m 64 n)=W:=by unfold fJ at h;grind
 rw[e,aI]at d;have a:=d.2;unfold jN at a;rw[aI,aI]at a;refine⟨c,di a.1,λn b=>?_,λn b=>cS.1 a.2.2 n b⟩;have:=cS.1 e n b;rw[aI,aI]at this;exact(di this.1.2).2
section
variable{m:hD}(hT:VL m)
include hT
theorem ql{id k:Int}(h:k∈oM m id):∃n x,gR m id=O n/\n∈m.ay/\n.iD=id/\k∈n.bj/\gR m k=O x/\x∈m.ay/\x.iD=k/\x.cQ=id:=by
 unfold oM at h;split at h
 .rename_i n a;obtain⟨h1,b⟩:=nI a;obtain⟨x,c,d,e⟩:=hT.bj n h1 k h;obtain⟨i,hi,rfl⟩:=gX c;have:=lS hT.ready.sorted hi;grind
 grind
theorem CI(c:A.Nodup):(A.flatMap (oM m)).Nodup:=by
 unfold List.Nodup;rw[List.pairwise_flatMap];refine⟨λa k=>?_,?_⟩
 .unfold oM;split
  .rename_i n d;exact hT.agW n (nI d).1
  simp_all
 grind[List.Pairwise.imp,ql]
theorem VM(c:A.Nodup):(A.flatMap (oM m)).length<=m.ay.length:=by
 have:=Jt (s:=m.ay.map Nd.iD) (CI hT c) λx b=>by obtain⟨a,f,b⟩:=EW.1 b;obtain⟨_,y,_,_,_,_,_,d,e,_⟩:=ql hT b;grind
 grind
omit hT in
theorem Pb(K:Z Int)(g:Int->Z Int):(K.flatMap λk=>k::g k).length=K.length+(K.flatMap g).length:=by
 induction K with
 |nil=>rfl|cons k K a=>grind
theorem SR:∀(d:Nat){A:Z Int},A.Nodup->(A.flatMap (qk m d)).length<=d*m.ay.length
 |0,A,_=>by
  have:A.flatMap (qk m 0)=[]:=by
   induction A with
   |nil=>rfl|cons a A c=>rw[sD];exact c (by grind)
  grind
 |d+1,A,b=>by
  have e:A.flatMap (qk m (d+1))=(A.flatMap (oM m)).flatMap λk=>k::qk m d k:=by rw[List.flatMap_assoc];rfl
  rw[e,Pb];have f:=VM hT b;have g:=SR d (CI hT b);grind
theorem NI(d:Nat)(id:Int):(qk m d id).length<=d*m.ay.length:=by have:=SR hT d (A:=[id]) aE;grind
end
section
variable{N:Nat}(hN:1073741824<=N)
include hN
theorem Ju(hT:VL m)(hi:i<m.ay.length):Dn N (m,m.ay[i].iD)=O (i:Int):=by have c:=hT.ready.qM _ (gw hi);have d:=hT.ready.ok.len;obtain⟨r,a,b⟩:=SQ hN m hT.ready.sorted hT.ready.qM M m.ay[i].iD (by grind);rw[a,b,wu hT.ready.sorted hi]
structure Y4(h g:Hp)(j:Nat)(acc:List Int):Prop where
 fr:∃A B,g={h with Cc:=A,zf:=B}
 cell:∃e,g.Cc[j]?=O e/\ad g.zf e=O acc
omit hN in
theorem GW{g:Int->Z Int}(l:Z Int)(p:Nat):((l.take p).flatMap g).length<=(l.flatMap g).length:=by
 have:l.flatMap g=(l.take p).flatMap g++(l.drop p).flatMap g:=by rw[<-qS,zV]
 grind
theorem NJ{m:hD}(hT:VL m)(h:Hp)(j:Nat):∀(d l:Nat)(n:Nd)(g:Hp)(acc:Z Int)(K:Nat),l+d=64->n∈m.ay->hB m l n=F->Y4 h g j acc->(acc++qk m d n.iD).length<=1048576->d<=K->
  T (Cd N m (O j) (K+1) n.iD g) λr=>Y4 h r.2 j (acc++qk m d n.iD)
 |0,l,n,g,acc,K,he,a,f,w,t,P=>by have Q:=hT.abZ n a;grind
 |d+1,l,n,g,acc,K,he,a,f,w,t,P=>by
  obtain⟨i,hi,o⟩:=gX a;have z:=Ju hN hT hi;rw[o]at z;have R:aR m.ay (i:Int)=O n:=by rw[mK hi,o]
  have C:oM m n.iD=n.bj:=by have:=lS hT.ready.sorted hi;rw[o]at this;unfold oM;grind
  have S:qk m (d+1) n.iD=n.bj.flatMap λk=>k::qk m d k:=by show(oM m n.iD).flatMap _=_;rw[C]
  rw[S]at t⊢;have r0:=(hT.ready.ok.node n a).bj;obtain⟨q,rfl⟩:∃q,K=q+1:=⟨K-1,M⟩
  show T (Uo N (n.iD,m,O j,Cd N m (O j) (q+1)) g) _;unfold Uo;simp only[z,aM,R];refine aP (λs=>0<=s.1/\s.1<=n.bj.length/\Y4 h s.2 j (acc++(n.bj.take s.1.toNat).flatMap λk=>k::qk m d k)) (λs=>(n.bj.length-s.1).toNat) ⟨aE,aE,by grind⟩ dY ?_;rintro rec ⟨p,g⟩ ⟨D,U,b⟩ X;dsimp only at D U b⊢;apply a7<;>intro a0
  .refine aH D a0 λk b0 c0=>?_;have e1:n.bj.take (p.toNat+1)=n.bj.take p.toNat++[k]:=by obtain⟨d0,rfl⟩:=aY.1 c0;simp_all
   have E:=GW (g:=λk=>k::qk m d k) n.bj (p.toNat+1);rw[e1,qS,ey]at E;simp only[sD,DB,zK,ec]at E;rw[ey]at t;obtain⟨A,B,e0⟩:=b.fr;obtain⟨e,G,f0⟩:=b.cell;obtain⟨s0,x,_,_,_,_,t0,g0,H,h0⟩:=ql hT (id:=n.iD) (k:=k) (by grind);simp only[aM,G,f0];refine bY (dG (by grind) (by grind)) ?_;refine fc λI q1=>bY aE (fc λi0 u=>?_);have J:i0.Cc[j]?=O e:=by grind
   simp only[J,aM];refine fc λc v=>?_;have j0:hB m (l+1) x=F:=by
    have u0:=(hT.ready.qM n a).1;have l0:gR m n.iD=O n:=by have:=lS hT.ready.sorted hi;grind
    unfold hB;grind
   have m0:Y4 h c j (acc++(n.bj.take p.toNat).flatMap (λk=>k::qk m d k)++[k]):=by
    have n0:=(aY.1 J).1;have o0:c.zf=ek g.zf e++[O (acc++(n.bj.take p.toNat).flatMap (λk=>k::qk m d k)++[k])]:=by grind
    have p0:I.zf=ek g.zf e:=by rw[q1]
    refine⟨⟨c.Cc,c.zf,by grind⟩,O (I.zf.length,(acc++(n.bj.take p.toNat).flatMap (λk=>k::qk m d k)++[k]).length),by grind,?_⟩;rw[o0,p0];exact GK _ _ _
   have L:=NJ hT h j d (l+1) x c _ q M g0 j0 m0 (by grind) M;rw[H]at L;refine aF L λy q0=>X _ ⟨?_,?_,?_⟩ ?_<;>dsimp only<;>rw[fG M M]
   .omega
   .omega
   .rw[(M:(p+1).toNat=p.toNat+1),e1,qS];grind
   .omega
  .rw[dh M]at b;exact ag b
theorem ab0(c:xR m)(b:fJ m=W)(o:m.ay.length<=60)(hi:i<m.ay.length)(h:Hp):T (RU N (m,m.ay[i].iD) h) λr=>r.1=qk m 64 m.ay[i].iD/\r.2={h with Cc:=r.2.Cc,zf:=r.2.zf}:=by
 have hT:=NH c b;have f:=Ju hN hT hi;have p:=NI hT 64 m.ay[i].iD;unfold RU;refine aF (YW hN m c) λy a=>?_;rw[aj b]at a;subst a;simp only[tj,kb,bq,f,aM];refine ao (λh=>by grind) λ_=>?_;unfold Rv;dsimp only;refine aF (Q:=λr=>r.1=qk m 64 m.ay[i].iD/\r.2={h with Cc:=r.2.Cc,zf:=r.2.zf}) ?_ λr b=>ag b;refine fc λd q1=>?_;obtain⟨K,rfl⟩:∃K,N=K+1:=⟨N-1,M⟩
 have g:Y4 h d h.Cc.length []:=⟨⟨_,_,by rw[q1]⟩,⟨Y,by grind,rfl⟩⟩
 have j:=NJ hN hT h h.Cc.length 64 0 m.ay[i] d [] K rfl (gw hi) rfl g (by grind) M;refine aF j λy a=>?_;rw[oy]at a;obtain⟨⟨A,B,k⟩,e,e2,l⟩:=a;simp only[aM,e2,l];refine fc λq n=>ag ⟨rfl,?_⟩;grind
end
theorem CJ{α:Type}{f:Nat->V α}{r:α}:∀{l:Z Nat},l≠[]->(∀i∈l,f i=O r)->Ku f l=O r
 |[],h,_=>(h rfl).elim|[i],_,h=>h i aE
 |i::j::l,_,h=>by show both (f i) (Ku f (j::l))=O r;rw[h i aE,CJ (l:=j::l) aE λk a=>h k (by grind)];exact Es _
theorem kP(l:Array tl)(i j:Nat)(h:(l.setIfInBounds i W).getD j F=W):i=j∨l.getD j F=W:=by
 by_cases e:i=j
 grind
 simp_all
theorem SU{α:Type}{v:V Nat->Hp->V (eT×Hp)}{p:V Nat}{h:Hp}{s:YR}{k:YR->V α}{i:Nat}(hi:s.i=O i):qh v p h 5 s k=((match s.y with|none=>h|some y=>y.2).fj[i]?).bind λe=>k {s with e:=O e}:=by obtain⟨y,a,e⟩:=s;dsimp only at hi;subst hi;cases y<;>rfl
def GX:Nat->Array tl->tl
 |0,_=>F|n+1,l=>match Region.ready .any yQ l with
  |[]=>l.getD 1 F&&l.getD 5 F|rs=>rs.all λi=>(Nat.beq i 1||(Nat.beq i 3||(Nat.beq i 5||true)))&&((!Nat.beq i 5||l.getD 3 F)&&GX n (l.setIfInBounds i W))
theorem Pc:GX 10 (Array.replicate 9 F)=W:=au
section
variable{v26:V Nat->Hp->V (eT×Hp)}{i:Nat}{h h3:Hp}{v:eT}{e e':bO}{st:Int}
structure WQ(v:eT)(h3:Hp)(i:Nat)(st:Int)(l:Array Bool)(s:YR):Prop where
 y:s.y=Y∨s.y=O (v,h3)
 y1:l.getD 1 F=W->s.y=O (v,h3)
 i3:l.getD 3 F=W->s.i=O i
 e5:l.getD 5 F=W->∃e0,s.e=O e0/\e0.eC=st
theorem SV(hv:v26 (O i) h=O (v,h3))(he:h.fj[i]?=O e)(o:h3.fj[i]?=O e')(p:e.eC=st)(r:e'.eC=st):∀(n:Nat)(l:Array tl)(s:YR),GX n l=W->WQ v h3 i st l s->
  yP yQ (qh v26 (O i) h) Cz n l s=O ((v,st,0),h3)
 |0,_,_,b,_=>by cases b
 |n+1,l,s,b,a=>by
  unfold GX at b;unfold yP;cases t:Region.ready .any yQ l with
  |nil=>rw[t]at b;simp only[aI]at b;obtain⟨c,q1,x⟩:=a.e5 b.2;simp only[Cz,a.y1 b.1,q1,x]|cons j rs=>
   rw[t]at b;refine CJ aE λk z=>?_;have u:=cS.1 b k z;simp only[aI]at u;obtain⟨_,A,B⟩:=u;have d:∀s',WQ v h3 i st (l.setIfInBounds k W) s'->yP yQ (qh v26 (O i) h) Cz n (l.setIfInBounds k W) s'=O ((v,st,0),h3):=λs' C=>SV hv he o p r n _ s' B C;by_cases f:k=1
   .subst f;show((v26 (O i) h).bind λy=>_)=_;rw[hv];refine d {s with y:=O (v,h3)} ⟨.inr rfl,λ_=>rfl,λh=>?_,λh=>?_⟩
    .rcases kP _ _ _ h with e|e
     grind
     .exact a.i3 e
    .rcases kP _ _ _ h with e|e
     grind
     .exact a.e5 e
   by_cases g:k=3
   .subst g;refine d {s with i:=O i} ⟨a.y,λh=>?_,λ_=>rfl,λh=>?_⟩
    .rcases kP _ _ _ h with e|e
     grind
     .exact a.y1 e
    .rcases kP _ _ _ h with e|e
     grind
     .exact a.e5 e
   by_cases m:k=5
   .subst m;have D:s.i=O i:=a.i3 (by simp_all);rw[SU D];have w:∀c:bO,c.eC=st->yP yQ (qh v26 (O i) h) Cz n (l.setIfInBounds 5 W) {s with e:=O c}=O ((v,st,0),h3):=λc q=>d _ ⟨a.y,λh=>by
     rcases kP _ _ _ h with e|e
     grind
     .exact a.y1 e,λh=>by
     grind,λ_=>⟨c,rfl,q⟩⟩
    rcases a.y with q|q
    grind
    grind
   .have:qh v26 (O i) h k s (λs=>yP yQ (qh v26 (O i) h) Cz n (l.setIfInBounds k W) s)=yP yQ (qh v26 (O i) h) Cz n (l.setIfInBounds k W) s:=by
     unfold qh;grind
    rw[this];refine d s ⟨a.y,λh=>?_,λh=>?_,λh=>?_⟩
    .rcases kP _ _ _ h with e|e
     grind
     .exact a.y1 e
    .rcases kP _ _ _ h with e|e
     grind
     .exact a.i3 e
    .rcases kP _ _ _ h with e|e
     grind
     .exact a.e5 e
end
theorem ov{a b:Int}:bp a b=W↔a=b:=by grind
theorem Jv(k:Int)(v:Nd)(q:Int):∀l:Z (Int×Nd),a8 bp (eX bp l k v) q=if q=k then O v else a8 bp l q
 |[]=>by
  by_cases h:q=k
  .rw[aj h];simp[eX,a8,ov.2 h]
  .rw[ai h];have:bp q k=F:=by grind
   simp[eX,a8,this]
 |(a,w)::l=>by
  by_cases b:k=a
  .have c:bp k a=W:=ov.2 b;simp only[eX,c,bf,a8];grind
  .have c:bp k a=F:=by grind
   simp only[eX,c,bq,a8];cases g:bp q a with
   |true=>grind|false=>simp only[bq];exact Jv k v q l
def GY(l:Z Nd):Z (Int×Nd):=l.foldl (λa n=>eX bp a n.iD n) []
theorem Pd(l:Z Nd)(n:Nd):GY (l++[n])=eX bp (GY l) n.iD n:=by unfold GY;grind
theorem Jw:∀(l:Z Nd)(a:Z (Int×Nd)){i:Int}{n:Nd},a8 bp (l.foldl (λa n=>eX bp a n.iD n) a) i=O n->n∈l∨a8 bp a i=O n
 |[],a,i,n,h=>.inr h|x::l,a,i,n,h=>by
  rw[sE]at h;rcases Jw l _ h with h|h
  grind
  .rw[Jv]at h;grind
theorem NK{l:Z Nd}{i:Int}{n:Nd}(h:a8 bp (GY l) i=O n):n∈l:=by
 rcases Jw l [] h with h|h
 grind
 .cases h
def rV(β:cI->cI->tl)(m:hD)(c:Z c8)(self:Int):Gm:=⟨m,c,self,β,qk m 64,GY m.ay⟩
def mi(m:hD)(self bT:Int):Prop:=self≠0/\gR m self=Y∨bT<0∨1048576<bT
instance(m:hD)(self bT:Int):Decidable (mi m self bT):=by
 unfold mi;have:Decidable (gR m self=Y):=by cases gR m self with|none=>exact .isTrue rfl|some x=>exact .isFalse (λh=>by grind)
 infer_instance
def dL(N:Nat)(m:hD)(c:Z c8)(self bT:Int):V Int:=
 if fJ m=W then match oK N c with
  |none=>O (if 1024<c.length then 4 else 110)|some _=>if mi m self bT then O 2 else Y
 else O 29
structure YX(B:oI)(t:Option Nat)(G:Gm)(bT:Int)(o:Option Int)(r:((Option Nat)×Int)×Hp):Prop where
 ok:B.ok r.2
 no:∀e,o=O e->r.1=(Y,e)/\e≠0
 yes:o=Y->∃i,r.1=(O i,0)/\xZ B t G i r.2 bT 0 ⟨0,[],[]⟩ (List.replicate G.c.length 0)
theorem Jx(a:pq c P):0<c.length:=by
 rcases Nat.eq_zero_or_pos c.length with h|h
 .have d:=a.first;have b:=a.aay;grind
 grind
section
variable{N:Nat}(hN:1073741824<=N){B:oI}{t:V Nat}
include hN
set_option maxHeartbeats 1000000 in
theorem ab1(β:cI->cI->tl)(m:hD)(C:xR m)(c:Z c8)(b0:c.length<=1048576)(c0:∀x∈c,x.text.length<=1048576)(self:Int)(a:jc self)(bT:Int)(h:Hp)(L:B.ok h):
  T (YQ N (t,m,qI.mk c,self,bT) h) (YX B t (rV β m c self) bT (dL N m c self bT)):=by
 have x0:=C.len;have D:∀{o:V Int}{e:Int}{g:Hp},o=O e->e≠0->B.ok g->T (O (((Y:V Nat),e),g)) (YX B t (rV β m c self) bT o):=λn d0 e0=>ag ⟨e0,λe' h'=>by grind,λh'=>by grind⟩;unfold YQ;refine aF (YW hN m C) λy0 E=>ba (λw=>?_) λw=>?_
 .have v:¬fJ m=W:=λe=>w (by grind);exact D (by unfold dL;grind) cd L
 have v:fJ m=W:=by
  grind
 refine aF (abG hN c b0 c0 h) λd ⟨⟨A0,B0,j⟩,n⟩=>?_;have G:B.ok d.2:=B.cK L (by rw[j]) (by rw[j]) (by rw[j]) (by rw[j]) (by rw[j]) (by rw[j]) (by rw[j]) (by rw[j]) (by rw[j]);cases y:oK N c with
 |none=>rw[y]at n;obtain⟨o1,o2⟩:=n;refine ba (λ_=>D (by unfold dL;grind) o1 G) λh0=>(o1 h0).elim|some P=>
  rw[y]at n;obtain⟨o1,f0⟩:=n;have C0:=Jx f0;have g0:dL N m c self bT=if mi m self bT then O 2 else Y:=by unfold dL;grind
  rw[g0];refine ba (λh0=>(h0 o1).elim) λ_=>aF (agV hN m C self a) λi0 Q=>?_;have H:i0.2=(gR m self).isSome:=by rw[Q];unfold Jo;grind
  have fO:mi m self bT->T (O (((Y:V Nat),(2:Int)),d.2)) (YX B t (rV β m c self) bT (if mi m self bT then O 2 else Y)):=λi=>D (by grind) cd G;refine ba (λI=>bZ (λi=>fO (.inl ⟨I,?_⟩)) λi=>?_) λI=>?_
  simp_all
  all_goals
   have j0:¬(self≠0/\gR m self=Y):=by
    first
     |exact λq=>by rw[H,q.2]at i;grind
     |grind
   clear Q H;refine a7 (λR=>fO (.inr (.inl R))) λR=>a7 (λS=>fO (.inr (.inr S))) λS=>?_;have l0:¬mi m self bT:=λq=>by
    rcases q with q|q|q
    .exact j0 q
    .omega
    .omega
   rw[ai l0];have m0:((c.length:Int)).toNat=c.length:=M;dsimp only;rw[m0];refine fc λA q1=>bY (by simp only[aI,aU];exact ⟨M,dG M M⟩) (bY (by cases D0:c.length with|zero=>omega|succ k=>rfl) ?_);refine fc λK f=>fc λl b=>?_;have U:l.fj[K.fj.length]?=O ⟨t,m,c,O d.2.jt.length,self,bT,0,0,Y,Y,O (A.sg.length,(List.replicate c.length (0:Int)).length)⟩:=by rw[b];simp
   have n0:l.jt=d.2.jt++[[]]:=by rw[b,f,q1]
   have o0:bz l.sg A.sg.length=O (List.replicate c.length 0):=by rw[b,f];exact EB
   have p0:B.ok l:=B.cK G (by rw[b,f,q1]) (by rw[b,f,q1]) (by rw[b,f,q1]) (by rw[b,f,q1]) (by rw[b,f,q1]) (by rw[b,f,q1]) (by rw[b,f,q1]) (by rw[b,f,q1]) (by rw[b,f,q1]);refine az (λs=>s.2={l with jt:=d.2.jt++[GY m.ay]}) (λJ q0=>?_) λs a=>?_
   .refine aP (λs=>0<=s.1/\s.1<=m.ay.length/\s.2={l with jt:=d.2.jt++[GY (m.ay.take s.1.toNat)]}) (λs=>(m.ay.length-s.1).toNat) ⟨aE,aE,?_⟩ dY ?_
    .dsimp only;rw[Int.toNat_zero,qV];show l={l with jt:=d.2.jt++[[]]}
     rw[<-n0]
    rintro rec ⟨p,g⟩ ⟨X,r0,r⟩ s0;dsimp only at X r0 r⊢;apply a7<;>intro i
    .refine aH X i λz _ t0=>?_;have e1:m.ay.take (p.toNat+1)=m.ay.take p.toNat++[z]:=by obtain⟨u0,rfl⟩:=aY.1 t0;exact(ah u0).symm
     have em:g.fj[K.fj.length]?=O ⟨t,m,c,O d.2.jt.length,self,bT,0,0,Y,Y,O (A.sg.length,(List.replicate c.length (0:Int)).length)⟩:=by rw[r];exact U
     have v0:g.jt[d.2.jt.length]?=O (GY (m.ay.take p.toNat)):=by rw[r];simp
     simp only[aM,em,v0];refine fc λE0 w0=>s0 _ ⟨?_,?_,?_⟩ ?_<;>dsimp only<;>rw[fG M M]
     .omega
     .omega
     .rw[(M:(p+1).toNat=p.toNat+1),e1,Pd,w0,r];simp
     .omega
    .rw[dh M]at r;exact q0 _ r
   .obtain ⟨u,g⟩:=s;dsimp only at a⊢;have a0:B.ok g:=B.cK p0 (by rw[a]) (by rw[a]) (by rw[a]) (by rw[a]) (by rw[a]) (by rw[a]) (by rw[a]) (by rw[a]) (by rw[a]);refine ag ⟨a0,λe h'=>(by cases h'),λ_=>⟨K.fj.length,rfl,_,by rw[a];exact U,?_⟩⟩;refine⟨rfl,rfl,rfl,?_,rfl,rfl,rfl,rfl,rfl,⟨[],rfl,NN.nil _⟩,⟨A.sg.length,rfl,?_⟩,a0⟩
    .rw[a];show(d.2.jt++[GY m.ay])[d.2.jt.length]?=_;simp;rfl
    .rw[a];exact o0
end
def ab2:jK (KS×Z Int)->eT×Int×Int
 |.gd e=>(⟨0,0,[],F,0,[]⟩,0,e)|.ok s k=>(k.1.top,s,0)
def k0(c:Z c8):KS×Z Int:=(⟨0,[],[]⟩,List.replicate c.length 0)
def qL(N:Nat)(β:cI->cI->tl)(m:hD)(c:Z c8)(self bT:Int)(o:jK (KS×Z Int)):Prop:=(∀e,dL N m c self bT=O e->o=.gd e)/\(dL N m c self bT=Y->∃n,we N (rV β m c self) n bT 0 (k0 c)=O o)
structure qF(N:Nat)(B:oI)(t:Option Nat)(β:cI->cI->Bool)(m:hD)(c:List c8)(sf:Int):Prop where
 below:∀h a b,B.ok h->T (GC N (t,a,b) h) λr=>r.1=β a b/\B.ok r.2/\r.2={h with dU:=r.2.dU,hQ:=r.2.hQ}
 md:xR m
 oo:m.ay.length<=60
 nd:∀n∈m.ay,Y5 n
 code:c.length<=1048576
 pX:∀x∈c,x.text.length<=1048576/\jc x.int
 bU:jc sf
section
variable{N:Nat}(hN:1073741824<=N){B:oI}{t:V Nat}{β:cI->cI->tl}{m:hD}{c:Z c8}{self bT:Int}{h:Hp}
include hN
theorem wz(a:qF N B t β m c self)(d:oK N c=O P):pq c P:=by obtain⟨r,_,_,b⟩:=abG hN c a.code (λx e=>(a.pX x e).1) (default:Hp);rw[d]at b;exact b.2
theorem YY(a:qF N B t β m c self)(d:fJ m=W):Z4 N B t (rV β m c self):=by
 have hT:=NH a.md d;refine⟨a.below,λh i n b=>?_,λi n b=>?_⟩
 .have b:n∈m.ay:=NK b;obtain⟨j,e,rfl⟩:=gX b;exact ab0 hN a.md d a.oo e h
 .have:=NI hT 64 n.iD;have:=a.oo;show(qk m 64 n.iD).length<=_;omega
omit hN in
theorem SW(a:qF N B t β m c self):Ds (rV β m c self):=⟨λi n b=>a.nd n (NK b),a.pX⟩
omit hN in
theorem WR(a:pq c P):Cn c P ⟨0,[],[]⟩:=⟨lH 0,⟨[],a.first,rfl,λj b l h=>by grind⟩,λv hv=>by grind⟩
theorem NL(f:qF N B t β m c self)(a:dL N m c self bT=Y)(p:bT<=300000)(s:xZ B t (rV β m c self) i h bT 0 ⟨0,[],[]⟩ (List.replicate c.length 0)):
  ∃P,pq c P/\T (Wn N (O i) h) λr=>∃o,qL N β m c self bT o/\NP B t (rV β m c self) P i bT o r:=by
 have u:=a;unfold dL at a;split at a
 .rename_i v;split at a
  grind
  .rename_i P w;split at a
   grind
   .rename_i x;have g:0<=bT:=iB.1 λq=>x (.inr (.inl q));have b:=wz hN f w;have k:=WR b;have l:=Ew c bT 0 ⟨0,[],[]⟩ (by grind);have z:=xK b k g;have H:=b.oo;have A:(⟨0,[],[]⟩:KS).eB=0:=rfl;have C:(⟨0,[],[]⟩:KS).loops=[]:=rfl;rw[A,C]at l;simp only[List.countP_nil]at l;refine⟨P,b,dr (afI hN (G:=rV β m c self) b (YY hN f v) (SW f) k (lH 0) g p s (by simp;rfl) (λj y d=>?_) ⟨z,?_⟩) λr ⟨n,o,D,E⟩=>⟨o,?_,E⟩⟩
    .rw[zN]at d;split at d
     .cases d;show 0<=(0:Int)/\(0:Int)<=_-mu c bT 0 ⟨0,[],[]⟩;omega
     grind
    .show mu c bT 0 ⟨0,[],[]⟩<_;omega
    .exact ⟨λe h=>(by grind),λ_=>⟨n,D⟩⟩
 grind
omit hN in
theorem VN(d:pq c P){k:KS}(e:Cn c P k)(h:(c.length:Int)<=k.eB):∃v,k=⟨k.eB,[]++[v],k.loops⟩/\k.top=v:=by
 obtain⟨L,a,_⟩:=e.jw;have i:=RY d a;have h0:=e.at0;have f:k.eB.toNat=c.length:=M;rw[f,d.aay]at a;have h3:(1:Int)=k.stack.length:=(db.mk.inj (cr a)).2.1;obtain⟨g,v,b⟩:=fP (st:=k.stack) M;have:g=[]:=by rw[b,fv]at h3;exact nQ M
 subst this;refine⟨v,?_,?_⟩
 .rw[<-b]
 .unfold KS.top;grind
theorem LO(f:qF N B t β m c self)(G:dL N m c self bT=Y->bT<=300000)(H:B.ok h):
  T (To N (t,m,qI.mk c,self,bT) h) λr=>B.ok r.2/\∃o,qL N β m c self bT o/\(∀e,o=.gd e->e≠0)/\r.1=ab2 o/\r.1.1.aq.length<=1048576:=by
 unfold To YS;refine aF (ab1 hN β m f.md c f.code (λx I=>(f.pX x I).1) self f.bU bT h H) λd0 ⟨K,L,Q⟩=>?_;cases a:dL N m c self bT with
 |some e=>
  obtain⟨b,n⟩:=L e a;refine az (λs=>s.1=e/\B.ok s.2) (λJ u=>aO (λq=>?_) λ_=>u _ ⟨?_,K⟩) λs d=>?_
  grind
  .rw[b]
  .obtain ⟨p,g⟩:=s;obtain⟨y,z⟩:=d;dsimp only at y z⊢;subst y;refine ba (λ_=>ag ⟨z,.gd p,?_,λe' h'=>?_,rfl,aE⟩) λq=>(n q).elim
   .exact ⟨λe' h=>(by grind),λh=>(by grind)⟩
   grind
 |none=>
  obtain⟨i,b,R⟩:=Q a;obtain⟨P,S,U⟩:=NL hN f a (G a) R;refine az (λs=>∃o,qL N β m c self bT o/\NP B t (rV β m c self) P i bT o s) (λJ u=>aO (λ_=>?_) λq=>?_) λs d=>?_
  .rw[b];exact aF U λr X=>u _ X
  grind
  .obtain ⟨p,g⟩:=s;obtain⟨o,A,d⟩:=d;dsimp only;cases o with
   |gd e=>obtain⟨q1,C,j⟩:=d;dsimp only at q1 j;subst q1;exact ba (λ_=>ag ⟨j.1,.gd p,A,λe' h'=>(by grind),rfl,aE⟩) λq=>(C q).elim
   |ok s k=>obtain⟨q1,⟨e,l,w⟩,j,a0⟩:=d;dsimp only at q1 l;subst q1;refine ba (λq=>(q rfl).elim) λ_=>?_;obtain⟨v,D,b0⟩:=VN S j a0;rw[D]at w;obtain⟨e0,c0,E⟩:=ot (N:=N) l w aE;rw[b];dsimp only;rw[SV c0 l (hx l _) w.eC E.eC 10 _ _ Pc ⟨.inl rfl,λh=>by simp at h,λh=>by simp at h,λh=>by simp at h⟩];refine ag ⟨E.dU,.ok s k,A,λe' h'=>(by grind),(by show _=(k.1.top,s,(0:Int));rw[b0]),?_⟩;have hv:=j.aaz v (by grind);exact hv.aq
theorem ab3(b:qF N B t β m c self)(u:dL N m c self bT=Y->bT<=300000)(v:B.ok h):
  T (F13 N (t,m,qI.mk c,self,bT) h) λr=>B.ok r.2/\∃o,qL N β m c self bT o/\(∀e,o=.gd e->e≠0/\r.1.2=e)/\∀s k,o=.ok s k->r.1=(k.2,0):=by
 unfold F13;refine aF (ab1 hN β m b.md c b.code (λx w=>(b.pX x w).1) self b.bU bT h v) λL ⟨y,z,A⟩=>?_;cases a:dL N m c self bT with
 |some e=>
  obtain⟨d,j⟩:=z e a;rw[d];refine ba (λ_=>ag ⟨y,.gd e,?_,λe' h'=>?_,λs k h'=>(by grind)⟩) λq=>(j q).elim
  .exact ⟨λe' h=>(by grind),λh=>(by grind)⟩
  grind
 |none=>
  obtain⟨i,d,C⟩:=A a;obtain⟨P,Q,D⟩:=NL hN b a (u a) C;rw[d];refine ba (λq=>(q rfl).elim) λ_=>aF D λr ⟨o,l,n⟩=>?_;simp only[aM];cases o with
  |gd e=>obtain⟨q1,E,G,R,H,xs,f⟩:=n;simp only[H,f,aM];exact fc λg q=>ag ⟨B.cK G (by rw[q]) (by rw[q]) (by rw[q]) (by rw[q]) (by rw[q]) (by rw[q]) (by rw[q]) (by rw[q]) (by rw[q]),.gd e,l,λe' h'=>(by grind),λs k h'=>(by grind)⟩
  |ok s k=>
   obtain⟨q1,⟨e,I,p⟩,S,U⟩:=n;obtain⟨q,J,K⟩:=p.fA;have f:ad r.2.sg e.fA=O k.2:=by rw[J,si K (a6 _),lW]
   simp only[I,f,aM];exact fc λg q=>ag ⟨B.cK p.dU (by rw[q]) (by rw[q]) (by rw[q]) (by rw[q]) (by rw[q]) (by rw[q]) (by rw[q]) (by rw[q]) (by rw[q]),.ok s k,l,λe' h'=>(by grind),λs' k' h'=>by grind⟩
end
section
variable{N:Nat}{G:Gm}{x:c8}{k:KS}{c:Int}{k':KS}
theorem xV{v:eT}{a:Nd->jK KS}{Q:Int->Prop}(hF:∀n c k',a n=.ok c k'->Q c)(h:p8 G v a=.ok c k'):Q c:=by
 grind[p8]
theorem SX(h:Lw G x k=.ok c k'):0<=c/\(x.op≠15->10<=x.op->x.op<=15->c=0):=by
 refine xV (G:=G) (v:=k.top) (Q:=λc=>0<=c/\(x.op≠15->10<=x.op->x.op<=15->c=0)) (λn c k' h=>?_) h;grind
theorem Pe(h:wa G x k=.ok c k'):c=0:=by
 unfold wa at h;split at h
 .exact xV (Q:=λc=>c=0) (λn c k' h=>by grind) h
 split at h
 .exact xV (Q:=λc=>c=0) (λn c k' h=>by grind) h
 grind
theorem SY(h:Dq N x k=.ok c k'):c=0:=by
 grind[Dq]
theorem Jy(h:hY x k=.ok c k'):c=0:=by
 unfold hY at h;grind
theorem Pf(h:yI x k=.ok c k'):c=0:=by unfold yI at h;grind
theorem Pg(h:yJ x k=.ok c k'):0<=c:=by grind[yJ]
theorem Ph(h:yL G x k=.ok c k'):c=0:=by
 grind[yL]
structure YZ(x:c8)(c:Int):Prop where
 nn:0<=c
 one:x.op=1->c=x.arg
 no:x.op≠1->x.op≠39->x.op≠15->c=0
theorem NM(j:hZ x)(h:fI N G x k=.ok c k'):YZ x c:=by
 obtain⟨⟨o1,o2⟩,_,l⟩:=j;have z:∀{v:eT},fI N G x k=.ok 0 (k.push v)->x.op≠1->YZ x c:=λe d=>by rw[e]at h;cases h;exact⟨lH 0,λq=>(d q).elim,λ_ _ _=>rfl⟩
 have f:c=0->x.op≠1->YZ x c:=λe d=>by subst e;exact⟨lH 0,λq=>(d q).elim,λ_ _ _=>rfl⟩
 by_cases d:x.op=1
 .rw[Lx d]at h;cases h;exact⟨Int.le_of_lt (l d),λ_=>rfl,λq=>(q d).elim⟩
 by_cases m:x.op=8
 .rw[Ly m]at h;unfold Cm at h;grind
 by_cases n:x.op=9
 .rw[Lz n]at h;grind
 by_cases u:x.op<=7
 .have o:x.op=2∨x.op=3∨x.op=4∨x.op=5∨x.op=6∨x.op=7:=M;rcases o with e|e|e|e|e|e
  grind[zi,fI]
  grind[sV,fI]
  .exact z (v:=af W) (by simp[fI,e]) d
  .exact z (v:=af F) (by simp[fI,e]) d
  grind[nD,fI]
  .exact z (v:=nD 0) (by simp[fI,e]) d
 by_cases g:x.op<=15
 .rw[Cp M g]at h;obtain⟨a,b⟩:=SX h;exact⟨a,λq=>(d q).elim,λ_ _ q=>b q M g⟩
 by_cases p:x.op<=21
 .rw[xE M p]at h;exact f (Pe h) d
 by_cases r:x.op<=28
 .rw[Cq M r]at h;exact f (SY h) d
 by_cases s:x.op<=34
 .rw[hR M s]at h;exact f (Jy h) d
 by_cases t:x.op<=38
 .rw[xF M t]at h;exact f (Pf h) d
 by_cases i:x.op=39
 .rw[xG i]at h;exact⟨Pg h,λq=>(d q).elim,λ_ q=>(q i).elim⟩
 .rw[xH M]at h;exact f (Ph h) d
end
theorem uy(a:pq c P){x:c8}(h:c[i]?=O x):hZ x:=by obtain⟨_,_,_,b,_⟩:=a.pX i x h;grind
theorem zH{G:Gm}(a:pq G.c P)(k:KS×Z Int)(c:Int)(k':KS×Z Int)(h:xJ N G k=.ok c k'):0<=c:=by
 unfold xJ at h;split at h
 grind
 .rename_i x b;split at h
  grind
  .rename_i d e hi;cases h;exact(NM (uy a b) hi).nn
section
variable{N:Nat}(hN:1073741824<=N){B:oI}{t:V Nat}{β:cI->cI->tl}{m:hD}{c:Z c8}{self:Int}{f f':Int}{o o':jK (KS×Z Int)}
omit hN in
theorem qm(h0:0<=f)(b:f<=1048576)(d:0<=f')(e:f'<=1048576):dL N m c self f=dL N m c self f':=by
 have a:mi m self f↔mi m self f':=by grind[mi]
 unfold dL;grind
omit hN in
theorem Pj(a:fJ m=W)(b:oK N c=O P)(h0:f<0):dL N m c self f=O 2:=by unfold dL;rw[aj a,b];exact aj (.inr (.inl h0))
omit hN in
theorem nJ(h:dL N m c self f=Y):fJ m=W/\(∃P,oK N c=O P)/\¬mi m self f:=by
 grind[dL]
include hN
theorem SZ(d:qF N B t β m c self)(h0:0<=f)(g:f<=f')(i:f'<=1048576){e:Int}(j:e≠100)(h:qL N β m c self f (.gd e))(h':qL N β m c self f' o'):o'=.gd e:=by
 have b:dL N m c self f=dL N m c self f':=qm h0 M M i;cases a:dL N m c self f with
 |some e'=>have:=h.1 e' a;cases this;exact h'.1 e (by grind)
 |none=>obtain⟨_,⟨P,k⟩,_⟩:=nJ a;have l:=wz hN d k;obtain⟨n,o⟩:=h.2 a;obtain⟨q,p⟩:=h'.2 (by grind);exact nA p (Ng (zH (G:=rV β m c self) l) g j o)
theorem W3(d:qF N B t β m c self)(h0:0<=f)(e:f<=f')(g:f'<=1048576)(h:qL N β m c self f (.gd 100))(h':qL N β m c self f' (.ok s k)):f<s:=by
 have b:dL N m c self f=dL N m c self f':=qm h0 M M g;cases a:dL N m c self f with
 |some e'=>have:=h'.1 e' (by grind);grind
 |none=>obtain⟨_,⟨P,i⟩,_⟩:=nJ a;have j:=wz hN d i;obtain⟨n,l⟩:=h.2 a;obtain⟨p,o⟩:=h'.2 (by grind);exact Uh (zH (G:=rV β m c self) j) h0 e l o
theorem VO(l:qF N B t β m c self)(h0:0<=f)(g:f<=1048576)(h:qL N β m c self f (.ok s k)):0<=s/\s<=f/\(∀{f' o'},s<=f'->f'<=1048576->qL N β m c self f' o'->o'=.ok s k)/\
  (∀{f' o'},0<=f'->f'<s->qL N β m c self f' o'->o'=.gd 100)/\∀{f' o'},f'<0->qL N β m c self f' o'->o'=.gd 2:=by
 have b:dL N m c self f=Y:=by
  cases o:dL N m c self f with
  |none=>rfl|some e=>have:=h.1 e o;grind
 obtain⟨p,⟨P,i⟩,_⟩:=nJ b;have q:=wz hN l i;obtain⟨n,r⟩:=h.2 b;obtain⟨u,a2,_,j⟩:=Gu (zH (G:=rV β m c self) q) h0 r;refine⟨u,a2,λ{f' o'} a h3 h'=>?_,λ{f' o'} a h3 h'=>?_,λ{f' o'} a h'=>h'.1 2 (Pj p i a)⟩
 .obtain ⟨v,d⟩:=h'.2 (by rw[<-b];exact qm M h3 h0 g);exact nA d ((j f').1 a)
 .obtain ⟨v,d⟩:=h'.2 (by rw[<-b];exact qm a M h0 g);exact nA d ((j f').2 a h3)
end
section
variable{N:Nat}(hN:1073741824<=N)
include hN
theorem agX(l:Z Int)(g:l.length<=1048576):T (F15 N (l,l)) λr=>r=W:=by unfold F15;simp only[tj,kb,bq];refine az (λ_=>True) (λJ b=>?_) λ_ _=>ag rfl;refine aP (λs=>0<=s.1/\s.1<=l.length) (λs=>(l.length-s.1).toNat) ⟨aE,aE⟩ dY ?_;rintro rec ⟨p,u⟩ ⟨a,c⟩ d;dsimp only at a c⊢;refine a7 (λe=>?_) λ_=>b _ trivial;obtain⟨x,f,_,_⟩:=ib a e;simp only[f,aM,tj,kb,bq];refine d _ ⟨?_,?_⟩ ?_<;>dsimp only<;>rw[fG M M]<;>omega
theorem VP(v:eT)(hv:v.aq.length<=1048576):T (Zo N (v,v)) λr=>r=W:=by unfold Zo;simp only[tj,bf];exact aF (agX hN v.aq hv) λr a=>ag a
theorem tF6(w:Nj)(i:w.ls.length<=1048576):T (F6 N w) λr=>r=F->w.m.ay.length<=60/\(w.bT<=20000∨1048576<w.bT):=by
 unfold F6;refine az (λ_=>True) (λJ b=>?_) λs _=>?_
 .refine aP (λs=>0<=s.1.2/\s.1.2<=w.ls.length) (λs=>(w.ls.length-s.1.2).toNat) ⟨aE,aE⟩ dY ?_;rintro rec ⟨⟨a,p⟩,u⟩ ⟨c,e⟩ f;dsimp only at c e⊢;refine a7 (λg=>?_) λ_=>b _ trivial;refine ao (λ_=>ao (λ_=>aH c g λx _ _=>f _ ⟨?_,?_⟩ ?_) λ_=>b _ trivial) λ_=>b _ trivial<;>dsimp only<;>rw[fG M M]<;>omega
 .obtain ⟨p,u⟩:=s;dsimp only;refine ao (λ_=>ag λh=>by grind) λ_=>ao (λ_=>ag λh=>by grind) λ_=>a7 (λ_=>ag λh=>by grind) λj=>a7 (λd=>ag λh=>⟨M,.inr ?_⟩) λd=>ag λ_=>⟨M,.inl d⟩
  grind
theorem tF7(ls:Z cW)(b:jx ls)(h:Hp)(d:Jh h):T (F7 N ls h) λr=>r.1.1=Y∨r.1.1=O 0/\ur ls r.2:=by
 unfold F7;refine aF (agO hN ls b h d) λy e=>?_;rcases e with⟨a,_⟩|⟨a,c⟩
 .exact ba (λ_=>ag (.inl rfl)) λq=>(a q).elim
 .rw[a];refine ba (λq=>(q rfl).elim) λ_=>aF (agr hN ls b c.j7) λz _=>ao (λ_=>ag (.inl rfl)) λ_=>ag (.inr ⟨rfl,c⟩)
end
def ab5:oI:=⟨λ_=>True,λ_ _ _ _ _ _ _ _ _ _=>trivial⟩
def ab6:oI:=⟨Jh,λa b c h3 d e f g h i=>⟨b.trans a.dU,d.trans a.et,h3.trans a.jk,f.trans a.uB,e.trans a.uC,g.trans a.Cb,h.trans a.CV,i.trans a.all,c.trans a.hQ⟩⟩
def ab7(ls:Z cW):oI:=⟨ur ls,λa b c h3 d e _ _ _ _=>⟨by rw[b,c,e];exact a.dU,by rw[h3];exact a.jk,a.j7,a.len,by rw[d];exact a.et,a.xQ,a.named⟩⟩
section
variable{N:Nat}(hN:1073741824<=N)
theorem S6(h:Hp)(a b:cI):GC N (Y,a,b) h=O (a==b,h):=rfl
include hN
theorem Y6(ls:Z cW)(c:jx ls)(h:Hp)(a b:cI)(d:ur ls h):T (GC N (O 0,a,b) h) λr=>r.1=uu ls a b/\ur ls r.2/\r.2={h with dU:=r.2.dU,hQ:=r.2.hQ}:=by
 refine dr (abP hN ls c a b h d) λr ⟨e,f,A,B,h3⟩=>⟨e,f,?_⟩
 rw[h3]
end
def mA:hD:=hD.mk 3 [Nd.mk 1 [76,105,115,116] 0 [] [] [2] [],Nd.mk 2 [78,117,109] 1 [105,116,101,109] [Dm.mk [118] [53]] [] []]
def cA:Z c8:=[c8.mk 1 3 0 [],c8.mk 6 0 0 [],c8.mk 11 0 0 [105,116,101,109],c8.mk 35 0 0 [],c8.mk 39 12 0 [],c8.mk 1 3 0 [],c8.mk 8 0 0 [],c8.mk 10 0 0 [118],c8.mk 1 1 0 [],c8.mk 3 0 0 [53],c8.mk 25 0 0 [],c8.mk 40 4 0 []]
def bA(a b:cI):tl:=a==b
theorem agY(Mloc:Nat):dL (Mloc+64) mA cA 1 100=Y:=au
theorem ab8(Mloc:Nat):dL (Mloc+64) mA cA 1 7=Y:=au
theorem agZ(Mloc:Nat):we (Mloc+64) (rV bA mA cA 1) 13 100 0 (k0 cA)=O (.ok 8 (⟨12,[af W],[]⟩,List.replicate 12 1)):=au
theorem ab9(Mloc:Nat):we (Mloc+64) (rV bA mA cA 1) 13 7 0 (k0 cA)=O (.gd 100):=au
theorem ag0(N:Nat):qF N ab6 Y bA mA cA 1 where
 below:=λh a b e=>⟨_,S6 h a b,rfl,e,rfl⟩
 md:=⟨cd,λn c=>by simp only[mA,cT,s8,NO]at c;rcases c with rfl|rfl<;>exact ⟨cd,cd,cd,aE,cd,by simp[jc],cd,aE,by simp[jc]⟩⟩
 oo:=cd
 nd:=λn c=>by simp only[mA,cT,s8,NO]at c;rcases c with rfl|rfl<;>exact ⟨by simp[jc],cd,by simp[jc],⟨cd,aE⟩,cd,cd⟩
 code:=cd
 pX:=λx d=>by simp only[cA,cT,s8,NO]at d;rcases d with rfl|rfl|rfl|rfl|rfl|rfl|rfl|rfl|rfl|rfl|rfl|rfl<;>simp[jc]
 bU:=by grind
theorem aca(hN:1073741824<=N)(h:Hp)(i:Jh h):T (F18 N () h) λr=>r.1=W/\Jh r.2:=by
 have a:=ag0 N;obtain⟨Mloc,rfl⟩:∃Mloc,N=Mloc+64:=⟨N-64,M⟩
 have e:∀o,qL (Mloc+64) bA mA cA 1 100 o->o=.ok 8 (⟨12,[af W],[]⟩,List.replicate 12 1):=λo b=>by obtain⟨n,c⟩:=b.2 (agY Mloc);exact nA c (agZ Mloc)
 have j:∀o,qL (Mloc+64) bA mA cA 1 7 o->o=.gd 100:=λo b=>by obtain⟨n,c⟩:=b.2 (ab8 Mloc);exact nA c (ab9 Mloc)
 unfold F18;refine aF (LO hN a (λ_=>cd) i) λu ⟨k,o1,l,_,f,_⟩=>aF (LO hN a (λ_=>cd) k) λv ⟨m,o2,p,_,g,_⟩=>aF (ab3 hN a (λ_=>cd) m) λw ⟨q,o3,s,_,d⟩=>?_;rw[e o1 l]at f;rw[j o2 p]at g;have d:=d _ _ (e o3 s);rw[f,g,d];refine ao (λ_=>?_) λh=>by cases h
 refine fh (aF (VP hN (af W) cd) λr t=>?_);rw[t];refine ao (λ_=>ao (λ_=>ao (λ_=>ao (λ_=>ao (λ_=>?_) λh=>by grind) λh=>by grind) λh=>by cases h) λh=>by cases h) λh=>by grind
 exact⟨_,rfl,rfl,q⟩
theorem Y7(x:Int):0<=IntKind.u64.wrap x:=by grind[IntKind.wrap,IntKind.bits,IntKind.signed]
structure In5(ls:List cW)(m:hD)(c:List c8)(sf fu:Int):Prop where
 ls:jx ls
 nd:∀n∈m.ay,LK n/\Y5 n
 code:c.length<=1048576
 pX:∀x∈c,x.text.length<=1048576/\jc x.int
 bU:jc sf
 bT:jc fu
section
variable{N:Nat}(hN:1073741824<=N)
include hN
theorem GP(d:In5 ls m c self bT)(i:m.ay.length<=60)(h:Hp)(k:Jh h):T (F7 N ls h) λr=>∃B β,B.ok r.2/\qF N B r.1.1 β m c self:=by
 have j:xR m:=⟨M,λn f=>(d.nd n f).1⟩
 refine dr (tF7 hN ls d.ls h k) λr l=>?_;rcases l with e|⟨e,g⟩
 .rw[e];exact⟨ab5,λa b=>a==b,trivial,λh a b _=>⟨_,S6 h a b,rfl,trivial,rfl⟩,j,i,λn f=>(d.nd n f).2,d.code,d.pX,d.bU⟩
 .rw[e];exact⟨ab7 ls,uu ls,g,λh a b g=>Y6 hN ls d.ls h a b g,j,i,λn f=>(d.nd n f).2,d.code,d.pX,d.bU⟩
theorem ag1{b:Int}(o:In5 ls m c self bT)(h:Hp)(w:Jh h):T (F4 N (Nj.mk ls m self bT,qI.mk c,b) h) λr=>r.1=W:=by
 unfold F4;refine aF (aca hN h w) λy ⟨A,C⟩=>?_;rw[A];refine bZ (λq=>by grind) λ_=>aF (tF6 hN _ o.ls.len) λc0 D=>ao (λ_=>ag rfl) λE=>?_;obtain⟨p,_⟩:=D E;refine a7 (λ_=>ag rfl) λ_=>a7 (λ_=>ag rfl) λi=>a7 (λ_=>ag rfl) λG=>?_;dsimp only at p i G⊢;refine aF (GP hN o p y.2 C) λd0 ⟨B,β,H,f⟩=>?_;have I:∃d:Int,0<=d/\d<20000/\IntKind.i64.wrap (bT+IntKind.i64.wrap ((IntKind.u64.wrap b).tmod 20000))=bT+d:=by have J:=Y7 b;have e:(IntKind.u64.wrap b).tmod 20000=(IntKind.u64.wrap b)%20000:=Int.tmod_eq_emod_of_nonneg J;refine⟨(IntKind.u64.wrap b)%20000,M,M,?_⟩;rw[e,fG (x:=IntKind.u64.wrap b%20000) M M,fG M M]
 obtain⟨d,e0,f0,K⟩:=I;rw[K];refine aF (LO hN f (λ_=>M) H) λg0 ⟨L,o1,l,P,e1,j⟩=>bY cd (aF (LO hN f (λ_=>M) L) λh0 ⟨Q,o2,n,R,e2,i0⟩=>?_);rw[e1,e2];rw[e1]at j;cases o1 with
 |gd e=>
  have S:=P e rfl;show T (bif e==100 then _ else _) _;apply aO<;>intro t
  .subst t;show T (bif (0:Int)==0 then _ else _) _;refine aO (λ_=>ba (λ_=>ag rfl) λq=>ag ?_) λq=>(q rfl).elim;cases o2 with
   |gd e=>exact (R e rfl q).elim|ok s k=>exact jg (W3 hN f i M M l n)
  .have a:=SZ hN f i M M t l n;subst a;refine ba (λq=>(q rfl).elim) λ_=>aF (VP hN _ j) λz g=>?_;rw[g];refine bZ (λq=>by grind) λ_=>ba (λq=>(q rfl).elim) λ_=>a7 (λq=>?_) λ_=>ba (λ_=>ag rfl) λq=>(S q).elim;have q:bT<0:=q;omega
 |ok s k=>
  obtain⟨j0,s1,f1,f2,U⟩:=VO hN f i M l;have a:=f1 M M n;subst a;refine aO (λq=>by cases q) λ_=>ba (λq=>(q rfl).elim) λ_=>aF (VP hN _ j) λz g=>?_;rw[g];refine bZ (λq=>by grind) λ_=>ba (λq=>(q rfl).elim) λ_=>a7 (λq=>?_) λ_=>ba (λq=>(q rfl).elim) λ_=>?_
  .have q:bT<s:=q;omega
  refine aF (LO hN f (λ_=>?_) Q) λl0 ⟨X,o3,a0,m0,e3,n0⟩=>?_
  grind
  have a:=f1 (f':=s) (lH s) M a0;subst a;rw[e3];refine ba (λq=>(q rfl).elim) λ_=>ba (λq=>(q rfl).elim) λ_=>aF (VP hN _ j) λz g=>?_;rw[g];refine bZ (λq=>by grind) λ_=>?_;have b0:IntKind.i64.wrap ((ab2 (.ok s k)).2.1-1)=s-1:=fG (by grind) (by grind);rw[b0];refine aF (LO hN f (λ_=>M) X) λo0 ⟨p0,q0,u,r0,e4,t0⟩=>?_;rw[e4];apply aO<;>intro q
  .have q:s=0:=q;have a:=U M u;subst a;exact aO (λ_=>ag rfl) λq=>(q rfl).elim
  .have q:¬s=0:=q;have a:=f2 M M u;subst a;refine a7 (λ_=>ag rfl) λv=>?_;grind
end
end Go.Proofs.Mo
