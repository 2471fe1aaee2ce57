import Derived.Test.YtedadjfbbpjaiaaGreatZ27
set_option linter.all false
set_option maxRecDepth 20000
namespace Go.Proofs.Mo
open Go Go.Ev Go.X
variable{k n B' b:Nat}{β α:Type}{l:List cN}{s:bE}{xs:List bE}{o:Option Nat}{P:bE×cN->Prop}{e:Entry}{sl:Nat->Option (Nat×Nat)}{r:dT}{c:cN}
def dM(i:Nat):List cN->List (bE×Option Nat)
 |[]=>[]|c::l=>(c.name,some i)::dM (i+1) l
def yD(i:Nat):List cN->bE->Option Nat
 |[],_=>none|c::l,s=>if c.name=s then some i else yD (i+1) l s
theorem sa:∀(l:List cN)(i:Nat),(dM i l).length=l.length
 |[],_=>rfl|c::l,i=>by simp[dM,sa l]
theorem BD(c:cN):∀(l:List cN)(i:Nat),dM i (l++[c])=dM i l++[(c.name,some (i+l.length))]
 |[],i=>by simp[dM]|d::l,i=>by simp[dM,BD c l];omega
theorem dY(s:bE):∀(l:List cN)(i:Nat),aZ eqStr (dM i l) s=(yD i l s).map some
 |[],_=>rfl|c::l,i=>by
  simp only[dM,aZ,yD];by_cases h:c.name=s
  ·rw[ap h,h,nc];rfl
  ·rw[ai h,pA (λe=>h e.symm)];exact dY s l (i+1)
theorem EG{s:bE}:∀{l:List cN}{i:Nat},yD i l s=none->∀c∈l,c.name≠s
 |[],_,_,c,hc=>by cases hc
 |d::l,i,h,c,hc=>by
  simp only[yD]at h;split at h
  ·cases h
  ·rcases c6.1 hc with rfl|hc
   ·assumption
   ·exact EG h c hc
theorem EH{s:bE}:∀{l:List cN}{i k:Nat},yD i l s=some k->i<=k/\∃c,l[k-i]?=some c/\c.name=s
 |[],_,_,h=>by cases h
 |d::l,i,k,h=>by
  simp only[yD]at h;split at h
  ·cases h;exact ⟨aP _,d,by simp,by assumption⟩
  ·obtain ⟨h1,c,h2,h3⟩:=EH h;exact⟨by omega,c,by rw[show k-i=(k-(i+1))+1 by omega];exact h2,h3⟩
theorem pD(hn:(l.map (·.name)).Nodup):∀{i k:Nat}{c:cN},l[k]?=some c->yD i l c.name=some (i+k):=by
 induction l with
 |nil=>intro i k c h;cases h
 |cons d l ih=>
  intro i k c h;simp only[eD,oc]at hn;cases k with
  |zero=>cases h;simp[yD]
  |succ k=>have hm:c∈l:=bC h;have:d.name≠c.name:=λe=>hn.1 (e▸Jg hm);simp only[yD,ai this];rw[ih hn.2 h];congr 1;omega
abbrev ix(l:List cN)(s:bE):Option Nat:=yD 0 l s
theorem BE(h:ix l s=some k):k<l.length/\∃c,l[k]?=some c/\c.name=s:=by obtain⟨_,c,h2,h3⟩:=EH h;exact⟨(aV.1 h2).1,c,h2,h3⟩
theorem rk{ls:List bT}:gq ls s=(ix (cs ls) s).bind λk=>(cs ls)[k]?:=by
 unfold gq ix;have:∀(l:List cN)(i:Nat),(yD i l s).isSome=(l.find? λx=>x.name==s).isSome/\∀k,yD i l s=some k->l.find? (λx=>x.name==s)=l[k-i]?:=by
  intro l;induction l with
  |nil=>intro i;exact ⟨rfl,λk h=>by cases h⟩
  |cons c l ih=>
   intro i;by_cases h:c.name=s
   ·simp only[yD,ap h,P9];rw[show(c.name==s)=true by simp[h]];exact⟨rfl,λk hk=>by cases hk;simp⟩
   ·simp only[yD,ai h,P9];rw[show(c.name==s)=false by simp[h]];obtain⟨h1,h2⟩:=ih (i+1);refine⟨h1,λk hk=>?_⟩;have:=(EH hk).1;rw[h2 k hk,show k-i=(k-(i+1))+1 by omega];rfl
 obtain⟨h1,h2⟩:=this (cs ls) 0;cases h:yD 0 (cs ls) s with
 |none=>rw[h]at h1;simpa using h1.symm|some k=>rw[h2 k h];rfl
theorem N9(l:List (Option (List β)))(xs:List β)(h:xs≠[]):jw (l++[some xs]) (some (l.length,xs.length))=some xs:=by
 have h0:0<xs.length:=by cases xs with|nil=>exact (h rfl).elim|cons=>simp
 have h1:Nat.ble xs.length xs.length=true:=wI (aP _);have h2:Nat.blt 0 xs.length=true:=wI h0;simp[jw,fk,h1,h2]
def Zh(l:List (Option (List bE)))(p:Option (Nat×Nat))(xs:List bE):Prop:=match p with
 |none=>xs=[]|some (i,n)=>fk l i=some xs/\n=xs.length/\xs≠[]
theorem Zh.hs {l:List (Option (List bE))} {p:Option (Nat×Nat)} (h:Zh l p xs):jw l p=some xs:=by
 cases p with
 |none=>rw[show xs=[]from h];rfl|some p=>
  obtain⟨i,n⟩:=p;obtain⟨h1,h2,h3⟩:=h;subst h2;have h0:0<xs.length:=by cases xs with|nil=>exact (h3 rfl).elim|cons=>simp
  have h4:Nat.ble xs.length xs.length=true:=wI (aP _);have h5:Nat.blt 0 xs.length=true:=wI h0;simp[jw,h1,h4,h5]
theorem Zh.new (l:List (Option (List bE))) (h:xs≠[]):Zh (l++[some xs]) (some (l.length,xs.length)) xs:=⟨by simp[fk],rfl,h⟩
def El(p:Option (Nat×Nat)):Fa:=Fa.mk (some 0) p (Bw.mk (jT.mk) (Bv.mk (jU.mk) 0) (tV.mk (jT.mk) (Ae.mk 0 0))) none (Lt.mk (jU.mk) (p9.mk) 0)
def VU(c:cN)(iw:bE)(k:Nat):Entry:=Entry.mk c iw none k (some k) none none [] [] false false
structure yE(pre:List cN)(h:Hp):Prop where
 gz:∃p,h.gz=[El p]/\Zh h.Af p (pre.map (·.name))
 mj:h.mj=[dM 0 pre]
 eQ:h.eQ.length=pre.length/\∀k c,pre[k]?=some c->∃iw,h.eQ[k]?=some (VU c iw k)
 By:h.By=List.replicate pre.length []
 nodup:(pre.map (·.name)).Nodup
 len:pre.length<=128
 I7:h.I7=[]
 eqs:h.eqs=[]
 all:h.all=[]
 oS:h.oS=[]
 ja:h.ja=[]
section
variable{N:Nat}(hN:1073741824<=N)
include hN
theorem alD(n i:Int)(c:cN)(ls:List bT)(l:bT)(hz:aA ls n=some l)(pre:List cN)(h:Hp)(hp:yE pre h):T (F68 N (n,i,c,some 0,ls) h) λr=>(r.1=none/\yE (pre++[c]) r.2)∨(jb r.1/\True):=by
 obtain⟨⟨p,e1,e2⟩,e3,⟨e4,e5⟩,e6,e7,sS,e8,e9,e10,WJ,Sx⟩:=hp;have e2':=e2.hs;unfold F68;simp only[aU,e1,e3,El,dW,ik,sa,hz,dY];refine af (λ_=>an (pK hN _ _ _ _ _) λy hy=>aa (.inr ⟨hy (by decide),trivial⟩)) λhb=>?_;simp only[ma,ne_eq]at hb;cases wY:yD 0 pre c.name with
 |some k=>simp only[bQ,dB,kP,tq,ba];exact an (pK hN _ _ _ _ _) λy hy=>aa (.inr ⟨hy (by decide),trivial⟩)|none=>
  have dA:=EG wY;have hmf:aZ eqStr (dM 0 pre) c.name=none:=by rw[dY,wY];rfl
  have alE:(pre.map (·.name)++[c.name])≠[]:=by simp
  simp only[jW,EJ,od,fG,bc,cP,EK,aU,ik,e2',EA hmf,cM];refine bO (bi (by simp;omega) (by simp;omega)) (bO (by simp) (aa (.inl ⟨rfl,?_⟩)));have hlen:pre.length<128:=by have:=sS;omega
  refine⟨⟨_,rfl,?_⟩,?_,⟨?_,λk c' hk=>?_⟩,?_,?_,?_,e8,e9,e10,WJ,Sx⟩
  ·rw[nN];exact Zh.new _ alE
  ·show [dM 0 pre++[(c.name,some h.eQ.length)]]=_;rw[BD,e4,cS]
  ·simp[e4]
  ·by_cases fM:k<pre.length
   ·rw[kf fM]at hk;obtain⟨iw,hl⟩:=e5 k c' hk;exact⟨iw,by show(h.eQ++_)[k]?=_;rw[kf (by omega)];exact hl⟩
   ·have Iv:k=pre.length:=by have:=(aV.1 hk).1;simp at this;omega
    subst Iv;simp at hk;subst hk;refine⟨l.name,?_⟩;show(h.eQ++_)[pre.length]?=_;rw[<-e4];simp[VU,e6,e4]
  ·show h.By++[[]]=_;rw[e6];simp[List.replicate_succ']
  ·rw[nN,wJ];refine⟨e7,by simp,λa ha b hb=>?_⟩;simp at hb;subst hb;obtain⟨d,hd,rfl⟩:=cK.1 ha;exact dA d hd
  ·simp;omega
end
theorem EL{A σ:Type}{step:A->σ->(σ->Option β)->Option β}{done:σ->Option β}{Q:β->Prop}(l:List A)(tM:l.Nodup)(S:(A->Prop)->σ){TF:σ}(h0:TF=S λ_=>False)
  (hs:∀(P:A->Prop) x,(∀y,P y->y∈l)->x∈l->¬P x->∀k,step x (S P) k=k (S λy=>P y∨y=x)) (h:T (done (S λx=>x∈l)) Q):T (m6 step done l.length l TF) Q:=by
 obtain⟨r,hr,hq⟩:=h;refine⟨r,Ez (I:=λleft st=>∃P:A->Prop,st=S P/\(∀x,P x↔x∈l/\x∉left)/\(∀x∈left,x∈l)/\left.Nodup) ?_ ?_ l.length l TF rfl ⟨λ_=>False,h0,λx=>⟨λh=>h.elim,λh=>h.2 h.1⟩,λx hx=>hx,tM⟩,hq⟩
 ·rintro st ⟨P,rfl,hP,_,_⟩;have:P=λx=>x∈l:=funext λx=>propext ⟨λh=>((hP x).1 h).1,λh=>(hP x).2 ⟨h,by simp⟩⟩;rw[this];exact hr
 ·rintro left st i x ⟨P,rfl,hP,j5,hn⟩ hx;have qD:x∈left:=bC hx;refine⟨_,⟨_,rfl,λy=>?_,λy hy=>j5 y (List.mem_of_mem_eraseIdx hy),hn.sublist (List.eraseIdx_sublist _ _)⟩,hs P x (λy hy=>((hP y).1 hy).1) (j5 x qD) (λh=>((hP x).1 h).2 qD)⟩;have he:∀y,y∈left.eraseIdx i↔y∈left/\y≠x:=λy=>by
   obtain⟨hi,rfl⟩:=aV.1 hx;rw[List.mem_eraseIdx_iff_getElem];constructor
   ·rintro ⟨j,hj,dA,rfl⟩;exact⟨fx hj,λe=>dA ((List.getElem_inj hn).1 e)⟩
   ·rintro ⟨h1,h2⟩;obtain⟨j,hj,rfl⟩:=fR h1;exact⟨j,hj,λe=>h2 (by subst e;rfl),rfl⟩
  rw[he];constructor
  ·rintro (h|rfl)
   ·exact ⟨((hP y).1 h).1,λh2=>((hP y).1 h).2 h2.1⟩
   ·exact ⟨j5 _ qD,λh2=>h2.2 rfl⟩
  ·rintro ⟨h1,h2⟩;by_cases e:y=x
   ·exact .inr e
   ·exact .inl ((hP y).2 ⟨h1,λh3=>h2 ⟨h3,e⟩⟩)
theorem EM(l:List α)(f f':Nat->α->β)(k:Nat)(x:β)(h1:∀e,l[k]?=some e->x=f' k e)(h2:∀j e,j≠k->l[j]?=some e->f j e=f' j e):(l.mapIdx f).set k x=l.mapIdx f':=by
 apply uX;intro j;rw[uW,EN,EN,List.length_mapIdx];by_cases e:k=j
 ·subst e;rw[ap rfl];cases h:l[k]? with
  |none=>rw[ai (by simpa using h)];rfl|some y=>rw[ap (aV.1 h).1,bQ,<-h1 y h]
 ·rw[ai e];cases h:l[j]? with
  |none=>rfl|some y=>simp only[bQ];rw[h2 j y (λe'=>e e'.symm) h]
theorem jE:∀(l:List cN)(i:Nat)(x:bE×Option Nat),x∈dM i l↔∃k c,l[k]?=some c/\x=(c.name,some (i+k))
 |[],i,x=>by simp[dM]|d::l,i,x=>by
  simp only[dM,c6,jE l (i+1) x];constructor
  ·rintro (rfl|⟨k,c,h1,rfl⟩)
   ·exact ⟨0,d,rfl,rfl⟩
   ·exact ⟨k+1,c,h1,by rw[show i+(k+1)=i+1+k by omega]⟩
  ·rintro ⟨k,c,h1,rfl⟩;cases k with
   |zero=>cases h1;exact .inl rfl
   |succ k=>exact .inr ⟨k,c,h1,by rw[show i+(k+1)=i+1+k by omega]⟩
theorem sb:∀(l:List cN)(i:Nat),(dM i l).Nodup
 |[],i=>by simp[dM]|d::l,i=>by simp only[dM,oc];refine⟨λh=>?_,sb l (i+1)⟩;obtain⟨k,c,_,e⟩:=(jE l (i+1) _).1 h;have:=(py e).2;simp only[ah]at this;omega
def Hg(l:List cN)(o:Option Nat):Option Nat:=o.bind λk=>(l[k]?).bind λc=>ix l c.cQ
def mw(l:List cN):Nat->Option Nat->Option Nat
 |0,o=>o|j+1,o=>mw l j (Hg l o)
theorem uL(l:List cN):∀(j:Nat)(o:Option Nat),mw l (j+1) o=Hg l (mw l j o)
 |0,_=>rfl|j+1,o=>uL l j (Hg l o)
theorem Ai(l:List cN):∀j:Nat,mw l j none=none
 |0=>rfl|j+1=>Ai l j
theorem yF(l:List cN):∀(i j:Nat)(o:Option Nat),mw l (i+j) o=mw l j (mw l i o)
 |0,j,o=>by rw[cS];rfl|i+1,j,o=>by rw[Nat.add_right_comm];exact yF l i j (Hg l o)
theorem Aj(h:Hg l o=some k):k<l.length:=by obtain⟨j,_,h⟩:=Eu.1 h;obtain⟨c,_,h⟩:=Eu.1 h;exact(BE h).1
def B7(up:Nat->cN->Option Nat)(cc:Nat->cN->cN)(c:cN)(iw:bE)(k:Nat):Entry:=Entry.mk (cc k c) iw (up k c) k (some k) none none [] [] false false
structure me(l:List cN)(up:Nat->cN->Option Nat)(cc:Nat->cN->cN)(h:Hp):Prop where
 gz:∃p,h.gz=[El p]/\Zh h.Af p (l.map (·.name))
 mj:h.mj=[dM 0 l]
 eQ:h.eQ.length=l.length/\∀k c,l[k]?=some c->∃iw,h.eQ[k]?=some (B7 up cc c iw k)
 By:h.By=List.replicate l.length []
 nodup:(l.map (·.name)).Nodup
 len:l.length<=128
 I7:h.I7=[]
 eqs:h.eqs=[]
 oS:h.oS=[]
 ja:h.ja=[]
theorem yE.acG {h:Hp} (hp:yE l h):me l (λ_ _=>none) (λ_ c=>c) h:=⟨hp.gz,hp.mj,hp.eQ,hp.By,hp.nodup,hp.len,hp.I7,hp.eqs,hp.oS,hp.ja⟩
theorem me.xZ {up up':Nat->cN->Option Nat} {cc cc':Nat->cN->cN} {h:Hp} (hp:me l up cc h) (f:Nat->Entry->Entry) (hf:∀k c iw,l[k]?=some c->f k (B7 up cc c iw k)=B7 up' cc' c iw k):
  me l up' cc' {h with eQ:=h.eQ.mapIdx f}:=
 ⟨hp.gz,hp.mj,⟨by rw[<-hp.eQ.1];simp,λk c hc=>by obtain⟨iw,hl⟩:=hp.eQ.2 k c hc;exact⟨iw,by show(h.eQ.mapIdx f)[k]?=_;rw[EN,hl,bQ,hf k c iw hc]⟩⟩,hp.By,hp.nodup,hp.len,hp.I7,hp.eqs,hp.oS,hp.ja⟩
section
variable{N:Nat}(hN:1073741824<=N)
include hN
theorem Oa(ls:List bT)(f:bT->Option (List cN))(g:(Int×Int×cN)->Hp->Option ((Option ia)×Hp))(h:Hp):F66 N (ls,f,g) h=EF N ls f g h:=rfl
theorem alF(ls:List bT)(hl:gA ls)(h:Hp)(hp:yE [] h):T (F33 N (some 0,ls) h) λr=>(r.1=none/\yE (cs ls) r.2)∨(jb r.1/\True):=by unfold F33;dsimp only;rw[Oa hN];exact an (r9 hN (λl=>l.aQ) (λl=>rfl) hl.len (λl hm=>(hl.all l hm).aQ) yE (λ_=>True) hp λn i l x pre post h _ _ hz _ _ _ hp=>alD hN n i x ls l hz pre h hp) λy hy=>aa hy
def Open(l:List cN)(k:Nat):Prop:=∀j,1<=j->j<=l.length->mw l j (some k)≠some k
def wK(l:List cN)(c:cN):Prop:=(c.cQ=[]∨(ix l c.cQ).isSome)/\∃k,l[k]?=some c/\Open l k
theorem alG(n i:Int)(l:List cN)(c:cN)(k:Nat)(hk:l[k]?=some c)(h:Hp)(hp:me l (λ_ c=>ix l c.cQ) (λ_ c=>c) h):T (F69 N (n,i,c,some 0) h) λr=>(r.1=none/\r.2=h/\wK l c)∨(jb r.1/\True):=by
 obtain⟨⟨p,e1,e2⟩,e3,⟨e4,e5⟩,e6,e7,sS,e8,e9,WJ,Sx⟩:=hp;have hlen:(dM 0 l).length=l.length:=sa l 0;have wY:ix l c.name=some k:=by have:=pD (i:=0) e7 hk;rwa[cS]at this
 obtain⟨iw,hek⟩:=e5 k c hk;have fN:∀k',k'<l.length->∃c' LH,l[k']?=some c'/\h.eQ[k']?=some (B7 (λ_ c=>ix l c.cQ) (λ_ c=>c) c' LH k'):=λk' fM=>by obtain⟨LH,jq⟩:=e5 k' _ (cq fM);exact⟨_,LH,cq fM,jq⟩
 have main:(c.cQ=[]∨(ix l c.cQ).isSome)->∀(f:(Unit×Unit->Option (Option ia×Hp))->(((Option Nat)×Int)×Unit->Option (Option ia×Hp))->((Option Nat)×Int)×Unit->Option (Option ia×Hp)),
   (∀J rec p59 p60,f J rec ((p59,p60),())=bif !p59.isNone then bif decide (p60<(l.length:Int))then p59.bind λi64=>(h.eQ[i64]?).bind λe65=>bif e65.ab.name==c.name then(Bz N (n,2,i,0,43)).bind λy66=>some (y66,h)else p59.bind λi67=>(h.eQ[i67]?).bind λe68=>rec ((e68.up,IntKind.i64.wrap (p60+1)),())else J ((),())else J ((),()))->
   T (aM (λ(_:Unit×Unit)=>some (none,h)) λJ=>aE (f J) N ((ix l c.cQ,0),())) λr=>(r.1=none/\r.2=h/\wK l c)∨(jb r.1/\True):=by
  intro hs f hf;refine aj (λ_=>wK l c) (λJ hJ=>?_) (λx hx=>aa (.inl ⟨rfl,rfl,hx⟩));have alH:Hg l (some k)=ix l c.cQ:=by simp[Hg,hk]
  refine aG (λs=>0<=s.1.2/\s.1.2<=l.length/\s.1.1=mw l (s.1.2.toNat+1) (some k)/\∀j,1<=j->j<=s.1.2.toNat->mw l j (some k)≠some k) (λs=>(l.length-s.1.2).toNat) ⟨by simp,by simp,by simp[mw,alH],λj h1 h2=>by simp at h2;omega⟩ (by dsimp only;omega) ?_;rintro rec ⟨⟨x,j⟩,u⟩ ⟨k1,k2,k3,k4⟩ aH;dsimp only at k1 k2 k3 k4;rw[hf];cases x with
  |none=>
   refine hJ _ ⟨hs,k,hk,λj' h1 h2=>?_⟩;by_cases hj:j'<=j.toNat
   ·exact k4 j' h1 hj
   ·have:mw l j' (some k)=none:=by rw[show j'=(j.toNat+1)+(j'-(j.toNat+1)) by omega,yF,<-k3,Ai]
    rw[this];simp
  |some x=>
   simp only[kP,tq,ba];refine af (λhb=>?_) (λhb=>hJ _ ⟨hs,k,hk,λj' h1 h2=>k4 j' h1 ?_⟩)
   ·simp only[az]at hb;have hx:x<l.length:=Aj (o:=mw l j.toNat (some k)) (by rw[<-uL];exact k3.symm);obtain⟨c',LH,kA,zg⟩:=fN x hx;simp only[aU,zg,B7];refine af (λ_=>an (pK hN _ _ _ _ _) λy hy=>aa (.inr ⟨hy (by decide),trivial⟩)) λdA=>aH _ ⟨?_,?_,?_,?_⟩ ?_
    ·dsimp only;rw[bq (by omega) (by omega)];omega
    ·dsimp only;rw[bq (by omega) (by omega)];omega
    ·dsimp only;rw[bq (by omega) (by omega),show(j+1).toNat=j.toNat+1 by omega,uL,<-k3];simp[Hg,kA]
    ·dsimp only;rw[bq (by omega) (by omega)];intro j' h1 h2;by_cases hj:j'<=j.toNat
     ·exact k4 j' h1 hj
     ·have:j'=j.toNat+1:=by omega
      subst this;rw[<-k3];intro e;cases e;rw[hk]at kA;cases kA;simp at dA
    ·dsimp only;rw[bq (by omega) (by omega)];omega
   ·simp only[bz,fI]at hb;omega
 unfold F69;simp only[aU,e1,e3,El,dW,ik,dY,hlen];refine af (λhb=>?_) (λhb=>?_)
 ·simp only[hO,ma,ne_eq]at hb;cases hsu:yD 0 l c.cQ with
  |none=>simp only[jW,EJ,od,ba];exact an (pK hN _ _ _ _ _) λy hy=>aa (.inr ⟨hy (by decide),trivial⟩)|some q=>simp only[bQ,dB,kP,bc];rw[show yD 0 l c.name=some k from wY];simp only[bQ,dB,aU,hek,B7];exact main (.inr (by show(yD 0 l c.cQ).isSome=true;rw[hsu];rfl)) _ λJ rec p59 p60=>rfl
 ·simp only[mF,fc]at hb;rw[show yD 0 l c.name=some k from wY];simp only[bQ,dB,aU,hek,B7];exact main (.inl hb) _ λJ rec p59 p60=>rfl
open Classical in
noncomputable def vp (l:List cN) (P:bE×Option Nat->Prop) (k:Nat) (e:Entry):Entry:=if∃s,P (s,some k)then Entry.mk e.ab e.iw (ix l e.ab.cQ) e.number e.scopes e.rules e.equations e.cells e.pieces e.sq e.oe else e
theorem alI(ls:List bT)(hl:gA ls)(h:Hp)(hp:yE (cs ls) h):T (F34 N (some 0,ls) h) λr=>(r.1=none/\me (cs ls) (λ_ c=>ix (cs ls) c.cQ) (λ_ c=>c) r.2/\r.2.all=[]/\∀c∈cs ls,wK (cs ls) c)∨(jb r.1/\True):=by
 have ht:=hp.acG;obtain⟨⟨p,e1,e2⟩,e3,⟨e4,e5⟩,e6,e7,sS,e8,e9,e10,WJ,Sx⟩:=hp;generalize jl:cs ls=l at*;unfold F34;simp only[aU,e1,e3,El,ik];refine EL (dM 0 l) (sb l 0) (λP=>((),{h with eQ:=h.eQ.mapIdx (vp l P)})) ?_ ?_ ?_
 ·have:h.eQ.mapIdx (vp l λ_=>False)=h.eQ:=by apply uX;intro j;rw[EN];cases h.eQ[j]?<;>simp[vp]
  rw[this]
 ·rintro P ⟨s,o⟩ hPl hx hnP k;obtain⟨q,c,hq,e⟩:=(jE l 0 _).1 hx;cases e;rw[cS]at hnP⊢;obtain⟨iw,jq⟩:=e5 q c hq;have pW:¬∃s,P (s,some q):=by rintro⟨s,hs⟩;obtain⟨q',c',zF,e⟩:=(jE l 0 _).1 (hPl _ hs);simp only[cS,aS,ah]at e;obtain⟨rfl,rfl⟩:=e;rw[hq]at zF;cases zF;exact hnP hs
  have hu:vp l P q (VU c iw q)=VU c iw q:=by unfold vp;rw[ai pW]
  simp only[aU,e1,e3,El,dW,ik,EN,jq,bQ,hu,dY,cP];congr 3;refine EM _ _ _ q _ (λe he=>?_) (λj e hj he=>?_)
  ·rw[jq]at he;cases he;have:∃s,(λy=>P y∨y=(c.name,some q)) (s,some q):=⟨c.name,.inr rfl⟩
   unfold vp;rw[ap this];have hh:∀o:Option Nat,(Option.map some o).getD none=o:=λo=>by cases o<;>rfl
   simp only[VU,hh]
  ·have:(∃s,(λy=>P y∨y=(c.name,some q)) (s,some j))↔∃s,P (s,some j):=by
    constructor
    ·rintro ⟨s,h|h⟩
     ·exact ⟨s,h⟩
     ·cases h;exact (hj rfl).elim
    ·rintro ⟨s,h⟩;exact ⟨s,.inl h⟩
   unfold vp;simp only at this;by_cases hs:∃s,P (s,some j)
   ·rw[ap hs,ap (this.2 hs)]
   ·rw[ai hs,ai (λh=>hs (this.1 h))]
 ·have L7:me l (λ_ c=>ix l c.cQ) (λ_ c=>c) {h with eQ:=h.eQ.mapIdx (vp l λx=>x∈dM 0 l)}:=ht.xZ _ λk c iw hk=>by
   have:∃s,(s,some k)∈dM 0 l:=⟨c.name,(jE l 0 _).2 ⟨k,c,hk,by simp⟩⟩
   unfold vp;rw[ap this];rfl
  dsimp only;rw[Oa hN];have jn:cs ls=ls.flatMap (·.aQ):=rfl;refine an (r9 hN (λl=>l.aQ) (λl=>rfl) hl.len (λl hm=>(hl.all l hm).aQ) (λpre h'=>h'={h with eQ:=h.eQ.mapIdx (vp l λx=>x∈dM 0 l)}/\∀c∈pre,wK l c) (λ_=>True) ⟨rfl,by simp⟩ λn i lg x pre post h' _ _ hz _ _ lv ⟨hh,abD⟩=>?_) λy hy=>?_
  ·subst hh;have hk:l[pre.length]?=some x:=by rw[<-jl,jn,lv];simp
   refine dG (alG hN n i l x pre.length hk _ L7) λr hr=>?_;rcases hr with⟨q1,q2,q3⟩|hr
   ·refine .inl ⟨q1,q2,λc hc=>?_⟩;rcases dt.1 hc with hc|hc
    ·exact abD c hc
    ·simp at hc;subst hc;exact q3
   ·exact .inr hr
  ·refine aa ?_;rcases hy with⟨q1,q2,q3⟩|hy
   ·rw[<-jn,jl]at q3;refine .inl ⟨q1,?_,?_,q3⟩
    ·dsimp only;rw[q2];exact L7
    ·dsimp only;rw[q2];exact e10
   ·exact .inr hy
end
theorem Ak:∀(n:Nat)(l:List Nat),l.Nodup->(∀x∈l,x<n)->l.length<=n
 |0,l,_,h=>by
  cases l with
  |nil=>exact aP _|cons x l=>exact absurd (h x (by simp)) (by omega)
 |n+1,l,hn,h=>by
  by_cases hm:n∈l
  ·have:=Ak n (l.erase n) (hn.erase n) λx hx=>by
    have h1:=h x (List.mem_of_mem_erase hx);have h2:x≠n:=λe=>by subst e;exact hn.not_mem_erase hx
    omega
   rw[List.length_erase_of_mem hm]at this;omega
  ·have:=Ak n l hn λx hx=>by have h1:=h x hx;have h2:x≠n:=λe=>hm (e▸hx);omega
   omega
theorem Zi{j m:Nat}(h:mw l (j+m) o≠none):mw l j o≠none:=λe=>h (by rw[yF,e,Ai])
theorem Al(ho:∀k,k<l.length->Open l k)(hk:k<l.length):mw l l.length (some k)=none:=by
 cases he:mw l l.length (some k)with
 |none=>rfl|some m=>
  exfalso;have hs:∀j,j<=l.length->∃d,mw l j (some k)=some d/\d<l.length:=λj hj=>by
   have h1:mw l j (some k)≠none:=Zi (m:=l.length-j) (by rw[show j+(l.length-j)=l.length by omega,he];simp);obtain⟨d,hd⟩:=Option.ne_none_iff_exists'.1 h1;refine⟨d,hd,?_⟩;cases j with
   |zero=>cases hd;exact hk
   |succ j=>rw[uL]at hd;exact Aj hd
  let f:Nat->Nat:=λj=>(mw l j (some k)).getD 0;have hf:∀j,j<=l.length->mw l j (some k)=some (f j)/\f j<l.length:=λj hj=>by
   obtain⟨d,h1,h2⟩:=hs j hj;have:f j=d:=by show(mw l j (some k)).getD 0=d;rw[h1];rfl
   rw[this];exact ⟨h1,h2⟩
  have tM:((List.range (l.length+1)).map f).Nodup:=by
   rw[Jh,List.pairwise_map];have:=List.pairwise_lt_range (n:=l.length+1);refine this.imp_of_mem ?_;intro a b ha hb hab e;rw[nT]at ha hb;obtain⟨p1,p2⟩:=hf a (by omega);obtain⟨q1,q2⟩:=hf b (by omega);have:mw l (b-a) (some (f a))=some (f a):=by rw[<-p1,<-yF,show a+(b-a)=b by omega,q1,<-e,p1]
   exact ho (f a) p2 (b-a) (by omega) (by omega) this
  have:=Ak l.length _ tM λx hx=>by obtain⟨j,hj,rfl⟩:=cK.1 hx;rw[nT]at hj;exact(hf j (by omega)).2
  simp at this;omega
def gG(l:List cN):Nat->Option Nat->List Nat
 |0,_=>[]|_+1,none=>[]
 |n+1,some k=>k::gG l n (Hg l (some k))
theorem ll(l:List cN)(n:Nat):gG l n none=[]:=by cases n<;>rfl
theorem wL(l:List cN):∀(n:Nat)(o:Option Nat),(gG l n o).length<=n
 |0,_=>aP _|n+1,none=>by simp[gG]
 |n+1,some k=>by have:=wL l n (Hg l (some k));simp only[gG,dE];omega
theorem tZ{l:List cN}:∀{n:Nat}{o:Option Nat}(m:Nat),mw l n o=none->gG l (n+m) o=gG l n o
 |0,o,m,h=>by have:o=none:=h;subst this;rw[ll,ll]|n+1,none,m,h=>by rw[ll,ll]|n+1,some k,m,h=>by rw[show n+1+m=(n+m)+1 by omega];simp only[gG];rw[tZ m (show mw l n (Hg l (some k))=none from h)]
theorem Am{l:List cN}:∀{n:Nat}{o:Option Nat},(∀k,o=some k->k<l.length)->∀x∈gG l n o,x<l.length
 |0,_,_,x,hx=>by cases hx
 |n+1,none,_,x,hx=>by cases hx
 |n+1,some k,h,x,hx=>by
  rcases c6.1 hx with rfl|hx
  ·exact h _ rfl
  ·exact Am (λk' fM=>Aj fM) x hx
theorem sc{ls:List bT}:∀(n:Nat)(o:Option Nat),(∀k,o=some k->k<(cs ls).length)->og ls n (o.bind λk=>(cs ls)[k]?)=(gG (cs ls) n o).filterMap λk=>(cs ls)[k]?
 |0,_,_=>rfl|n+1,none,_=>rfl
 |n+1,some k,h=>by have hk:=h k rfl;have e:(cs ls)[k]?=some (cs ls)[k]:=cq hk;simp only[aU,e,og,gG,GK];congr 1;rw[<-sc n _ λk' fM=>Aj fM];congr 1;simp only[Hg,aU,e];exact rk
theorem mf{α β γ:Type}(f:α->Option β)(g:β->List γ):∀l:List α,(l.filterMap f).flatMap g=l.flatMap λx=>((f x).map g).getD []
 |[]=>rfl|x::l=>by have:=mf f g l;cases h:f x<;>simp[GK,h,this]
section
variable{N:Nat}(hN:1073741824<=N)
include hN
theorem wM(l:List α)(nm:α->bE)(hl:l.length<=136314880){J:List bE×Unit->Option β}{P:β->Prop}{f:(((List bE×Int)×Unit)->Option β)->((List bE×Int)×Unit)->Option β}
  (hf:∀rec out p,f rec ((out,p),())=bif decide (p<(l.length:Int))then(aA l p).bind λz=>(db (fits 16 (out.length+[nm z].length) 140737488355328)).bind λ_=>rec ((out++[nm z],IntKind.i64.wrap (p+1)),())else J (out,()))
  (hJ:T (J (l.map nm,())) P):T (aE f N (([],0),())) P:=by
 refine aG (λs=>0<=s.1.2/\s.1.2<=l.length/\s.1.1=(l.take s.1.2.toNat).map nm) (λs=>(l.length-s.1.2).toNat) ⟨by simp,by simp,by simp⟩ (by dsimp only;omega) ?_;rintro rec ⟨⟨out,p⟩,u⟩ ⟨k1,k2,k3⟩ aH;dsimp only at k1 k2 k3;rw[hf];have hol:out.length<=l.length:=by rw[k3];simp;omega
 refine af (λhb=>?_) (λhb=>?_)
 ·simp only[az]at hb;refine aw k1 hb λx hx bV=>bO (bi (by simp;omega) (by simp;omega)) (aH _ ⟨?_,?_,?_⟩ ?_)<;>dsimp only<;>rw[bq (by omega) (by omega)]
  ·omega
  ·omega
  ·have ht:l.take (p.toNat+1)=l.take p.toNat++[x]:=by obtain⟨hi,rfl⟩:=aV.1 bV;exact(kO hi).symm
   rw[show(p+1).toNat=p.toNat+1 by omega,ht,k3];simp
  ·omega
 ·simp only[bz,fI]at hb;rw[cV (by omega)]at k3;subst k3;exact hJ
theorem agG{l:List cN}{cc:Nat->cN->cN}{h:Hp}(hp:me l (λ_ c=>ix l c.cQ) cc h):∀(m n:Nat)(o:Option Nat),(∀k,o=some k->k<l.length)->mw l m o=none->m<n->m<=1000->T (NZ N n o h) λr=>r.2=h/\r.1=(gG l m o).reverse.map some
 |m,0,o,_,_,h3,_=>by omega|m,n+1,none,_,_,_,_=>aa ⟨rfl,by rw[ll];rfl⟩
 |0,n+1,some k,_,h2,_,_=>by cases h2
 |m+1,n+1,some k,h1,h2,h3,h4=>by
  obtain⟨iw,he⟩:=hp.eQ.2 k _ (cq (h1 k rfl));show T (aci N (NZ N n) (some k) h) _;have hu:Hg l (some k)=ix l (l[k]'(h1 k rfl)).cQ:=by simp[Hg,h1 k rfl]
  have hm:(mw l m (Hg l (some k)))=none:=h2;unfold aci;simp only[kP,bc,aU,he,B7];rw[<-hu];refine an (agG hp m n (Hg l (some k)) (λk' fM=>Aj fM) hm (by omega) (by omega)) λy ⟨Mb,AX⟩=>?_;have hl:y.1.length<=m:=by rw[AX];simpa using wL l m _
  refine bO (bi (by simp;omega) (by simp;omega)) (aa ⟨Mb,?_⟩);rw[AX];simp[gG]
end
section
variable{N:Nat}(hN:1073741824<=N)
include hN
set_option maxHeartbeats 4000000 in
theorem alJ(ls:List bT)(hl:gA ls)(n i:Int)(c:cN)(k a:Nat)(m:List (bE×cN))(hk:(cs ls)[k]?=some c)(h:Hp)(hp:me (cs ls) (λ_ c=>ix (cs ls) c.cQ) (λ_ c=>c) h)(ho:∀c∈cs ls,wK (cs ls) c)(ha:h.all[a]?=some m):
  T (F70 N (n,i,c,some 0,some a) h) λr=>(r.1=none/\r.2={h with all:=h.all.set a (jy eqStr m c.name (nd ls c.name c))})∨(jb r.1/\r.2=h):=by
 have FV:=hp;obtain⟨⟨p,e1,e2⟩,e3,⟨e4,e5⟩,e6,e7,sS,e8,e9,WJ,Sx⟩:=hp;have wY:ix (cs ls) c.name=some k:=by have:=pD (i:=0) e7 hk;rwa[cS]at this
 have FT:k<(cs ls).length:=(aV.1 hk).1;have Qa:∀k',k'<(cs ls).length->Open (cs ls) k':=λk' fM=>by
  obtain⟨_,k2,h2,h3⟩:=ho _ (fx fM);have:k2=k':=by have h4:=pD (i:=0) e7 h2;have h5:=pD (i:=0) e7 (cq fM);rw[h4]at h5;simpa using h5
  subst this;exact h3
 have kN:=Al Qa FT;have WD:gq ls c.name=some c:=by rw[rk,wY];exact hk
 obtain⟨b1,b2,b3,b4,b5,b6⟩:=uJ ls hl c.name c WD;have acH:fD ls c.name=(gG (cs ls) (cs ls).length (some k)).filterMap λq=>(cs ls)[q]?:=by have:=sc (ls:=ls) 129 (some k) (λk' e=>by cases e;exact FT);rw[show 129=(cs ls).length+(129-(cs ls).length) by omega,tZ _ kN,<-show 129=(cs ls).length+(129-(cs ls).length) by omega]at this;rw[<-this];unfold fD;rw[WD];simp[hk]
 generalize hA:nd ls c.name c=A at*;generalize lu:({h with all:=h.all.set a (jy eqStr m c.name A)}:Hp)=res;unfold F70;simp only[aU,e1,e3,El,dW,ik,dY];rw[show yD 0 (cs ls) c.name=some k from wY];simp only[bQ,dB];refine aj (λs=>s=(([],[],false,A.aW,A.kids,A.refs),h)) (λJ hJ=>?_) (λx hx=>?_)
 ·refine an (agG hN FV (cs ls).length N (some k) (λk' e=>by cases e;exact FT) kN (by omega) (by omega)) λy ⟨Mb,AX⟩=>?_;generalize hch:(gG (cs ls) (cs ls).length (some k)).reverse=ch at*;have anq:ch.length<=128:=by rw[<-hch,List.length_reverse];exact dI (wL _ _ _) sS
  have agH:∀q∈ch,q<(cs ls).length:=λq hq=>Am (o:=some k) (λk' e=>by cases e;exact FT) q (by rw[<-hch]at hq;exact List.mem_reverse.1 hq);have acI:(fD ls c.name).reverse=ch.filterMap λq=>(cs ls)[q]?:=by rw[acH,<-hch,List.filterMap_reverse]
  have hAp:A.aW=ch.flatMap λq=>(((cs ls)[q]?).map (·.aW)).getD []:=by rw[<-hA];simp only[nd,yB,acI];exact mf _ _ _
  have hAk:A.kids=ch.flatMap λq=>(((cs ls)[q]?).map (·.kids)).getD []:=by rw[<-hA];simp only[nd,yB,acI];exact mf _ _ _
  have hAr:A.refs=ch.flatMap λq=>(((cs ls)[q]?).map (·.refs)).getD []:=by rw[<-hA];simp only[nd,yB,acI];exact mf _ _ _
  have dh:∀q∈ch,(((cs ls)[q]?).map (·.aW)).getD []=((cs ls)[q]?.getD noC).aW/\(((cs ls)[q]?).map (·.kids)).getD []=((cs ls)[q]?.getD noC).kids/\(((cs ls)[q]?).map (·.refs)).getD []=((cs ls)[q]?.getD noC).refs/\sr ((cs ls)[q]?.getD noC):=λq hq=>by rw[cq (agH q hq)];exact⟨rfl,rfl,rfl,hl.cpt (fx _)⟩
  rw[Mb];refine aG (λs=>0<=s.1.1/\s.1.1<=ch.length/\s.1.2=([],[],false,(ch.take s.1.1.toNat).flatMap (λq=>(((cs ls)[q]?).map (·.aW)).getD []),(ch.take s.1.1.toNat).flatMap (λq=>(((cs ls)[q]?).map (·.kids)).getD []),(ch.take s.1.1.toNat).flatMap (λq=>(((cs ls)[q]?).map (·.refs)).getD []))) (λs=>(ch.length-s.1.1).toNat) ⟨by simp,by simp,by simp⟩ (by dsimp only;omega) ?_;rintro rec ⟨⟨j,a1,a2,a3,a4,a5,a6⟩,u⟩ ⟨k1,k2,k3⟩ aH;dsimp only at k1 k2 k3;cases k3;refine af (λhb=>?_) (λhb=>?_)
  ·simp only[az,AX,cM]at hb;obtain⟨x,L2,hx,bV⟩:=lj (l:=ch) k1 hb;have hgy:aA y.1 j=some (some x):=by obtain⟨j',rfl⟩:=BC k1;rw[AX,ri,dd];simp at bV;rw[bV];rfl
   have ht:ch.take (j.toNat+1)=ch.take j.toNat++[x]:=by obtain⟨hi,rfl⟩:=aV.1 bV;exact(kO hi).symm
   have SA:=agH x hx;obtain⟨iw,hex⟩:=e5 x _ (cq SA);have hcx:=hl.cpt (fx SA);have Jz:∀q∈ch.take j.toNat,q∈ch:=λq hq=>CF hq;have n1:=kq (l:=ch.take j.toNat) (f:=λq=>(((cs ls)[q]?).map (·.aW)).getD []) λq hq=>by rw[(dh q (Jz q hq)).1];exact (dh q (Jz q hq)).2.2.2.aW
   have n2:=kq (l:=ch.take j.toNat) (f:=λq=>(((cs ls)[q]?).map (·.kids)).getD []) λq hq=>by rw[(dh q (Jz q hq)).2.1];exact (dh q (Jz q hq)).2.2.2.kids
   have n3:=kq (l:=ch.take j.toNat) (f:=λq=>(((cs ls)[q]?).map (·.refs)).getD []) λq hq=>by rw[(dh q (Jz q hq)).2.2.1];exact (dh q (Jz q hq)).2.2.2.refs
   have eK:(ch.take j.toNat).length<=128:=by simp;omega
   have m1:=hcx.aW;have m2:=hcx.kids;have m3:=hcx.refs;simp only[hgy,aU,hex,B7];refine bO (bi (by omega) (by omega)) (bO (bi (by omega) (by omega)) (bO (bi (by omega) (by omega)) (aH _ ⟨?_,?_,?_⟩ ?_)))<;>dsimp only<;>rw[bq (by omega) (by omega)]
   ·omega
   ·omega
   ·rw[show(j+1).toNat=j.toNat+1 by omega,ht];simp[yC,cq SA]
   ·omega
  ·simp only[bz,fI,AX,cM]at hb;refine hJ _ ?_;rw[cV (by omega),<-hAp,<-hAk,<-hAr]
 ·subst hx;dsimp only;refine aj (λs=>s.1=A.aW.map (·.name)) (λJ hJ=>wM hN A.aW (·.name) b1 (λ_ _ _=>rfl) (hJ _ rfl)) (λx hx=>?_);refine aj (λs=>s.1=A.kids.map (·.role)) (λJ hJ=>wM hN A.kids (·.role) b2 (λ_ _ _=>rfl) (hJ _ rfl)) (λx' bV=>?_);refine aj (λs=>s.1=A.refs.map (·.role)) (λJ hJ=>wM hN A.refs (·.role) b3 (λ_ _ _=>rfl) (hJ _ rfl)) (λx'' Zb=>?_);obtain⟨ps,u1⟩:=x;obtain⟨ks,u2⟩:=x';obtain⟨rs,u3⟩:=x'';dsimp only at hx bV Zb;subst hx bV Zb;refine aj (λ_=>True) (λJ hJ=>?_) (λx _=>?_)
  ·simp only[aU,e1,e3,El,dW,ik,cM];have j1:(A.aW.map (·.name)).length=A.aW.length:=by simp
   have j2:(A.kids.map (·.role)).length=A.kids.length:=by simp
   have j3:(A.refs.map (·.role)).length=A.refs.length:=by simp
   generalize A.aW.map (·.name)=ps at*;generalize A.kids.map (·.role)=ks at*;generalize A.refs.map (·.role)=rs at*;refine aG (λs=>0<=s.1.2/\s.1.2<=3) (λs=>(3-s.1.2).toNat) ⟨by simp,by simp⟩ (by dsimp only;omega) ?_;rintro rec ⟨⟨part,kind⟩,u⟩ ⟨k1,k2⟩ aH;dsimp only at k1 k2;refine af (λhb=>?_) (λhb=>hJ _ trivial);simp only[dE,kS,az]at hb;refine aj (λ_=>True) (λJ2 Jd=>?_) (λx _=>aH _ ⟨?_,?_⟩ ?_)
   ·have hc:kind=0∨kind=1∨kind=2:=by omega
    rcases hc with rfl|rfl|rfl
    ·rw[show aA [ps,ks,rs] 0=some ps from rfl];simp only[aU,gK];refine cb (λhb=>?_) λhb=>?_;simp only[az]at hb;refine aG (λst=>0<=st.fst.snd/\st.fst.snd<=↑ps.length) (λst=>(↑ps.length-st.fst.snd).toNat) ?_ ?_ ?_;dsimp only
     (simp(disch:=omega)only[bq]at*;omega);dsimp only
     (simp(disch:=omega)only[bq]at*;omega);rintro rec ⟨⟨_,_⟩,_⟩ hI aH;dsimp only at hI;dsimp only;obtain⟨j8,iV⟩:=hI;refine bg (λhb=>?_) λhb=>?_;refine kp (λhb=>?_) λhb=>?_;refine ag (pK ?_ _ _ _ _ _) λy hy cI=>?_;trivial;refine aa ?_;dsimp only;rotate_left;refine bO ?_ ?_
     (simp(disch:=omega) [bq,bi]at*;omega);refine aw ?_ ?_ λx hx bV=>?_;trivial;trivial;refine ag (Za ?_ _ _ ?_) λy hy cI=>?_;trivial
     (simp(disch:=omega) [bq,bi]at*;omega);refine af (λhb=>?_) λhb=>?_;refine ag (pK ?_ _ _ _ _ _) λy hy cI=>?_;trivial;refine aa ?_;dsimp only;rotate_left;refine aj (λ_=>True) (λJ hJ=>?_) ?_;refine cb (λhb=>?_) λhb=>?_;contradiction;refine cb (λhb=>?_) λhb=>?_;contradiction;apply hJ;dsimp only;rintro⟨_,_⟩ hR;refine af (λhb=>?_) λhb=>?_;simp only[az]at hb;refine ag (pK ?_ _ _ _ _ _) λy hy cI=>?_;trivial;refine aa ?_;dsimp only;rotate_left;simp only[az]at hb;apply aH;dsimp only
     (simp(disch:=omega)only[bq]at*;omega);dsimp only
     (simp(disch:=omega)only[bq]at*;omega);apply Jd;dsimp only;contradiction;all_goals exact .inr ⟨cI (by decide),rfl⟩
    ·rw[show aA [ps,ks,rs] 1=some ks from rfl];simp only[aU,gK];refine cb (λhb=>?_) λhb=>?_;contradiction;refine cb (λhb=>?_) λhb=>?_;simp only[az]at hb;refine aG (λst=>0<=st.fst.snd/\st.fst.snd<=↑ks.length) (λst=>(↑ks.length-st.fst.snd).toNat) ?_ ?_ ?_;dsimp only
     (simp(disch:=omega)only[bq]at*;omega);dsimp only
     (simp(disch:=omega)only[bq]at*;omega);rintro rec ⟨⟨_,_⟩,_⟩ hI aH;dsimp only at hI;dsimp only;obtain⟨j8,iV⟩:=hI;refine bg (λhb=>?_) λhb=>?_;refine kp (λhb=>?_) λhb=>?_;refine ag (pK ?_ _ _ _ _ _) λy hy cI=>?_;trivial;refine aa ?_;dsimp only;rotate_left;refine bO ?_ ?_
     (simp(disch:=omega) [bq,bi]at*;omega);refine aw ?_ ?_ λx hx bV=>?_;trivial;trivial;refine ag (Za ?_ _ _ ?_) λy hy cI=>?_;trivial
     (simp(disch:=omega) [bq,bi]at*;omega);refine af (λhb=>?_) λhb=>?_;refine ag (pK ?_ _ _ _ _ _) λy hy cI=>?_;trivial;refine aa ?_;dsimp only;rotate_left;refine aj (λ_=>True) (λJ hJ=>?_) ?_;refine cb (λhb=>?_) λhb=>?_;simp only[az]at hb;refine aw ?_ ?_ λx hx bV=>?_;trivial;omega;apply hJ;dsimp only;contradiction;rintro⟨_,_⟩ hR;refine af (λhb=>?_) λhb=>?_;simp only[az]at hb;refine ag (pK ?_ _ _ _ _ _) λy hy cI=>?_;trivial;refine aa ?_;dsimp only;rotate_left;simp only[az]at hb;apply aH;dsimp only
     (simp(disch:=omega)only[bq]at*;omega);dsimp only
     (simp(disch:=omega)only[bq]at*;omega);apply Jd;dsimp only;contradiction;all_goals exact .inr ⟨cI (by decide),rfl⟩
    ·rw[show aA [ps,ks,rs] 2=some rs from rfl];simp only[aU,gK];refine cb (λhb=>?_) λhb=>?_;contradiction;refine cb (λhb=>?_) λhb=>?_;contradiction;refine cb (λhb=>?_) λhb=>?_;simp only[az]at hb;refine aG (λst=>0<=st.fst.snd/\st.fst.snd<=↑rs.length) (λst=>(↑rs.length-st.fst.snd).toNat) ?_ ?_ ?_;dsimp only
     (simp(disch:=omega)only[bq]at*;omega);dsimp only
     (simp(disch:=omega)only[bq]at*;omega);rintro rec ⟨⟨_,_⟩,_⟩ hI aH;dsimp only at hI;dsimp only;obtain⟨j8,iV⟩:=hI;refine bg (λhb=>?_) λhb=>?_;refine kp (λhb=>?_) λhb=>?_;refine ag (pK ?_ _ _ _ _ _) λy hy cI=>?_;trivial;refine aa ?_;dsimp only;rotate_left;refine bO ?_ ?_
     (simp(disch:=omega) [bq,bi]at*;omega);refine aw ?_ ?_ λx hx bV=>?_;trivial;trivial;refine ag (Za ?_ _ _ ?_) λy hy cI=>?_;trivial
     (simp(disch:=omega) [bq,bi]at*;omega);refine af (λhb=>?_) λhb=>?_;refine ag (pK ?_ _ _ _ _ _) λy hy cI=>?_;trivial;refine aa ?_;dsimp only;rotate_left;refine aj (λ_=>True) (λJ hJ=>?_) ?_;refine cb (λhb=>?_) λhb=>?_;contradiction;refine cb (λhb=>?_) λhb=>?_;simp only[az]at hb;refine aw ?_ ?_ λx hx bV=>?_;trivial;omega;apply hJ;dsimp only;contradiction;rintro⟨_,_⟩ hR;refine af (λhb=>?_) λhb=>?_;simp only[az]at hb;refine ag (pK ?_ _ _ _ _ _) λy hy cI=>?_;trivial;refine aa ?_;dsimp only;rotate_left;simp only[az]at hb;apply aH;dsimp only
     (simp(disch:=omega)only[bq]at*;omega);dsimp only
     (simp(disch:=omega)only[bq]at*;omega);apply Jd;dsimp only;contradiction;all_goals exact .inr ⟨cI (by decide),rfl⟩
   ·dsimp only;rw[bq (by omega) (by omega)];omega
   ·dsimp only;rw[bq (by omega) (by omega)];omega
   ·dsimp only;rw[bq (by omega) (by omega)];omega
  ·simp only[aU,ha];refine eJ (aa (.inl ⟨rfl,?_⟩));rw[<-lu,<-hA];rfl
end
def whole(ls:List bT)(c:cN):bE×cN:=(c.name,nd ls c.name c)
open Classical in
noncomputable def wN (ls:List bT) (P:bE×cN->Prop) (k:Nat) (e:Entry):Entry:=if P (whole ls e.ab)then Entry.mk (nd ls e.ab.name e.ab) e.iw e.up e.number e.scopes e.rules e.equations e.cells e.pieces e.sq e.oe else e
theorem wO{ls:List bT}(h:¬P (whole ls e.ab)):wN ls P k e=e:=ai h
theorem sd{ls:List bT}(h:P (whole ls e.ab)):wN ls P k e=Entry.mk (nd ls e.ab.name e.ab) e.iw e.up e.number e.scopes e.rules e.equations e.cells e.pieces e.sq e.oe:=ap h
theorem Ji(f:α->β){l:List α}(h:(l.map f).Nodup):l.Nodup:=by rw[Jh,List.pairwise_map]at h;rw[Jh];exact h.imp λ{a b}(dA:f a≠f b)(e:a=b)=>dA (by rw[e])
section
variable{N:Nat}(hN:1073741824<=N)
include hN
theorem alK(ls:List bT)(hl:gA ls)(h:Hp)(hp:me (cs ls) (λ_ c=>ix (cs ls) c.cQ) (λ_ c=>c) h)(ho:∀c∈cs ls,wK (cs ls) c)(cY:h.all=[]):
  T (F35 N (some 0,ls) h) λr=>(r.1=none/\me (cs ls) (λ_ c=>ix (cs ls) c.cQ) (λ_ c=>nd ls c.name c) r.2)∨(jb r.1/\True):=by
 have FV:=hp;obtain⟨⟨p,e1,e2⟩,e3,⟨e4,e5⟩,e6,e7,sS,e8,e9,WJ,Sx⟩:=hp;let St:List cN->Hp:=λpre=>{h with all:=[pre.map (whole ls)]}
 have hTa:∀pre,me (cs ls) (λ_ c=>ix (cs ls) c.cQ) (λ_ c=>c) (St pre):=λpre=>⟨⟨p,e1,e2⟩,e3,⟨e4,e5⟩,e6,e7,sS,e8,e9,WJ,Sx⟩
 unfold F35;dsimp only;refine eJ ?_;rw[Oa hN,cY];have jn:cs ls=ls.flatMap (·.aQ):=rfl;refine an (r9 hN (λl=>l.aQ) (λl=>rfl) hl.len (λl hm=>(hl.all l hm).aQ) (λpre h'=>h'=St pre) (λh'=>∃pre post,cs ls=pre++post/\h'=St pre) rfl λn i lg x pre post h' _ _ hz _ _ lv hh=>?_) λy hy=>?_
 ·subst hh;have hk:(cs ls)[pre.length]?=some x:=by rw[jn,lv];simp
  refine dG (alJ hN ls hl n i x pre.length 0 (pre.map (whole ls)) hk _ (hTa pre) ho rfl) λr hr=>?_;rcases hr with⟨q1,q2⟩|⟨q1,q2⟩
  ·refine .inl ⟨q1,?_⟩;rw[q2];have hn:aZ eqStr (pre.map (whole ls)) x.name=none:=by rw[Jf];intro e he;obtain⟨c,hc,rfl⟩:=cK.1 he;intro e2;rw[jn,lv]at e7;rw[nN,wJ]at e7;exact e7.2.2 c.name (Jg hc) x.name (by simp) e2
   show({h with all:=[jy eqStr (pre.map (whole ls)) x.name (nd ls x.name x)]}:Hp)=_;rw[EA hn];simp[St,whole]
  ·exact .inr ⟨q1,pre,x::post,by rw[jn,lv],q2⟩
 ·have AX:∃pl post,cs ls=pl++post/\y.2=St pl/\(y.1=none->pl=cs ls):=by
   rcases hy with⟨q1,q2⟩|⟨⟨f,q1,_⟩,pl,post,q2,q3⟩
   ·exact ⟨cs ls,[],by simp,q2,λ_=>rfl⟩
   ·exact ⟨pl,post,q2,q3,λe=>by rw[q1]at e;cases e⟩
  obtain⟨pl,post,xm,AX,hy3⟩:=AX;have pg:∀c∈pl,c∈cs ls:=λc hc=>by rw[xm];exact List.mem_append_left _ hc
  have alL:(pl.map (·.name)).Nodup:=by rw[xm,nN,wJ]at e7;exact e7.1
  rw[AX];simp only[aU,kS];show T ((([pl.map (whole ls)])[0]?).bind _) _;simp only[ik,aU];refine EL (pl.map (whole ls)) ?_ (λP=>((),{St pl with eQ:=h.eQ.mapIdx (wN ls P)})) ?_ ?_ ?_
  ·have:((pl.map (whole ls)).map Prod.fst).Nodup:=by rw[xq];exact alL
   exact Ji _ this
  ·have:h.eQ.mapIdx (wN ls λ_=>False)=h.eQ:=by apply uX;intro j;rw[EN];cases h.eQ[j]?<;>simp[wN]
   rw[this]
  ·rintro P x hPl hx hnP k;obtain⟨c,hc,rfl⟩:=cK.1 hx;obtain⟨q,hq,hqc⟩:=fR (pg c hc);have agI:(cs ls)[q]?=some c:=by rw[cq hq,hqc]
   obtain⟨iw,jq⟩:=e5 q c agI;have wY:yD 0 (cs ls) c.name=some q:=by have:=pD (i:=0) e7 agI;rwa[cS]at this
   have hu:wN ls P q (B7 (λ_ c=>ix (cs ls) c.cQ) (λ_ c=>c) c iw q)=B7 (λ_ c=>ix (cs ls) c.cQ) (λ_ c=>c) c iw q:=wO hnP;simp only[St,aU,e1,e3,El,dW,ik,dY,cP,whole,wY,bQ,dB,EN,jq,hu];congr 3;refine EM _ _ _ q _ (λe he=>?_) (λj e hj he=>?_)
   ·rw[jq]at he;cases he;rw[sd (by exact Or.inr rfl)];simp only[B7]
   ·have pM:j<(cs ls).length:=by rw[<-e4];exact (aV.1 he).1
    obtain⟨LH,E4⟩:=e5 j _ (cq pM);rw[he]at E4;cases E4;have dA:whole ls (cs ls)[j]≠(c.name,nd ls c.name c):=λe=>by have e:((cs ls)[j]).name=c.name:=(py e).1;have h5:=pD (i:=0) e7 (cq pM);rw[e,wY]at h5;simp at h5;exact hj h5.symm
    by_cases hs:P (whole ls (cs ls)[j])
    ·rw[sd hs,sd (by exact Or.inl hs)]
    ·rw[wO hs,wO];rintro(h|h)
     ·exact hs h
     ·exact dA h
  ·refine aa ?_;rcases hy with⟨q1,_⟩|⟨q1,_⟩
   ·refine .inl ⟨q1,?_⟩;have:=(hTa pl).xZ (up':=λ_ c=>ix (cs ls) c.cQ) (cc':=λ_ c=>nd ls c.name c) (wN ls λx=>x∈pl.map (whole ls)) λk c iw hk=>by have hm:whole ls c∈pl.map (whole ls):=Jg (by rw[hy3 q1];exact bC hk);rw[sd (by exact hm)];rfl
    exact this
   ·exact .inr ⟨q1,trivial⟩
end
structure su{β:Type}(aT:List (Option (List β)))(sl:Nat->Option (Nat×Nat))(n B:Nat):Prop where
 Qb:∀k,k<n->∃l,jw aT (sl k)=some l/\l.length<=B
 lt:∀k p,k<n->sl k=some p->p.1<aT.length
 inj:∀k k' p p',k<n->k'<n->sl k=some p->sl k'=some p'->p.1=p'.1->k=k'
theorem nv(aT:List (Option (List β)))(p:Option (Nat×Nat)):(nZ aT p).length=aT.length:=by
 cases p with
 |none=>rfl|some p=>simp[nZ]
theorem su.push {aT:List (Option (List β))} {B:Nat} (h:su aT sl n B) (hk:k<n) {l:List β} (hl:jw aT (sl k)=some l) (Wv:l.length<=B) (x:β):
  su (nZ aT (sl k)++[some (l++[x])]) (λj=>if j=k then some ((nZ aT (sl k)).length,(l++[x]).length)else sl j) n (B+1):=by
 refine⟨λj hj=>?_,λj p hj hp=>?_,λj j' p p' hj WO hp sS e=>?_⟩
 ·by_cases e:j=k
  ·rw[ap e];exact⟨_,N9 _ _ (by simp),by simp;omega⟩
  ·rw[ai e];obtain⟨l',h1,h2⟩:=h.Qb j hj;refine⟨l',?_,by omega⟩;cases hs:sl j with
   |none=>rw[hs]at h1;exact h1|some p=>
    rw[hs]at h1;have eK:=h.lt j p hj hs;have:fk (nZ aT (sl k)++[some (l++[x])]) p.1=fk aT p.1:=by
     unfold fk;rw[kf (by rw[nv];exact eK)];cases hsk:sl k with
     |none=>rfl|some q=>have dA:q.1≠p.1:=λe'=>e (h.inj k j q p hk hj hsk hs e').symm;simp only[nZ];rw[JL dA]
    obtain⟨i,m⟩:=p;simp only[jw]at h1⊢;rw[this];exact h1
 ·by_cases e:j=k
  ·simp only[ap e]at hp;cases hp;simp
  ·simp only[ai e]at hp;have:=h.lt j p hj hp;simp[nv];omega
 ·by_cases e1:j=k
  ·by_cases e2:j'=k
   ·omega
   ·simp only[ap e1]at hp;simp only[ai e2]at sS;cases hp;have:=h.lt j' p' WO sS;rw[nv]at e;simp only at e;omega
  ·by_cases e2:j'=k
   ·simp only[ai e1]at hp;simp only[ap e2]at sS;cases sS;have:=h.lt j p hj hp;rw[nv]at e;simp only at e;omega
   ·simp only[ai e1]at hp;simp only[ai e2]at sS;exact h.inj j j' p p' hj WO hp sS e
theorem su.none {aT:List (Option (List β))}:su aT (λ_=>Option.none) n 0:=⟨λk _=>⟨[],rfl,aP _⟩,λk p _ h=>(by cases h),λk k' p p' _ _ h=>(by cases h)⟩
theorem su.mono {aT:List (Option (List β))} {B:Nat} (h:su aT sl n B) (hB:B<=B'):su aT sl n B':=⟨λk hk=>by obtain ⟨l,h1,h2⟩:=h.Qb k hk;exact ⟨l,h1,by omega⟩,h.lt,h.inj⟩
structure LI(ls:List bT)(k:Nat)(c:cN)(e:Entry):Prop where
 ab:e.ab=nd ls c.name c
 up:e.up=ix (cs ls) c.cQ
 number:e.number=k
 scopes:e.scopes=some k
structure Told(ls:List bT)(B:Nat)(h:Hp):Prop where
 gz:∃p,h.gz=[El p]/\Zh h.Af p ((cs ls).map (·.name))
 mj:h.mj=[dM 0 (cs ls)]
 nodup:((cs ls).map (·.name)).Nodup
 len:(cs ls).length<=128
 By:h.By.length=(cs ls).length
 eQ:h.eQ.length=(cs ls).length
 VV:∃Qd Qe,su h.I7 Qd (cs ls).length B/\su h.eqs Qe (cs ls).length B/\∀k c,(cs ls)[k]?=some c->∃e,h.eQ[k]?=some e/\LI ls k c e/\e.rules=Qd k/\e.equations=Qe k
 oS:h.oS=[]
 ja:h.ja=[]
theorem Told.mono {ls:List bT} {B:Nat} {h:Hp} (hp:Told ls B h) (hB:B<=B'):Told ls B' h:=by obtain⟨Qd,Qe,h1,h2,h3⟩:=hp.VV;exact⟨hp.gz,hp.mj,hp.nodup,hp.len,hp.By,hp.eQ,⟨Qd,Qe,h1.mono hB,h2.mono hB,h3⟩,hp.oS,hp.ja⟩
theorem me.told {ls:List bT} {h:Hp} (hp:me (cs ls) (λ_ c=>ix (cs ls) c.cQ) (λ_ c=>nd ls c.name c) h):Told ls 0 h:=⟨hp.gz,hp.mj,hp.nodup,hp.len,by rw[hp.By];simp,hp.eQ.1,⟨λ_=>none,λ_=>none,.none,.none,λk c hk=>by obtain ⟨iw,hl⟩:=hp.eQ.2 k c hk;exact ⟨_,hl,⟨rfl,rfl,rfl,rfl⟩,rfl,rfl⟩⟩,hp.oS,hp.ja⟩
theorem Told.set {ls:List bT} {B:Nat} {h h':Hp} (hp:Told ls B h) (hk:k<(cs ls).length) {e':Entry} (alM:h'.gz=h.gz) (alN:h'.Af=h.Af) (alO:h'.mj=h.mj) (alP:h'.By.length=h.By.length) (alQ:h'.oS=h.oS) (alR:h'.ja=h.ja) (fN:h'.eQ=h.eQ.set k e')
  {Qd Qe slR' slE':Nat->Option (Nat×Nat)} (h3:∀k c,(cs ls)[k]?=some c->∃e,h.eQ[k]?=some e/\LI ls k c e/\e.rules=Qd k/\e.equations=Qe k)
  (hR:su h'.I7 slR' (cs ls).length B') (hE:su h'.eqs slE' (cs ls).length B') (hRk:e'.rules=slR' k) (hEk:e'.equations=slE' k) (hRo:∀j,j≠k->slR' j=Qd j) (hEo:∀j,j≠k->slE' j=Qe j) (he:∀c,(cs ls)[k]?=some c->LI ls k c e'):Told ls B' h':=
 ⟨by rw[alM,alN];exact hp.gz,by rw[alO];exact hp.mj,hp.nodup,hp.len,by rw[alP];exact hp.By,by rw[fN];simpa using hp.eQ,⟨slR',slE',hR,hE,λj c hj=>by
  by_cases e:j=k
  ·subst e;exact⟨e',by rw[fN];simp[hp.eQ,hk],he c hj,hRk,hEk⟩
  ·obtain ⟨x,h1,h2,h4,h5⟩:=h3 j c hj;exact⟨x,by rw[fN,JL (λe'=>e e'.symm)];exact h1,h2,by rw[hRo j e];exact h4,by rw[hEo j e];exact h5⟩⟩,by rw[alQ];exact hp.oS,by rw[alR];exact hp.ja⟩
section
variable{N:Nat}(hN:1073741824<=N)
include hN
theorem alS(a b c d:Int):T (F77 N (a,b,c,d)) λr=>(a=0->r=none)/\(a≠0->jb r):=by unfold F77;refine af (λh=>aa ⟨λ_=>rfl,λh'=>absurd (by simpa using h) h'⟩) λh=>an (pK hN _ _ _ _ _) λy hy=>aa ⟨λh'=>by simp[h']at h,hy⟩
theorem agJ(x y:rm):T (acj N (x,y)) λ_=>True:=⟨_,rfl,trivial⟩
theorem agK(x:fj)(y:rm):T (ack N (x,y)) λ_=>True:=⟨_,rfl,trivial⟩
theorem alT(ls:List bT)(hl:gA ls)(r:rm)(B:Nat)(hB:B<=268435456)(h:Hp)(hp:Told ls B h):T (F78 N (some 0,r) h) λy=>Told ls (B+1) y.2:=by
 have uq:=hp;obtain⟨⟨p,e1,e2⟩,e3,e7,sS,e6,e4,⟨Qd,Qe,hR,hE,e5⟩,WJ,Sx⟩:=hp;unfold F78;simp only[aU,e1,e3,El,dW,ik,dY];cases wY:yD 0 (cs ls) r.ab with
 |none=>exact aa (uq.mono (by omega))|some k=>
  obtain⟨hk,c,hc,hcn⟩:=BE wY;obtain⟨e,he,ax,hr,hq⟩:=e5 k c hc;simp only[bQ,dB,kP,bc,aU,he];refine af (λhs=>?_) (λhs=>?_)
  ·obtain ⟨l,BA,E4⟩:=hR.Qb k hk;simp only[hr,BA,aU];refine an (aaj hN l _ (by omega) λx _=>agJ hN x r) λy hy=>af (λ_=>aa (uq.mono (by omega))) λ_=>bO (bi (by simp;omega) (by simp;omega)) (eJ (bO (by simp) (eJ ?_)));simp only[he,aU];refine eJ (aa ?_);refine uq.set (k:=k) hk e1.symm rfl e3.symm rfl rfl rfl rfl e5 (hR.push hk BA E4 r) (hE.mono (by omega)) (slR':=λj=>if j=k then some ((nZ h.I7 (Qd k)).length,(l++[r]).length)else Qd j) (by simp) hq (λj hj=>ai hj) (λ_ _=>rfl) λc' kA=>?_;rw[hc]at kA;cases kA;exact⟨ax.ab,ax.up,ax.number,ax.scopes⟩
  ·have hrefs:e.ab.refs.length<=136314880:=by rw[ax.ab];have hf:gq ls c.name=some c:=wH e7 (bC hc);exact(uJ ls hl c.name c hf).2.2.1
   refine an (VR hN e.ab.refs _ (by omega) λx _=>agK hN x r) λy hy=>af (λ_=>aa (uq.mono (by omega))) λ_=>?_;have hsk:k<h.By.length:=by omega
   simp only[ax.scopes,dW,cq hsk,aU];refine af (λ_=>aa (uq.mono (by omega))) λ_=>eJ (aa ?_);have hh:=uq.mono (B':=B+1) (by omega);exact⟨⟨p,rfl,e2⟩,rfl,hh.nodup,hh.len,by simp[hh.By],hh.eQ,hh.VV,hh.oS,hh.ja⟩
theorem alU(ls:List bT)(hl:gA ls)(n i:Int)(r:rm)(q:Int)(B:Nat)(hB:B<=268435456)(h:Hp)(hp:Told ls B h):T (F76 N (n,i,r,some 0,q) h) λy=>(y.1=none/\Told ls (B+1) y.2)∨(jb y.1/\True):=by
 unfold F76;refine an (alT hN ls hl r B hB h hp) λy hy=>an (alS hN _ _ _ _) λz hz=>aa ?_;by_cases e:y.1=0
 ·exact .inl ⟨hz.1 e,hy⟩
 ·exact .inr ⟨hz.2 e,trivial⟩
theorem acJ(ls:List bT)(f:bT->Option (List rm))(g:(Int×Int×rm)->Hp->Option ((Option ia)×Hp))(h:Hp):F74 N (ls,f,g) h=EF N ls f g h:=rfl
theorem acK(ls:List bT)(f:bT->Option (List cC))(g:(Int×Int×cC)->Hp->Option ((Option ia)×Hp))(h:Hp):F80 N (ls,f,g) h=EF N ls f g h:=rfl
theorem acL(ls:List bT)(f:bT->Option (List dw))(g:(Int×Int×dw)->Hp->Option ((Option ia)×Hp))(h:Hp):F85 N (ls,f,g) h=EF N ls f g h:=rfl
theorem acM(ls:List bT)(f:bT->Option (List cp))(g:(Int×Int×cp)->Hp->Option ((Option ia)×Hp))(h:Hp):F90 N (ls,f,g) h=EF N ls f g h:=rfl
theorem alV(ls:List bT)(hl:gA ls)(l:bT)(hm:l∈ls)(q:Int)(B:Nat)(hB:B<=267386880)(h:Hp)(hp:Told ls B h):T (F73 N ([l],some 0,q) h) λy=>(y.1=none/\Told ls (B+1048576) y.2)∨(jb y.1/\True):=by
 have hr:=(hl.all l hm).rules;unfold F73;dsimp only;rw[acJ hN];refine an (r9 hN (λl=>l.rules) (λl=>rfl) (by simp) (λl' oF=>by simp at oF;subst oF;exact hr) (λpre h=>Told ls (B+pre.length) h) (λ_=>True) hp λn i lg x pre post h' _ _ hz _ _ lv hh=>?_) λy hy=>aa ?_
 ·have:(pre++x::post).length<=1048576:=by rw[<-lv];simpa using hr
  simp only[kR,dE]at this;refine dG (alU hN ls hl n i x q (B+pre.length) (by omega) h' hh) λr hr=>?_;simpa[iU]using hr
 ·rcases hy with⟨q1,q2⟩|hy
  ·exact .inl ⟨q1,q2.mono (by simp;omega)⟩
  ·exact .inr hy
theorem agL(l:List Int)(hl:l.length<=1048576):T (acm N l) λr=>r=l:=l9 (by omega) (by omega)
theorem alW(l:List Cell)(hl:l.length<=1048576):T (F88 N l) λr=>r=l:=l9 (by omega) (by omega)
theorem alX(l:List vo)(hl:l.length<=1048576):T (F93 N l) λr=>r=l:=l9 (by omega) (by omega)
theorem aaw(l:List l7)(hl:l.length<=1048576)(jq:∀s∈l,wF s):T (Vs N l) λ_=>True:=by
 have h2:=λs hs=>(jq s hs).args;unfold Vs;refine aj (λ_=>True) (λJ hJ=>?_) (λx _=>aa trivial);refine aG (λs=>0<=s.1.2/\s.1.2<=l.length/\(s.1.1.length:Int)=s.1.2) (λs=>(l.length-s.1.2).toNat) ⟨by simp,by simp,by simp⟩ (by dsimp only;omega) ?_;rintro rec ⟨⟨out,p⟩,u⟩ ⟨k1,k2,k3⟩ aH;dsimp only at k1 k2 k3;refine af (λhb=>?_) (λhb=>hJ _ trivial);simp only[az]at hb;refine aw k1 hb λx hx bV=>an (agL hN x.args (h2 x hx)) λy hy=>bO (bi (by simp;omega) (by simp;omega)) (aH _ ⟨?_,?_,?_⟩ ?_)<;>dsimp only<;>rw[bq (by omega) (by omega)]
 ·omega
 ·omega
 ·simp;omega
 ·omega
theorem alY(q:cC)(hq:R4 q):T (F83 N q) λ_=>True:=by obtain⟨h1,h2,h3,h4,h5⟩:=hq;unfold F83;refine ag (aaw ?_ _ ?_ ?_) λy hy cI=>?_;trivial;trivial;trivial;refine ag (aaw ?_ _ ?_ ?_) λy hy cI=>?_;trivial;trivial;trivial;refine aa ?_;dsimp only
theorem alZ(ls:List bT)(hl:gA ls)(n i:Int)(r:cC)(hq:R4 r)(q:Int)(B:Nat)(hB:B<=268435456)(h:Hp)(hp:Told ls B h):T (F82 N (n,i,r,some 0,q) h) λy=>(y.1=none/\Told ls (B+1) y.2)∨(jb y.1/\True):=by
 have uq:=hp;obtain⟨⟨p,e1,e2⟩,e3,e7,sS,e6,e4,⟨Qd,Qe,hR,hE,e5⟩,WJ,Sx⟩:=hp;unfold F82;simp only[aU,e1,e3,El,dW,ik,dY];cases wY:yD 0 (cs ls) r.ab with
 |none=>simp only[jW,EJ,od,ba];exact an (pK hN _ _ _ _ _) λy hy=>aa (.inr ⟨hy (by decide),trivial⟩)|some k=>obtain⟨hk,c,hc,hcn⟩:=BE wY;obtain⟨e,he,ax,hr,zF⟩:=e5 k c hc;obtain⟨l,BA,E4⟩:=hE.Qb k hk;simp only[bQ,dB,kP,bc,aU,he];refine an (alY hN r hq) λz _=>?_;simp only[zF,BA,aU];refine bO (bi (by simp;omega) (by simp;omega)) (eJ (bO (by simp) (eJ ?_)));simp only[he,aU];refine eJ (aa (.inl ⟨rfl,?_⟩));refine uq.set (k:=k) hk e1.symm rfl e3.symm rfl rfl rfl rfl e5 (hR.mono (by omega)) (hE.push hk BA E4 z) (slE':=λj=>if j=k then some ((nZ h.eqs (Qe k)).length,(l++[z]).length)else Qe j) hr (by simp) (λ_ _=>rfl) (λj hj=>ai hj) λc' kA=>?_;rw[hc]at kA;cases kA;exact⟨ax.ab,ax.up,ax.number,ax.scopes⟩
theorem al0(ls:List bT)(hl:gA ls)(l:bT)(hm:l∈ls)(q:Int)(B:Nat)(hB:B<=267386880)(h:Hp)(hp:Told ls B h):T (F79 N ([l],some 0,q) h) λy=>(y.1=none/\Told ls (B+1048576) y.2)∨(jb y.1/\True):=by
 have hr:=(hl.all l hm).equations;unfold F79;dsimp only;rw[acK hN];refine an (r9 hN (λl=>l.equations) (λl=>rfl) (by simp) (λl' oF=>by simp at oF;subst oF;exact hr) (λpre h=>Told ls (B+pre.length) h) (λ_=>True) hp λn i lg x pre post h' _ _ hz hlg hx lv hh=>?_) λy hy=>aa ?_
 ·have:(pre++x::post).length<=1048576:=by rw[<-lv];simpa using hr
  simp only[kR,dE]at this;simp at hlg;subst hlg;refine dG (alZ hN ls hl n i x ((hl.all lg hm).VS x hx) q (B+pre.length) (by omega) h' hh) λr hr=>?_;simpa[iU]using hr
 ·rcases hy with⟨q1,q2⟩|hy
  ·exact .inl ⟨q1,q2.mono (by simp;omega)⟩
  ·exact .inr hy
theorem al1(ls:List bT)(hl:gA ls)(n i:Int)(r:dw)(hq:r.cells.length<=1048576)(q:Int)(B:Nat)(h:Hp)(hp:Told ls B h):T (F87 N (n,i,r,some 0,q) h) λy=>(y.1=none/\Told ls B y.2)∨(jb y.1/\True):=by
 have uq:=hp;obtain⟨⟨p,e1,e2⟩,e3,e7,sS,e6,e4,⟨Qd,Qe,hR,hE,e5⟩,WJ,Sx⟩:=hp;unfold F87;simp only[aU,e1,e3,El,dW,ik,dY];cases wY:yD 0 (cs ls) r.ab with
 |none=>simp only[jW,EJ,od,ba];exact an (pK hN _ _ _ _ _) λy hy=>aa (.inr ⟨hy (by decide),trivial⟩)|some k=>
  obtain⟨hk,c,hc,hcn⟩:=BE wY;obtain⟨e,he,ax,hr,zF⟩:=e5 k c hc;have FT:k<h.eQ.length:=by omega
  simp only[bQ,dB,kP,bc,aU,he];refine af (λ_=>an (pK hN _ _ _ _ _) λy hy=>aa (.inr ⟨hy (by decide),trivial⟩)) λ_=>an (alW hN r.cells hq) λz _=>eJ ?_;simp only[Ot FT,aU,cP,List.set_set];refine aa (.inl ⟨rfl,?_⟩);refine uq.set (k:=k) hk e1.symm rfl e3.symm rfl rfl rfl rfl e5 hR hE hr zF (λ_ _=>rfl) (λ_ _=>rfl) λc' kA=>?_;rw[hc]at kA;cases kA;exact⟨ax.ab,ax.up,ax.number,ax.scopes⟩
theorem al2(ls:List bT)(hl:gA ls)(n i:Int)(r:cp)(hq:r.pieces.length<=1048576)(q:Int)(B:Nat)(h:Hp)(hp:Told ls B h):T (F92 N (n,i,r,some 0,q) h) λy=>(y.1=none/\Told ls B y.2)∨(jb y.1/\True):=by
 have uq:=hp;obtain⟨⟨p,e1,e2⟩,e3,e7,sS,e6,e4,⟨Qd,Qe,hR,hE,e5⟩,WJ,Sx⟩:=hp;unfold F92;simp only[aU,e1,e3,El,dW,ik,dY];cases wY:yD 0 (cs ls) r.ab with
 |none=>simp only[jW,EJ,od,ba];exact an (pK hN _ _ _ _ _) λy hy=>aa (.inr ⟨hy (by decide),trivial⟩)|some k=>
  obtain⟨hk,c,hc,hcn⟩:=BE wY;obtain⟨e,he,ax,hr,zF⟩:=e5 k c hc;have FT:k<h.eQ.length:=by omega
  simp only[bQ,dB,kP,bc,aU,he];refine af (λ_=>an (pK hN _ _ _ _ _) λy hy=>aa (.inr ⟨hy (by decide),trivial⟩)) λ_=>an (alX hN r.pieces hq) λz _=>eJ ?_;simp only[Ot FT,aU,cP,List.set_set];refine aa (.inl ⟨rfl,?_⟩);refine uq.set (k:=k) hk e1.symm rfl e3.symm rfl rfl rfl rfl e5 hR hE hr zF (λ_ _=>rfl) (λ_ _=>rfl) λc' kA=>?_;rw[hc]at kA;cases kA;exact⟨ax.ab,ax.up,ax.number,ax.scopes⟩
theorem al3(ls:List bT)(hl:gA ls)(l:bT)(hm:l∈ls)(q:Int)(B:Nat)(h:Hp)(hp:Told ls B h):T (F84 N ([l],some 0,q) h) λy=>(y.1=none/\Told ls B y.2)∨(jb y.1/\True):=by have hr:=(hl.all l hm).c8;unfold F84;dsimp only;rw[acL hN];refine an (r9 hN (λl=>l.c8) (λl=>rfl) (by simp) (λl' oF=>by simp at oF;subst oF;exact hr) (λpre h=>Told ls B h) (λ_=>True) hp λn i lg x pre post h' _ _ hz hlg hx lv hh=>?_) λy hy=>aa hy;simp at hlg;subst hlg;exact al1 hN ls hl n i x ((hl.all lg hm).alh x hx) q B h' hh
theorem al4(ls:List bT)(hl:gA ls)(l:bT)(hm:l∈ls)(q:Int)(B:Nat)(h:Hp)(hp:Told ls B h):T (F89 N ([l],some 0,q) h) λy=>(y.1=none/\Told ls B y.2)∨(jb y.1/\True):=by have hr:=(hl.all l hm).cd;unfold F89;dsimp only;rw[acM hN];refine an (r9 hN (λl=>l.cd) (λl=>rfl) (by simp) (λl' oF=>by simp at oF;subst oF;exact hr) (λpre h=>Told ls B h) (λ_=>True) hp λn i lg x pre post h' _ _ hz hlg hx lv hh=>?_) λy hy=>aa hy;simp at hlg;subst hlg;exact al2 hN ls hl n i x ((hl.all lg hm).ali x hx) q B h' hh
theorem al5(ls:List bT)(hl:gA ls)(Zg:ls.length<=128)(h:Hp)(hp:Told ls 0 h):T (F36 N (some 0,ls) h) λy=>(y.1=none/\Told ls 268435456 y.2)∨(jb y.1/\True):=by
 unfold F36;refine aj (λs=>Told ls 268435456 s.2) (λJ hJ=>?_) (λx hx=>aa (.inl ⟨rfl,hx⟩));refine aG (λs=>0<=s.1/\s.1<=ls.length/\Told ls (s.1.toNat*2097152) s.2) (λs=>(ls.length-s.1).toNat) ⟨by simp,by simp,by simpa using hp⟩ (by dsimp only;omega) ?_;rintro rec ⟨p,h1⟩ ⟨k1,k2,k3⟩ aH;dsimp only at k1 k2 k3;refine af (λhb=>?_) (λhb=>hJ _ (k3.mono (by omega)));simp only[az]at hb;rw[bq (by omega) (by omega)];obtain⟨l,hz,hm,JE⟩:=lj k1 hb;have oG:(ls.take ((p+1).toNat)).drop p.toNat=[l]:=by obtain⟨hi,rfl⟩:=aV.1 JE;rw[show(p+1).toNat=p.toNat+1 by omega,<-kO hi,List.drop_append_of_le_length (by rw[my];omega),He (by rw[my];omega)];rfl
 rw[oG];refine bO (by simp;omega) (an (alV hN ls hl l hm p (p.toNat*2097152) (by omega) h1 k3) λy hy=>?_);rcases hy with⟨q1,q2⟩|⟨q1,_⟩
 ·rw[q1];refine an (al0 hN ls hl l hm p _ (by omega) _ q2) λy hy=>?_;rcases hy with⟨q1,q2⟩|⟨q1,_⟩
  ·rw[q1];refine an (al3 hN ls hl l hm p _ _ q2) λy hy=>?_;rcases hy with⟨q1,q2⟩|⟨q1,_⟩
   ·rw[q1];refine an (al4 hN ls hl l hm p _ _ q2) λy hy=>?_;rcases hy with⟨q1,q2⟩|⟨q1,_⟩
    ·rw[q1];refine aH _ ⟨?_,?_,?_⟩ ?_<;>dsimp only
     ·omega
     ·omega
     ·exact q2.mono (by omega)
     ·omega
    ·rw[q1.some];exact aa (.inr ⟨q1,trivial⟩)
   ·rw[q1.some];exact aa (.inr ⟨q1,trivial⟩)
  ·rw[q1.some];exact aa (.inr ⟨q1,trivial⟩)
 ·rw[q1.some];exact aa (.inr ⟨q1,trivial⟩)
end
def cD(ls:List bT):List bE:=iC ((cs ls).map (·.name))
theorem rl(l:List bE):(iC l).length=l.length:=by simp[iC]
theorem Hh(l:List bE)(x:bE):x∈iC l↔x∈l:=by simp[iC]
def vq(r:dT)(b:Nat):Bool:=if b<64 then Nat.testBit r.e0.toNat b else Nat.testBit r.e1.toNat (b-64)
def VW(l:List cN)(rows:List dT):Prop:=rows.length=l.length/\∀a r,rows[a]?=some r->0<=r.e0/\r.e0<18446744073709551616/\0<=r.e1/\r.e1<18446744073709551616/\∀b,b<l.length->vq r b=decide (b∈gG l l.length (some a))
structure Good(ls:List bT)(h:Hp):Prop where
 gz:∃t,h.gz=[t]/\t.uH=some 0/\Zh h.Af t.names (cD ls)/\((t.ready.done.v=0/\t.ready.m.mu.state=0)∨
  (t.ready.done.v≠0/\∃i rows,t.bits=some (i,rows.length)/\fk h.oS i=some rows/\VW (cs ls) rows))
 mj:h.mj=[dM 0 (cs ls)]
 nodup:((cs ls).map (·.name)).Nodup
 len:(cs ls).length<=128
 eQ:∀k c,(cs ls)[k]?=some c->∃e,h.eQ[k]?=some e/\LI ls k c e
 opened:∀k,k<(cs ls).length->Open (cs ls) k
 named:∀c∈cs ls,c.name≠[]
section
variable{N:Nat}(hN:1073741824<=N)
include hN
theorem al6(ls:List bT)(hl:gA ls):T (F14 N ls Pv) λr=>(r.1.2.err≠0/\True)∨(r.1=(some 0,ia.mk 0 0 0 0)/\Good ls r.2):=by
 have fail:∀{r:Option ia}{h:Hp},jb r->T (bif !r.isNone then r.bind λy=>some (((none:Option Nat),y),h)else none) λr=>(r.1.2.err≠0/\True)∨(r.1=(some 0,ia.mk 0 0 0 0)/\Good ls r.2):=by rintro r h ⟨f,rfl,hf⟩;exact aa (.inl ⟨hf,trivial⟩)
 unfold F14;refine eJ (eJ (an (alC hN _ ls hl) λy hy=>?_));rcases hy with⟨rfl,Zg,KB⟩|⟨f,rfl,hf⟩
 ·simp only[od,fG,bc];have hn0:yE [] ({gz:=[El none],eQ:=[],mj:=[[]],By:=[],Af:=[],I7:=[],eqs:=[],all:=[],En:=[],oS:=[],ja:=[]}:Hp):=
   ⟨⟨none,rfl,rfl⟩,rfl,⟨rfl,λk c h=>by cases h⟩,rfl,by simp,by simp,rfl,rfl,rfl,rfl,rfl⟩
  refine an (alF hN ls hl _ hn0) λy hy=>?_;rcases hy with⟨q1,q2⟩|⟨⟨f,q1,hf⟩,_⟩
  ·rw[q1];simp only[od,fG,bc];refine an (alI hN ls hl _ q2) λy hy=>?_;rcases hy with⟨q1,q2,q3,q4⟩|⟨⟨f,q1,hf⟩,_⟩
   ·rw[q1];simp only[od,fG,bc];refine an (alK hN ls hl _ q2 q4 q3) λy hy=>?_;rcases hy with⟨q1,q2⟩|⟨⟨f,q1,hf⟩,_⟩
    ·rw[q1];simp only[od,fG,bc];refine an (al5 hN ls hl Zg _ q2.told) λy hy=>?_;rcases hy with⟨q1,q2⟩|⟨⟨f,q1,hf⟩,_⟩
     ·rw[q1];simp only[od,fG,bc,aU];have Qa:∀k,k<(cs ls).length->Open (cs ls) k:=λk hk=>by
       obtain⟨_,k2,h2,h3⟩:=q4 _ (fx hk);have:k2=k:=by have h4:=pD (i:=0) q2.nodup h2;have h5:=pD (i:=0) q2.nodup (cq hk);rw[h4]at h5;simpa using h5
       subst this;exact h3
      obtain⟨p,e1,e2⟩:=q2.gz;obtain⟨Qd,Qe,_,_,fN⟩:=q2.VV;have aax:∀k c,(cs ls)[k]?=some c->∃e,y.2.eQ[k]?=some e/\LI ls k c e:=λk c hk=>by obtain⟨e,h1,h2,_⟩:=fN k c hk;exact⟨e,h1,h2⟩
      show T ((y.2.gz[0]?).bind _) _;rw[e1];simp only[ik,aU,El];cases p with
      |none=>
       have he:(cs ls).map (·.name)=[]:=e2;refine aa (.inr ⟨rfl,⟨_,e1,rfl,?_,.inl ⟨rfl,rfl⟩⟩,q2.mj,q2.nodup,q2.len,aax,Qa,KB⟩);show cD ls=[]
       unfold cD;rw[he];simp[iC]
      |some p=>
       obtain⟨i,n⟩:=p;obtain⟨h1,h2,h3⟩:=e2;have h0:0<n:=by rw[h2];exact SF.2 h3
       have am3:n<=128:=by have:=q2.len;rw[h2];simpa using this
       have hc:db (Nat.beq n ((cs ls).map (·.name)).length&&(Nat.blt 0 n&&Nat.blt n 4611686018427387904))=some ():=pz (by
        have a1:Nat.beq n ((cs ls).map (·.name)).length=true:=by rw[h2];exact rN _
        have a2:Nat.blt 0 n=true:=wI h0;have a3:Nat.blt n 4611686018427387904=true:=wI (by omega);rw[a1,a2,a3];rfl)
       show T ((F37 N (some (i,n)) y.2).bind _) _;simp only[F37,h1,aU,hc];refine aa (.inr ⟨rfl,⟨_,e1,rfl,?_,.inl ⟨rfl,rfl⟩⟩,q2.mj,q2.nodup,q2.len,aax,Qa,KB⟩);have ui:i<y.2.Af.length:=by
        unfold fk at h1;cases e:y.2.Af[i]? with
        |none=>rw[e]at h1;cases h1
        |some x=>exact (aV.1 e).1
       refine⟨by simp[fk,ui,cD],by rw[h2];simp[cD,rl],λe=>h3 ?_⟩;have:=dK List.length e;simp[cD,rl]at this;simpa using this
     ·rw[q1];exact fail ⟨f,rfl,hf⟩
    ·rw[q1];exact fail ⟨f,rfl,hf⟩
   ·rw[q1];exact fail ⟨f,rfl,hf⟩
  ·rw[q1];exact fail ⟨f,rfl,hf⟩
 ·exact fail ⟨f,rfl,hf⟩
end
section
variable{N:Nat}(hN:1073741824<=N)
include hN
theorem agM(l:List bE)(hl:l.length<=1048576):T (acp N l) λr=>r=l:=l9 (by omega) (by omega)
theorem agN(l:List dR)(hl:l.length<=136314880):T (acq N l) λr=>r=l:=l9 (by omega) (by omega)
theorem agO(l:List cg)(hl:l.length<=136314880):T (acr N l) λr=>r=l:=l9 (by omega) (by omega)
theorem agP(l:List fj)(hl:l.length<=136314880):T (acs N l) λr=>r=l:=l9 (by omega) (by omega)
theorem al7(ls:List bT)(h:Hp)(hg:Good ls h):T (F59 N (some 0) h) λr=>r=(cD ls,h):=by
 obtain⟨⟨t,e1,e2,e3,e4⟩,_,_,hlen,_⟩:=hg;have e3':=e3.hs;unfold F59;simp only[kP,bc,aU,e1,ik,e3'];have:(cD ls).length<=128:=by unfold cD;rw[rl];simpa using hlen
 exact an (agM hN _ (by omega)) λy hy=>aa (by rw[hy])
omit hN in
theorem Good.get {ls:List bT} {h:Hp} (hg:Good ls h) (s:bE):YP N (some 0,s) h=some (ix (cs ls) s,h):=by
 obtain⟨⟨t,e1,e2,e3,e4⟩,e5,_⟩:=hg;unfold YP;simp only[kP,bc,aU,e1,ik,e2,dW,e5,dY];have hh:∀o:Option Nat,(Option.map some o).getD none=o:=λo=>by cases o<;>rfl
 rw[hh]
def cU(ls:List bT)(s:bE):cN×Bool:=match gq ls s with
 |none=>(noC,false)|some c=>(nd ls s c,true)
theorem agQ(ls:List bT)(hl:gA ls)(s:bE)(h:Hp)(hg:Good ls h):T (F55 N (some 0,s) h) λr=>r=(cU ls s,h):=by
 unfold F55;dsimp only;rw[hg.get];simp only[aU];cases wY:ix (cs ls) s with
 |none=>
  have hf:gq ls s=none:=by rw[rk,wY];rfl
  exact aa (by simp only[cU,hf];rfl)
 |some k=>
  obtain⟨hk,c,hc,hcn⟩:=BE wY;subst hcn;have hf:gq ls c.name=some c:=by rw[rk,wY];exact hc
  obtain⟨e,he,ax⟩:=hg.eQ k c hc;obtain⟨b1,b2,b3,_⟩:=uJ ls hl c.name c hf;simp only[kP,bc,aU,he,ax.ab];refine an (agN hN _ b1) λy1 h1=>an (agO hN _ b2) λy2 h2=>an (agP hN _ b3) λy3 h3=>aa ?_;subst h1 h2 h3;simp only[cU,hf]
end
theorem yG{x:Int}(h0:0<=x)(h1:x<18446744073709551616):IntKind.u64.wrap x=x:=by unfold IntKind.wrap;simp[IntKind.bits,IntKind.signed];omega
def LJ(x:Int)(k:Nat):Int:=IntKind.u64.wrap ((BitVec.ofInt IntKind.u64.bits x|||BitVec.ofInt IntKind.u64.bits (IntKind.u64.wrap (1*2^(min k IntKind.u64.bits)))).toNat)
theorem LK(k:Nat):(2:Int)^k=((2^k:Nat):Int):=(Int.natCast_pow 2 k).symm
theorem uM(h:n<18446744073709551616):(BitVec.ofInt IntKind.u64.bits (n:Int)).toNat=n:=by rw[BitVec.toNat_ofInt];show((n:Int)%((2^64:Nat):Int)).toNat=n;omega
theorem Jj{x:Int}(h0:0<=x)(h1:x<18446744073709551616)(hk:k<64):LJ x k=((x.toNat|||2^k:Nat):Int):=by
 have sS:2^k<2^64:=Nat.pow_lt_pow_right (by decide) hk;obtain⟨n,rfl⟩:=BC h0;have hn:n<2^64:=by omega
 have Zs:n|||2^k<2^64:=Nat.or_lt_two_pow hn sS;have e1:min k IntKind.u64.bits=k:=Ix (by show k<=64;omega);unfold LJ;rw[e1,LK,Int.one_mul,x9];generalize hq:2^k=q at*;rw[yG (x:=(q:Int)) (by omega) (by omega),BitVec.toNat_or,uM (by omega),uM (by omega)];exact yG (by omega) (by omega)
theorem Qf{x:Int}(h0:0<=x)(h1:x<18446744073709551616)(hk:k<64):
  (IntKind.u64.wrap ((BitVec.ofInt IntKind.u64.bits (x.fdiv (2^(min k IntKind.u64.bits)))&&&BitVec.ofInt IntKind.u64.bits 1).toNat)==1)=Nat.testBit x.toNat k:=by
 have e1:min k IntKind.u64.bits=k:=Ix (by show k<=64;omega);rw[e1];obtain⟨n,rfl⟩:=BC h0;have hn:n<18446744073709551616:=by omega
 have e2:(n:Int).fdiv (2^k)=((n/2^k:Nat):Int):=by rw[LK];generalize 2^k=p;rw[Int.fdiv_eq_ediv_of_nonneg _ (by omega)];rfl
 rw[e2];have hq:n/2^k<18446744073709551616:=Nat.lt_of_le_of_lt (Nat.div_le_self _ _) hn;rw[x9,Nat.testBit_eq_decide_div_mod_eq];generalize n/2^k=q at*;have e3:(BitVec.ofInt IntKind.u64.bits (q:Int)&&&BitVec.ofInt IntKind.u64.bits 1).toNat=q%2:=by rw[BitVec.toNat_and,uM hq,show(1:Int)=((1:Nat):Int)from rfl,uM (by decide),Nat.and_one_is_mod]
 rw[e3,yG (by omega) (by omega)];by_cases h:q%2=1
 ·rw[h];rfl
 ·have:q%2=0:=by omega
  rw[this];rfl
def B8(r:dT)(b:Nat):dT:=if b<64 then dT.mk (LJ r.e0 (b%64)) r.e1 else dT.mk r.e0 (LJ r.e1 (b%64))
def Hi(r:dT):Prop:=0<=r.e0/\r.e0<18446744073709551616/\0<=r.e1/\r.e1<18446744073709551616
theorem aay{x:Int}(h0:0<=x)(h1:x<18446744073709551616)(hk:k<64):0<=LJ x k/\LJ x k<18446744073709551616:=by
 rw[Jj h0 h1 hk];have hp:2^k<2^64:=Nat.pow_lt_pow_right (by decide) hk;have hx:x.toNat<2^64:=by omega
 have:=Nat.or_lt_two_pow hx hp;omega
theorem Zj(h:Hi r)(b:Nat):Hi (B8 r b):=by
 obtain⟨h1,h2,h3,h4⟩:=h;have hk:b%64<64:=Nat.mod_lt _ (by decide);unfold B8;split
 ·obtain ⟨g1,g2⟩:=aay h1 h2 hk;exact⟨g1,g2,h3,h4⟩
 ·obtain ⟨g1,g2⟩:=aay h3 h4 hk;exact⟨h1,h2,g1,g2⟩
theorem VX(h:Hi r){c:Nat}(hb:b<128)(hc:c<128):vq (B8 r b) c=(vq r c||decide (c=b)):=by
 obtain⟨h1,h2,h3,h4⟩:=h;have hk:b%64<64:=Nat.mod_lt _ (by decide);unfold B8 vq;by_cases e1:b<64<;>by_cases e2:c<64<;>simp only[e1,e2,bp,bY]
 ·rw[Jj h1 h2 hk,x9,Nat.testBit_or,ML];congr 1;rw[show b%64=b by omega];exact decide_eq_decide.2 ⟨λh=>h.symm,λh=>h.symm⟩
 ·have:c≠b:=by omega
  simp[this]
 ·have:c≠b:=by omega
  simp[this]
 ·rw[Jj h3 h4 hk,x9,Nat.testBit_or,ML];congr 1;rw[show b%64=b-64 by omega];exact decide_eq_decide.2 ⟨λh=>by omega,λh=>by omega⟩
theorem aaz{r:dT}(h:Hi r):∀(l:List Nat),(∀x∈l,x<128)->Hi (l.foldl B8 r)/\∀c,c<128->vq (l.foldl B8 r) c=(vq r c||decide (c∈l))
 |[],_=>⟨h,λc _=>by simp⟩|b::l,hl=>by obtain⟨h1,h2⟩:=aaz (Zj h b) l λx hx=>hl x (by simp[hx]);refine⟨h1,λc hc=>?_⟩;rw[AG,h2 c hc,VX h (hl b (by simp)) hc,Bool.or_assoc];congr 1;by_cases e:c=b<;>simp[e]
def rowOf(l:List cN)(a:Nat):dT:=(gG l l.length (some a)).foldl B8 ⟨0,0⟩
open Classical in
noncomputable def mH (l:List cN) (P:bE×Option Nat->Prop):List dT:=(List.range l.length).map λa=>if∃s,P (s,some a)then rowOf l a else⟨0,0⟩
theorem oZ(l:List cN)(P:bE×Option Nat->Prop):(mH l P).length=l.length:=by simp[mH]
theorem VY(h:b<128):IntKind.i64.wrap ((b:Int).tdiv 64)=if b<64 then 0 else 1:=by
 have:(b:Int).tdiv 64=((b/64:Nat):Int):=rfl;rw[this];by_cases e:b<64
 ·rw[ap e,show b/64=0 by omega];decide
 ·rw[ai e,show b/64=1 by omega];decide
theorem VZ(b:Nat):(b:Int).tmod 64=((b%64:Nat):Int):=rfl
theorem EO{β:Type}{l:List cN}{f:((Option Nat×Hp)->Option β)->(Option Nat×Hp)->Option β}(H:dT->Hp)(K:Hp->Option β)
  (h0:∀rec acc,f rec (none,H acc)=K (H acc)) (h1:∀rec acc b,b<l.length->f rec (some b,H acc)=rec (Hg l (some b),H (B8 acc b))):
  ∀(m:Nat)(o:Option Nat)(acc:dT)(N:Nat),(∀k,o=some k->k<l.length)->mw l m o=none->m<N->aE f N (o,H acc)=K (H ((gG l m o).foldl B8 acc))
 |m,o,acc,0,_,_,h=>by omega|m,none,acc,N+1,_,_,_=>by rw[ll];exact h0 _ acc
 |0,some k,acc,N+1,_,h,_=>by cases h
 |m+1,some k,acc,N+1,hk,h,hm=>by show f (aE f N) (some k,H acc)=_;rw[h1 _ acc k (hk k rfl),EO H K h0 h1 m (Hg l (some k)) (B8 acc k) N (λk' e=>Aj e) h (by omega)];rfl
section
variable{N:Nat}(hN:1073741824<=N)
include hN
set_option maxHeartbeats 2000000 in
theorem agR(l:List cN)(h:Hp)(t:Fa)(e1:h.gz=[t])(e2:t.uH=some 0)(e3:h.mj=[dM 0 l])(fN:∀k,k<l.length->∃e,h.eQ[k]?=some e/\e.number=k/\e.up=Hg l (some k))(ho:∀k,k<l.length->Open l k)(hl:l.length<=128)(hl0:0<l.length):
  T (YJ N (some 0) h) λr=>r.2={h with oS:=h.oS++[some ((List.range l.length).map (rowOf l))],gz:=[{t with bits:=some (h.oS.length,l.length)}]}:=by
 obtain⟨uH,names,ready,bits,asked⟩:=t;dsimp only at e2;subst e2;have hml:((dM 0 l).length:Int).toNat=l.length:=by rw[sa];rfl
 unfold YJ;simp only[aU,e1,ik,dW,e3,hml,cP,EK,List.length_replicate];refine bO (by simp[bi (b:=16) (n:=l.length) (m:=281474976710656) (by omega) (by omega)]) (bO (by cases h':l.length with|zero=>omega|succ n=>rfl) ?_);refine EL (dM 0 l) (sb l 0) (λP=>((),{h with oS:=h.oS++[some (mH l P)],gz:=[{(⟨some 0,names,ready,bits,asked⟩:Fa)with bits:=some (h.oS.length,l.length)}],mj:=[dM 0 l]})) ?_ ?_ ?_
 ·have:mH l (λ_=>False)=List.replicate l.length ⟨0,0⟩:=by
   apply uX;intro j;by_cases hj:j<l.length
   ·simp[mH,hj,TV]
   ·simp[mH,hj,TV]
  rw[this]
 ·rintro P ⟨s,o⟩ hPl hx hnP k;obtain⟨a,c,hq,e⟩:=(jE l 0 _).1 hx;cases e;rw[cS]at hnP⊢;have ha:a<l.length:=(aV.1 hq).1;have pW:¬∃s,P (s,some a):=by rintro⟨s,hs⟩;obtain⟨q',c',zF,e⟩:=(jE l 0 _).1 (hPl _ hs);simp only[cS,aS,ah]at e;obtain⟨rfl,rfl⟩:=e;rw[hq]at zF;cases zF;exact hnP hs
  have vE:(mH l P)[a]?=some ⟨0,0⟩:=by simp only[mH,dd,AA ha,bQ];rw[ai pW]
  have uV:(mH l P).set a ⟨0,0⟩=mH l P:=by
   apply uX;intro j;rw[uW];by_cases e:a=j
   ·subst e;rw[ap rfl,ap (by rw[oZ];exact ha),vE]
   ·rw[ai e]
  let H:dT->Hp:=λacc=>{h with oS:=h.oS++[some ((mH l P).set a acc)],gz:=[{(⟨some 0,names,ready,bits,asked⟩:Fa)with bits:=some (h.oS.length,l.length)}],mj:=[dM 0 l]}
  have lu:mH l (λy=>P y∨y=(c.name,some a))=(mH l P).set a (rowOf l a):=by
   apply uX;intro j;rw[uW];by_cases e:a=j
   ·subst e;rw[ap rfl,ap (by rw[oZ];exact ha)];simp only[mH,dd,AA ha,bQ];rw[ap ⟨c.name,.inr rfl⟩]
   ·rw[ai e];by_cases hj:j<l.length
    ·simp only[mH,dd,AA hj,bQ];have:(∃s,P (s,some j)∨(s,some j)=(c.name,some a))↔∃s,P (s,some j):=by
      constructor
      ·rintro ⟨s,h|h⟩
       ·exact ⟨s,h⟩
       ·cases h;exact (e rfl).elim
      ·rintro ⟨s,h⟩;exact ⟨s,.inl h⟩
     by_cases hs:∃s,P (s,some j)
     ·rw[ap hs,ap (this.2 hs)]
     ·rw[ai hs,ai (λh=>hs (this.1 h))]
    ·rw[Bc (by rw[oZ];omega),Bc (by rw[oZ];omega)]
  rw[lu];conv=>lhs;rw[<-uV]
  refine EO (l:=l) H (λh=>k ((),h)) (λrec acc=>rfl) (λrec acc b hb=>?_) l.length (some a) ⟨0,0⟩ N (λk' e=>by cases e;exact ha) (Al ho ha) (by omega);obtain⟨ea,ha1,ha2,ha3⟩:=fN a ha;obtain⟨eb,Ax,dZ,Sm⟩:=fN b hb;have jV:∀(x:dT),((mH l P).set a x)[a]?=some x:=λx=>by simp[oZ,ha]
  have jY:∀(x:List dT),fk (h.oS++[some x]) h.oS.length=some x:=λx=>by simp[fk]
  have u9:db (decide (0<=(a:Int))&&decide ((a:Int)<(l.length:Int)))=some ():=pz (by simp;omega);have Jb:db (decide ((64:Int)≠0))=some ():=rfl;have acN:db (decide (0<=((b%64:Nat):Int)))=some ():=pz (by rw[az];omega);simp only[H,kP,tq,ba,aU,ik,ha1,Ax,ha2,dZ,u9,Jb,VY (show b<128 by omega),VZ,acN,gK,jY,x9,jV,cP];by_cases e:b<64
  ·simp only[ap e,show((0:Int)==0)=true from rfl,ba,List.set_append_right _ _ (aP _),zd,EK,List.set_set,Ax,aU,Sm,B8,LJ,e,bp];rfl
  ·simp only[ai e,show((1:Int)==0)=false from rfl,show((1:Int)==1)=true from rfl,ba,bc,List.set_append_right _ _ (aP _),zd,EK,List.set_set,Ax,aU,Sm,B8,LJ,e,bY];rfl
 ·refine aa ?_;have:mH l (λx=>x∈dM 0 l)=(List.range l.length).map (rowOf l):=by
   apply uX;intro j;by_cases hj:j<l.length
   ·simp only[mH,dd,AA hj,bQ];rw[ap ⟨l[j].name,(jE l 0 _).2 ⟨j,l[j],cq hj,by simp⟩⟩]
   ·rw[Bc (by rw[oZ];omega),Bc (by simp;omega)]
  rw[this]
def qq(ls:List bT)(a b:bE):Bool:=(fD ls a).any (λx=>x.name==b)||a==b
omit hN in
theorem Zk(l:List cN)(hl:l.length<=128):VW l ((List.range l.length).map (rowOf l)):=by
 refine⟨by simp,λa r hr=>?_⟩;rw[dd]at hr;obtain⟨a',MJ,rfl⟩:=ck.1 hr;obtain⟨ha,rfl⟩:a<l.length/\a=a':=by have h1:=(aV.1 MJ).1;rw[List.length_range]at h1;rw[AA h1]at MJ;exact⟨h1,dc MJ⟩
 have h0:Hi ⟨0,0⟩:=⟨by decide,by decide,by decide,by decide⟩
 obtain⟨⟨h1,h2,h3,h4⟩,h5⟩:=aaz h0 (gG l l.length (some a)) λx hx=>by have:=Am (o:=some a) (λk e=>by cases e;exact ha) x hx;omega
 refine⟨h1,h2,h3,h4,λb hb=>?_⟩;unfold rowOf;rw[h5 b (by omega)];have:vq ⟨0,0⟩ b=false:=by unfold vq;simp
 rw[this,yH]
omit hN in
theorem Good.agS {ls:List bT} {h:Hp} (hg:Good ls h) (hk:(cs ls)[k]?=some c):fD ls c.name=(gG (cs ls) (cs ls).length (some k)).filterMap λq=>(cs ls)[q]?:=by
 have FT:k<(cs ls).length:=(aV.1 hk).1;have kN:=Al hg.opened FT;have sS:=hg.len;have wY:ix (cs ls) c.name=some k:=by have:=pD (i:=0) hg.nodup hk;rwa[cS]at this
 have WD:gq ls c.name=some c:=by rw[rk,wY];exact hk
 have:=sc (ls:=ls) 129 (some k) (λk' e=>by cases e;exact FT);rw[show 129=(cs ls).length+(129-(cs ls).length) by omega,tZ _ kN,<-show 129=(cs ls).length+(129-(cs ls).length) by omega]at this;rw[<-this];unfold fD;rw[WD];simp[hk]
omit hN in
theorem R5{ls:List bT}{h:Hp}(hg:Good ls h){d:cN}{x y:Nat}(hx:(cs ls)[x]?=some c)(hy:(cs ls)[y]?=some d):decide (y∈gG (cs ls) (cs ls).length (some x))=qq ls c.name d.name:=by
 have SA:x<(cs ls).length:=(aV.1 hx).1;have hlen:=hg.len;unfold qq;rw[hg.agS hx];have tM:=hg.nodup;have key:∀q e,(cs ls)[q]?=some e->(e.name=d.name↔q=y):=λq e he=>by
  constructor
  ·intro hn;have h1:=pD (i:=0) tM he;have h2:=pD (i:=0) tM hy;rw[hn,h2]at h1;simpa using h1.symm
  ·rintro rfl;rw[hy]at he;cases he;rfl
 rw[Bj];simp only[az,lP,List.any_eq_true,fc,HH];constructor
 ·intro hm;exact .inl ⟨d,⟨y,hm,hy⟩,rfl⟩
 ·rintro (⟨e,⟨q,hq,he⟩,hn⟩|hn)
  ·rw[<-(key q e he).1 hn];exact hq
  ·rw[<-(key x c hx).1 hn];obtain⟨n,E0⟩:∃n,(cs ls).length=n+1:=⟨(cs ls).length-1,by omega⟩
   rw[E0];simp[gG]
omit hN in
theorem EP{ls:List bT}{h:Hp}(hg:Good ls h){a b:bE}(hn:ix (cs ls) a=none∨ix (cs ls) b=none):(a==b)=qq ls a b:=by
 unfold qq;rcases hn with hn|hn
 ·have:gq ls a=none:=by rw[rk,hn];rfl
  unfold fD;rw[this];rfl
 ·have:(fD ls a).any (λx=>x.name==b)=false:=by rw[Bh];intro x hx;have hm:=r8 (ls:=ls) 129 _ (λz hz=>(rj hz).1) x hx;simpa using EG hn x hm
  rw[this,yH]
theorem agT(ls:List bT)(hl:gA ls)(a b:bE)(h:Hp)(hg:Good ls h)(lv:0<(cs ls).length):T (YQ N (some 0,a,b) h) λr=>r.1=qq ls a b/\Good ls r.2/\r.2.ja=h.ja:=by
 obtain⟨t,e1,e2,e3,e4⟩:=hg.gz;have Wt:(t.uH).isNone=false:=by rw[e2];rfl
 have al8:∀(h1:Hp),Good ls h1->h1.ja=h.ja->T (YO N (0,some 0) h1) λr=>Good ls r.2/\r.2.ja=h.ja/\∃t',r.2.gz=[t']/\t'.ready.done.v≠0:=by
  intro h1 Lr hi;obtain⟨t,e1,e2,e3,e4⟩:=Lr.gz;unfold YO;simp only[e1,ik,aU];refine af (λhd=>aa ⟨Lr,hi,t,e1,by simpa using hd⟩) λhd=>?_;simp only[mF,fc]at hd;rcases e4 with⟨_,hs⟩|⟨fF,_⟩
  ·refine bO (by simp[hs]) (an (agR hN (cs ls) {h1 with gz:=[ql t 1]} (ql t 1) rfl e2 Lr.mj ?_ Lr.opened Lr.len lv) λy hy=>?_)
   ·intro k hk;obtain⟨e,he,ax⟩:=Lr.eQ k _ (cq hk);exact⟨e,he,ax.number,by rw[ax.up];simp[Hg,hk]⟩
   ·rw[hy];simp only[ik,aU];refine bO (by simp[ql,hd]) (aa ⟨⟨⟨_,rfl,e2,e3,.inr ⟨by simp[ql,Es],h1.oS.length,_,?_,?_,Zk (cs ls) Lr.len⟩⟩,Lr.mj,Lr.nodup,Lr.len,Lr.eQ,Lr.opened,Lr.named⟩,hi,_,rfl,by simp[ql,Es]⟩)
    ·simp[ql,Es]
    ·simp[fk]
  ·exact (fF hd).elim
 unfold YQ;simp only[kP,bc,aU,e1,ik,Wt];have al9:YN N (0,1) h=some (IntKind.i64.wrap (t.asked.v+1),{h with gz:=[Vw t (IntKind.i64.wrap (t.asked.v+1))]}):=by unfold YN;simp only[e1,ik,aU,EK]
 rw[al9];simp only[aU];have hg2:Good ls {h with gz:=[Vw t (IntKind.i64.wrap (t.asked.v+1))]}:=⟨⟨_,rfl,e2,e3,e4⟩,hg.mj,hg.nodup,hg.len,hg.eQ,hg.opened,hg.named⟩
 refine an (al8 _ hg2 rfl) λy ⟨Sw,hi,t3,f1,f2⟩=>?_;obtain⟨t4,g1,g2,g3,g4⟩:=Sw.gz;obtain rfl:t3=t4:=by rw[f1]at g1;simpa using g1
 have hy3:=Sw.mj;have hh:∀o:Option Nat,(Option.map some o).getD none=o:=λo=>by cases o<;>rfl
 simp only[f1,ik,aU,g2,dW,hy3,dY,hh];cases hxa:yD 0 (cs ls) a with
 |none=>exact aa ⟨EP hg (.inl hxa),Sw,hi⟩|some x=>
  simp only[kP,bc];cases hxb:yD 0 (cs ls) b with
  |none=>exact aa ⟨EP hg (.inr hxb),Sw,hi⟩|some q=>
   obtain⟨hx,c,hc,rfl⟩:=BE hxa;obtain⟨hq,d,hd,rfl⟩:=BE hxb;obtain⟨ex,hex,ama⟩:=Sw.eQ x c hc;obtain⟨eq,Fm,amb⟩:=Sw.eQ q d hd;rcases g4 with⟨h0,_⟩|⟨_,i,rows,k1,k2,k3,k4⟩
   ·exact (f2 h0).elim
   have hlen:=hg.len;obtain⟨r,hr⟩:∃r,rows[x]?=some r:=⟨_,cq (by rw[k3];exact hx)⟩
   obtain⟨b1,b2,b3,b4,b5⟩:=k4 x r hr;have hb:=b5 q hq;rw[R5 hg hc hd]at hb;have Jb:db (decide ((64:Int)≠0))=some ():=rfl;have u9:db (decide (0<=(x:Int))&&decide ((x:Int)<(rows.length:Int)))=some ():=pz (by rw[k3];simp;omega);have acN:db (decide (0<=((q%64:Nat):Int)))=some ():=pz (by rw[az];omega);simp only[kP,bc,aU,hex,Fm,ama.number,amb.number,Jb,k1,u9,VY (show q<128 by omega),VZ,acN,gK,k2,hr,x9];have agU:q%64<64:=Nat.mod_lt _ (by decide);by_cases e:q<64
   ·simp only[ap e,show((0:Int)==0)=true from rfl,ba];refine aa ⟨?_,Sw,hi⟩;rw[<-hb,Qf b1 b2 agU];unfold vq;rw[ap e,show q%64=q by omega]
   ·simp only[ai e,show((1:Int)==0)=false from rfl,show((1:Int)==1)=true from rfl,ba,bc];refine aa ⟨?_,Sw,hi⟩;rw[<-hb,Qf b3 b4 agU];unfold vq;rw[ai e,show q%64=q-64 by omega]
end
def fq(ls:List bT)(want:bE)(o6:List bE)(s:bE):Bool:=!(o6.contains s)&&((cU ls s).2&&(!(cU ls s).1.ir&&(want==[]||qq ls s want)))
theorem An{σ:Type}(p:bE->Bool)(I:σ->Prop)(f:bE->σ->Option (Bool×σ)):∀(l out:List bE)(h:σ),(∀s∈l,∀h,I h->T (f s h) λr=>r.1=p s/\I r.2)->I h->out.length<=64->
  T (B6 f l out h) λr=>r.1=((out++l.filter p).take 64,decide (64<(out++l.filter p).length))/\I r.2
 |[],out,h,_,hI,ho=>aa ⟨by simp[cV ho];omega,hI⟩|s::l,out,h,hf,hI,ho=>by
  show T ((f s h).bind _) _;refine an (hf s (by simp) h hI) λy ⟨hy,iV⟩=>?_;rw[hy];cases hp:p s with
  |false=>simp only[bc];rw[V0 (by simp[hp])];exact An p I f l out y.2 (λx hx=>hf x (by simp[hx])) iV ho|true=>
   simp only[ba];rw[V3 hp];by_cases e:out.length=64
   ·rw[show Nat.beq out.length 64=true by rw[e];rfl];refine aa ⟨?_,iV⟩;rw[List.take_append_of_le_length (by omega),cV (by omega)];simp;omega
   ·rw[show Nat.beq out.length 64=false by cases h:Nat.beq out.length 64 with|true=>exact (e (bM h)).elim|false=>rfl];have:=An p I f l (out++[s]) y.2 (λx hx=>hf x (by simp[hx])) iV (by simp;omega);simpa using this
section
variable{N:Nat}(hN:1073741824<=N)
include hN
theorem FH{ls:List bT}(h:(cU ls s).2=true):0<(cs ls).length:=by
 unfold cU at h;split at h
 ·cases h
 ·rename_i c hc;exact List.length_pos_of_mem (rj hc).1
theorem amc(ls:List bT)(hl:gA ls)(s want:bE)(o6:List bE)(hb:o6.length<=1048576)(i0:List (Option (List nb)))(h:Hp)(hg:Good ls h/\h.ja=i0):T (F60 N (some 0,s,want,o6) h) λr=>r.1=fq ls want o6 s/\Good ls r.2/\r.2.ja=i0:=by
 unfold F60;refine aj (λ_=>o6.contains s=false) (λJ hJ=>?_) (λx hx=>?_)
 ·refine aG (λst=>0<=st.1/\st.1<=o6.length/\o6.contains s=(o6.drop st.1.toNat).contains s) (λst=>(o6.length-st.1).toNat) ⟨by simp,by simp,by simp⟩ (by dsimp only;omega) ?_;rintro rec ⟨p,u⟩ ⟨k1,k2,k3⟩ aH;dsimp only at k1 k2 k3;refine af (λdZ=>?_) (λdZ=>hJ _ ?_)
  ·simp only[az]at dZ;refine aw k1 dZ λx hx bV=>?_;have hd:o6.drop p.toNat=x::o6.drop (p.toNat+1):=by obtain⟨hi,rfl⟩:=aV.1 bV;exact uY hi
   rw[hd,V4]at k3;refine af (λe=>aa ⟨?_,hg⟩) λe=>aH _ ⟨?_,?_,?_⟩ ?_
   ·have e:x=s:=by simpa using e
    subst e;simp only[fq,k3];simp
   ·dsimp only;rw[bq (by omega) (by omega)];omega
   ·dsimp only;rw[bq (by omega) (by omega)];omega
   ·dsimp only;have e:(s==x)=false:=by
     have e:x≠s:=by simpa using e
     simpa usingλh=>e h.symm
    rw[bq (by omega) (by omega),show(p+1).toNat=p.toNat+1 by omega,k3,e,yH]
   ·dsimp only;rw[bq (by omega) (by omega)];omega
  ·simp only[bz,fI]at dZ;rw[k3,He (by omega)];rfl
 ·refine an (agQ hN ls hl s h hg.1) λy hy=>?_;subst hy;simp only[fq,hx,tq,nO];refine af (λh2=>af (λh3=>?_) λh3=>aa ⟨?_,hg⟩) λh2=>aa ⟨?_,hg⟩
  ·simp only[h2,h3,nO];refine af (λh4=>aa ⟨by simp[h4],hg⟩) λh4=>an (agT hN ls hl s want h hg.1 (FH hN h2)) λz ⟨AE,J4,hz3⟩=>aa ⟨by rw[AE,h4];rfl,J4,hz3.trans hg.2⟩
  ·simp[h2,h3]
  ·simp[h2]
theorem amd(ls:List bT)(hl:gA ls)(kd:cg)(o6:List bE)(hb:o6.length<=1048576)(i0:List (Option (List nb)))(h:Hp)(hg:Good ls h/\h.ja=i0):
  T (Ma N (some 0,kd,o6) h) λr=>r.1=((((cD ls).filter (fq ls kd.ab o6)).take 64).map λs=>nb.mk s 0,decide (64<((cD ls).filter (fq ls kd.ab o6)).length))/\Good ls r.2/\r.2.ja=i0:=by
 unfold Ma;refine an (al7 hN ls h hg.1) λy hy=>?_;subst hy;have hlen:(cD ls).length<=1048576:=by have:=hg.1.len;unfold cD;rw[rl];simp;omega
 refine bO (wI hlen) (an (An (fq ls kd.ab o6) (λh=>Good ls h/\h.ja=i0) _ (cD ls) [] h (λs _ h hg=>amc hN ls hl s kd.ab o6 hb i0 h hg) hg (by simp)) λz ⟨AE,J4,hz3⟩=>aa ⟨?_,J4,hz3⟩);rw[AE];simp
theorem agV(ls:List bT)(hl:gA ls)(s:bE):T (Y1 N (ls,s)) λr=>r=(gq ls s).isSome:=by
 unfold Y1;refine an (tY hN ls s hl) λy hy=>aa ?_;cases h:gq ls s with
 |none=>rw[h]at hy;exact hy.2|some x=>rw[h]at hy;exact hy.2
theorem agW(ls:List bT)(hl:gA ls)(s:bE):T (F46 N (ls,s)) λr=>r=cU ls s:=by
 unfold F46;refine an (agV hN ls hl s) λy hy=>?_;subst hy;cases h:gq ls s with
 |none=>exact aa (by simp only[cU,h];rfl)|some c=>exact an (LF hN ls s c hl h) λz hz=>aa (by simp only[cU,h,hz])
theorem ame(ls:List bT)(hl:gA ls)(a b:bE):T (F50 N (ls,a,b)) λr=>r=qq ls a b:=by
 unfold F50;refine an (Hf hN ls a hl) λl ⟨BA,E4⟩=>?_;rw[BA]at E4⊢;clear BA;refine aj (λ_=>(fD ls a).any (λx=>x.name==b)=false) (λJ hJ=>?_) (λx hx=>aa (by simp only[qq,hx,yH]));refine aG (λst=>0<=st.1/\st.1<=(fD ls a).length/\(fD ls a).any (λx=>x.name==b)=((fD ls a).drop st.1.toNat).any λx=>x.name==b) (λst=>((fD ls a).length-st.1).toNat) ⟨by simp,by simp,by simp⟩ (by dsimp only;omega) ?_;rintro rec ⟨p,u⟩ ⟨k1,k2,k3⟩ aH;dsimp only at k1 k2 k3;refine af (λdZ=>?_) (λdZ=>hJ _ ?_)
 ·simp only[az]at dZ;refine aw k1 dZ λx hx bV=>?_;have hd:(fD ls a).drop p.toNat=x::(fD ls a).drop (p.toNat+1):=by obtain⟨hi,rfl⟩:=aV.1 bV;exact uY hi
  rw[hd,List.any_cons]at k3;refine af (λe=>aa ?_) λe=>aH _ ⟨?_,?_,?_⟩ ?_
  ·rw[e]at k3;simp only[qq,k3];rfl
  ·dsimp only;rw[bq (by omega) (by omega)];omega
  ·dsimp only;rw[bq (by omega) (by omega)];omega
  ·dsimp only;rw[bq (by omega) (by omega),show(p+1).toNat=p.toNat+1 by omega,k3,e,yH]
  ·dsimp only;rw[bq (by omega) (by omega)];omega
 ·simp only[bz,fI]at dZ;rw[k3,He (by omega)];rfl
end
theorem EQ:∀(x y:bE),Op.bytesLess x y=decide (x<y)
 |x,[]=>by cases x<;>simp[Op.bytesLess]
 |[],y::ys=>by simp[Op.bytesLess]|a::x,b::y=>by rw[Op.bytesLess,EQ x y];rw[Bj];simp[List.cons_lt_cons_iff]
abbrev Srt(l:List bE):Prop:=l.Pairwise λa b=>a<=b
theorem V5{l m:List bE}(hp:m.Perm l)(hs:Srt m):m=iC l:=by refine List.Perm.eq_of_pairwise (le:=λa b=>a<=b) (λa b _ _ h1 h2=>List.le_antisymm h1 h2) hs ?_ (hp.trans (List.mergeSort_perm l _).symm);have:=List.pairwise_mergeSort (le:=λx y:bE=>decide (x<=y)) (λa b c h1 h2=>by simp only[az]at*;exact List.le_trans h1 h2) (λa b=>by simpa using List.le_total a b) l;exact this.imp λh=>by simpa using h
section
variable{N:Nat}(hN:1073741824<=N)
include hN
theorem agX(l:bT)(hl:l.aQ.length<=1048576)(tM:(l.aQ.map (·.name)).Nodup):T (Y2 N l) λr=>r=iC (l.aQ.map (·.name)):=by
 unfold Y2;refine aj (λs=>s.1.Perm (l.aQ.map (·.name))/\Srt s.1) (λJ hJ=>?_) (λx hx=>aa (V5 hx.1 hx.2));refine aG (λs=>0<=s.1.2/\s.1.2<=l.aQ.length/\s.1.1.Perm ((l.aQ.take s.1.2.toNat).map (·.name))/\Srt s.1.1) (λs=>(l.aQ.length-s.1.2).toNat) ⟨by simp,by simp,by simp,by simp⟩ (by dsimp only;omega) ?_;rintro rec ⟨⟨out,p⟩,u⟩ ⟨k1,k2,k3,k4⟩ aH;dsimp only at k1 k2 k3 k4;have hol:out.length<=1048576:=by have:=k3.length_eq;simp at this;omega
 refine af (λhb=>?_) (λhb=>hJ _ ?_)
 ·simp only[az]at hb;refine aj (λs=>s.1.Perm ((l.aQ.take (p.toNat+1)).map (·.name))/\Srt s.1) (λJ2 Jd=>?_) (λx hx=>aH _ ⟨?_,?_,?_,?_⟩ ?_)
  ·refine aw k1 hb λc hc kA=>?_;have ht:l.aQ.take (p.toNat+1)=l.aQ.take p.toNat++[c]:=by obtain⟨hi,rfl⟩:=aV.1 kA;exact(kO hi).symm
   have jd:c.name∉out:=λhm=>by have B3:=k3.mem_iff.1 hm;have:((l.aQ.take (p.toNat+1)).map (·.name)).Nodup:=tM.sublist ((List.take_sublist _ _).map _);rw[ht,nN,wJ]at this;exact this.2.2 _ B3 c.name (by simp) rfl
   refine aj (λs=>0<=s.1/\s.1<=out.length/\(∀x∈out.take s.1.toNat,x<c.name)/\∀x,out[s.1.toNat]?=some x->¬x<c.name) (λJ3 hJ3=>?_) (λq hq=>?_)
   ·refine aG (λs=>0<=s.1/\s.1<=out.length/\∀x∈out.take s.1.toNat,x<c.name) (λs=>(out.length-s.1).toNat) ⟨by simp,by simp,by simp⟩ (by dsimp only;omega) ?_;rintro Zc ⟨q,u2⟩ ⟨j1,j2,j3⟩ yA;dsimp only at j1 j2 j3;refine af (λdZ=>?_) (λdZ=>hJ3 _ ⟨j1,j2,j3,λx hx=>?_⟩)
    ·simp only[az]at dZ;refine aw j1 dZ λx hx bV=>af (λe=>?_) (λe=>hJ3 _ ⟨j1,j2,j3,λy hy=>?_⟩)
     ·rw[EQ,az]at e;refine yA _ ⟨?_,?_,?_⟩ ?_<;>dsimp only<;>rw[bq (by omega) (by omega)]
      ·omega
      ·omega
      ·have L7:out.take (q.toNat+1)=out.take q.toNat++[x]:=by obtain⟨hi,rfl⟩:=aV.1 bV;exact(kO hi).symm
       rw[show(q+1).toNat=q.toNat+1 by omega,L7];intro z hz;rcases dt.1 hz with hz|hz
       ·exact j3 z hz
       ·simp at hz;rw[hz];exact e
      ·omega
     ·rw[EQ,bz]at e;dsimp only at hy;rw[bV]at hy;cases hy;exact e
    ·simp only[bz,fI]at dZ;have:=(aV.1 hx).1;dsimp only at this;omega
   ·obtain ⟨q,u2⟩:=q;obtain⟨j1,j2,j3,j4⟩:=hq;dsimp only at j1 j2 j3 j4⊢;have hdt:(out.drop q.toNat).take (out.length-q.toNat)=out.drop q.toNat:=cV (by simp);have sP:db (decide (0<=q)&&decide (q.toNat<=out.length))=some ():=pz (by simp;omega);have hdl:(out.drop q.toNat).length<=1048576:=by rw[xi];omega
    have wZ:(out.take q.toNat).length<=1048576:=by rw[my];omega
    have vD:db (fits 16 (0+(out.drop q.toNat).length) 140737488355328)=some ():=pz (bi (by omega) (by omega));have Sf:db (fits 16 ((out.take q.toNat).length+[c.name].length) 140737488355328)=some ():=pz (bi (by simp only[dE,kS];omega) (by simp only[dE,kS];omega));have hc4:db (fits 16 ((out.take q.toNat++[c.name]).length+(([]:List bE)++out.drop q.toNat).length) 140737488355328)=some ():=pz (bi (by simp only[kR,dE,kS];omega) (by simp only[kR,dE,kS];omega));have put:T (J2 (out.take q.toNat++[c.name]++(([]:List bE)++out.drop q.toNat),())) λr=>r=iC (l.aQ.map (·.name)):=by
     refine Jd _ ⟨?_,?_⟩
     ·dsimp only;rw[ht,nN,pq];have h1:(out.take q.toNat++[c.name]++out.drop q.toNat).Perm (out++[c.name]):=by
       have e1:out++[c.name]=out.take q.toNat++(out.drop q.toNat++[c.name]):=by rw[<-sO,vO]
       rw[e1,sO];exact(List.perm_append_comm).append_left _
      exact h1.trans (k3.append_right _)
     ·dsimp only;rw[pq,sO];have hso:Srt (out.take q.toNat++out.drop q.toNat):=by rw[vO];exact k4
      obtain⟨s1,s2,s3⟩:=List.pairwise_append.1 hso;refine List.pairwise_append.2 ⟨s1,List.pairwise_cons.2 ⟨λx hx=>?_,s2⟩,λa ha b hb=>?_⟩
      ·have Oq:∀x∈out.drop q.toNat,c.name<=x:=λx hx=>by
        cases hd:out.drop q.toNat with
        |nil=>rw[hd]at hx;cases hx
        |cons y ys=>
         have hy:out[q.toNat]?=some y:=by have:=dK List.head? hd;simpa[List.head?_drop]using this
         have hcy:c.name<=y:=List.not_lt.1 (j4 y hy);rw[hd]at hx s2;rcases c6.1 hx with rfl|hx
         ·exact hcy
         ·exact List.le_trans hcy ((List.pairwise_cons.1 s2).1 x hx)
       exact Oq x hx
      ·rcases c6.1 hb with rfl|hb
       ·exact List.le_of_lt (j3 a ha)
       ·exact s3 a ha b hb
    simp only[hdt,sP,vD,Sf,hc4,aU];refine af (λdZ=>?_) (λ_=>put);simp only[az]at dZ;refine aw j1 dZ λx hx bV=>af (λe=>?_) λ_=>put;have e:x=c.name:=by simpa using e
    subst e;exact(jd hx).elim
  ·dsimp only;rw[bq (by omega) (by omega)];omega
  ·dsimp only;rw[bq (by omega) (by omega)];omega
  ·dsimp only;rw[bq (by omega) (by omega),show(p+1).toNat=p.toNat+1 by omega];exact hx.1
  ·exact hx.2
  ·dsimp only;rw[bq (by omega) (by omega)];omega
 ·simp only[bz,fI]at hb;rw[cV (by omega)]at k3;exact⟨k3,k4⟩
end
def Oc(l:List bE):List nb×Bool:=((l.take 64).map λs=>nb.mk s 0,decide (64<l.length))
section
variable{N:Nat}(hN:1073741824<=N)
include hN
theorem amf(ls:List bT)(hl:gA ls)(hc:(cs ls).length<=1048576)(tM:((cs ls).map (·.name)).Nodup):T (F49 N ls) λr=>r=cD ls:=by
 have hlen:=hl.len;unfold F49;refine aj (λs=>∃a b c d e f g,s.1=(a,b,c,cs ls,d,e,f,g)) (λJ hJ=>?_) (λx hx=>?_)
 ·refine aG (λs=>0<=s.1.1/\s.1.1<=ls.length/\s.1.2.2.2.2.1=cs (ls.take s.1.1.toNat)) (λs=>(ls.length-s.1.1).toNat) ⟨by simp,by simp,by simp[cs]⟩ (by dsimp only;omega) ?_;rintro rec ⟨⟨p,a1,a2,a3,a4,a5,a6,a7,a8⟩,u⟩ ⟨k1,k2,k3⟩ aH;dsimp only at k1 k2 k3;refine af (λhb=>?_) (λhb=>hJ _ ?_)
  ·simp only[az]at hb;refine aw k1 hb λl hm JE=>?_;have ht:ls.take (p.toNat+1)=ls.take p.toNat++[l]:=by obtain⟨hi,rfl⟩:=aV.1 JE;exact(kO hi).symm
   have jd:cs (ls.take (p.toNat+1))=a4++l.aQ:=by rw[ht,k3];simp[cs]
   have hle:(a4++l.aQ).length<=1048576:=by
    rw[<-jd];have:(cs (ls.take (p.toNat+1))).length<=(cs ls).length:=by
     have e:cs ls=cs (ls.take (p.toNat+1))++cs (ls.drop (p.toNat+1)):=by unfold cs;rw[<-yC,vO]
     rw[e];simp
    omega
   rw[kR]at hle;refine bO (bi (by omega) (by omega)) (aH _ ⟨?_,?_,?_⟩ ?_)<;>dsimp only<;>rw[bq (by omega) (by omega)]
   ·omega
   ·omega
   ·rw[show(p+1).toNat=p.toNat+1 by omega,jd]
   ·omega
  ·simp only[bz,fI]at hb;rw[cV (by omega)]at k3;exact⟨a1,a2,a3,a5,a6,a7,a8,by rw[k3]⟩
 ·obtain ⟨⟨b1,b2,b3,b4,b5,b6,b7,b8⟩,u⟩:=x;obtain⟨a,b,c,d,e,f,g,hx⟩:=hx;cases hx;exact an (agX hN ⟨b1,b2,b3,cs ls,b5,b6,b7,b8⟩ hc tM) λy hy=>aa hy
theorem amg(ls:List bT)(hl:gA ls)(hc:(cs ls).length<=128)(tM:((cs ls).map (·.name)).Nodup)(kd:cg)(o6:bE):T (VF N (ls,kd,o6)) λr=>r=((cD ls).filter (fq ls kd.ab [o6])).map λs=>nb.mk s 0:=by
 unfold VF;have WZ:(cD ls).length<=128:=by unfold cD;rw[rl];simpa using hc
 refine an (amf hN ls hl (by omega) tM) λy hy=>?_;subst hy;have HU:∀s∈cD ls,(cU ls s).2=true:=λs hs=>by have:=(Hh _ _).1 hs;obtain⟨c,hc,rfl⟩:=cK.1 this;obtain⟨d,hd⟩:=ED hc;simp only[cU,hd]
 refine aj (λs=>s.1=((cD ls).filter (fq ls kd.ab [o6])).map λs=>nb.mk s 0) (λJ hJ=>?_) (λx hx=>aa hx);refine aG (λs=>0<=s.1.2/\s.1.2<=(cD ls).length/\s.1.1=(((cD ls).take s.1.2.toNat).filter (fq ls kd.ab [o6])).map λs=>nb.mk s 0) (λs=>((cD ls).length-s.1.2).toNat) ⟨by simp,by simp,by simp⟩ (by dsimp only;omega) ?_;rintro rec ⟨⟨out,p⟩,u⟩ ⟨k1,k2,k3⟩ aH;dsimp only at k1 k2 k3;refine af (λhb=>?_) (λhb=>hJ _ ?_)
 ·simp only[az]at hb;obtain⟨s,hz,hm,JE⟩:=lj k1 hb;have ht:(cD ls).take (p.toNat+1)=(cD ls).take p.toNat++[s]:=by obtain⟨hi,rfl⟩:=aV.1 JE;exact(kO hi).symm
  have hol:out.length<=128:=by rw[k3,cM];have:=Up (fq ls kd.ab [o6]) ((cD ls).take p.toNat);rw[my]at this;omega
  refine aj (λs=>s.1=(((cD ls).take (p.toNat+1)).filter (fq ls kd.ab [o6])).map λs=>nb.mk s 0) (λJ2 Jd=>?_) (λx hx=>aH _ ⟨?_,?_,?_⟩ ?_)
  ·simp only[hz,aU];have yes:fq ls kd.ab [o6] s=true->T (J2 (out++[nb.mk s 0],())) λr=>r=((cD ls).filter (fq ls kd.ab [o6])).map λs=>nb.mk s 0:=λh=>Jd _ (by dsimp only;rw[ht,Qg,nN,<-k3,V3 h];rfl);have no:fq ls kd.ab [o6] s=false->T (J2 (out,())) λr=>r=((cD ls).filter (fq ls kd.ab [o6])).map λs=>nb.mk s 0:=λh=>Jd _ (by dsimp only;rw[ht,Qg,nN,<-k3,V0 (by simp[h])];simp);have uS:fq ls kd.ab [o6] s=(!(s==o6)&&(!(cU ls s).1.ir&&(kd.ab==[]||qq ls s kd.ab))):=by
    have:[o6].contains s=(s==o6):=by simp only[V4,List.contains_nil,LM]
    simp only[fq,HU s hm,nO,this]
   refine an (agW hN ls hl s) λc jn=>?_;subst jn;refine af (λh1=>af (λh2=>af (λh3=>bO (bi (by simp only[dE,kS];omega) (by simp only[dE,kS];omega)) (yes ?_)) (λh3=>an (ame hN ls hl s kd.ab) λz hz=>af (λh4=>bO (bi (by simp only[dE,kS];omega) (by simp only[dE,kS];omega)) (yes ?_)) (λh4=>no ?_))) (λh2=>no ?_)) (λh1=>no ?_)
   ·rw[uS,h1,h2,h3];rfl
   ·subst hz;rw[uS,h1,h2,h4];simp
   ·subst hz;rw[uS,h1,h2,h3,h4];rfl
   ·rw[uS,h2];rfl
   ·rw[uS,h1];simp
  ·dsimp only;rw[bq (by omega) (by omega)];omega
  ·dsimp only;rw[bq (by omega) (by omega)];omega
  ·dsimp only;rw[bq (by omega) (by omega),show(p+1).toNat=p.toNat+1 by omega];exact hx
  ·dsimp only;rw[bq (by omega) (by omega)];omega
 ·simp only[bz,fI]at hb;rw[cV (by omega)]at k3;exact k3
theorem amh(l:List nb):T (VE N l) λr=>r=(l.take 64,decide (64<l.length)):=by
 unfold VE;refine af (λh=>bO (by simp at h⊢;omega) (aa ?_)) λh=>aa ?_
 ·have:64<l.length:=by simp only[az]at h;omega
  simp[this]
 ·have:l.length<=64:=by simp only[bz,fI]at h;omega
  rw[cV this];simp;omega
end
theorem LN{ls:List bT}{h:Hp}(hg:Good ls h)(want:bE):(cD ls).filter (fq ls want [[]])=(cD ls).filter (fq ls want []):=by refine List.filter_congr λs hs=>?_;have:=(Hh _ _).1 hs;obtain⟨c,hc,rfl⟩:=cK.1 this;have:=hg.named c hc;unfold fq;congr 2;simp[V4,this]
end Go.Proofs.Mo
