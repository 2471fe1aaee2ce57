import Derived.Test.YtlacgaedkjhfhaaGreatDoorZC22
set_option linter.all false
set_option maxRecDepth 20000
open Option renaming some->O,none->Y
open Bool renaming true->W,false->F
open Go.Proofs.Tryz
namespace Go.Proofs.Mo
open Go Go.Ev Go.X
def oJ{α:Type}(l:Z α)(g:Int×α->V (Int×Int))(r:Except kJ xW):Prop:=match r with
 |.ok _=>∀x∈l,∃i p,0<=i/\i<(l.length:Int)/\g (i,x)=O (p,0)|.error e=>e.f.gd≠0
def Wt{α:Type}(N:Nat)(c e:Int)(d:Z α)(f:Int×α->V (Int×Int)):V (Except kJ xW):=aZ (λg((a,_):(Int)×xW)=>bif decide (a<(d.length:Int))then(aR d a).bind λz20=>(qJ N (decide (a<e),gW.mk c a 0 4)).bind λh=>zd h (λi=>O (Except.error i)) λl=>(f (a,z20)).bind λb=>(qJ N (b.2==0,gW.mk c a b.1 b.2)).bind λj=>zd j (λk=>O (Except.error k)) λm=>g ((IntKind.i64.wrap (a+1)),())else O (Except.ok ())) N (0,())
def aa4{α:Type}(N:Nat)(b:Z α)(c:α->V tl):V Int:=aS (λ(_:(xW)×xW)=>O (-1)) λd=>aZ (λe((a,_):(Int)×xW)=>bif decide (a<(b.length:Int))then(aR b a).bind λWg=>(c Wg).bind λf=>bif f then O a else e ((IntKind.i64.wrap (a+1)),())else d ((),())) N (0,())
section
variable{N:Nat}(hN:1073741824<=N)
include hN
theorem Je{α:Type}(l:Z α)(g:α->V tl)(f:l.length<=536870912)(a:∀x,x∈l->T (g x) λ_=>True):T (aa4 N l g) λr=>-1<=r/\r<l.length:=by unfold aa4;refine ahq (λJ b=>?_) ?_;refine ahp (↑l.length) λrec _ _ h i c=>?_;dsimp only;apply a7<;>intro d;refine aH an an λx e j=>have k:=a x e;ap (a _ an) λy m n=>?_;apply ao<;>intro d;refine ag ?_;omega;exact c _ bt bt;exact b _;rintro⟨_,_⟩;refine ag ?_;omega
theorem NC(b:tl)(f:gW):T (qJ N (b,f)) λr=>r=if b then .ok ()else .error ⟨f⟩:=by cases b<;>exact ⟨_,rfl,rfl⟩
theorem Wu(a:Int):T (RH N a) λ_=>True:=by unfold RH;apply ht<;>intro b;apply ht<;>intro b;exact aho;apply ht<;>intro b;exact aho;exact aho;apply ht<;>intro b;exact aho;exact aho
theorem j6(s:cI)(i:s.length<=1048576):T (nC N s) λr=>r=W->s≠[]:=by unfold nC;apply aO<;>intro a;refine ag ?_;exact Rn;apply a7<;>intro a;refine ag ?_;exact Rn;refine aH an M λx c d=>ap (Wu an _) λy f g=>?_;apply bZ<;>intro a;refine ag ?_;exact Rn;refine ahq (λJ h=>?_) ?_;refine ahp (↑(List.length s)) λrec _ _ j k b=>?_;dsimp only;apply a7<;>intro a;refine aH an an λx c d=>ap (Wu an _) λy f g=>?_;apply bZ<;>intro a;apply a7<;>intro a;apply ba<;>intro a;refine ag ?_;exact Rn;exact b _ dY dY;apply a7<;>intro a;apply ba<;>intro a;refine ag ?_;exact Rn;exact b _ bt bt;exact b _ bt bt;exact b _ bt bt;exact h _;rintro⟨_,_⟩;refine ag ?_;exact jJ;all_goals(intro _ e;subst e;simp at*)
theorem aa5(l:Z cI)(a:cI)(e:l.length<=1048576):T (UH N (l,a)) λr=>-1<=r/\r<l.length:=by unfold UH;refine ahq (λJ b=>?_) ?_;refine ahp (↑l.length) λrec _ _ f g c=>?_;dsimp only;apply a7<;>intro d;refine aH an an λx h i=>?_;apply aO<;>intro d;refine ag ?_;omega;exact c _ bt bt;exact b _;rintro⟨_,_⟩;refine ag ?_;omega
theorem VD(l:Z cI)(a:cI)(b:l.length<=1048576):T (XZ N (l,a)) λr=>True:=by unfold XZ;refine ap (aa5 an _ _ an) λy c d=>ag ?_;dsimp only
theorem Sw(b:tl):T (OK N b) λr=>True:=by unfold OK;apply ao<;>intro a;refine ag ?_;dsimp only;refine ag ?_;dsimp only
theorem EH{α:Type}(a b:Int)(l:Z α)(g:Int×α->V (Int×Int))(A:l.length<=1048576)(o:∀i x,0<=i->i<(l.length:Int)->x∈l->T (g (i,x)) λ_=>True):T (Wt N a b l g) (oJ l g):=by
 unfold Wt;refine aP (λs=>0<=s.1/\s.1<=l.length/\∀j:Nat,(j:Int)<s.1->∀x,l[j]?=O x->∃i p,0<=i/\i<(l.length:Int)/\g (i,x)=O (p,0)) (λs=>(l.length-s.1).toNat) ⟨aE,aE,λj h=>by simp at h;omega⟩ dY ?_;rintro rec ⟨p,u⟩ ⟨h1,q,k⟩ r;dsimp only at h1 q k;apply a7<;>intro t;refine aH an an λx m d=>ap (NC an _ _) λy c f=>oG (λy c=>?_) λy c=>?_;refine ag ?_;rotate_left;refine ap (o _ _ an an an) λy c f=>ap (NC an _ _) λy c f=>oG (λy c=>?_) λy c=>?_;refine ag ?_;rotate_left;apply r;dsimp only;rotate_left;exact bt;refine ag ?_;rotate_left
 .rw[f]at c;split at c
  .cases c
  .cases c;simp[oJ]
 .rw[f]at c;split at c
  .cases c
  .rename_i h0;cases c;simpa[oJ]using h0
 .rename_i v w z1 B C;have n:=d;rw[f]at c;split at c
  .rename_i h0;rw[fG M M];refine⟨M,M,λj h z d=>?_⟩;by_cases e:(j:Int)=p
   .have e:p.toNat=j:=M;rw[e]at n;rw[n]at d;cases d;exact⟨p,v.1,h1,t,by rw[w];simp only[gH]at h0;rw[<-h0]⟩
   .exact k j M z d
  .cases c
 .intro x m;obtain⟨j,h,rfl⟩:=gX m;exact k j M _ (bS h)
theorem aa6(l:Z fH)(g:fH->V tl)(a:l.length<=536870912)(b:∀x,x∈l->T (g x) λ_=>True):T (X6 N (l,g)) λr=>-1<=r/\r<l.length:=Je hN l g a b
theorem Sx(l:Z fH)(g:fH->V tl)(a:l.length<=536870912)(b:∀x,x∈l->T (g x) λ_=>True):T (OL N (l,g)) λ_=>True:=by unfold OL;exact ap (aa6 an _ _ an an) λy c d=>aho
theorem aa7(l:Z dt)(g:dt->V tl)(a:l.length<=536870912)(b:∀x,x∈l->T (g x) λ_=>True):T (X7 N (l,g)) λr=>-1<=r/\r<l.length:=Je hN l g a b
theorem aa8(l:Z dt)(g:dt->V tl)(a:l.length<=536870912)(b:∀x,x∈l->T (g x) λ_=>True):T (UJ N (l,g)) λ_=>True:=by unfold UJ;exact ap (aa7 an _ _ an an) λy c d=>aho
theorem aa9(l:Z eR)(g:eR->V tl)(a:l.length<=536870912)(b:∀x,x∈l->T (g x) λ_=>True):T (X9 N (l,g)) λr=>-1<=r/\r<l.length:=Je hN l g a b
theorem Wv(l:Z eR)(g:eR->V tl)(a:l.length<=536870912)(b:∀x,x∈l->T (g x) λ_=>True):T (RI N (l,g)) λ_=>True:=by unfold RI;exact ap (aa9 an _ _ an an) λy c d=>aho
theorem aba(l:Z gp)(g:gp->V tl)(a:l.length<=536870912)(b:∀x,x∈l->T (g x) λ_=>True):T (Ya N (l,g)) λr=>-1<=r/\r<l.length:=Je hN l g a b
theorem Ww(l:Z gp)(g:gp->V tl)(a:l.length<=536870912)(b:∀x,x∈l->T (g x) λ_=>True):T (RJ N (l,g)) λ_=>True:=by unfold RJ;exact ap (aba an _ _ an an) λy c d=>aho
theorem abb(l:Z qy)(g:qy->V tl)(a:l.length<=536870912)(b:∀x,x∈l->T (g x) λ_=>True):T (Yc N (l,g)) λr=>-1<=r/\r<l.length:=Je hN l g a b
theorem Wx(l:Z qy)(g:qy->V tl)(a:l.length<=536870912)(b:∀x,x∈l->T (g x) λ_=>True):T (RL N (l,g)) λ_=>True:=by unfold RL;exact ap (abb an _ _ an an) λy c d=>aho
theorem abc(l:Z er)(g:er->V tl)(a:l.length<=536870912)(b:∀x,x∈l->T (g x) λ_=>True):T (Yf N (l,g)) λr=>-1<=r/\r<l.length:=Je hN l g a b
theorem abd(l:Z er)(g:er->V tl)(a:l.length<=536870912)(b:∀x,x∈l->T (g x) λ_=>True):T (UT N (l,g)) λ_=>True:=by unfold UT;exact ap (abc an _ _ an an) λy c d=>aho
theorem abe(l:Z cC)(g:cC->V tl)(a:l.length<=536870912)(b:∀x,x∈l->T (g x) λ_=>True):T (Yi N (l,g)) λr=>-1<=r/\r<l.length:=Je hN l g a b
theorem abf(l:Z cC)(g:cC->V tl)(a:l.length<=536870912)(b:∀x,x∈l->T (g x) λ_=>True):T (UY N (l,g)) λ_=>True:=by unfold UY;exact ap (abe an _ _ an an) λy c d=>aho
theorem abg(l:Z cW)(g:cW->V tl)(a:l.length<=536870912)(b:∀x,x∈l->T (g x) λ_=>True):T (YE N (l,g)) λr=>-1<=r/\r<l.length:=Je hN l g a b
theorem af8(l:Z cW)(g:cW->V tl)(a:l.length<=536870912)(b:∀x,x∈l->T (g x) λ_=>True):T (F51 N (l,g)) λ_=>True:=by unfold F51;exact ap (abg an _ _ an an) λy c d=>aho
theorem abh(a b:Int)(l:Z cI)(g:Int×cI->V (Int×Int))(c:l.length<=1048576)(d:∀i x,0<=i->i<(l.length:Int)->x∈l->T (g (i,x)) λ_=>True):T (XY N (a,b,l,g)) (oJ l g):=EH hN a b l g c d
theorem abi(a b:Int)(l:Z dt)(g:Int×dt->V (Int×Int))(c:l.length<=1048576)(d:∀i x,0<=i->i<(l.length:Int)->x∈l->T (g (i,x)) λ_=>True):T (Y1 N (a,b,l,g)) (oJ l g):=EH hN a b l g c d
theorem abj(a b:Int)(l:Z qy)(g:Int×qy->V (Int×Int))(c:l.length<=1048576)(d:∀i x,0<=i->i<(l.length:Int)->x∈l->T (g (i,x)) λ_=>True):T (Yb N (a,b,l,g)) (oJ l g):=EH hN a b l g c d
theorem abk(a b:Int)(l:Z cV)(g:Int×cV->V (Int×Int))(c:l.length<=1048576)(d:∀i x,0<=i->i<(l.length:Int)->x∈l->T (g (i,x)) λ_=>True):T (Yd N (a,b,l,g)) (oJ l g):=EH hN a b l g c d
theorem abl(a b:Int)(l:Z er)(g:Int×er->V (Int×Int))(c:l.length<=1048576)(d:∀i x,0<=i->i<(l.length:Int)->x∈l->T (g (i,x)) λ_=>True):T (Ye N (a,b,l,g)) (oJ l g):=EH hN a b l g c d
theorem abm(a b:Int)(l:Z cC)(g:Int×cC->V (Int×Int))(c:l.length<=1048576)(d:∀i x,0<=i->i<(l.length:Int)->x∈l->T (g (i,x)) λ_=>True):T (Yh N (a,b,l,g)) (oJ l g):=EH hN a b l g c d
def Nx(k:Nat)(v0 len:Int)(h:Hp):Prop:=∃v,h.CW[k]?=O v/\v0<=v/\v<=len
theorem abn{k:Nat}{v0 len:Int}(l:Z Int)(f:Int->Hp->V (tl×Hp))(q:l.length<=1048576)(b:∀i h,Nx k v0 len h->T (f i h) λr=>Nx k v0 len r.2)(h:Hp)(c:Nx k v0 len h):T (Uy N (l,f) h) λr=>Nx k v0 len r.2:=by unfold Uy;refine az (λs=>Nx k v0 len s.2) (λJ d=>?_) (λx a=>ag a);refine aP (λs=>0<=s.1/\s.1<=l.length/\Nx k v0 len s.2) (λs=>(l.length-s.1).toNat) ⟨aE,aE,c⟩ dY ?_;rintro rec ⟨p,u⟩ ⟨e,g,j⟩ m;dsimp only at e g j;apply a7<;>intro n;refine aH an an λx a t=>ap (b _ _ an) λy v o=>?_;apply ao<;>intro n;refine ag ?_;dsimp only;trivial;apply m;dsimp only;rotate_left;exact bt;apply d;dsimp only;trivial;rw[fG M M];exact⟨M,M,o⟩
theorem abo{k:Nat}{v0 len:Int}(l:Z Int)(f:Int->Hp->V (tl×Hp))(a:l.length<=1048576)(b:∀i h,Nx k v0 len h->T (f i h) λr=>Nx k v0 len r.2)(h:Hp)(c:Nx k v0 len h):T (Uz N (l,f) h) λr=>Nx k v0 len r.2:=by unfold Uz;refine ap (abn hN l f a b h c) λy d e=>ag ?_;dsimp only;trivial
theorem abp{k:Nat}{v0 len:Int}(i:Int)(f:Int->Hp->V (tl×Hp))(a:∀i h,Nx k v0 len h->T (f i h) λr=>Nx k v0 len r.2)(h:Hp)(b:Nx k v0 len h):T (UB N (i,f) h) λr=>Nx k v0 len r.2:=by unfold UB;refine ap (a _ _ an) λy c d=>ag ?_;dsimp only;trivial
theorem abq(k:Nat)(l:Z kI)(g:l.length<=1048576)(c:∀s∈l,s.args.length<=1048576):∀(n:Nat)(i:Int)(v0:Int)(h:Hp),0<=v0->Nx k v0 l.length h->(l.length-v0).toNat<n->T (IZ N (O k) l n i h) λr=>Nx k v0 l.length r.2
 |0,i,v0,h,_,a,j=>M|n+1,i,v0,h,h0,a,j=>by
  show T (UC N (i,O k,l,IZ N (O k) l n) h) _;obtain⟨v,hv,m,o⟩:=a;have p:k<h.CW.length:=(aY.1 hv).1;have d:Nx k v0 l.length h:=⟨v,hv,m,o⟩
  unfold UC;simp only[aM,hv];refine ao (λ_=>ag d) λe=>ao (λ_=>ag d) λf=>ep ?_;simp only[qn,gH,cY,x6]at e f;subst e;have q:(h.CW.set k (IntKind.i64.wrap (i+1)))[k]?=O (i+1):=by rw[fG M M];simp[p]
  have t:∀b h,Nx k (i+1) l.length h->T (IZ N (O k) l n b h) λr=>Nx k (i+1) l.length r.2:=λb h a=>abq k l g c n b (i+1) h M a M;refine aH M f λz u _=>aF (abo (k:=k) (v0:=i+1) (len:=l.length) hN z.args _ (c z u) (λb h a=>abp hN b _ t h a) _ ⟨_,q,M,M⟩) λy w=>ag ?_;obtain⟨v,q1,A,x⟩:=w;exact⟨v,q1,M,x⟩
theorem abr(l:Z kI)(a:l.length<=1048576)(b:∀s∈l,s.args.length<=1048576):T (UE N l) λ_=>True:=by
 have:T (I3 N l IV) λ_=>True:=by unfold I3;have c:((IV.CW++[0]).set IV.CW.length 0)[IV.CW.length]?=O (0:Int):=aE;refine ep ?_;simp only[aM];refine ZP aE λ_ _ _=>ep (aF (abq hN _ l a b N 0 0 _ M ⟨0,c,M,M⟩ M) λy d=>ao (λ_=>?_) λ_=>ag trivial);obtain⟨v,q1,f,g⟩:=d;rw[q1];exact ag trivial
 obtain⟨r,e,_⟩:=this;exact⟨r.1,by unfold UE;rw[e];rfl,trivial⟩
structure uf(x:kI):Prop where
 name:x.name.length<=1048576
 args:x.args.length<=1048576
structure OZ(x:cV):Prop where
 aw:x.aw.length<=1048576
 left:x.left.length<=1048576
 ag9:∀s∈x.left,uf s
 right:x.right.length<=1048576
 af9:∀s∈x.right,uf s
structure qD(c:dt):Prop where
 name:c.name.length<=1048576
 de:c.de.length<=1048576
 bl:c.bl.length<=1048576
 aha:∀p∈c.bl,p.name.length<=1048576
 bj:c.bj.length<=1048576
 ahg:∀p∈c.bj,p.role.length<=1048576
 ahh:∀p∈c.bj,p.aw.length<=1048576
 ab:c.ab.length<=1048576
 ahi:∀p∈c.ab,p.role.length<=1048576
 ahj:∀p∈c.ab,p.aw.length<=1048576
structure nF(l:cW):Prop where
 name:l.name.length<=1048576
 pZ:l.pZ.length<=1048576
 use:∀s∈l.pZ,s.length<=1048576
 br:l.br.length<=1048576
 aw:∀c∈l.br,qD c
 dx:l.dx.length<=1048576
 ahk:∀r∈l.dx,r.aw.length<=1048576
 ahl:∀r∈l.dx,r.name.length<=1048576
 equations:l.equations.length<=1048576
 Sy:∀q∈l.equations,OZ q
 dv:l.dv.length<=1048576
 ahm:∀d∈l.dv,d.aw.length<=1048576
 aga:∀d∈l.dv,d.cells.length<=1048576
 ch:l.ch.length<=1048576
 ahn:∀d∈l.ch,d.aw.length<=1048576
 agb:∀d∈l.ch,d.eb.length<=1048576
theorem abt(x y:dt):T (X8 N (x,y)) λ_=>True:=⟨_,rfl,trivial⟩
theorem Wy(x y:eR):T (UK N (x,y)) λ_=>True:=⟨_,rfl,trivial⟩
theorem Wz(x y:gp):T (UL N (x,y)) λ_=>True:=⟨_,rfl,trivial⟩
theorem WA(x y:fH):T (UN N (x,y)) λ_=>True:=⟨_,rfl,trivial⟩
theorem abu(x y:qy):T (UP N (x,y)) λ_=>True:=by unfold UP;apply aO<;>intro a;apply aO<;>intro a;exact aho;exact aho;exact aho
theorem abv(x y:er):T (Yg N (x,y)) λ_=>True:=⟨_,rfl,trivial⟩
theorem abw(x y:cC):T (Yj N (x,y)) λ_=>True:=⟨_,rfl,trivial⟩
theorem abx(i:Int)(s:cI)(l:cW)(c:nF l)(h0:0<=i)(e:i<l.pZ.length)(f:s.length<=1048576):T (UI N (i,s,l)) λ_=>True:=by have:=c.pZ;unfold UI;refine ap (j6 an _ an) λy a b=>?_;apply bZ<;>intro d;exact aho;apply aO<;>intro d;exact ap (Sw an _) λy a b=>aho;refine bY ?_ ?_;exact jJ;refine ap (VD an _ _ ?_) λy a b=>?_;exact jJ;exact ap (Sw an _) λy a b=>aho
set_option maxHeartbeats 4000000 in
theorem aby(l:Z dt)(c:dt)(u:l.length<=1048576)(t:qD c):T (UO N (l,c)) λr=>r.2=0->c.name≠[]:=by obtain⟨v,w,z,n,A,o,p,B,q,s⟩:=t;unfold UO;refine ap (j6 an _ an) λy b d=>?_;apply bZ<;>intro a;refine ag ?_;dsimp only;omega;refine ap (aa8 an _ _ M ?_) λy b d=>?_;intro x;intro x;refine dr (abt an _ _) λy b=>?_;trivial;apply ao<;>intro a;refine ag ?_;dsimp only;omega;apply ba<;>intro a;refine ap (j6 an _ an) λy b d=>?_;apply bZ<;>intro a;refine ag ?_;dsimp only;omega;apply aO<;>intro a;refine ag ?_;dsimp only;omega;refine ahq (λJ g=>?_) ?_;refine aP (λst=>0<=st.fst.snd/\st.fst.snd<=↑c.bl.length) (λst=>(↑c.bl.length-st.fst.snd).toNat) dY dY ?_;rintro rec ⟨⟨_,_⟩,_⟩ e h;dsimp only at e;dsimp only;obtain⟨j,k⟩:=e;apply a7<;>intro a;refine aH an an λx f m=>?_;have i:=n x f;apply aO<;>intro a;refine ag ?_;dsimp only;omega;refine ap (j6 an _ an) λy b d=>?_;apply bZ<;>intro a;refine ag ?_;dsimp only;omega;refine bY ?_ ?_;exact jJ;refine ap (Wv an _ _ ?_ ?_) λy b d=>?_;exact jJ;intro x;intro x;refine dr (Wy an _ _) λy b=>?_;trivial;apply ao<;>intro a;refine ag ?_;dsimp only;omega;apply a7<;>intro a;refine ag ?_;dsimp only;omega;apply a7<;>intro a;refine ag ?_;dsimp only;omega;exact h _ bt bt;exact g _;rintro⟨_,_⟩;refine ahq (λJ g=>?_) ?_;refine aP (λst=>0<=st.fst.snd/\st.fst.snd<=↑c.bj.length) (λst=>(↑c.bj.length-st.fst.snd).toNat) dY dY ?_;rintro rec ⟨⟨_,_⟩,_⟩ e h;dsimp only at e;dsimp only;obtain⟨j,k⟩:=e;apply a7<;>intro a;refine aH an an λx f m=>?_;have i:=o x f;have i:=p x f;apply aO<;>intro a;refine ag ?_;dsimp only;omega;refine ap (j6 an _ an) λy b d=>?_;apply bZ<;>intro a;refine ag ?_;dsimp only;omega;refine ap (j6 an _ an) λy b d=>?_;apply bZ<;>intro a;refine ag ?_;dsimp only;omega;refine bY ?_ ?_;exact jJ;refine ap (Ww an _ _ ?_ ?_) λy b d=>?_;exact jJ;intro x;intro x;refine dr (Wz an _ _) λy b=>?_;trivial;apply ao<;>intro a;refine ag ?_;dsimp only;omega;apply ba<;>intro a;refine ag ?_;dsimp only;omega;apply ba<;>intro a;refine ag ?_;dsimp only;omega;exact h _ bt bt;exact g _;rintro⟨_,_⟩;refine ahq (λJ g=>?_) ?_;refine aP (λst=>0<=st.fst.snd/\st.fst.snd<=↑c.ab.length) (λst=>(↑c.ab.length-st.fst.snd).toNat) dY dY ?_;rintro rec ⟨⟨_,_⟩,_⟩ e h;dsimp only at e;dsimp only;obtain⟨j,k⟩:=e;apply a7<;>intro a;refine aH an an λx f m=>?_;have i:=q x f;have i:=s x f;apply aO<;>intro a;refine ag ?_;dsimp only;omega;refine ap (j6 an _ an) λy b d=>?_;apply bZ<;>intro a;refine ag ?_;dsimp only;omega;refine ap (j6 an _ an) λy b d=>?_;apply bZ<;>intro a;refine ag ?_;dsimp only;omega;refine bY ?_ ?_;exact jJ;refine ap (Sx an _ _ ?_ ?_) λy b d=>?_;exact jJ;intro x;intro x;refine dr (WA an _ _) λy b=>?_;trivial;apply ao<;>intro a;refine ag ?_;dsimp only;omega;exact h _ bt bt;exact g _;rintro⟨_,_⟩;refine ag ?_;dsimp only;intro x;solve_by_elim (maxDepth:=3);apply aO<;>intro a;refine ag ?_;dsimp only;omega;refine ahq (λJ g=>?_) ?_;refine aP (λst=>0<=st.fst.snd/\st.fst.snd<=↑c.bl.length) (λst=>(↑c.bl.length-st.fst.snd).toNat) dY dY ?_;rintro rec ⟨⟨_,_⟩,_⟩ e h;dsimp only at e;dsimp only;obtain⟨j,k⟩:=e;apply a7<;>intro a;refine aH an an λx f m=>?_;have i:=n x f;apply aO<;>intro a;refine ag ?_;dsimp only;omega;refine ap (j6 an _ an) λy b d=>?_;apply bZ<;>intro a;refine ag ?_;dsimp only;omega;refine bY ?_ ?_;exact jJ;refine ap (Wv an _ _ ?_ ?_) λy b d=>?_;exact jJ;intro x;intro x;refine dr (Wy an _ _) λy b=>?_;trivial;apply ao<;>intro a;refine ag ?_;dsimp only;omega;apply a7<;>intro a;refine ag ?_;dsimp only;omega;apply a7<;>intro a;refine ag ?_;dsimp only;omega;exact h _ bt bt;exact g _;rintro⟨_,_⟩;refine ahq (λJ g=>?_) ?_;refine aP (λst=>0<=st.fst.snd/\st.fst.snd<=↑c.bj.length) (λst=>(↑c.bj.length-st.fst.snd).toNat) dY dY ?_;rintro rec ⟨⟨_,_⟩,_⟩ e h;dsimp only at e;dsimp only;obtain⟨j,k⟩:=e;apply a7<;>intro a;refine aH an an λx f m=>?_;have i:=o x f;have i:=p x f;apply aO<;>intro a;refine ag ?_;dsimp only;omega;refine ap (j6 an _ an) λy b d=>?_;apply bZ<;>intro a;refine ag ?_;dsimp only;omega;refine ap (j6 an _ an) λy b d=>?_;apply bZ<;>intro a;refine ag ?_;dsimp only;omega;refine bY ?_ ?_;exact jJ;refine ap (Ww an _ _ ?_ ?_) λy b d=>?_;exact jJ;intro x;intro x;refine dr (Wz an _ _) λy b=>?_;trivial;apply ao<;>intro a;refine ag ?_;dsimp only;omega;apply ba<;>intro a;refine ag ?_;dsimp only;omega;apply ba<;>intro a;refine ag ?_;dsimp only;omega;exact h _ bt bt;exact g _;rintro⟨_,_⟩;refine ahq (λJ g=>?_) ?_;refine aP (λst=>0<=st.fst.snd/\st.fst.snd<=↑c.ab.length) (λst=>(↑c.ab.length-st.fst.snd).toNat) dY dY ?_;rintro rec ⟨⟨_,_⟩,_⟩ e h;dsimp only at e;dsimp only;obtain⟨j,k⟩:=e;apply a7<;>intro a;refine aH an an λx f m=>?_;have i:=q x f;have i:=s x f;apply aO<;>intro a;refine ag ?_;dsimp only;omega;refine ap (j6 an _ an) λy b d=>?_;apply bZ<;>intro a;refine ag ?_;dsimp only;omega;refine ap (j6 an _ an) λy b d=>?_;apply bZ<;>intro a;refine ag ?_;dsimp only;omega;refine bY ?_ ?_;exact jJ;refine ap (Sx an _ _ ?_ ?_) λy b d=>?_;exact jJ;intro x;intro x;refine dr (WA an _ _) λy b=>?_;trivial;apply ao<;>intro a;refine ag ?_;dsimp only;omega;exact h _ bt bt;exact g _;rintro⟨_,_⟩;refine ag ?_;dsimp only;intro x;solve_by_elim (maxDepth:=3)
theorem WB(i:Int)(c:dt)(l:cW)(a:nF l)(h0:0<=i)(b:i<l.br.length)(d:qD c):T (OM N (i,c,l)) λr=>r.2=0->c.name≠[]:=by have:=a.br;unfold OM;refine bY ?_ ?_;exact jJ;refine ap (aby an _ _ ?_ ?_) λy e f=>?_;exact jJ;trivial;refine ag ?_;dsimp only;trivial
theorem abz(i:Int)(r:qy)(l:cW)(d:nF l)(h0:0<=i)(e:i<l.dx.length)(f:r.aw.length<=1048576)(g:r.name.length<=1048576):T (UQ N (i,r,l)) λ_=>True:=by have:=d.dx;unfold UQ;refine ap (j6 an _ an) λy a b=>?_;apply bZ<;>intro c;exact aho;refine ap (j6 an _ an) λy a b=>?_;apply bZ<;>intro c;exact aho;refine bY ?_ ?_;exact jJ;refine ap (Wx an _ _ ?_ ?_) λy a b=>?_;exact jJ;intro x;intro x;refine dr (abu an _ _) λy a=>?_;trivial;refine ap (Sw an _) λy a b=>?_;apply ba<;>intro c;exact aho;apply a7<;>intro c;exact aho;exact aho
theorem WC(l:Z kI)(m:l.length<=1048576)(d:∀s∈l,uf s):T (RM N l) λ_=>True:=by have h:=λs e=>(d s e).name;have i:=λs e=>(d s e).args;unfold RM;apply a7<;>intro a;exact aho;refine ahq (λJ b=>?_) ?_;refine ahp (↑l.length) λrec _ _ n o c=>?_;dsimp only;apply a7<;>intro a;refine aH an an λx f p=>have g:=d x f;have g:=h x f;have g:=i x f;ap (j6 an _ an) λy j k=>ahq (λJ b=>?_) ?_;apply aO<;>intro a;exact b _;exact b _;rintro⟨_,_⟩;apply a7<;>intro a;exact aho;apply a7<;>intro a;exact aho;apply bZ<;>intro a;simp only[aU]at a;exact aho;simp only[aU]at a;apply a7<;>intro a;exact aho;apply a7<;>intro a;apply ba<;>intro a;exact aho;apply a7<;>intro a;apply ba<;>intro a;exact aho;exact c _ dY dY;exact c _ bt bt;apply a7<;>intro a;apply ba<;>intro a;exact aho;exact c _ bt bt;exact c _ bt bt;exact b _;rintro⟨_,_⟩;refine ap (abr an _ an an) λy j k=>?_;apply bZ<;>intro a;exact aho;exact aho
theorem abA(i:Int)(q:cV)(c:OZ q):T (UR N (i,q)) λ_=>True:=by obtain⟨e,f,g,h,j⟩:=c;unfold UR;refine ap (j6 an _ an) λy a b=>?_;apply bZ<;>intro d;exact aho;refine ap (WC an _ an an) λy a b=>?_;apply ba<;>intro d;exact aho;exact ap (WC an _ an an) λy a b=>aho
theorem WD(s:cI)(b:tl)(n:Int)(f:Int->V (Int×Int))(m:Int)(j:s.length<=1048576)(h0:0<=n)(k:n<=1048576)(c:∀i,0<=i->i<n->T (f i) λ_=>True):T (RN N (s,b,n,f,m)) λ_=>True:=by unfold RN;refine ap (j6 an _ an) λy d e=>?_;apply bZ<;>intro a;exact aho;apply ao<;>intro a;exact aho;apply a7<;>intro a;exact aho;refine ahq (λJ g=>?_) ?_;refine ahp n λrec _ _ l o h=>?_;dsimp only;apply a7<;>intro a;refine ap (c _ an an) λy d e=>?_;apply a7<;>intro a;exact aho;apply a7<;>intro a;exact aho;apply a7<;>intro a;exact aho;exact h _ bt bt;exact g _;rintro⟨_,_⟩;exact aho
theorem abB(i:Int)(x:er)(h0:0<=i)(c:i<x.cells.length):T (UW N (i,x)) λ_=>True:=by unfold UW;exact aH an an λx a b=>aH an an λx a b=>aH an an λx a b=>aho
theorem abC(i:Int)(x:cC)(h0:0<=i)(c:i<x.eb.length):T (UZ N (i,x)) λ_=>True:=by unfold UZ;exact aH an an λx a b=>aH an an λx a b=>aH an an λx a b=>aho
theorem abD(i:Int)(x:er)(l:cW)(b:nF l)(h0:0<=i)(d:i<l.dv.length)(e:x.aw.length<=1048576)(f:x.cells.length<=1048576):T (UX N (i,x,l)) λ_=>True:=by have:=b.dv;unfold UX;refine bY ?_ ?_;exact jJ;refine ap (abd an _ _ ?_ ?_) λy a c=>?_;exact jJ;intro x;intro x;refine dr (abv an _ _) λy a=>?_;trivial;refine ap (WD an _ _ _ _ _ an M M ?_) λy a c=>?_;intro x;intro x;intro x;refine dr (abB an _ _ an an) λy a=>?_;trivial;exact aho
theorem abE(i:Int)(x:cC)(l:cW)(b:nF l)(h0:0<=i)(d:i<l.ch.length)(e:x.aw.length<=1048576)(f:x.eb.length<=1048576):T (Y0 N (i,x,l)) λ_=>True:=by have:=b.ch;unfold Y0;refine bY ?_ ?_;exact jJ;refine ap (abf an _ _ ?_ ?_) λy a c=>?_;exact jJ;intro x;intro x;refine dr (abw an _ _) λy a=>?_;trivial;refine ap (WD an _ _ _ _ _ an M M ?_) λy a c=>?_;intro x;intro x;intro x;refine dr (abC an _ _ an an) λy a=>?_;trivial;exact aho
theorem agc(l:cW)(g:nF l):T (Z2 N l) λr=>match r with
  |.ok _=>∀c∈l.br,c.name≠[]|.error e=>e.f.gd≠0:=by
 obtain⟨o,q,s,t,j,u,v,w,z,A,B,C,D,E,G,H⟩:=id g;unfold Z2;refine ap (j6 an _ an) λy a b=>ap (NC an _ _) λy a b=>oG (λy a=>?_) λy a=>?_;refine ag ?_;dsimp only;rotate_left;refine ap (NC an _ _) λy a b=>oG (λy a=>?_) λy a=>?_;refine ag ?_;dsimp only;rotate_left;refine ap (abh an _ _ _ _ an ?_) λy a b=>?_;intro x;intro x;intro x;intro x;intro x;refine dr (abx an _ _ _ an an an ?_) λy a=>?_;solve_by_elim (maxDepth:=3);trivial;dsimp only at b;refine oG (λy a=>?_) λy a=>?_;refine ag ?_;dsimp only;rotate_left;refine ap (abi an _ _ _ _ an ?_) λy a b=>?_;intro x;intro x;intro x;intro x;intro x;refine dr (WB an _ _ _ an an an ?_) λy a=>?_;solve_by_elim (maxDepth:=3);trivial;dsimp only at b;refine oG (λy a=>?_) λy a=>?_;refine ag ?_;dsimp only;rotate_left;refine ap (abj an _ _ _ _ an ?_) λy a b=>?_;intro x;intro x;intro x;intro x;intro x;refine dr (abz an _ _ _ an an an ?_ ?_) λy a=>?_;solve_by_elim (maxDepth:=3);solve_by_elim (maxDepth:=3);trivial;dsimp only at b;refine oG (λy a=>?_) λy a=>?_;refine ag ?_;dsimp only;rotate_left;refine ap (abk an _ _ _ _ an ?_) λy a b=>?_;intro x;intro x;intro x;intro x;intro x;refine dr (abA an _ _ ?_) λy a=>?_;solve_by_elim (maxDepth:=3);trivial;dsimp only at b;refine oG (λy a=>?_) λy a=>?_;refine ag ?_;dsimp only;rotate_left;refine ap (abl an _ _ _ _ an ?_) λy a b=>?_;intro x;intro x;intro x;intro x;intro x;refine dr (abD an _ _ _ an an an ?_ ?_) λy a=>?_;solve_by_elim (maxDepth:=3);solve_by_elim (maxDepth:=3);trivial;dsimp only at b;refine oG (λy a=>?_) λy a=>?_;refine ag ?_;dsimp only;rotate_left;refine ap (abm an _ _ _ _ an ?_) λy a b=>?_;intro x;intro x;intro x;intro x;intro x;refine dr (abE an _ _ _ an an an ?_ ?_) λy a=>?_;solve_by_elim (maxDepth:=3);solve_by_elim (maxDepth:=3);trivial;dsimp only at b;refine oG (λy a=>?_) λy a=>?_;refine ag ?_;dsimp only;rotate_left;refine ag ?_;dsimp only;intro x;intro x;rotate_left;iterate 2
  .rw[b]at a;split at a
   .cases a
   .cases a;simp
 iterate 6 (rw[a]at b;exact b)
 have d:∃y,oJ l.br (λ(x:Int×dt)=>OM N (x.1,x.2,l)) y/\y=Except.ok ():=⟨_,by assumption,by assumption⟩
 obtain⟨_,d,rfl⟩:=d;rename_i c;have h:=x;obtain⟨i,p,k,m,f⟩:=d c h;obtain⟨r,e,n⟩:=WB hN i c l g k m (j c h);have f:OM N (i,c,l)=O (p,0):=f;rw[f]at e;cases e;exact n rfl
theorem agd(l:cW)(b:nF l):T (Zi N l) λr=>r.gd=0->∀c∈l.br,c.name≠[]:=by
 unfold Zi;refine aF (agc hN l b) λr a=>?_;cases r with
 |error e=>exact ag λh=>absurd h a|ok u=>exact ag λ_=>a
end
end Go.Proofs.Mo
