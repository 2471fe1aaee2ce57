import Derived.Test.YtedadjfbbpjaiaaGreatZ26
set_option linter.all false
set_option maxRecDepth 20000
namespace Go.Proofs.Mo
open Go Go.Ev Go.X
variable{α:Type}{k:Nat}{v0 len:Int}{c:cN}
def qo{α:Type}(l:List α)(g:Int×α->Option (Int×Int))(r:Except l8 Unit):Prop:=match r with
 |.ok _=>∀x∈l,∃i p,0<=i/\i<(l.length:Int)/\g (i,x)=some (p,0)|.error e=>e.f.err≠0
def aaf{α:Type}(N:Nat)(a0 a1:Int)(a2:List α)(a3:Int×α->Option (Int×Int)):Option (Except l8 Unit):=aE (λafN((p19,_):(Int)×Unit)=>bif decide (p19<(a2.length:Int))then(aA a2 p19).bind λz20=>(sD N (decide (p19<a1),ia.mk a0 p19 0 4)).bind λy21=>B1 y21 (λe23=>some (Except.error e23)) λr22=>(a3 (p19,z20)).bind λy24=>(sD N (y24.2==0,ia.mk a0 p19 y24.1 y24.2)).bind λy25=>B1 y25 (λe27=>some (Except.error e27)) λr26=>afN ((IntKind.i64.wrap (p19+1)),())else some (Except.ok ())) N (0,())
def afO{α:Type}(N:Nat)(a0:List α)(a1:α->Option Bool):Option Int:=aM (λ(_:(Unit)×Unit)=>some (-1)) λJ10=>aE (λafP((p17,_):(Int)×Unit)=>bif decide (p17<(a0.length:Int))then(aA a0 p17).bind λz18=>(a1 z18).bind λy19=>bif y19 then some p17 else afP ((IntKind.i64.wrap (p17+1)),())else J10 ((),())) N (0,())
section
variable{N:Nat}(hN:1073741824<=N)
include hN
theorem LC(l:List α)(g:α->Option Bool)(hl:l.length<=536870912)(hg:∀x,x∈l->T (g x) λ_=>True):T (afO N l g) λr=>-1<=r/\r<l.length:=by
 unfold afO;refine aj (λ_=>True) (λJ hJ=>?_) ?_;refine aG (λst=>0<=st.fst/\st.fst<=↑l.length) (λst=>(↑l.length-st.fst).toNat) ?_ ?_ ?_;omega;omega;rintro rec ⟨_,_⟩ hI aH;dsimp only at hI;dsimp only;obtain⟨j8,iV⟩:=hI;refine bg (λhb=>?_) λhb=>?_;refine aw ?_ ?_ λx hx bV=>?_;trivial;trivial;have hk:=hg x hx;refine ag (hg _ ?_) λy hy cI=>?_;trivial;refine af (λhb=>?_) λhb=>?_;refine aa ?_;omega;apply aH;dsimp only
 (simp(disch:=omega)only[bq]at*;omega);dsimp only
 (simp(disch:=omega)only[bq]at*;omega);apply hJ;dsimp only;rintro⟨_,_⟩ hR;refine aa ?_;omega
theorem P8(b:Bool)(f:ia):T (sD N (b,f)) λr=>r=if b then .ok ()else .error ⟨f⟩:=by cases b<;>exact ⟨_,rfl,rfl⟩
theorem aag(a:Int):T (Vc N a) λ_=>True:=by unfold Vc;refine kp (λhb=>?_) λhb=>?_;refine kp (λhb=>?_) λhb=>?_;refine aa ?_;dsimp only;refine kp (λhb=>?_) λhb=>?_;refine aa ?_;dsimp only;refine aa ?_;dsimp only;refine kp (λhb=>?_) λhb=>?_;refine aa ?_;dsimp only;refine aa ?_;dsimp only
theorem mb(s:bE)(hs:s.length<=1048576):T (pJ N s) λr=>r=true->s≠[]:=by
 unfold pJ;refine cb (λhb=>?_) λhb=>?_;refine aa ?_;simp(disch:=omega) [bq,bi]at*;refine bg (λhb=>?_) λhb=>?_;refine aa ?_;simp(disch:=omega) [bq,bi]at*;refine aw ?_ ?_ λx hx bV=>?_;trivial;omega;refine ag (aag ?_ _) λy hy cI=>?_;trivial;refine cA (λhb=>?_) λhb=>?_;refine aa ?_;simp(disch:=omega) [bq,bi]at*;refine aj (λ_=>True) (λJ hJ=>?_) ?_;refine aG (λst=>0<=st.fst/\st.fst<=↑(List.length s)) (λst=>(↑(List.length s)-st.fst).toNat) ?_ ?_ ?_;omega;omega;rintro rec ⟨_,_⟩ hI aH;dsimp only at hI;dsimp only;obtain⟨j8,iV⟩:=hI;refine bg (λhb=>?_) λhb=>?_;refine aw ?_ ?_ λx hx bV=>?_;trivial;trivial;refine ag (aag ?_ _) λy hy cI=>?_;trivial;refine cA (λhb=>?_) λhb=>?_;refine bg (λhb=>?_) λhb=>?_;refine bL (λhb=>?_) λhb=>?_;refine aa ?_;simp(disch:=omega) [bq,bi]at*;apply aH;dsimp only;omega;dsimp only;omega;refine bg (λhb=>?_) λhb=>?_;refine bL (λhb=>?_) λhb=>?_;refine aa ?_;simp(disch:=omega) [bq,bi]at*;apply aH;dsimp only
 (simp(disch:=omega)only[bq]at*;omega);dsimp only
 (simp(disch:=omega)only[bq]at*;omega);apply aH;dsimp only
 (simp(disch:=omega)only[bq]at*;omega);dsimp only
 (simp(disch:=omega)only[bq]at*;omega);apply aH;dsimp only
 (simp(disch:=omega)only[bq]at*;omega);dsimp only
 (simp(disch:=omega)only[bq]at*;omega);apply hJ;dsimp only;rintro⟨_,_⟩ hR;refine aa ?_
 (simp(disch:=omega) [bq,bi]at*;omega);all_goals(intro _ e;subst e;simp at*)
theorem afQ(l:List bE)(a:bE)(hl:l.length<=1048576):T (Ym N (l,a)) λr=>-1<=r/\r<l.length:=by
 unfold Ym;refine aj (λ_=>True) (λJ hJ=>?_) ?_;refine aG (λst=>0<=st.fst/\st.fst<=↑l.length) (λst=>(↑l.length-st.fst).toNat) ?_ ?_ ?_;omega;omega;rintro rec ⟨_,_⟩ hI aH;dsimp only at hI;dsimp only;obtain⟨j8,iV⟩:=hI;refine bg (λhb=>?_) λhb=>?_;refine aw ?_ ?_ λx hx bV=>?_;trivial;trivial;refine cb (λhb=>?_) λhb=>?_;refine aa ?_;omega;apply aH;dsimp only
 (simp(disch:=omega)only[bq]at*;omega);dsimp only
 (simp(disch:=omega)only[bq]at*;omega);apply hJ;dsimp only;rintro⟨_,_⟩ hR;refine aa ?_;omega
theorem Za(l:List bE)(a:bE)(hl:l.length<=1048576):T (F72 N (l,a)) λr=>True:=by unfold F72;refine ag (afQ ?_ _ _ ?_) λy hy cI=>?_;trivial;trivial;refine aa ?_;dsimp only
theorem VQ(b:Bool):T (RL N b) λr=>True:=by unfold RL;refine af (λhb=>?_) λhb=>?_;refine aa ?_;dsimp only;refine aa ?_;dsimp only
theorem Hc(a b:Int)(l:List α)(g:Int×α->Option (Int×Int))(hl:l.length<=1048576)(hg:∀i x,0<=i->i<(l.length:Int)->x∈l->T (g (i,x)) λ_=>True):T (aaf N a b l g) (qo l g):=by
 unfold aaf;refine aG (λs=>0<=s.1/\s.1<=l.length/\∀j:Nat,(j:Int)<s.1->∀x,l[j]?=some x->∃i p,0<=i/\i<(l.length:Int)/\g (i,x)=some (p,0)) (λs=>(l.length-s.1).toNat) ⟨by simp,by simp,λj hj=>by simp at hj;omega⟩ (by dsimp only;omega) ?_;rintro rec ⟨p,u⟩ ⟨h1,h2,h3⟩ aH;dsimp only at h1 h2 h3;refine bg (λhb=>?_) λhb=>?_;refine aw ?_ ?_ λx hx bV=>?_;trivial;trivial;refine ag (P8 ?_ _ _) λy hy cI=>?_;trivial;refine qn (λy hy=>?_) λy hy=>?_;refine aa ?_;rotate_left;refine ag (hg _ _ ?_ ?_ ?_) λy hy cI=>?_;trivial;trivial;trivial;refine ag (P8 ?_ _ _) λy hy cI=>?_;trivial;refine qn (λy hy=>?_) λy hy=>?_;refine aa ?_;rotate_left;apply aH;dsimp only;rotate_left;dsimp only
 (simp(disch:=omega)only[bq]at*;omega);refine aa ?_;rotate_left
 ·rw[cI]at hy;split at hy
  ·cases hy
  ·cases hy;simp[qo]
 ·rw[cI]at hy;split at hy
  ·cases hy
  ·rename_i h0;cases hy;simpa[qo]using h0
 ·rename_i y1 Mb z1 y2 AX;have L2:=bV;rw[cI]at hy;split at hy
  ·rename_i h0;rw[bq (by omega) (by omega)];refine⟨by omega,by omega,λj hj x' bV=>?_⟩;by_cases e:(j:Int)=p
   ·have e:p.toNat=j:=by omega
    rw[e]at L2;rw[L2]at bV;cases bV;exact⟨p,y1.1,h1,hb,by rw[Mb];simp only[fc]at h0;rw[<-h0]⟩
   ·exact h3 j (by omega) x' bV
  ·cases hy
 ·intro x hx;obtain⟨j,hj,rfl⟩:=fR hx;exact h3 j (by omega) _ (cq hj)
theorem afR(l:List fj)(g:fj->Option Bool)(hl:l.length<=536870912)(hg:∀x,x∈l->T (g x) λ_=>True):T (abU N (l,g)) λr=>-1<=r/\r<l.length:=LC hN l g hl hg
theorem VR(l:List fj)(g:fj->Option Bool)(hl:l.length<=536870912)(hg:∀x,x∈l->T (g x) λ_=>True):T (RM N (l,g)) λ_=>True:=by unfold RM;refine ag (afR ?_ _ _ ?_ ?_) λy hy cI=>?_;trivial;trivial;trivial;refine aa ?_;dsimp only
theorem afS(l:List cN)(g:cN->Option Bool)(hl:l.length<=536870912)(hg:∀x,x∈l->T (g x) λ_=>True):T (abV N (l,g)) λr=>-1<=r/\r<l.length:=LC hN l g hl hg
theorem afT(l:List cN)(g:cN->Option Bool)(hl:l.length<=536870912)(hg:∀x,x∈l->T (g x) λ_=>True):T (Yo N (l,g)) λ_=>True:=by unfold Yo;refine ag (afS ?_ _ _ ?_ ?_) λy hy cI=>?_;trivial;trivial;trivial;refine aa ?_;dsimp only
theorem afU(l:List dR)(g:dR->Option Bool)(hl:l.length<=536870912)(hg:∀x,x∈l->T (g x) λ_=>True):T (abX N (l,g)) λr=>-1<=r/\r<l.length:=LC hN l g hl hg
theorem aah(l:List dR)(g:dR->Option Bool)(hl:l.length<=536870912)(hg:∀x,x∈l->T (g x) λ_=>True):T (Vd N (l,g)) λ_=>True:=by unfold Vd;refine ag (afU ?_ _ _ ?_ ?_) λy hy cI=>?_;trivial;trivial;trivial;refine aa ?_;dsimp only
theorem afV(l:List cg)(g:cg->Option Bool)(hl:l.length<=536870912)(hg:∀x,x∈l->T (g x) λ_=>True):T (abY N (l,g)) λr=>-1<=r/\r<l.length:=LC hN l g hl hg
theorem aai(l:List cg)(g:cg->Option Bool)(hl:l.length<=536870912)(hg:∀x,x∈l->T (g x) λ_=>True):T (Ve N (l,g)) λ_=>True:=by unfold Ve;refine ag (afV ?_ _ _ ?_ ?_) λy hy cI=>?_;trivial;trivial;trivial;refine aa ?_;dsimp only
theorem afW(l:List rm)(g:rm->Option Bool)(hl:l.length<=536870912)(hg:∀x,x∈l->T (g x) λ_=>True):T (ab0 N (l,g)) λr=>-1<=r/\r<l.length:=LC hN l g hl hg
theorem aaj(l:List rm)(g:rm->Option Bool)(hl:l.length<=536870912)(hg:∀x,x∈l->T (g x) λ_=>True):T (Vf N (l,g)) λ_=>True:=by unfold Vf;refine ag (afW ?_ _ _ ?_ ?_) λy hy cI=>?_;trivial;trivial;trivial;refine aa ?_;dsimp only
theorem afX(l:List dw)(g:dw->Option Bool)(hl:l.length<=536870912)(hg:∀x,x∈l->T (g x) λ_=>True):T (ab3 N (l,g)) λr=>-1<=r/\r<l.length:=LC hN l g hl hg
theorem afY(l:List dw)(g:dw->Option Bool)(hl:l.length<=536870912)(hg:∀x,x∈l->T (g x) λ_=>True):T (Yw N (l,g)) λ_=>True:=by unfold Yw;refine ag (afX ?_ _ _ ?_ ?_) λy hy cI=>?_;trivial;trivial;trivial;refine aa ?_;dsimp only
theorem afZ(l:List cp)(g:cp->Option Bool)(hl:l.length<=536870912)(hg:∀x,x∈l->T (g x) λ_=>True):T (ab6 N (l,g)) λr=>-1<=r/\r<l.length:=LC hN l g hl hg
theorem af0(l:List cp)(g:cp->Option Bool)(hl:l.length<=536870912)(hg:∀x,x∈l->T (g x) λ_=>True):T (Yz N (l,g)) λ_=>True:=by unfold Yz;refine ag (afZ ?_ _ _ ?_ ?_) λy hy cI=>?_;trivial;trivial;trivial;refine aa ?_;dsimp only
theorem af1(l:List bT)(g:bT->Option Bool)(hl:l.length<=536870912)(hg:∀x,x∈l->T (g x) λ_=>True):T (ach N (l,g)) λr=>-1<=r/\r<l.length:=LC hN l g hl hg
theorem alg(l:List bT)(g:bT->Option Bool)(hl:l.length<=536870912)(hg:∀x,x∈l->T (g x) λ_=>True):T (F64 N (l,g)) λ_=>True:=by unfold F64;refine ag (af1 ?_ _ _ ?_ ?_) λy hy cI=>?_;trivial;trivial;trivial;refine aa ?_;dsimp only
theorem af2(a b:Int)(l:List bE)(g:Int×bE->Option (Int×Int))(hl:l.length<=1048576)(hg:∀i x,0<=i->i<(l.length:Int)->x∈l->T (g (i,x)) λ_=>True):T (abS N (a,b,l,g)) (qo l g):=Hc hN a b l g hl hg
theorem af3(a b:Int)(l:List cN)(g:Int×cN->Option (Int×Int))(hl:l.length<=1048576)(hg:∀i x,0<=i->i<(l.length:Int)->x∈l->T (g (i,x)) λ_=>True):T (abT N (a,b,l,g)) (qo l g):=Hc hN a b l g hl hg
theorem af4(a b:Int)(l:List rm)(g:Int×rm->Option (Int×Int))(hl:l.length<=1048576)(hg:∀i x,0<=i->i<(l.length:Int)->x∈l->T (g (i,x)) λ_=>True):T (abZ N (a,b,l,g)) (qo l g):=Hc hN a b l g hl hg
theorem af5(a b:Int)(l:List cC)(g:Int×cC->Option (Int×Int))(hl:l.length<=1048576)(hg:∀i x,0<=i->i<(l.length:Int)->x∈l->T (g (i,x)) λ_=>True):T (ab1 N (a,b,l,g)) (qo l g):=Hc hN a b l g hl hg
theorem af6(a b:Int)(l:List dw)(g:Int×dw->Option (Int×Int))(hl:l.length<=1048576)(hg:∀i x,0<=i->i<(l.length:Int)->x∈l->T (g (i,x)) λ_=>True):T (ab2 N (a,b,l,g)) (qo l g):=Hc hN a b l g hl hg
theorem af7(a b:Int)(l:List cp)(g:Int×cp->Option (Int×Int))(hl:l.length<=1048576)(hg:∀i x,0<=i->i<(l.length:Int)->x∈l->T (g (i,x)) λ_=>True):T (ab5 N (a,b,l,g)) (qo l g):=Hc hN a b l g hl hg
def Nx(k:Nat)(v0 len:Int)(h:Hp):Prop:=∃v,h.En[k]?=some v/\v0<=v/\v<=len
theorem af8(l:List Int)(f:Int->Hp->Option (Bool×Hp))(hl:l.length<=1048576)(hf:∀i h,Nx k v0 len h->T (f i h) λr=>Nx k v0 len r.2)(h:Hp)(hh:Nx k v0 len h):T (Yf N (l,f) h) λr=>Nx k v0 len r.2:=by
 unfold Yf;refine aj (λs=>Nx k v0 len s.2) (λJ hJ=>?_) (λx hx=>aa hx);refine aG (λs=>0<=s.1/\s.1<=l.length/\Nx k v0 len s.2) (λs=>(l.length-s.1).toNat) ⟨by simp,by simp,hh⟩ (by dsimp only;omega) ?_;rintro rec ⟨p,u⟩ ⟨h1,h2,h3⟩ aH;dsimp only at h1 h2 h3;refine bg (λhb=>?_) λhb=>?_;refine aw ?_ ?_ λx hx bV=>?_;trivial;trivial;refine ag (hf _ _ ?_) λy hy cI=>?_;trivial;refine af (λhb=>?_) λhb=>?_;refine aa ?_;dsimp only;trivial;apply aH;dsimp only;rotate_left;dsimp only
 (simp(disch:=omega)only[bq]at*;omega);apply hJ;dsimp only;trivial;rw[bq (by omega) (by omega)];exact⟨by omega,by omega,cI⟩
theorem af9(l:List Int)(f:Int->Hp->Option (Bool×Hp))(hl:l.length<=1048576)(hf:∀i h,Nx k v0 len h->T (f i h) λr=>Nx k v0 len r.2)(h:Hp)(hh:Nx k v0 len h):T (Yg N (l,f) h) λr=>Nx k v0 len r.2:=by unfold Yg;refine ag (af8 hN l f hl hf h hh) λy hy cI=>?_;refine aa ?_;dsimp only;trivial
theorem aga(i:Int)(f:Int->Hp->Option (Bool×Hp))(hf:∀i h,Nx k v0 len h->T (f i h) λr=>Nx k v0 len r.2)(h:Hp)(hh:Nx k v0 len h):T (Yh N (i,f) h) λr=>Nx k v0 len r.2:=by unfold Yh;refine ag (hf _ _ ?_) λy hy cI=>?_;trivial;refine aa ?_;dsimp only;trivial
theorem agb(k:Nat)(l:List l7)(hl:l.length<=1048576)(jq:∀s∈l,s.args.length<=1048576):∀(n:Nat)(i:Int)(v0:Int)(h:Hp),0<=v0->Nx k v0 l.length h->(l.length-v0).toNat<n->T (Lu N (some k) l n i h) λr=>Nx k v0 l.length r.2
 |0,i,v0,h,_,hh,hm=>by omega|n+1,i,v0,h,h0,hh,hm=>by
  show T (Yi N (i,some k,l,Lu N (some k) l n) h) _;obtain⟨v,hv,h1,h2⟩:=hh;have hk:k<h.En.length:=(aV.1 hv).1;have dN:Nx k v0 l.length h:=⟨v,hv,h1,h2⟩
  unfold Yi;simp only[aU,hv];refine af (λ_=>aa dN) λe=>af (λ_=>aa dN) λh3=>eJ ?_;simp only[mF,fc,bz,Hb]at e h3;subst e;have hn:(h.En.set k (IntKind.i64.wrap (i+1)))[k]?=some (i+1):=by rw[bq (by omega) (by omega)];simp[hk]
  have ih:∀i' h,Nx k (i+1) l.length h->T (Lu N (some k) l n i' h) λr=>Nx k (i+1) l.length r.2:=λi' h hh=>agb k l hl jq n i' (i+1) h (by omega) hh (by omega);refine aw (by omega) h3 λz hz _=>an (af9 (k:=k) (v0:=i+1) (len:=l.length) hN z.args _ (jq z hz) (λi' h hh=>aga hN i' _ ih h hh) _ ⟨_,hn,by omega,by omega⟩) λy hy=>aa ?_;obtain⟨v,q1,q2,q3⟩:=hy;exact⟨v,q1,by omega,q3⟩
theorem agc(l:List l7)(hl:l.length<=1048576)(jq:∀s∈l,s.args.length<=1048576):T (Yk N l) λ_=>True:=by
 have:T (Lv N l Pv) λ_=>True:=by
  unfold Lv;have hn:((Pv.En++[0]).set Pv.En.length 0)[Pv.En.length]?=some (0:Int):=by simp
  refine eJ ?_;simp only[aU];refine afM (by simp) λ_ _ _=>eJ (an (agb hN _ l hl jq N 0 0 _ (by omega) ⟨0,hn,by omega,by omega⟩ (by omega)) λy hy=>af (λ_=>?_) λ_=>aa trivial);obtain⟨v,q1,q2,q3⟩:=hy;rw[q1];exact aa trivial
 obtain⟨r,hr,_⟩:=this;exact⟨r.1,by unfold Yk;rw[hr];rfl,trivial⟩
structure wF(x:l7):Prop where
 name:x.name.length<=1048576
 args:x.args.length<=1048576
structure R4(x:cC):Prop where
 ab:x.ab.length<=1048576
 left:x.left.length<=1048576
 am1:∀s∈x.left,wF s
 right:x.right.length<=1048576
 right':∀s∈x.right,wF s
structure sr(c:cN):Prop where
 name:c.name.length<=1048576
 cQ:c.cQ.length<=1048576
 aW:c.aW.length<=1048576
 am2:∀p∈c.aW,p.name.length<=1048576
 kids:c.kids.length<=1048576
 anh:∀p∈c.kids,p.role.length<=1048576
 ani:∀p∈c.kids,p.ab.length<=1048576
 refs:c.refs.length<=1048576
 anj:∀p∈c.refs,p.role.length<=1048576
 ank:∀p∈c.refs,p.ab.length<=1048576
structure pC(l:bT):Prop where
 name:l.name.length<=1048576
 rZ:l.rZ.length<=1048576
 use:∀s∈l.rZ,s.length<=1048576
 aQ:l.aQ.length<=1048576
 ab:∀c∈l.aQ,sr c
 rules:l.rules.length<=1048576
 anl:∀r∈l.rules,r.ab.length<=1048576
 anm:∀r∈l.rules,r.name.length<=1048576
 equations:l.equations.length<=1048576
 VS:∀q∈l.equations,R4 q
 c8:l.c8.length<=1048576
 ann:∀d∈l.c8,d.ab.length<=1048576
 alh:∀d∈l.c8,d.cells.length<=1048576
 cd:l.cd.length<=1048576
 ano:∀d∈l.cd,d.ab.length<=1048576
 ali:∀d∈l.cd,d.pieces.length<=1048576
theorem agd(x y:cN):T (abW N (x,y)) λ_=>True:=⟨_,rfl,trivial⟩
theorem aak(x y:dR):T (Yp N (x,y)) λ_=>True:=⟨_,rfl,trivial⟩
theorem aal(x y:cg):T (Yq N (x,y)) λ_=>True:=⟨_,rfl,trivial⟩
theorem aam(x y:fj):T (Yr N (x,y)) λ_=>True:=⟨_,rfl,trivial⟩
theorem age(x y:rm):T (Yt N (x,y)) λ_=>True:=by unfold Yt;refine cb (λhb=>?_) λhb=>?_;refine cb (λhb=>?_) λhb=>?_;refine aa ?_;dsimp only;refine aa ?_;dsimp only;refine aa ?_;dsimp only
theorem agf(x y:dw):T (ab4 N (x,y)) λ_=>True:=⟨_,rfl,trivial⟩
theorem agh(x y:cp):T (ab7 N (x,y)) λ_=>True:=⟨_,rfl,trivial⟩
theorem agi(i:Int)(s:bE)(l:bT)(hl:pC l)(h0:0<=i)(h1:i<l.rZ.length)(hs:s.length<=1048576):T (Yn N (i,s,l)) λ_=>True:=by
 have:=hl.rZ;unfold Yn;refine ag (mb ?_ _ ?_) λy hy cI=>?_;trivial;trivial;refine cA (λhb=>?_) λhb=>?_;refine aa ?_;dsimp only;refine cb (λhb=>?_) λhb=>?_;refine ag (VQ ?_ _) λy hy cI=>?_;trivial;refine aa ?_;dsimp only;refine bO ?_ ?_
 (simp(disch:=omega) [bq,bi]at*;omega);refine ag (Za ?_ _ _ ?_) λy hy cI=>?_;trivial
 (simp(disch:=omega) [bq,bi]at*;omega);refine ag (VQ ?_ _) λy hy cI=>?_;trivial;refine aa ?_;dsimp only
set_option maxHeartbeats 4000000 in
theorem agj(l:List cN)(c:cN)(hl:l.length<=1048576)(hc:sr c):T (Ys N (l,c)) λr=>r.2=0->c.name≠[]:=by
 obtain⟨h1,h2,h3,h4,h5,h6,h7,h8,h9,tf⟩:=hc;unfold Ys;refine ag (mb ?_ _ ?_) λy hy cI=>?_;trivial;trivial;refine cA (λhb=>?_) λhb=>?_;refine aa ?_;dsimp only;omega;refine ag (afT ?_ _ _ ?_ ?_) λy hy cI=>?_;trivial;omega;intro x;intro x;refine dG (agd ?_ _ _) λy hy=>?_;trivial;trivial;refine af (λhb=>?_) λhb=>?_;refine aa ?_;dsimp only;omega;refine bL (λhb=>?_) λhb=>?_;refine ag (mb ?_ _ ?_) λy hy cI=>?_;trivial;trivial;refine cA (λhb=>?_) λhb=>?_;refine aa ?_;dsimp only;omega;refine cb (λhb=>?_) λhb=>?_;refine aa ?_;dsimp only;omega;refine aj (λ_=>True) (λJ hJ=>?_) ?_;refine aG (λst=>0<=st.fst.snd/\st.fst.snd<=↑c.aW.length) (λst=>(↑c.aW.length-st.fst.snd).toNat) ?_ ?_ ?_
 (dsimp only;omega)
 (dsimp only;omega);rintro rec ⟨⟨_,_⟩,_⟩ hI aH;dsimp only at hI;dsimp only;obtain⟨j8,iV⟩:=hI;refine bg (λhb=>?_) λhb=>?_;refine aw ?_ ?_ λx hx bV=>?_;trivial;trivial;have hk:=h4 x hx;refine cb (λhb=>?_) λhb=>?_;refine aa ?_;dsimp only;omega;refine ag (mb ?_ _ ?_) λy hy cI=>?_;trivial;trivial;refine cA (λhb=>?_) λhb=>?_;refine aa ?_;dsimp only;omega;refine bO ?_ ?_
 (simp(disch:=omega) [bq,bi]at*;omega);refine ag (aah ?_ _ _ ?_ ?_) λy hy cI=>?_;trivial
 (simp(disch:=omega) [bq,bi]at*;omega);intro x;intro x;refine dG (aak ?_ _ _) λy hy=>?_;trivial;trivial;refine af (λhb=>?_) λhb=>?_;refine aa ?_;dsimp only;omega;refine bg (λhb=>?_) λhb=>?_;refine aa ?_;dsimp only;omega;refine bg (λhb=>?_) λhb=>?_;refine aa ?_;dsimp only;omega;apply aH;dsimp only
 (simp(disch:=omega)only[bq]at*;omega);dsimp only
 (simp(disch:=omega)only[bq]at*;omega);apply hJ;dsimp only;rintro⟨_,_⟩ hR;refine aj (λ_=>True) (λJ hJ=>?_) ?_;refine aG (λst=>0<=st.fst.snd/\st.fst.snd<=↑c.kids.length) (λst=>(↑c.kids.length-st.fst.snd).toNat) ?_ ?_ ?_
 (dsimp only;omega)
 (dsimp only;omega);rintro rec ⟨⟨_,_⟩,_⟩ hI aH;dsimp only at hI;dsimp only;obtain⟨j8,iV⟩:=hI;refine bg (λhb=>?_) λhb=>?_;refine aw ?_ ?_ λx hx bV=>?_;trivial;trivial;have hk:=h6 x hx;have hk:=h7 x hx;refine cb (λhb=>?_) λhb=>?_;refine aa ?_;dsimp only;omega;refine ag (mb ?_ _ ?_) λy hy cI=>?_;trivial;trivial;refine cA (λhb=>?_) λhb=>?_;refine aa ?_;dsimp only;omega;refine ag (mb ?_ _ ?_) λy hy cI=>?_;trivial;trivial;refine cA (λhb=>?_) λhb=>?_;refine aa ?_;dsimp only;omega;refine bO ?_ ?_
 (simp(disch:=omega) [bq,bi]at*;omega);refine ag (aai ?_ _ _ ?_ ?_) λy hy cI=>?_;trivial
 (simp(disch:=omega) [bq,bi]at*;omega);intro x;intro x;refine dG (aal ?_ _ _) λy hy=>?_;trivial;trivial;refine af (λhb=>?_) λhb=>?_;refine aa ?_;dsimp only;omega;refine bL (λhb=>?_) λhb=>?_;refine aa ?_;dsimp only;omega;refine bL (λhb=>?_) λhb=>?_;refine aa ?_;dsimp only;omega;apply aH;dsimp only
 (simp(disch:=omega)only[bq]at*;omega);dsimp only
 (simp(disch:=omega)only[bq]at*;omega);apply hJ;dsimp only;rintro⟨_,_⟩ hR;refine aj (λ_=>True) (λJ hJ=>?_) ?_;refine aG (λst=>0<=st.fst.snd/\st.fst.snd<=↑c.refs.length) (λst=>(↑c.refs.length-st.fst.snd).toNat) ?_ ?_ ?_
 (dsimp only;omega)
 (dsimp only;omega);rintro rec ⟨⟨_,_⟩,_⟩ hI aH;dsimp only at hI;dsimp only;obtain⟨j8,iV⟩:=hI;refine bg (λhb=>?_) λhb=>?_;refine aw ?_ ?_ λx hx bV=>?_;trivial;trivial;have hk:=h9 x hx;have hk:=tf x hx;refine cb (λhb=>?_) λhb=>?_;refine aa ?_;dsimp only;omega;refine ag (mb ?_ _ ?_) λy hy cI=>?_;trivial;trivial;refine cA (λhb=>?_) λhb=>?_;refine aa ?_;dsimp only;omega;refine ag (mb ?_ _ ?_) λy hy cI=>?_;trivial;trivial;refine cA (λhb=>?_) λhb=>?_;refine aa ?_;dsimp only;omega;refine bO ?_ ?_
 (simp(disch:=omega) [bq,bi]at*;omega);refine ag (VR ?_ _ _ ?_ ?_) λy hy cI=>?_;trivial
 (simp(disch:=omega) [bq,bi]at*;omega);intro x;intro x;refine dG (aam ?_ _ _) λy hy=>?_;trivial;trivial;refine af (λhb=>?_) λhb=>?_;refine aa ?_;dsimp only;omega;apply aH;dsimp only
 (simp(disch:=omega)only[bq]at*;omega);dsimp only
 (simp(disch:=omega)only[bq]at*;omega);apply hJ;dsimp only;rintro⟨_,_⟩ hR;refine aa ?_;dsimp only;intro x;solve_by_elim (maxDepth:=3);refine cb (λhb=>?_) λhb=>?_;refine aa ?_;dsimp only;omega;refine aj (λ_=>True) (λJ hJ=>?_) ?_;refine aG (λst=>0<=st.fst.snd/\st.fst.snd<=↑c.aW.length) (λst=>(↑c.aW.length-st.fst.snd).toNat) ?_ ?_ ?_
 (dsimp only;omega)
 (dsimp only;omega);rintro rec ⟨⟨_,_⟩,_⟩ hI aH;dsimp only at hI;dsimp only;obtain⟨j8,iV⟩:=hI;refine bg (λhb=>?_) λhb=>?_;refine aw ?_ ?_ λx hx bV=>?_;trivial;trivial;have hk:=h4 x hx;refine cb (λhb=>?_) λhb=>?_;refine aa ?_;dsimp only;omega;refine ag (mb ?_ _ ?_) λy hy cI=>?_;trivial;trivial;refine cA (λhb=>?_) λhb=>?_;refine aa ?_;dsimp only;omega;refine bO ?_ ?_
 (simp(disch:=omega) [bq,bi]at*;omega);refine ag (aah ?_ _ _ ?_ ?_) λy hy cI=>?_;trivial
 (simp(disch:=omega) [bq,bi]at*;omega);intro x;intro x;refine dG (aak ?_ _ _) λy hy=>?_;trivial;trivial;refine af (λhb=>?_) λhb=>?_;refine aa ?_;dsimp only;omega;refine bg (λhb=>?_) λhb=>?_;refine aa ?_;dsimp only;omega;refine bg (λhb=>?_) λhb=>?_;refine aa ?_;dsimp only;omega;apply aH;dsimp only
 (simp(disch:=omega)only[bq]at*;omega);dsimp only
 (simp(disch:=omega)only[bq]at*;omega);apply hJ;dsimp only;rintro⟨_,_⟩ hR;refine aj (λ_=>True) (λJ hJ=>?_) ?_;refine aG (λst=>0<=st.fst.snd/\st.fst.snd<=↑c.kids.length) (λst=>(↑c.kids.length-st.fst.snd).toNat) ?_ ?_ ?_
 (dsimp only;omega)
 (dsimp only;omega);rintro rec ⟨⟨_,_⟩,_⟩ hI aH;dsimp only at hI;dsimp only;obtain⟨j8,iV⟩:=hI;refine bg (λhb=>?_) λhb=>?_;refine aw ?_ ?_ λx hx bV=>?_;trivial;trivial;have hk:=h6 x hx;have hk:=h7 x hx;refine cb (λhb=>?_) λhb=>?_;refine aa ?_;dsimp only;omega;refine ag (mb ?_ _ ?_) λy hy cI=>?_;trivial;trivial;refine cA (λhb=>?_) λhb=>?_;refine aa ?_;dsimp only;omega;refine ag (mb ?_ _ ?_) λy hy cI=>?_;trivial;trivial;refine cA (λhb=>?_) λhb=>?_;refine aa ?_;dsimp only;omega;refine bO ?_ ?_
 (simp(disch:=omega) [bq,bi]at*;omega);refine ag (aai ?_ _ _ ?_ ?_) λy hy cI=>?_;trivial
 (simp(disch:=omega) [bq,bi]at*;omega);intro x;intro x;refine dG (aal ?_ _ _) λy hy=>?_;trivial;trivial;refine af (λhb=>?_) λhb=>?_;refine aa ?_;dsimp only;omega;refine bL (λhb=>?_) λhb=>?_;refine aa ?_;dsimp only;omega;refine bL (λhb=>?_) λhb=>?_;refine aa ?_;dsimp only;omega;apply aH;dsimp only
 (simp(disch:=omega)only[bq]at*;omega);dsimp only
 (simp(disch:=omega)only[bq]at*;omega);apply hJ;dsimp only;rintro⟨_,_⟩ hR;refine aj (λ_=>True) (λJ hJ=>?_) ?_;refine aG (λst=>0<=st.fst.snd/\st.fst.snd<=↑c.refs.length) (λst=>(↑c.refs.length-st.fst.snd).toNat) ?_ ?_ ?_
 (dsimp only;omega)
 (dsimp only;omega);rintro rec ⟨⟨_,_⟩,_⟩ hI aH;dsimp only at hI;dsimp only;obtain⟨j8,iV⟩:=hI;refine bg (λhb=>?_) λhb=>?_;refine aw ?_ ?_ λx hx bV=>?_;trivial;trivial;have hk:=h9 x hx;have hk:=tf x hx;refine cb (λhb=>?_) λhb=>?_;refine aa ?_;dsimp only;omega;refine ag (mb ?_ _ ?_) λy hy cI=>?_;trivial;trivial;refine cA (λhb=>?_) λhb=>?_;refine aa ?_;dsimp only;omega;refine ag (mb ?_ _ ?_) λy hy cI=>?_;trivial;trivial;refine cA (λhb=>?_) λhb=>?_;refine aa ?_;dsimp only;omega;refine bO ?_ ?_
 (simp(disch:=omega) [bq,bi]at*;omega);refine ag (VR ?_ _ _ ?_ ?_) λy hy cI=>?_;trivial
 (simp(disch:=omega) [bq,bi]at*;omega);intro x;intro x;refine dG (aam ?_ _ _) λy hy=>?_;trivial;trivial;refine af (λhb=>?_) λhb=>?_;refine aa ?_;dsimp only;omega;apply aH;dsimp only
 (simp(disch:=omega)only[bq]at*;omega);dsimp only
 (simp(disch:=omega)only[bq]at*;omega);apply hJ;dsimp only;rintro⟨_,_⟩ hR;refine aa ?_;dsimp only;intro x;solve_by_elim (maxDepth:=3)
theorem aan(i:Int)(c:cN)(l:bT)(hl:pC l)(h0:0<=i)(h1:i<l.aQ.length)(hc:sr c):T (RN N (i,c,l)) λr=>r.2=0->c.name≠[]:=by
 have:=hl.aQ;unfold RN;refine bO ?_ ?_
 (simp(disch:=omega) [bq,bi]at*;omega);refine ag (agj ?_ _ _ ?_ ?_) λy hy cI=>?_;trivial
 (simp(disch:=omega) [bq,bi]at*;omega);trivial;refine aa ?_;dsimp only;trivial
theorem agk(i:Int)(r:rm)(l:bT)(hl:pC l)(h0:0<=i)(h1:i<l.rules.length)(hc:r.ab.length<=1048576)(kA:r.name.length<=1048576):T (Yu N (i,r,l)) λ_=>True:=by
 have:=hl.rules;unfold Yu;refine ag (mb ?_ _ ?_) λy hy cI=>?_;trivial;trivial;refine cA (λhb=>?_) λhb=>?_;refine aa ?_;dsimp only;refine ag (mb ?_ _ ?_) λy hy cI=>?_;trivial;trivial;refine cA (λhb=>?_) λhb=>?_;refine aa ?_;dsimp only;refine bO ?_ ?_
 (simp(disch:=omega) [bq,bi]at*;omega);refine ag (aaj ?_ _ _ ?_ ?_) λy hy cI=>?_;trivial
 (simp(disch:=omega) [bq,bi]at*;omega);intro x;intro x;refine dG (age ?_ _ _) λy hy=>?_;trivial;trivial;refine ag (VQ ?_ _) λy hy cI=>?_;trivial;refine bL (λhb=>?_) λhb=>?_;refine aa ?_;dsimp only;refine bg (λhb=>?_) λhb=>?_;refine aa ?_;dsimp only;refine aa ?_;dsimp only
theorem aao(l:List l7)(hl:l.length<=1048576)(jq:∀s∈l,wF s):T (Vg N l) λ_=>True:=by
 have h1:=λs hs=>(jq s hs).name;have h2:=λs hs=>(jq s hs).args;unfold Vg;refine bg (λhb=>?_) λhb=>?_;refine aa ?_;dsimp only;refine aj (λ_=>True) (λJ hJ=>?_) ?_;refine aG (λst=>0<=st.fst/\st.fst<=↑l.length) (λst=>(↑l.length-st.fst).toNat) ?_ ?_ ?_;omega;omega;rintro rec ⟨_,_⟩ hI aH;dsimp only at hI;dsimp only;obtain⟨j8,iV⟩:=hI;refine bg (λhb=>?_) λhb=>?_;refine aw ?_ ?_ λx hx bV=>?_;trivial;trivial;have hk:=jq x hx;have hk:=h1 x hx;have hk:=h2 x hx;refine ag (mb ?_ _ ?_) λy hy cI=>?_;trivial;trivial;refine aj (λ_=>True) (λJ hJ=>?_) ?_;refine cb (λhb=>?_) λhb=>?_;apply hJ;dsimp only;apply hJ;dsimp only;rintro⟨_,_⟩ hR;refine bg (λhb=>?_) λhb=>?_;refine aa ?_;dsimp only;refine bg (λhb=>?_) λhb=>?_;refine aa ?_;dsimp only;refine cA (λhb=>?_) λhb=>?_;simp only[az]at hb;refine aa ?_;dsimp only;simp only[az]at hb;refine bg (λhb=>?_) λhb=>?_;refine aa ?_;dsimp only;refine bg (λhb=>?_) λhb=>?_;refine bL (λhb=>?_) λhb=>?_;refine aa ?_;dsimp only;refine bg (λhb=>?_) λhb=>?_;refine bL (λhb=>?_) λhb=>?_;refine aa ?_;dsimp only;apply aH;dsimp only;omega;dsimp only;omega;apply aH;dsimp only
 (simp(disch:=omega)only[bq]at*;omega);dsimp only
 (simp(disch:=omega)only[bq]at*;omega);refine bg (λhb=>?_) λhb=>?_;refine bL (λhb=>?_) λhb=>?_;refine aa ?_;dsimp only;apply aH;dsimp only
 (simp(disch:=omega)only[bq]at*;omega);dsimp only
 (simp(disch:=omega)only[bq]at*;omega);apply aH;dsimp only
 (simp(disch:=omega)only[bq]at*;omega);dsimp only
 (simp(disch:=omega)only[bq]at*;omega);apply hJ;dsimp only;rintro⟨_,_⟩ hR;refine ag (agc ?_ _ ?_ ?_) λy hy cI=>?_;trivial;trivial;trivial;refine cA (λhb=>?_) λhb=>?_;refine aa ?_;dsimp only;refine aa ?_;dsimp only
theorem agl(i:Int)(q:cC)(hq:R4 q):T (Yv N (i,q)) λ_=>True:=by obtain⟨h1,h2,h3,h4,h5⟩:=hq;unfold Yv;refine ag (mb ?_ _ ?_) λy hy cI=>?_;trivial;trivial;refine cA (λhb=>?_) λhb=>?_;refine aa ?_;dsimp only;refine ag (aao ?_ _ ?_ ?_) λy hy cI=>?_;trivial;trivial;trivial;refine bL (λhb=>?_) λhb=>?_;refine aa ?_;dsimp only;refine ag (aao ?_ _ ?_ ?_) λy hy cI=>?_;trivial;trivial;trivial;refine aa ?_;dsimp only
theorem aap(s:bE)(b:Bool)(n:Int)(f:Int->Option (Int×Int))(m:Int)(hs:s.length<=1048576)(h0:0<=n)(hn:n<=1048576)(hf:∀i,0<=i->i<n->T (f i) λ_=>True):T (Vh N (s,b,n,f,m)) λ_=>True:=by
 unfold Vh;refine ag (mb ?_ _ ?_) λy hy cI=>?_;trivial;trivial;refine cA (λhb=>?_) λhb=>?_;refine aa ?_;dsimp only;refine af (λhb=>?_) λhb=>?_;refine aa ?_;dsimp only;refine bg (λhb=>?_) λhb=>?_;refine aa ?_;dsimp only;refine aj (λ_=>True) (λJ hJ=>?_) ?_;refine aG (λst=>0<=st.fst/\st.fst<=n) (λst=>(n-st.fst).toNat) ?_ ?_ ?_;omega;omega;rintro rec ⟨_,_⟩ hI aH;dsimp only at hI;dsimp only;obtain⟨j8,iV⟩:=hI;refine bg (λhb=>?_) λhb=>?_;refine ag (hf _ ?_ ?_) λy hy cI=>?_;trivial;trivial;refine bg (λhb=>?_) λhb=>?_;refine aa ?_;dsimp only;refine bg (λhb=>?_) λhb=>?_;refine aa ?_;dsimp only;refine bg (λhb=>?_) λhb=>?_;refine aa ?_;dsimp only;apply aH;dsimp only
 (simp(disch:=omega)only[bq]at*;omega);dsimp only
 (simp(disch:=omega)only[bq]at*;omega);apply hJ;dsimp only;rintro⟨_,_⟩ hR;refine aa ?_;dsimp only
theorem agm(i:Int)(x:dw)(h0:0<=i)(h1:i<x.cells.length):T (Yx N (i,x)) λ_=>True:=by unfold Yx;refine aw ?_ ?_ λx hx bV=>?_;trivial;trivial;refine aw ?_ ?_ λx hx bV=>?_;trivial;trivial;refine aw ?_ ?_ λx hx bV=>?_;trivial;trivial;refine aa ?_;dsimp only
theorem agn(i:Int)(x:cp)(h0:0<=i)(h1:i<x.pieces.length):T (YA N (i,x)) λ_=>True:=by unfold YA;refine aw ?_ ?_ λx hx bV=>?_;trivial;trivial;refine aw ?_ ?_ λx hx bV=>?_;trivial;trivial;refine aw ?_ ?_ λx hx bV=>?_;trivial;trivial;refine aa ?_;dsimp only
theorem ago(i:Int)(x:dw)(l:bT)(hl:pC l)(h0:0<=i)(h1:i<l.c8.length)(hc:x.ab.length<=1048576)(kA:x.cells.length<=1048576):T (Yy N (i,x,l)) λ_=>True:=by
 have:=hl.c8;unfold Yy;refine bO ?_ ?_
 (simp(disch:=omega) [bq,bi]at*;omega);refine ag (afY ?_ _ _ ?_ ?_) λy hy cI=>?_;trivial
 (simp(disch:=omega) [bq,bi]at*;omega);intro x;intro x;refine dG (agf ?_ _ _) λy hy=>?_;trivial;trivial;refine ag (aap ?_ _ _ _ _ _ ?_ ?_ ?_ ?_) λy hy cI=>?_;trivial;trivial;omega;omega;intro x;intro x;intro x;refine dG (agm ?_ _ _ ?_ ?_) λy hy=>?_;trivial;trivial;trivial;trivial;refine aa ?_;dsimp only
theorem agp(i:Int)(x:cp)(l:bT)(hl:pC l)(h0:0<=i)(h1:i<l.cd.length)(hc:x.ab.length<=1048576)(kA:x.pieces.length<=1048576):T (YB N (i,x,l)) λ_=>True:=by
 have:=hl.cd;unfold YB;refine bO ?_ ?_
 (simp(disch:=omega) [bq,bi]at*;omega);refine ag (af0 ?_ _ _ ?_ ?_) λy hy cI=>?_;trivial
 (simp(disch:=omega) [bq,bi]at*;omega);intro x;intro x;refine dG (agh ?_ _ _) λy hy=>?_;trivial;trivial;refine ag (aap ?_ _ _ _ _ _ ?_ ?_ ?_ ?_) λy hy cI=>?_;trivial;trivial;omega;omega;intro x;intro x;intro x;refine dG (agn ?_ _ _ ?_ ?_) λy hy=>?_;trivial;trivial;trivial;trivial;refine aa ?_;dsimp only
theorem alj(l:bT)(hl:pC l):T (C63 N l) λr=>match r with
  |.ok _=>∀c∈l.aQ,c.name≠[]|.error e=>e.f.err≠0:=by
 obtain⟨h1,h2,h3,h4,h5,h6,h7,h8,h9,tf,Hw,JB,Rx,Sr,Ul,Um⟩:=id hl;unfold C63;refine ag (mb ?_ _ ?_) λy hy cI=>?_;trivial;trivial;refine ag (P8 ?_ _ _) λy hy cI=>?_;trivial;refine qn (λy hy=>?_) λy hy=>?_;refine aa ?_;dsimp only;rotate_left;refine ag (P8 ?_ _ _) λy hy cI=>?_;trivial;refine qn (λy hy=>?_) λy hy=>?_;refine aa ?_;dsimp only;rotate_left;refine ag (af2 ?_ _ _ _ _ ?_ ?_) λy hy cI=>?_;trivial;trivial;intro x;intro x;intro x;intro x;intro x;refine dG (agi ?_ _ _ _ ?_ ?_ ?_ ?_) λy hy=>?_;trivial;trivial;trivial;trivial;solve_by_elim (maxDepth:=3);trivial;dsimp only at cI;refine qn (λy hy=>?_) λy hy=>?_;refine aa ?_;dsimp only;rotate_left;refine ag (af3 ?_ _ _ _ _ ?_ ?_) λy hy cI=>?_;trivial;trivial;intro x;intro x;intro x;intro x;intro x;refine dG (aan ?_ _ _ _ ?_ ?_ ?_ ?_) λy hy=>?_;trivial;trivial;trivial;trivial;solve_by_elim (maxDepth:=3);trivial;dsimp only at cI;refine qn (λy hy=>?_) λy hy=>?_;refine aa ?_;dsimp only;rotate_left;refine ag (af4 ?_ _ _ _ _ ?_ ?_) λy hy cI=>?_;trivial;trivial;intro x;intro x;intro x;intro x;intro x;refine dG (agk ?_ _ _ _ ?_ ?_ ?_ ?_ ?_) λy hy=>?_;trivial;trivial;trivial;trivial;solve_by_elim (maxDepth:=3);solve_by_elim (maxDepth:=3);trivial;dsimp only at cI;refine qn (λy hy=>?_) λy hy=>?_;refine aa ?_;dsimp only;rotate_left;refine ag (af5 ?_ _ _ _ _ ?_ ?_) λy hy cI=>?_;trivial;trivial;intro x;intro x;intro x;intro x;intro x;refine dG (agl ?_ _ _ ?_) λy hy=>?_;trivial;solve_by_elim (maxDepth:=3);trivial;dsimp only at cI;refine qn (λy hy=>?_) λy hy=>?_;refine aa ?_;dsimp only;rotate_left;refine ag (af6 ?_ _ _ _ _ ?_ ?_) λy hy cI=>?_;trivial;trivial;intro x;intro x;intro x;intro x;intro x;refine dG (ago ?_ _ _ _ ?_ ?_ ?_ ?_ ?_) λy hy=>?_;trivial;trivial;trivial;trivial;solve_by_elim (maxDepth:=3);solve_by_elim (maxDepth:=3);trivial;dsimp only at cI;refine qn (λy hy=>?_) λy hy=>?_;refine aa ?_;dsimp only;rotate_left;refine ag (af7 ?_ _ _ _ _ ?_ ?_) λy hy cI=>?_;trivial;trivial;intro x;intro x;intro x;intro x;intro x;refine dG (agp ?_ _ _ _ ?_ ?_ ?_ ?_ ?_) λy hy=>?_;trivial;trivial;trivial;trivial;solve_by_elim (maxDepth:=3);solve_by_elim (maxDepth:=3);trivial;dsimp only at cI;refine qn (λy hy=>?_) λy hy=>?_;refine aa ?_;dsimp only;rotate_left;refine aa ?_;dsimp only;intro x;intro x;rotate_left;iterate 2
  ·rw[cI]at hy;split at hy
   ·cases hy
   ·cases hy;simp
 iterate 6 (rw[hy]at cI;exact cI)
 have jl:∃y,qo l.aQ (λ(x:Int×cN)=>RN N (x.1,x.2,l)) y/\y=Except.ok ():=⟨_,by assumption,by assumption⟩
 obtain⟨_,jl,rfl⟩:=jl;rename_i c;have hc:=x;obtain⟨i,p,k1,k2,k3⟩:=jl c hc;obtain⟨r,e,k4⟩:=aan hN i c l hl k1 k2 (h5 c hc);have k3:RN N (i,c,l)=some (p,0):=k3;rw[k3]at e;cases e;exact k4 rfl
theorem alk(l:bT)(hl:pC l):T (F63 N l) λr=>r.err=0->∀c∈l.aQ,c.name≠[]:=by
 unfold F63;refine an (alj hN l hl) λr hr=>?_;cases r with
 |error e=>exact aa λh=>absurd h hr|ok u=>exact aa λ_=>hr
end
section
variable{N:Nat}(hN:1073741824<=N)
include hN
theorem FG(a b c d e:Int):T (Sy N (a,b,c,d,e)) λr=>r.err=e:=⟨_,rfl,rfl⟩
theorem aaq(a:Int)(s:bE)(hs:s.length<=1048576):T (Vx N (a,s)) λ_=>True:=by
 unfold Vx;refine aj (λ_=>True) (λJ hJ=>?_) ?_;refine aG (λst=>0<=st.fst/\st.fst<=↑(List.length s)) (λst=>(↑(List.length s)-st.fst).toNat) ?_ ?_ ?_;omega;omega;rintro rec ⟨_,_⟩ hI aH;dsimp only at hI;dsimp only;obtain⟨j8,iV⟩:=hI;refine bg (λhb=>?_) λhb=>?_;refine aw ?_ ?_ λx hx bV=>?_;trivial;trivial;refine cb (λhb=>?_) λhb=>?_;refine aa ?_;dsimp only;apply aH;dsimp only
 (simp(disch:=omega)only[bq]at*;omega);dsimp only
 (simp(disch:=omega)only[bq]at*;omega);apply hJ;dsimp only;rintro⟨_,_⟩ hR;refine aa ?_;dsimp only
theorem wG(s:bE)(hs:s.length<=1048576):T (Jc N s) λ_=>True:=by
 unfold Jc;refine bg (λhb=>?_) λhb=>?_;refine aa ?_;dsimp only;refine bg (λhb=>?_) λhb=>?_;refine aa ?_;dsimp only;refine aw ?_ ?_ λx hx bV=>?_;trivial;trivial;refine ag (aaq ?_ _ _ ?_) λy hy cI=>?_;trivial;trivial;refine cA (λhb=>?_) λhb=>?_;refine aa ?_;dsimp only;refine aj (λ_=>True) (λJ hJ=>?_) ?_;refine aG (λst=>0<=st.fst/\st.fst<=↑(List.length s)) (λst=>(↑(List.length s)-st.fst).toNat) ?_ ?_ ?_;omega;omega;rintro rec ⟨_,_⟩ hI aH;dsimp only at hI;dsimp only;obtain⟨j8,iV⟩:=hI;refine bg (λhb=>?_) λhb=>?_;refine aw ?_ ?_ λx hx bV=>?_;trivial;trivial;refine ag (aaq ?_ _ _ ?_) λy hy cI=>?_;trivial;trivial;refine cA (λhb=>?_) λhb=>?_;refine aa ?_;dsimp only;apply aH;dsimp only
 (simp(disch:=omega)only[bq]at*;omega);dsimp only
 (simp(disch:=omega)only[bq]at*;omega);apply hJ;dsimp only;rintro⟨_,_⟩ hR;refine aa ?_;dsimp only
theorem LD(a b c d:Int):T (Vz N (a,b,c,d)) λ_=>True:=by unfold Vz;refine cb (λhb=>?_) λhb=>?_;refine aa ?_;dsimp only;refine aa ?_;dsimp only
theorem alm(l:bT)(i:Int)(hl:pC l)(h0:0<=i)(h1:i<l.rZ.length):T (F98 N (l,i)) λ_=>True:=by
 obtain⟨h1,h2,h3,h4,h5,h6,h7,h8,h9,tf,Hw,JB,Rx,Sr,Ul,Um⟩:=id hl;unfold F98;refine kp (λhb=>?_) λhb=>?_;refine aa ?_;dsimp only;refine aw ?_ ?_ λx hx bV=>?_;trivial;trivial;have hk:=h3 x hx;refine ag (wG ?_ _ ?_) λy hy cI=>?_;trivial;trivial;refine cA (λhb=>?_) λhb=>?_;refine aa ?_;dsimp only;refine aw ?_ ?_ λx hx bV=>?_;trivial;trivial;have hk:=h3 x hx;refine cb (λhb=>?_) λhb=>?_;refine aa ?_;dsimp only;refine aj (λ_=>True) (λJ hJ=>?_) ?_;refine aG (λst=>0<=st.fst/\st.fst<=i) (λst=>(i-st.fst).toNat) ?_ ?_ ?_;omega;omega;rintro rec ⟨_,_⟩ hI aH;dsimp only at hI;dsimp only;obtain⟨j8,iV⟩:=hI;refine bg (λhb=>?_) λhb=>?_;refine aw ?_ ?_ λx hx bV=>?_;trivial;omega;have hk:=h3 x hx;refine aw ?_ ?_ λx hx bV=>?_;trivial;trivial;have hk:=h3 x hx;refine cb (λhb=>?_) λhb=>?_;refine aa ?_;dsimp only;apply aH;dsimp only
 (simp(disch:=omega)only[bq]at*;omega);dsimp only
 (simp(disch:=omega)only[bq]at*;omega);apply hJ;dsimp only;rintro⟨_,_⟩ hR;refine aa ?_;dsimp only
theorem aar(c:cN)(i:Int)(hc:sr c)(h0:0<=i)(h1:i<c.aW.length):T (VA N (c,i)) λ_=>True:=by
 obtain⟨g1,g2,g3,g4,g5,g6,g7,g8,g9,g10⟩:=id hc;unfold VA;refine kp (λhb=>?_) λhb=>?_;refine aa ?_;dsimp only;refine aw ?_ ?_ λx hx bV=>?_;trivial;trivial;have hk:=g4 x hx;refine ag (wG ?_ _ ?_) λy hy cI=>?_;trivial;trivial;refine cA (λhb=>?_) λhb=>?_;refine aa ?_;dsimp only;refine aj (λ_=>True) (λJ hJ=>?_) ?_;refine aG (λst=>0<=st.fst/\st.fst<=i) (λst=>(i-st.fst).toNat) ?_ ?_ ?_;omega;omega;rintro rec ⟨_,_⟩ hI aH;dsimp only at hI;dsimp only;obtain⟨j8,iV⟩:=hI;refine bg (λhb=>?_) λhb=>?_;refine aw ?_ ?_ λx hx bV=>?_;trivial;omega;have hk:=g4 x hx;refine aw ?_ ?_ λx hx bV=>?_;trivial;trivial;have hk:=g4 x hx;refine cb (λhb=>?_) λhb=>?_;refine aa ?_;dsimp only;apply aH;dsimp only
 (simp(disch:=omega)only[bq]at*;omega);dsimp only
 (simp(disch:=omega)only[bq]at*;omega);apply hJ;dsimp only;rintro⟨_,_⟩ hR;refine aw ?_ ?_ λx hx bV=>?_;trivial;trivial;have hk:=g4 x hx;refine bg (λhb=>?_) λhb=>?_;refine aa ?_;dsimp only;refine aw ?_ ?_ λx hx bV=>?_;trivial;trivial;have hk:=g4 x hx;refine bg (λhb=>?_) λhb=>?_;refine aa ?_;dsimp only;refine aa ?_;dsimp only
theorem aas(c:cN)(i:Int)(hc:sr c)(h0:0<=i)(h1:i<c.kids.length):T (VB N (c,i)) λ_=>True:=by
 obtain⟨g1,g2,g3,g4,g5,g6,g7,g8,g9,g10⟩:=id hc;unfold VB;refine aw ?_ ?_ λx hx bV=>?_;trivial;trivial;have hk:=g6 x hx;have hk:=g7 x hx;refine kp (λhb=>?_) λhb=>?_;refine aa ?_;dsimp only;refine ag (wG ?_ _ ?_) λy hy cI=>?_;trivial;trivial;refine cA (λhb=>?_) λhb=>?_;refine aa ?_;dsimp only;refine ag (wG ?_ _ ?_) λy hy cI=>?_;trivial;trivial;refine cA (λhb=>?_) λhb=>?_;refine aa ?_;dsimp only;refine aj (λ_=>True) (λJ hJ=>?_) ?_;refine aG (λst=>0<=st.fst/\st.fst<=i) (λst=>(i-st.fst).toNat) ?_ ?_ ?_;omega;omega;rintro rec ⟨_,_⟩ hI aH;dsimp only at hI;dsimp only;obtain⟨j8,iV⟩:=hI;refine bg (λhb=>?_) λhb=>?_;refine aw ?_ ?_ λx hx bV=>?_;trivial;omega;have hk:=g6 x hx;have hk:=g7 x hx;refine cb (λhb=>?_) λhb=>?_;refine aa ?_;dsimp only;apply aH;dsimp only
 (simp(disch:=omega)only[bq]at*;omega);dsimp only
 (simp(disch:=omega)only[bq]at*;omega);apply hJ;dsimp only;rintro⟨_,_⟩ hR;refine bL (λhb=>?_) λhb=>?_;refine bL (λhb=>?_) λhb=>?_;refine aa ?_;dsimp only;refine bL (λhb=>?_) λhb=>?_;refine bL (λhb=>?_) λhb=>?_;refine aa ?_;dsimp only;refine aa ?_;dsimp only;refine aa ?_;dsimp only;refine bL (λhb=>?_) λhb=>?_;refine bL (λhb=>?_) λhb=>?_;refine aa ?_;dsimp only;refine aa ?_;dsimp only;refine aa ?_;dsimp only
theorem aat(c:cN)(i:Int)(hc:sr c)(h0:0<=i)(h1:i<c.refs.length):T (VC N (c,i)) λ_=>True:=by
 obtain⟨g1,g2,g3,g4,g5,g6,g7,g8,g9,g10⟩:=id hc;unfold VC;refine aw ?_ ?_ λx hx bV=>?_;trivial;trivial;have hk:=g9 x hx;have hk:=g10 x hx;refine kp (λhb=>?_) λhb=>?_;refine aa ?_;dsimp only;refine ag (wG ?_ _ ?_) λy hy cI=>?_;trivial;trivial;refine cA (λhb=>?_) λhb=>?_;refine aa ?_;dsimp only;refine ag (wG ?_ _ ?_) λy hy cI=>?_;trivial;trivial;refine cA (λhb=>?_) λhb=>?_;refine aa ?_;dsimp only;refine aj (λ_=>True) (λJ hJ=>?_) ?_;refine aG (λst=>0<=st.fst/\st.fst<=i) (λst=>(i-st.fst).toNat) ?_ ?_ ?_;omega;omega;rintro rec ⟨_,_⟩ hI aH;dsimp only at hI;dsimp only;obtain⟨j8,iV⟩:=hI;refine bg (λhb=>?_) λhb=>?_;refine aw ?_ ?_ λx hx bV=>?_;trivial;omega;have hk:=g9 x hx;have hk:=g10 x hx;refine cb (λhb=>?_) λhb=>?_;refine aa ?_;dsimp only;apply aH;dsimp only
 (simp(disch:=omega)only[bq]at*;omega);dsimp only
 (simp(disch:=omega)only[bq]at*;omega);apply hJ;dsimp only;rintro⟨_,_⟩ hR;refine aa ?_;dsimp only
theorem aln(l:bT)(i:Int)(hl:pC l)(h0:0<=i)(h1:i<l.aQ.length):T (F99 N (l,i)) λ_=>True:=by
 have h5:=hl.ab;have k1:=λc hc=>(h5 c hc).name;have k2:=λc hc=>(h5 c hc).cQ;have k3:=λc hc=>(h5 c hc).aW;have k4:=λc hc=>(h5 c hc).kids;have k5:=λc hc=>(h5 c hc).refs;have k6:=hl.aQ;unfold F99;refine aw h0 h1 λz hz JE=>?_;have hc:=h5 z hz;have k3:=hc.aW;have k4:=hc.kids;have k5:=hc.refs;refine kp (λhb=>?_) λhb=>?_;refine aa ?_;dsimp only;refine ag (wG ?_ _ ?_) λy hy cI=>?_;trivial;solve_by_elim (maxDepth:=3);refine cA (λhb=>?_) λhb=>?_;refine aa ?_;dsimp only;refine aj (λ_=>True) (λJ hJ=>?_) ?_;refine aG (λst=>0<=st.fst/\st.fst<=i) (λst=>(i-st.fst).toNat) ?_ ?_ ?_;omega;omega;rintro rec ⟨_,_⟩ hI aH;dsimp only at hI;dsimp only;obtain⟨j8,iV⟩:=hI;refine bg (λhb=>?_) λhb=>?_;refine aw ?_ ?_ λx hx bV=>?_;trivial;omega;have hk:=h5 x hx;have hk:=k1 x hx;have hk:=k2 x hx;refine cb (λhb=>?_) λhb=>?_;refine aa ?_;dsimp only;apply aH;dsimp only
 (simp(disch:=omega)only[bq]at*;omega);dsimp only
 (simp(disch:=omega)only[bq]at*;omega);apply hJ;dsimp only;rintro⟨_,_⟩ hR;refine bL (λhb=>?_) λhb=>?_;refine ag (wG ?_ _ ?_) λy hy cI=>?_;trivial;solve_by_elim (maxDepth:=3);refine cA (λhb=>?_) λhb=>?_;refine aa ?_;dsimp only;refine cb (λhb=>?_) λhb=>?_;refine aa ?_;dsimp only;refine aj (λ_=>True) (λJ hJ=>?_) ?_;refine aG (λst=>0<=st.fst/\st.fst<=↑z.aW.length) (λst=>(↑z.aW.length-st.fst).toNat) ?_ ?_ ?_;omega;omega;rintro rec ⟨_,_⟩ hI aH;dsimp only at hI;dsimp only;obtain⟨j8,iV⟩:=hI;refine bg (λhb=>?_) λhb=>?_;refine ag (aar ?_ _ _ ?_ ?_ ?_) λy hy cI=>?_;trivial;trivial;trivial;trivial;refine bL (λhb=>?_) λhb=>?_;refine aa ?_;dsimp only;apply aH;dsimp only
 (simp(disch:=omega)only[bq]at*;omega);dsimp only
 (simp(disch:=omega)only[bq]at*;omega);apply hJ;dsimp only;rintro⟨_,_⟩ hR;refine aj (λ_=>True) (λJ hJ=>?_) ?_;refine aG (λst=>0<=st.fst/\st.fst<=↑z.kids.length) (λst=>(↑z.kids.length-st.fst).toNat) ?_ ?_ ?_;omega;omega;rintro rec ⟨_,_⟩ hI aH;dsimp only at hI;dsimp only;obtain⟨j8,iV⟩:=hI;refine bg (λhb=>?_) λhb=>?_;refine ag (aas ?_ _ _ ?_ ?_ ?_) λy hy cI=>?_;trivial;trivial;trivial;trivial;refine bL (λhb=>?_) λhb=>?_;refine aa ?_;dsimp only;apply aH;dsimp only
 (simp(disch:=omega)only[bq]at*;omega);dsimp only
 (simp(disch:=omega)only[bq]at*;omega);apply hJ;dsimp only;rintro⟨_,_⟩ hR;refine aj (λ_=>True) (λJ hJ=>?_) ?_;refine aG (λst=>0<=st.fst/\st.fst<=↑z.refs.length) (λst=>(↑z.refs.length-st.fst).toNat) ?_ ?_ ?_;omega;omega;rintro rec ⟨_,_⟩ hI aH;dsimp only at hI;dsimp only;obtain⟨j8,iV⟩:=hI;refine bg (λhb=>?_) λhb=>?_;refine ag (aat ?_ _ _ ?_ ?_ ?_) λy hy cI=>?_;trivial;trivial;trivial;trivial;refine bL (λhb=>?_) λhb=>?_;refine aa ?_;dsimp only;apply aH;dsimp only
 (simp(disch:=omega)only[bq]at*;omega);dsimp only
 (simp(disch:=omega)only[bq]at*;omega);apply hJ;dsimp only;rintro⟨_,_⟩ hR;refine aa ?_;dsimp only;refine cb (λhb=>?_) λhb=>?_;refine aa ?_;dsimp only;refine aj (λ_=>True) (λJ hJ=>?_) ?_;refine aG (λst=>0<=st.fst/\st.fst<=↑z.aW.length) (λst=>(↑z.aW.length-st.fst).toNat) ?_ ?_ ?_;omega;omega;rintro rec ⟨_,_⟩ hI aH;dsimp only at hI;dsimp only;obtain⟨j8,iV⟩:=hI;refine bg (λhb=>?_) λhb=>?_;refine ag (aar ?_ _ _ ?_ ?_ ?_) λy hy cI=>?_;trivial;trivial;trivial;trivial;refine bL (λhb=>?_) λhb=>?_;refine aa ?_;dsimp only;apply aH;dsimp only
 (simp(disch:=omega)only[bq]at*;omega);dsimp only
 (simp(disch:=omega)only[bq]at*;omega);apply hJ;dsimp only;rintro⟨_,_⟩ hR;refine aj (λ_=>True) (λJ hJ=>?_) ?_;refine aG (λst=>0<=st.fst/\st.fst<=↑z.kids.length) (λst=>(↑z.kids.length-st.fst).toNat) ?_ ?_ ?_;omega;omega;rintro rec ⟨_,_⟩ hI aH;dsimp only at hI;dsimp only;obtain⟨j8,iV⟩:=hI;refine bg (λhb=>?_) λhb=>?_;refine ag (aas ?_ _ _ ?_ ?_ ?_) λy hy cI=>?_;trivial;trivial;trivial;trivial;refine bL (λhb=>?_) λhb=>?_;refine aa ?_;dsimp only;apply aH;dsimp only
 (simp(disch:=omega)only[bq]at*;omega);dsimp only
 (simp(disch:=omega)only[bq]at*;omega);apply hJ;dsimp only;rintro⟨_,_⟩ hR;refine aj (λ_=>True) (λJ hJ=>?_) ?_;refine aG (λst=>0<=st.fst/\st.fst<=↑z.refs.length) (λst=>(↑z.refs.length-st.fst).toNat) ?_ ?_ ?_;omega;omega;rintro rec ⟨_,_⟩ hI aH;dsimp only at hI;dsimp only;obtain⟨j8,iV⟩:=hI;refine bg (λhb=>?_) λhb=>?_;refine ag (aat ?_ _ _ ?_ ?_ ?_) λy hy cI=>?_;trivial;trivial;trivial;trivial;refine bL (λhb=>?_) λhb=>?_;refine aa ?_;dsimp only;apply aH;dsimp only
 (simp(disch:=omega)only[bq]at*;omega);dsimp only
 (simp(disch:=omega)only[bq]at*;omega);apply hJ;dsimp only;rintro⟨_,_⟩ hR;refine aa ?_;dsimp only
theorem agq(l:bT)(i:Int)(hl:pC l)(h0:0<=i)(h1:i<l.rules.length):T (YR N (l,i)) λ_=>True:=by
 obtain⟨h1,h2,h3,h4,h5,h6,h7,h8,h9,tf,Hw,JB,Rx,Sr,Ul,Um⟩:=id hl;unfold YR;refine aw ?_ ?_ λx hx bV=>?_;trivial;trivial;have hk:=h7 x hx;have hk:=h8 x hx;refine kp (λhb=>?_) λhb=>?_;refine aa ?_;dsimp only;refine ag (wG ?_ _ ?_) λy hy cI=>?_;trivial;trivial;refine cA (λhb=>?_) λhb=>?_;refine aa ?_;dsimp only;refine ag (wG ?_ _ ?_) λy hy cI=>?_;trivial;trivial;refine cA (λhb=>?_) λhb=>?_;refine aa ?_;dsimp only;refine aj (λ_=>True) (λJ hJ=>?_) ?_;refine aG (λst=>0<=st.fst/\st.fst<=i) (λst=>(i-st.fst).toNat) ?_ ?_ ?_;omega;omega;rintro rec ⟨_,_⟩ hI aH;dsimp only at hI;dsimp only;obtain⟨j8,iV⟩:=hI;refine bg (λhb=>?_) λhb=>?_;refine aw ?_ ?_ λx hx bV=>?_;trivial;omega;have hk:=h7 x hx;have hk:=h8 x hx;refine cb (λhb=>?_) λhb=>?_;refine cb (λhb=>?_) λhb=>?_;refine cb (λhb=>?_) λhb=>?_;refine aa ?_;dsimp only;apply aH;dsimp only
 (simp(disch:=omega)only[bq]at*;omega);dsimp only
 (simp(disch:=omega)only[bq]at*;omega);apply aH;dsimp only
 (simp(disch:=omega)only[bq]at*;omega);dsimp only
 (simp(disch:=omega)only[bq]at*;omega);apply aH;dsimp only
 (simp(disch:=omega)only[bq]at*;omega);dsimp only
 (simp(disch:=omega)only[bq]at*;omega);apply hJ;dsimp only;rintro⟨_,_⟩ hR;refine bg (λhb=>?_) λhb=>?_;refine aa ?_;dsimp only;refine aa ?_;dsimp only
theorem agr(l:List l7)(hl:l.length<=64)(jq:∀s∈l,wF s):T (YS N l) λ_=>True:=by
 unfold YS;refine aj (λ_=>True) (λJ hJ=>?_) (λx _=>aa trivial);refine aG (λs=>0<=s.1.2/\s.1.2<=l.length/\(s.1.1.length:Int)<=1+s.1.2*64) (λs=>(l.length-s.1.2).toNat) ⟨by simp,by simp,by simp⟩ (by dsimp only;omega) ?_;rintro rec ⟨⟨st,met⟩,u⟩ ⟨h1,h2,h3⟩ aH;dsimp only at h1 h2 h3;have hlen:(st.length:Int)<=4200:=by omega
 refine af (λhb=>?_) (λ_=>hJ _ trivial);simp only[az]at hb;rw[bq (by omega) (by omega)];refine aw (by omega) (by omega) λz hz _=>bO (by simp;omega) (af (λ_=>aa trivial) λe=>af (λ_=>aa trivial) λh4=>?_);simp only[mF,fc,bz,Hb]at e h4;subst e;refine aw h1 h4 λx hx bV=>af (λ_=>aa trivial) λh5=>aw h1 h4 λx' anp Zb=>?_;simp only[bz,fI]at h5;obtain rfl:x=x':=dc (bV.symm.trans Zb);rw[bq (x:=(x.args.length:Int)-1) (by omega) (by omega)];refine aG (λs=>-1<=s.1.2/\s.1.2<x.args.length/\(s.1.1.length:Int)<=st.length-1+(x.args.length-1-s.1.2)) (λs=>(s.1.2+1).toNat) ⟨by dsimp only;omega,by dsimp only;omega,by dsimp only;rw[my];omega⟩ (by dsimp only;omega) ?_;rintro Zc ⟨⟨st2,k⟩,u2⟩ ⟨k1,k2,k3⟩ yA;dsimp only at k1 k2 k3;refine af (λhb=>?_) (λhb=>?_)
 ·simp only[az]at hb;refine aw h1 h4 λx2 RX alo=>?_;obtain rfl:x=x2:=dc (bV.symm.trans alo);refine aw hb k2 λy _ _=>bO (bi (by simp;omega) (by simp;omega)) (yA _ ⟨?_,?_,?_⟩ ?_)<;>dsimp only<;>rw[bq (by omega) (by omega)]<;>(try simp)<;>omega
 ·simp only[bz,Hb]at hb;refine aH _ ⟨?_,?_,?_⟩ ?_<;>dsimp only<;>rw[bq (by omega) (by omega)]<;>omega
theorem aau(l:List l7)(hl:l.length<=1048576)(jq:∀s∈l,wF s):T (VD N l) λ_=>True:=by
 have h1:=λs hs=>(jq s hs).name;have h2:=λs hs=>(jq s hs).args;unfold VD;refine bg (λhb=>?_) λhb=>?_;refine aa ?_;dsimp only;refine aj (λ_=>True) (λJ hJ=>?_) ?_;refine aG (λst=>0<=st.fst/\st.fst<=↑l.length) (λst=>(↑l.length-st.fst).toNat) ?_ ?_ ?_;omega;omega;rintro rec ⟨_,_⟩ hI aH;dsimp only at hI;dsimp only;obtain⟨j8,iV⟩:=hI;refine bg (λhb=>?_) λhb=>?_;refine aw ?_ ?_ λx hx bV=>?_;trivial;trivial;have hk:=jq x hx;have hk:=h1 x hx;have hk:=h2 x hx;refine bg (λhb=>?_) λhb=>?_;refine aa ?_;dsimp only;refine bg (λhb=>?_) λhb=>?_;refine aa ?_;dsimp only;refine cb (λhb=>?_) λhb=>?_;refine bL (λhb=>?_) λhb=>?_;refine aa ?_;dsimp only;refine bL (λhb=>?_) λhb=>?_;contradiction;refine bg (λhb=>?_) λhb=>?_;refine aa ?_;dsimp only;refine bL (λhb=>?_) λhb=>?_;refine bL (λhb=>?_) λhb=>?_;refine aa ?_;dsimp only;refine bL (λhb=>?_) λhb=>?_;refine bg (λhb=>?_) λhb=>?_;refine aa ?_;dsimp only;apply aH;dsimp only
 (simp(disch:=omega)only[bq]at*;omega);dsimp only
 (simp(disch:=omega)only[bq]at*;omega);apply aH;dsimp only;omega;dsimp only;omega;refine bL (λhb=>?_) λhb=>?_;refine bg (λhb=>?_) λhb=>?_;refine aa ?_;dsimp only;apply aH;dsimp only;omega;dsimp only;omega;apply aH;dsimp only;omega;dsimp only;omega;refine bL (λhb=>?_) λhb=>?_;refine ag (wG ?_ _ ?_) λy hy cI=>?_;trivial;trivial;refine cA (λhb=>?_) λhb=>?_;refine aa ?_;dsimp only;refine bg (λhb=>?_) λhb=>?_;refine aa ?_;dsimp only;refine bL (λhb=>?_) λhb=>?_;refine bL (λhb=>?_) λhb=>?_;refine aa ?_;dsimp only;refine bL (λhb=>?_) λhb=>?_;refine bg (λhb=>?_) λhb=>?_;refine aa ?_;dsimp only;apply aH;dsimp only
 (simp(disch:=omega)only[bq]at*;omega);dsimp only
 (simp(disch:=omega)only[bq]at*;omega);apply aH;dsimp only
 (simp(disch:=omega)only[bq]at*;omega);dsimp only
 (simp(disch:=omega)only[bq]at*;omega);refine bL (λhb=>?_) λhb=>?_;refine bg (λhb=>?_) λhb=>?_;refine aa ?_;dsimp only;apply aH;dsimp only
 (simp(disch:=omega)only[bq]at*;omega);dsimp only
 (simp(disch:=omega)only[bq]at*;omega);apply aH;dsimp only;omega;dsimp only;omega;contradiction;apply hJ;dsimp only;rintro⟨_,_⟩ hR;refine ag (agr ?_ _ ?_ ?_) λy hy cI=>?_;trivial;omega;trivial;refine cA (λhb=>?_) λhb=>?_;refine aa ?_;dsimp only;refine aa ?_;dsimp only
theorem ags(q:cC)(i:Int)(hq:R4 q):T (YT N (q,i)) λ_=>True:=by obtain⟨h1,h2,h3,h4,h5⟩:=hq;unfold YT;refine kp (λhb=>?_) λhb=>?_;refine aa ?_;dsimp only;refine ag (wG ?_ _ ?_) λy hy cI=>?_;trivial;trivial;refine cA (λhb=>?_) λhb=>?_;refine aa ?_;dsimp only;refine ag (aau ?_ _ ?_ ?_) λy hy cI=>?_;trivial;trivial;trivial;refine bL (λhb=>?_) λhb=>?_;refine aa ?_;dsimp only;refine ag (aau ?_ _ ?_ ?_) λy hy cI=>?_;trivial;trivial;trivial;refine bL (λhb=>?_) λhb=>?_;refine aa ?_;dsimp only;refine aa ?_;dsimp only
theorem agt(l:bT)(i:Int)(hl:pC l)(h0:0<=i)(h1:i<l.c8.length):T (YU N (l,i)) λ_=>True:=by
 obtain⟨h1,h2,h3,h4,h5,h6,h7,h8,h9,tf,Hw,JB,Rx,Sr,Ul,Um⟩:=id hl;unfold YU;refine aw ?_ ?_ λx hx bV=>?_;trivial;trivial;have hk:=JB x hx;have hk:=Rx x hx;refine kp (λhb=>?_) λhb=>?_;refine aa ?_;dsimp only;refine ag (wG ?_ _ ?_) λy hy cI=>?_;trivial;trivial;refine cA (λhb=>?_) λhb=>?_;refine aa ?_;dsimp only;refine aj (λ_=>True) (λJ hJ=>?_) ?_;refine aG (λst=>0<=st.fst/\st.fst<=i) (λst=>(i-st.fst).toNat) ?_ ?_ ?_;omega;omega;rintro rec ⟨_,_⟩ hI aH;dsimp only at hI;dsimp only;obtain⟨j8,iV⟩:=hI;refine bg (λhb=>?_) λhb=>?_;refine aw ?_ ?_ λx hx bV=>?_;trivial;omega;have hk:=JB x hx;have hk:=Rx x hx;refine cb (λhb=>?_) λhb=>?_;refine aa ?_;dsimp only;apply aH;dsimp only
 (simp(disch:=omega)only[bq]at*;omega);dsimp only
 (simp(disch:=omega)only[bq]at*;omega);apply hJ;dsimp only;rintro⟨_,_⟩ hR;refine bg (λhb=>?_) λhb=>?_;refine aa ?_;dsimp only;refine aj (λ_=>True) (λJ hJ=>?_) ?_;refine aG (λst=>0<=st.fst/\st.fst<=↑x.cells.length) (λst=>(↑x.cells.length-st.fst).toNat) ?_ ?_ ?_;omega;omega;rintro rec ⟨_,_⟩ hI aH;dsimp only at hI;dsimp only;obtain⟨j8,iV⟩:=hI;refine bg (λhb=>?_) λhb=>?_;refine aw ?_ ?_ λx hx bV=>?_;trivial;trivial;refine bg (λhb=>?_) λhb=>?_;refine aa ?_;dsimp only;refine aw ?_ ?_ λx hx bV=>?_;trivial;trivial;refine bg (λhb=>?_) λhb=>?_;refine aa ?_;dsimp only;refine aw ?_ ?_ λx hx bV=>?_;trivial;trivial;refine aw ?_ ?_ λx hx bV=>?_;trivial;trivial;refine bg (λhb=>?_) λhb=>?_;refine aa ?_;dsimp only;apply aH;dsimp only
 (simp(disch:=omega)only[bq]at*;omega);dsimp only
 (simp(disch:=omega)only[bq]at*;omega);apply hJ;dsimp only;rintro⟨_,_⟩ hR;refine aa ?_;dsimp only
theorem agu(l:bT)(i:Int)(hl:pC l)(h0:0<=i)(h1:i<l.cd.length):T (YV N (l,i)) λ_=>True:=by
 obtain⟨h1,h2,h3,h4,h5,h6,h7,h8,h9,tf,Hw,JB,Rx,Sr,Ul,Um⟩:=id hl;unfold YV;refine aw ?_ ?_ λx hx bV=>?_;trivial;trivial;have hk:=Ul x hx;have hk:=Um x hx;refine kp (λhb=>?_) λhb=>?_;refine aa ?_;dsimp only;refine ag (wG ?_ _ ?_) λy hy cI=>?_;trivial;trivial;refine cA (λhb=>?_) λhb=>?_;refine aa ?_;dsimp only;refine aj (λ_=>True) (λJ hJ=>?_) ?_;refine aG (λst=>0<=st.fst/\st.fst<=i) (λst=>(i-st.fst).toNat) ?_ ?_ ?_;omega;omega;rintro rec ⟨_,_⟩ hI aH;dsimp only at hI;dsimp only;obtain⟨j8,iV⟩:=hI;refine bg (λhb=>?_) λhb=>?_;refine aw ?_ ?_ λx hx bV=>?_;trivial;omega;have hk:=Ul x hx;have hk:=Um x hx;refine cb (λhb=>?_) λhb=>?_;refine aa ?_;dsimp only;apply aH;dsimp only
 (simp(disch:=omega)only[bq]at*;omega);dsimp only
 (simp(disch:=omega)only[bq]at*;omega);apply hJ;dsimp only;rintro⟨_,_⟩ hR;refine bg (λhb=>?_) λhb=>?_;refine aa ?_;dsimp only;refine aj (λ_=>True) (λJ hJ=>?_) ?_;refine aG (λst=>0<=st.fst/\st.fst<=↑x.pieces.length) (λst=>(↑x.pieces.length-st.fst).toNat) ?_ ?_ ?_;omega;omega;rintro rec ⟨_,_⟩ hI aH;dsimp only at hI;dsimp only;obtain⟨j8,iV⟩:=hI;refine bg (λhb=>?_) λhb=>?_;refine aw ?_ ?_ λx hx bV=>?_;trivial;trivial;refine bg (λhb=>?_) λhb=>?_;refine aa ?_;dsimp only;refine aw ?_ ?_ λx hx bV=>?_;trivial;trivial;refine bg (λhb=>?_) λhb=>?_;refine aa ?_;dsimp only;refine aw ?_ ?_ λx hx bV=>?_;trivial;trivial;refine aw ?_ ?_ λx hx bV=>?_;trivial;trivial;refine bg (λhb=>?_) λhb=>?_;refine aa ?_;dsimp only;apply aH;dsimp only
 (simp(disch:=omega)only[bq]at*;omega);dsimp only
 (simp(disch:=omega)only[bq]at*;omega);apply hJ;dsimp only;rintro⟨_,_⟩ hR;refine aa ?_;dsimp only
theorem alp(l:bT)(hl:pC l):T (F39 N l) λ_=>True:=by
 obtain⟨h1,h2,h3,h4,h5,h6,h7,h8,h9,tf,Hw,JB,Rx,Sr,Ul,Um⟩:=id hl;unfold F39;refine ag (wG ?_ _ ?_) λy hy cI=>?_;trivial;trivial;refine cA (λhb=>?_) λhb=>?_;refine ag (LD ?_ _ _ _ _) λy hy cI=>?_;trivial;refine aa ?_;dsimp only;refine bg (λhb=>?_) λhb=>?_;refine ag (LD ?_ _ _ _ _) λy hy cI=>?_;trivial;refine aa ?_;dsimp only;refine aj (λ_=>True) (λJ hJ=>?_) ?_;refine aG (λst=>0<=st.fst/\st.fst<=↑l.rZ.length) (λst=>(↑l.rZ.length-st.fst).toNat) ?_ ?_ ?_;omega;omega;rintro rec ⟨_,_⟩ hI aH;dsimp only at hI;dsimp only;obtain⟨j8,iV⟩:=hI;refine bg (λhb=>?_) λhb=>?_;refine ag (alm ?_ _ _ ?_ ?_ ?_) λy hy cI=>?_;trivial;trivial;trivial;trivial;refine bL (λhb=>?_) λhb=>?_;refine ag (LD ?_ _ _ _ _) λy hy cI=>?_;trivial;refine aa ?_;dsimp only;apply aH;dsimp only
 (simp(disch:=omega)only[bq]at*;omega);dsimp only
 (simp(disch:=omega)only[bq]at*;omega);apply hJ;dsimp only;rintro⟨_,_⟩ hR;refine aj (λ_=>True) (λJ hJ=>?_) ?_;refine aG (λst=>0<=st.fst/\st.fst<=↑l.aQ.length) (λst=>(↑l.aQ.length-st.fst).toNat) ?_ ?_ ?_;omega;omega;rintro rec ⟨_,_⟩ hI aH;dsimp only at hI;dsimp only;obtain⟨j8,iV⟩:=hI;refine bg (λhb=>?_) λhb=>?_;refine ag (aln ?_ _ _ ?_ ?_ ?_) λy hy cI=>?_;trivial;trivial;trivial;trivial;refine bL (λhb=>?_) λhb=>?_;refine ag (LD ?_ _ _ _ _) λy hy cI=>?_;trivial;refine aa ?_;dsimp only;apply aH;dsimp only
 (simp(disch:=omega)only[bq]at*;omega);dsimp only
 (simp(disch:=omega)only[bq]at*;omega);apply hJ;dsimp only;rintro⟨_,_⟩ hR;refine aj (λ_=>True) (λJ hJ=>?_) ?_;refine aG (λst=>0<=st.fst/\st.fst<=↑l.rules.length) (λst=>(↑l.rules.length-st.fst).toNat) ?_ ?_ ?_;omega;omega;rintro rec ⟨_,_⟩ hI aH;dsimp only at hI;dsimp only;obtain⟨j8,iV⟩:=hI;refine bg (λhb=>?_) λhb=>?_;refine ag (agq ?_ _ _ ?_ ?_ ?_) λy hy cI=>?_;trivial;trivial;trivial;trivial;refine bL (λhb=>?_) λhb=>?_;refine ag (LD ?_ _ _ _ _) λy hy cI=>?_;trivial;refine aa ?_;dsimp only;apply aH;dsimp only
 (simp(disch:=omega)only[bq]at*;omega);dsimp only
 (simp(disch:=omega)only[bq]at*;omega);apply hJ;dsimp only;rintro⟨_,_⟩ hR;refine aj (λ_=>True) (λJ hJ=>?_) ?_;refine aG (λst=>0<=st.fst/\st.fst<=↑l.equations.length) (λst=>(↑l.equations.length-st.fst).toNat) ?_ ?_ ?_;omega;omega;rintro rec ⟨_,_⟩ hI aH;dsimp only at hI;dsimp only;obtain⟨j8,iV⟩:=hI;refine bg (λhb=>?_) λhb=>?_;refine aw ?_ ?_ λx hx bV=>?_;trivial;trivial;have hk:=tf x hx;refine ag (ags ?_ _ _ ?_) λy hy cI=>?_;trivial;trivial;refine bL (λhb=>?_) λhb=>?_;refine ag (LD ?_ _ _ _ _) λy hy cI=>?_;trivial;refine aa ?_;dsimp only;apply aH;dsimp only
 (simp(disch:=omega)only[bq]at*;omega);dsimp only
 (simp(disch:=omega)only[bq]at*;omega);apply hJ;dsimp only;rintro⟨_,_⟩ hR;refine aj (λ_=>True) (λJ hJ=>?_) ?_;refine aG (λst=>0<=st.fst/\st.fst<=↑l.c8.length) (λst=>(↑l.c8.length-st.fst).toNat) ?_ ?_ ?_;omega;omega;rintro rec ⟨_,_⟩ hI aH;dsimp only at hI;dsimp only;obtain⟨j8,iV⟩:=hI;refine bg (λhb=>?_) λhb=>?_;refine ag (agt ?_ _ _ ?_ ?_ ?_) λy hy cI=>?_;trivial;trivial;trivial;trivial;refine bL (λhb=>?_) λhb=>?_;refine ag (LD ?_ _ _ _ _) λy hy cI=>?_;trivial;refine aa ?_;dsimp only;apply aH;dsimp only
 (simp(disch:=omega)only[bq]at*;omega);dsimp only
 (simp(disch:=omega)only[bq]at*;omega);apply hJ;dsimp only;rintro⟨_,_⟩ hR;refine aj (λ_=>True) (λJ hJ=>?_) ?_;refine aG (λst=>0<=st.fst/\st.fst<=↑l.cd.length) (λst=>(↑l.cd.length-st.fst).toNat) ?_ ?_ ?_;omega;omega;rintro rec ⟨_,_⟩ hI aH;dsimp only at hI;dsimp only;obtain⟨j8,iV⟩:=hI;refine bg (λhb=>?_) λhb=>?_;refine ag (agu ?_ _ _ ?_ ?_ ?_) λy hy cI=>?_;trivial;trivial;trivial;trivial;refine bL (λhb=>?_) λhb=>?_;refine ag (LD ?_ _ _ _ _) λy hy cI=>?_;trivial;refine aa ?_;dsimp only;apply aH;dsimp only
 (simp(disch:=omega)only[bq]at*;omega);dsimp only
 (simp(disch:=omega)only[bq]at*;omega);apply hJ;dsimp only;rintro⟨_,_⟩ hR;refine aa ?_;dsimp only
end
def cs(ls:List bT):List cN:=ls.flatMap (·.aQ)
def gq(ls:List bT)(c:bE):Option cN:=(cs ls).find? λx=>x.name==c
def og(ls:List bT):Nat->Option cN->List cN
 |0,_=>[]|_,none=>[]
 |n+1,some x=>x::og ls n (gq ls x.cQ)
def fD(ls:List bT)(c:bE):List cN:=og ls 129 (gq ls c)
def yB(l:List cN)(c:cN):cN:=⟨c.name,c.cQ,c.ir,l.reverse.flatMap (·.aW),l.reverse.flatMap (·.kids),l.reverse.flatMap (·.refs)⟩
structure gA(ls:List bT):Prop where
 len:ls.length<=1048576
 all:∀l∈ls,pC l
theorem VT{ls:List bT}{l:bT}(h1:l∈ls)(h2:c∈l.aQ):c∈cs ls:=List.mem_flatMap.2 ⟨l,h1,h2⟩
theorem gA.cpt {ls:List bT} (h:gA ls) (hc:c∈cs ls):sr c:=by obtain⟨l,hl,hc⟩:=List.mem_flatMap.1 hc;exact(h.all l hl).ab c hc
theorem rj{ls:List bT}{c:bE}{x:cN}(h:gq ls c=some x):x∈cs ls/\x.name=c:=⟨List.mem_of_find?_eq_some h,by have:=List.find?_some h;simpa using this⟩
theorem r8{ls:List bT}:∀(n:Nat)(o:Option cN),(∀x,o=some x->x∈cs ls)->∀x∈og ls n o,x∈cs ls
 |0,_,_,x,hx=>by cases hx
 |n+1,none,_,x,hx=>by cases hx
 |n+1,some y,h,x,hx=>by
  rcases c6.1 hx with rfl|hx
  ·exact h _ rfl
  ·exact r8 n _ (λz hz=>(rj hz).1) x hx
theorem EB{ls:List bT}:∀(n:Nat)(o:Option cN),(og ls n o).length<=n
 |0,_=>aP _|n+1,none=>eC _
 |n+1,some y=>by have:=EB (ls:=ls) n (gq ls y.cQ);simp only[og,dE];omega
theorem EC(ls:List bT)(c:bE):(fD ls c).length<=129:=EB _ _
theorem ED{ls:List bT}{x:cN}(h:x∈cs ls):∃y,gq ls x.name=some y:=by
 cases e:gq ls x.name with
 |some y=>exact ⟨y,rfl⟩|none=>have:=List.find?_eq_none.1 e x h;simp at this
theorem tX{ls:List bT}{c:bE}{y:cN}(h:gq ls c=some y):fD ls c=y::og ls 128 (gq ls y.cQ):=by unfold fD;rw[h];rfl
def nd(ls:List bT)(c:bE)(y:cN):cN:=yB (fD ls c) y
theorem kq{α β:Type}{k:Nat}{f:α->List β}:∀{l:List α},(∀x∈l,(f x).length<=k)->(l.flatMap f).length<=l.length*k
 |[],_=>by simp|x::l,h=>by have h1:=h x (by simp);have h2:=kq (l:=l) λy hy=>h y (by simp[hy]);simp only[EE,kR,dE,ew,kF];omega
theorem Hd{l:List α}{q:α->Bool}{i:Nat}{x:α}(h:l[i]?=some x):(l.drop i).find? q=if q x=true then some x else(l.drop (i+1)).find? q:=by obtain⟨hi,rfl⟩:=aV.1 h;rw[uY hi,P9];cases h:q l[i]<;>simp
section
variable{N:Nat}(hN:1073741824<=N)
include hN
def noC:cN:=⟨[],[],false,[],[],[]⟩
theorem agv(l:bT)(c:bE)(hl:l.aQ.length<=1048576):T (YW N (l,c)) λr=>r=match l.aQ.find? λx=>x.name==c with
  |some x=>(x,true)|none=>(noC,false):=by
 unfold YW;refine aj (λ_=>l.aQ.find? (λx=>x.name==c)=none) (λJ hJ=>?_) (λx hx=>aa (by rw[hx];rfl));refine aG (λs=>0<=s.1/\s.1<=l.aQ.length/\l.aQ.find? (λx=>x.name==c)=(l.aQ.drop s.1.toNat).find? λx=>x.name==c) (λs=>(l.aQ.length-s.1).toNat) ⟨by simp,by simp,by simp⟩ (by dsimp only;omega) ?_;rintro rec ⟨p,u⟩ ⟨h1,h2,h3⟩ aH;dsimp only at h1 h2 h3;refine af (λhb=>?_) (λhb=>?_)
 ·simp only[az]at hb;refine aw h1 hb λx hx bV=>?_;rw[Hd bV]at h3;refine af (λe=>?_) (λe=>?_)
  ·refine aw h1 hb λy hy cI=>?_;obtain rfl:x=y:=dc (bV.symm.trans cI);rw[ap e]at h3;rw[h3];exact aa rfl
  ·rw[ai (by simp[e])]at h3;refine aH _ ⟨?_,?_,?_⟩ ?_<;>dsimp only<;>rw[bq (by omega) (by omega)]
   ·omega
   ·omega
   ·rw[h3,show(p+1).toNat=p.toNat+1 by omega]
   ·omega
 ·simp only[bz,fI]at hb;refine hJ _ ?_;rw[h3,He (by omega)];rfl
theorem tY(ls:List bT)(c:bE)(hl:gA ls):T (yz N (ls,c)) λr=>(match gq ls c with
  |some x=>r.1=x/\r.2.2=true|none=>r.1=noC/\r.2.2=false):=by
 have hlen:=hl.len;unfold yz gq;refine aj (λ_=>(cs ls).find? (λx=>x.name==c)=none) (λJ hJ=>?_) (λx hx=>aa (by rw[hx];exact ⟨rfl,rfl⟩));refine aG (λs=>0<=s.1/\s.1<=ls.length/\(cs ls).find? (λx=>x.name==c)=(cs (ls.drop s.1.toNat)).find? λx=>x.name==c) (λs=>(ls.length-s.1).toNat) ⟨by simp,by simp,by simp⟩ (by dsimp only;omega) ?_;rintro rec ⟨p,u⟩ ⟨h1,h2,h3⟩ aH;dsimp only at h1 h2 h3;refine af (λhb=>?_) (λhb=>?_)
 ·simp only[az]at hb;refine aw h1 hb λx hx bV=>?_;have e:cs (ls.drop p.toNat)=x.aQ++cs (ls.drop (p.toNat+1)):=by obtain⟨hi,rfl⟩:=aV.1 bV;rw[uY hi];rfl
  rw[e,List.find?_append]at h3;refine an (agv hN x c (hl.all x hx).aQ) λr hr=>?_;cases hf:x.aQ.find? λx=>x.name==c with
  |some y=>rw[hf]at hr h3;subst hr;rw[h3];exact aa ⟨rfl,rfl⟩|none=>
   rw[hf]at hr h3;subst hr;refine aH _ ⟨?_,?_,?_⟩ ?_<;>dsimp only<;>rw[bq (by omega) (by omega)]
   ·omega
   ·omega
   ·rw[h3,show(p+1).toNat=p.toNat+1 by omega];rfl
   ·omega
 ·simp only[bz,fI]at hb;refine hJ _ ?_;rw[h3,He (by omega)];rfl
theorem alq(ls:List bT)(n i:Int)(l:bT)(hl:gA ls)(h0:0<=n)(h1:n<ls.length)(hz:aA ls n=some l)(hm:l∈ls)(h2:0<=i)(h3:i<l.aQ.length):T (F40 N (ls,n,i)) λ_=>True:=by
 have hlen:=hl.len;unfold F40;simp only[hz];refine aj (λ_=>True) (λJ hJ=>?_) ?_;refine aG (λst=>0<=st.fst.snd/\st.fst.snd<=n) (λst=>(n-st.fst.snd).toNat) ?_ ?_ ?_
 (dsimp only;omega)
 (dsimp only;omega);rintro rec ⟨⟨_,_⟩,_⟩ hI aH;dsimp only at hI;dsimp only;obtain⟨j8,iV⟩:=hI;refine bg (λhb=>?_) λhb=>?_;refine aw ?_ ?_ λx hx bV=>?_;trivial;omega;apply aH;dsimp only
 (simp(disch:=omega)only[bq]at*;omega);dsimp only
 (simp(disch:=omega)only[bq]at*;omega);apply hJ;dsimp only;rintro⟨_,_⟩ hR;refine kp (λhb=>?_) λhb=>?_;simp only[az]at hb;refine aa ?_;dsimp only;simp only[az]at hb;refine gO ?_;refine aw ?_ ?_ λx hx bV=>?_;trivial;trivial;refine ag (tY ?_ _ _ ?_) λy hy cI=>?_;trivial;trivial;refine bg (λhb=>?_) λhb=>?_;refine aa ?_;dsimp only;refine aa ?_;dsimp only
theorem Hf(ls:List bT)(c:bE)(hl:gA ls):T (N3 N (ls,c)) λr=>r=fD ls c/\r.length<=129:=by
 unfold N3;refine an (tY hN ls c hl) λy hy=>?_;refine aj (λs=>s.1=fD ls c) (λJ hJ=>?_) (λx hx=>aa ⟨hx,by rw[hx];exact EC ls c⟩);refine aG (λs=>s.1.1.length<=129/\∃o:Option cN,s.1.2.1=o.isSome/\(∀x,o=some x->(cN.mk s.1.2.2.1 s.1.2.2.2.1 s.1.2.2.2.2.1 s.1.2.2.2.2.2.1 s.1.2.2.2.2.2.2.1 s.1.2.2.2.2.2.2.2)=x)/\s.1.1++og ls (129-s.1.1.length) o=fD ls c) (λs=>129-s.1.1.length) ⟨by simp,gq ls c,?_,?_,?_⟩ (by dsimp only;omega) ?_
 ·cases h:gq ls c with
  |none=>rw[h]at hy;exact hy.2|some x=>rw[h]at hy;exact hy.2
 ·intro x h;rw[h]at hy;rw[hy.1]
 ·rfl
 rintro rec ⟨⟨out,is,p1,p2,p3,p4,p5,p6⟩,u⟩ ⟨h1,o,h2,h3,h4⟩ aH;dsimp only at h1 h2 h3 h4;refine af (λhb=>af (λdZ=>?_) (λdZ=>?_)) (λhb=>?_)
 ·obtain ⟨x,rfl⟩:=CG.1 (h2.symm.trans hb);obtain rfl:=h3 x rfl;simp only[az]at dZ;refine bO (bi (by simp;omega) (by simp;omega)) (an (tY hN ls _ hl) λz hz=>aH _ ⟨?_,gq ls p2,?_,?_,?_⟩ ?_)
  ·simp;omega
  ·cases h:gq ls p2 with
   |none=>rw[h]at hz;exact hz.2|some x=>rw[h]at hz;exact hz.2
  ·intro x h;rw[h]at hz;rw[<-hz.1]
  ·rw[<-h4,show 129-out.length=(129-(out.length+1))+1 by omega];simp[og]
  ·simp;omega
 ·simp only[bz,Hb]at dZ;refine hJ _ ?_;rw[show 129-out.length=0 by omega]at h4;simpa[og]using h4
 ·refine hJ _ ?_;cases o with
  |some x=>rw[hb]at h2;cases h2
  |none=>
   have:og ls (129-out.length) none=[]:=by cases 129-out.length<;>rfl
   rw[this]at h4;simpa using h4
theorem alr(ls:List bT)(n i:Int)(l:bT)(hl:gA ls)(h0:0<=n)(h1:n<ls.length)(hz:aA ls n=some l)(hm:l∈ls)(h2:0<=i)(h3:i<l.aQ.length):T (F41 N (ls,n,i)) λ_=>True:=by
 have hlen:=hl.len;unfold F41;simp only[hz,aU];refine aw h2 h3 λx hx bV=>?_;obtain⟨y,hy⟩:=ED (VT hm hx);have lv:∀r:List cN,r=fD ls x.name/\r.length<=129->0<r.length/\r.length<=129:=λr hr=>⟨by rw[hr.1,tX hy];simp,hr.2⟩
 have Hf:=dG (Hf hN ls x.name hl) lv;refine ag (tY ?_ _ _ ?_) λy hy cI=>?_;trivial;trivial;refine bL (λhb=>?_) λhb=>?_;refine cA (λhb=>?_) λhb=>?_;refine aa ?_;dsimp only;refine ag (Hf) λy hy cI=>?_;refine aj (λ_=>True) (λJ hJ=>?_) ?_;refine aG (λst=>0<=st.fst/\st.fst<=↑y.length) (λst=>(↑y.length-st.fst).toNat) ?_ ?_ ?_;omega;omega;rintro rec ⟨_,_⟩ hI aH;dsimp only at hI;dsimp only;obtain⟨j8,iV⟩:=hI;refine bg (λhb=>?_) λhb=>?_;refine aw ?_ ?_ λx hx bV=>?_;trivial;trivial;refine cb (λhb=>?_) λhb=>?_;refine aa ?_;dsimp only;apply aH;dsimp only
 (simp(disch:=omega)only[bq]at*;omega);dsimp only
 (simp(disch:=omega)only[bq]at*;omega);apply hJ;dsimp only;rintro⟨_,_⟩ hR;refine aa ?_;dsimp only;refine ag (Hf) λy hy cI=>?_;refine aj (λ_=>True) (λJ hJ=>?_) ?_;refine aG (λst=>0<=st.fst/\st.fst<=↑y.length) (λst=>(↑y.length-st.fst).toNat) ?_ ?_ ?_;omega;omega;rintro rec ⟨_,_⟩ hI aH;dsimp only at hI;dsimp only;obtain⟨j8,iV⟩:=hI;refine bg (λhb=>?_) λhb=>?_;refine aw ?_ ?_ λx hx bV=>?_;trivial;trivial;refine cb (λhb=>?_) λhb=>?_;refine aa ?_;dsimp only;apply aH;dsimp only
 (simp(disch:=omega)only[bq]at*;omega);dsimp only
 (simp(disch:=omega)only[bq]at*;omega);apply hJ;dsimp only;rintro⟨_,_⟩ hR;refine aa ?_;dsimp only
theorem LF(ls:List bT)(c:bE)(y:cN)(hl:gA ls)(hy:gq ls c=some y):T (RR N (ls,c)) λr=>r=nd ls c y:=by
 unfold RR;refine an (Hf hN ls c hl) λl ⟨BA,E4⟩=>?_;have hc:=tX hy;have h0:aA l 0=some y:=by rw[BA,hc];rfl
 have lv:0<l.length:=by rw[BA,hc];simp
 have pg:∀x∈l,sr x:=λx hx=>hl.cpt (r8 _ _ (λz hz=>(rj hz).1) x (BA▸hx));simp only[h0,aU];refine aj (λs=>s.1=(y.name,y.cQ,y.ir,(nd ls c y).aW,(nd ls c y).kids,(nd ls c y).refs)) (λJ hJ=>?_) (λx hx=>aa ?_);rotate_left
 ·obtain ⟨⟨a1,a2,a3,a4,a5,a6⟩,u⟩:=x;cases hx;rfl
 rw[bq (by omega) (by omega)];refine aG (λs=>-1<=s.1.1/\s.1.1<l.length/\s.1.2=(y.name,y.cQ,y.ir,(l.drop (s.1.1+1).toNat).reverse.flatMap (·.aW),(l.drop (s.1.1+1).toNat).reverse.flatMap (·.kids),(l.drop (s.1.1+1).toNat).reverse.flatMap (·.refs))) (λs=>(s.1.1+1).toNat) ⟨by dsimp only;omega,by dsimp only;omega,?_⟩ (by dsimp only;omega) ?_
 ·dsimp only;rw[show((l.length:Int)-1+1).toNat=l.length by omega,List.drop_length];rfl
 rintro rec ⟨⟨p,a1,a2,a3,a4,a5,a6⟩,u⟩ ⟨h1,h2,h3⟩ aH;dsimp only at h1 h2 h3;cases h3;refine af (λhb=>?_) (λhb=>?_)
 ·simp only[az]at hb;obtain⟨x,e,hx,bV⟩:=lj hb h2;have hd:l.drop p.toNat=x::l.drop (p+1).toNat:=by obtain⟨hi,rfl⟩:=aV.1 bV;rw[uY hi,show(p+1).toNat=p.toNat+1 by omega]
  have hlen:(l.drop (p+1).toNat).reverse.length<=129:=by simp;omega
  have hm:∀z∈(l.drop (p+1).toNat).reverse,sr z:=λz hz=>pg z (Mr (List.mem_reverse.1 hz));have n1:=kq (f:=λx:cN=>x.aW) λz hz=>(hm z hz).aW;have n2:=kq (f:=λx:cN=>x.kids) λz hz=>(hm z hz).kids;have n3:=kq (f:=λx:cN=>x.refs) λz hz=>(hm z hz).refs;have m1:=(pg x hx).aW;have m2:=(pg x hx).kids;have m3:=(pg x hx).refs;simp only[e,aU];refine bO (bi (by omega) (by omega)) (bO (bi (by omega) (by omega)) (bO (bi (by omega) (by omega)) (aH _ ⟨?_,?_,?_⟩ ?_)))
  ·dsimp only;rw[bq (by omega) (by omega)];omega
  ·dsimp only;rw[bq (by omega) (by omega)];omega
  ·dsimp only;rw[bq (by omega) (by omega),show(p-1+1).toNat=p.toNat by omega,hd];simp[yC]
  ·dsimp only;rw[bq (by omega) (by omega)];omega
 ·simp only[bz,Hb]at hb;refine hJ _ ?_;dsimp only;rw[show(p+1).toNat=0 by omega,CE,BA];rfl
omit hN in
theorem wH:∀{l:List cN},(l.map (·.name)).Nodup->∀{x:cN},x∈l->l.find? (λy=>y.name==x.name)=some x
 |y::l,hn,x,hx=>by
  simp only[eD,oc]at hn;rw[P9];rcases c6.1 hx with rfl|hx
  ·simp
  ·have:(y.name==x.name)=false:=by simp only[ma,ne_eq];exactλe=>hn.1 (e▸Jg hx)
   rw[this];exact wH hn.2 hx
omit hN in
theorem uJ(ls:List bT)(hl:gA ls)(c:bE)(x:cN)(hx:gq ls c=some x):(nd ls c x).aW.length<=136314880/\(nd ls c x).kids.length<=136314880/\(nd ls c x).refs.length<=136314880/\x.aW.length<=(nd ls c x).aW.length/\x.kids.length<=(nd ls c x).kids.length/\x.refs.length<=(nd ls c x).refs.length:=by
 have hlen:(fD ls c).reverse.length<=129:=by rw[List.length_reverse];exact EC ls c
 have hm:∀z∈(fD ls c).reverse,sr z:=λz hz=>hl.cpt (r8 _ _ (λz hz=>(rj hz).1) z (List.mem_reverse.1 hz));have n1:=kq (f:=λx:cN=>x.aW) λz hz=>(hm z hz).aW;have n2:=kq (f:=λx:cN=>x.kids) λz hz=>(hm z hz).kids;have n3:=kq (f:=λx:cN=>x.refs) λz hz=>(hm z hz).refs;have hc:=tX hx;simp only[nd,yB];refine⟨by omega,by omega,by omega,?_,?_,?_⟩<;>simp only[hc,List.reverse_cons,yC,EE,LG,kR,GD]<;>omega
theorem als(ls:List bT)(n i:Int)(l:bT)(hl:gA ls)(tM:((cs ls).map (·.name)).Nodup)(h0:0<=n)(h1:n<ls.length)(hz:aA ls n=some l)(hm:l∈ls)(h2:0<=i)(h3:i<l.aQ.length):T (F42 N (ls,n,i)) λ_=>True:=by
 have hlen:=hl.len;unfold F42;simp only[hz,aU];refine aw h2 h3 λx hx bV=>?_;have hf:gq ls x.name=some x:=wH tM (VT hm hx);obtain⟨k1,k2,k3,k4,k5,k6⟩:=uJ ls hl x.name x hf;refine an (LF hN ls x.name x hl hf) λy hy=>?_;rw[<-hy]at k1 k2 k3 k4 k5 k6;clear hy;refine aj (λ_=>True) (λJ hJ=>?_) ?_;refine aG (λst=>0<=st.fst.snd/\st.fst.snd<=↑y.aW.length) (λst=>(↑y.aW.length-st.fst.snd).toNat) ?_ ?_ ?_;dsimp only
 (simp(disch:=omega)only[bq]at*;omega);dsimp only
 (simp(disch:=omega)only[bq]at*;omega);rintro rec ⟨⟨_,q22⟩,_⟩ hI aH;dsimp only at hI;dsimp only;obtain⟨j8,iV⟩:=hI;refine bg (λhb=>?_) λhb=>?_;refine aj (λ_=>True) (λJ hJ=>?_) ?_;refine kp (λhb=>?_) λhb=>?_;refine aa ?_;dsimp only;refine aG (λst=>0<=st.fst/\st.fst<=q22) (λst=>(q22-st.fst).toNat) ?_ ?_ ?_;omega;omega;rintro rec ⟨_,_⟩ hI aH;dsimp only at hI;dsimp only;obtain⟨j8,iV⟩:=hI;refine bg (λhb=>?_) λhb=>?_;refine aw ?_ ?_ λx hx bV=>?_;trivial;omega;refine aw ?_ ?_ λx hx bV=>?_;trivial;trivial;refine cb (λhb=>?_) λhb=>?_;refine aa ?_;dsimp only;apply aH;dsimp only
 (simp(disch:=omega)only[bq]at*;omega);dsimp only
 (simp(disch:=omega)only[bq]at*;omega);apply hJ;dsimp only;rintro⟨_,_⟩ hR;apply aH;dsimp only
 (simp(disch:=omega)only[bq]at*;omega);dsimp only
 (simp(disch:=omega)only[bq]at*;omega);apply hJ;dsimp only;rintro⟨_,_⟩ hR;refine aj (λ_=>True) (λJ hJ=>?_) ?_;refine aG (λst=>0<=st.fst.snd/\st.fst.snd<=↑y.kids.length) (λst=>(↑y.kids.length-st.fst.snd).toNat) ?_ ?_ ?_;dsimp only
 (simp(disch:=omega)only[bq]at*;omega);dsimp only
 (simp(disch:=omega)only[bq]at*;omega);rintro rec ⟨⟨_,agw⟩,_⟩ hI aH;dsimp only at hI;dsimp only;obtain⟨j8,iV⟩:=hI;refine bg (λhb=>?_) λhb=>?_;refine kp (λhb=>?_) λhb=>?_;refine aa ?_;dsimp only;refine aj (λ_=>True) (λJ hJ=>?_) ?_;refine aG (λst=>0<=st.fst/\st.fst<=agw) (λst=>(agw-st.fst).toNat) ?_ ?_ ?_;omega;omega;rintro rec ⟨_,_⟩ hI aH;dsimp only at hI;dsimp only;obtain⟨j8,iV⟩:=hI;refine bg (λhb=>?_) λhb=>?_;refine aw ?_ ?_ λx hx bV=>?_;trivial;omega;refine aw ?_ ?_ λx hx bV=>?_;trivial;trivial;refine cb (λhb=>?_) λhb=>?_;refine aa ?_;dsimp only;apply aH;dsimp only
 (simp(disch:=omega)only[bq]at*;omega);dsimp only
 (simp(disch:=omega)only[bq]at*;omega);apply hJ;dsimp only;rintro⟨_,_⟩ hR;refine aw ?_ ?_ λx hx bV=>?_;trivial;trivial;refine ag (tY ?_ _ _ ?_) λy hy cI=>?_;trivial;trivial;refine cA (λhb=>?_) λhb=>?_;refine aa ?_;dsimp only;apply aH;dsimp only
 (simp(disch:=omega)only[bq]at*;omega);dsimp only
 (simp(disch:=omega)only[bq]at*;omega);apply hJ;dsimp only;rintro⟨_,_⟩ hR;refine aj (λ_=>True) (λJ hJ=>?_) ?_;refine aG (λst=>0<=st.fst.snd/\st.fst.snd<=↑y.refs.length) (λst=>(↑y.refs.length-st.fst.snd).toNat) ?_ ?_ ?_;dsimp only
 (simp(disch:=omega)only[bq]at*;omega);dsimp only
 (simp(disch:=omega)only[bq]at*;omega);rintro rec ⟨⟨_,aav⟩,_⟩ hI aH;dsimp only at hI;dsimp only;obtain⟨j8,iV⟩:=hI;refine bg (λhb=>?_) λhb=>?_;refine kp (λhb=>?_) λhb=>?_;refine aa ?_;dsimp only;refine aj (λ_=>True) (λJ hJ=>?_) ?_;refine aG (λst=>0<=st.fst/\st.fst<=aav) (λst=>(aav-st.fst).toNat) ?_ ?_ ?_;omega;omega;rintro rec ⟨_,_⟩ hI aH;dsimp only at hI;dsimp only;obtain⟨j8,iV⟩:=hI;refine bg (λhb=>?_) λhb=>?_;refine aw ?_ ?_ λx hx bV=>?_;trivial;omega;refine aw ?_ ?_ λx hx bV=>?_;trivial;trivial;refine cb (λhb=>?_) λhb=>?_;refine aa ?_;dsimp only;apply aH;dsimp only
 (simp(disch:=omega)only[bq]at*;omega);dsimp only
 (simp(disch:=omega)only[bq]at*;omega);apply hJ;dsimp only;rintro⟨_,_⟩ hR;refine aw ?_ ?_ λx hx bV=>?_;trivial;trivial;refine ag (tY ?_ _ _ ?_) λy hy cI=>?_;trivial;trivial;refine cA (λhb=>?_) λhb=>?_;refine aa ?_;dsimp only;apply aH;dsimp only
 (simp(disch:=omega)only[bq]at*;omega);dsimp only
 (simp(disch:=omega)only[bq]at*;omega);apply hJ;dsimp only;rintro⟨_,_⟩ hR;refine aa ?_;dsimp only
theorem agx(ls:List bT)(n i:Int)(l:bT)(hl:gA ls)(h0:0<=n)(h1:n<ls.length)(hz:aA ls n=some l)(hm:l∈ls)(h2:0<=i)(h3:i<l.rules.length):T (YX N (ls,n,i)) λ_=>True:=by
 have hlen:=hl.len;have hru:=λl jq=>(hl.all l jq).rules;unfold YX;simp only[hz,aU];refine aw h2 h3 λx hx bV=>an (tY hN ls x.ab hl) λy hy=>af (λ_=>aa trivial) λhb=>?_;cases hf:gq ls x.ab with
 |none=>rw[hf]at hy;rw[hy.2]at hb;cases hb
 |some c=>
  have hrefs:=(uJ ls hl x.ab c hf).2.2.1;have LF:=dG (P:=λr=>r=nd ls x.ab c) (Q:=λr=>r.refs.length<=136314880) (LF hN ls x.ab c hl hf) (λr hr=>by rw[hr];exact hrefs);clear hy;refine aj (λ_=>True) (λJ hJ=>?_) ?_;refine af (λhb=>?_) λhb=>?_;refine ag (LF) λy hy cI=>?_;refine aj (λ_=>True) (λJ hJ=>?_) ?_;refine aG (λst=>0<=st.fst.snd/\st.fst.snd<=↑y.refs.length) (λst=>(↑y.refs.length-st.fst.snd).toNat) ?_ ?_ ?_
  (dsimp only;omega)
  (dsimp only;omega);rintro rec ⟨⟨_,_⟩,_⟩ hI aH;dsimp only at hI;dsimp only;obtain⟨j8,iV⟩:=hI;refine bg (λhb=>?_) λhb=>?_;refine af (λhb=>?_) λhb=>?_;apply aH;dsimp only
  (simp(disch:=omega)only[bq]at*;omega);dsimp only
  (simp(disch:=omega)only[bq]at*;omega);refine aw ?_ ?_ λx hx bV=>?_;trivial;trivial;apply aH;dsimp only
  (simp(disch:=omega)only[bq]at*;omega);dsimp only
  (simp(disch:=omega)only[bq]at*;omega);apply hJ;dsimp only;rintro⟨_,_⟩ hR;refine cA (λhb=>?_) λhb=>?_;simp only[az]at hb;refine aa ?_;dsimp only;simp only[az]at hb;apply hJ;dsimp only;apply hJ;dsimp only;rintro⟨_,_⟩ hR;refine aj (λ_=>True) (λJ hJ=>?_) ?_;refine aG (λst=>0<=st.fst/\st.fst<=n) (λst=>(n-st.fst).toNat) ?_ ?_ ?_;omega;omega;rintro rec ⟨alu,_⟩ hI aH;dsimp only at hI;dsimp only;obtain⟨j8,iV⟩:=hI;refine bg (λhb=>?_) λhb=>?_;refine aj (λ_=>True) (λJ hJ=>?_) ?_;refine uI (l:=ls) (i:=alu) ?_ ?_ λx hz hx bV=>?_;trivial;omega;simp only[hz];have hk:=hru x hx;refine aG (λst=>0<=st.fst/\st.fst<=↑x.rules.length) (λst=>(↑x.rules.length-st.fst).toNat) ?_ ?_ ?_;omega;omega;rintro rec ⟨_,_⟩ hI aH;dsimp only at hI;dsimp only;obtain⟨j8,iV⟩:=hI;refine gO ?_;refine bg (λhb=>?_) λhb=>?_;refine gO ?_;refine aw ?_ ?_ λx hx bV=>?_;trivial;trivial;refine cb (λhb=>?_) λhb=>?_;refine cb (λhb=>?_) λhb=>?_;refine cb (λhb=>?_) λhb=>?_;refine aa ?_;dsimp only;apply aH;dsimp only
  (simp(disch:=omega)only[bq]at*;omega);dsimp only
  (simp(disch:=omega)only[bq]at*;omega);apply aH;dsimp only
  (simp(disch:=omega)only[bq]at*;omega);dsimp only
  (simp(disch:=omega)only[bq]at*;omega);apply aH;dsimp only
  (simp(disch:=omega)only[bq]at*;omega);dsimp only
  (simp(disch:=omega)only[bq]at*;omega);apply hJ;dsimp only;rintro⟨_,_⟩ hR;apply aH;dsimp only
  (simp(disch:=omega)only[bq]at*;omega);dsimp only
  (simp(disch:=omega)only[bq]at*;omega);apply hJ;dsimp only;rintro⟨_,_⟩ hR;refine aa ?_;dsimp only
theorem alv(ls:List bT)(n:Int)(hl:gA ls)(h0:0<=n)(h1:n<ls.length):T (F43 N (ls,n)) λ_=>True:=by
 have hlen:=hl.len;obtain⟨l,hz,hm,_⟩:=lj h0 h1;have k1:=λl jq=>(hl.all l jq).rules;have k2:=λl jq=>(hl.all l jq).equations;have k3:=λl jq=>(hl.all l jq).c8;have k4:=λl jq=>(hl.all l jq).cd;have j1:=k1 l hm;have j2:=k2 l hm;have j3:=k3 l hm;have j4:=k4 l hm;unfold F43;simp only[hz,aU];refine aj (λ_=>True) (λJ hJ=>?_) ?_;refine aG (λst=>0<=st.fst/\st.fst<=↑l.rules.length) (λst=>(↑l.rules.length-st.fst).toNat) ?_ ?_ ?_;omega;omega;rintro rec ⟨_,_⟩ hI aH;dsimp only at hI;dsimp only;obtain⟨j8,iV⟩:=hI;refine bg (λhb=>?_) λhb=>?_;refine ag (agx ?_ _ _ _ ?_ ?_ ?_ ?_ ?_ ?_ ?_ ?_) λy hy cI=>?_;trivial;trivial;trivial;trivial;trivial;trivial;trivial;trivial;trivial;refine bL (λhb=>?_) λhb=>?_;refine ag (FG ?_ _ _ _ _ _) λy hy cI=>?_;trivial;refine aa ?_;dsimp only;apply aH;dsimp only
 (simp(disch:=omega)only[bq]at*;omega);dsimp only
 (simp(disch:=omega)only[bq]at*;omega);apply hJ;dsimp only;rintro⟨_,_⟩ hR;refine aj (λ_=>True) (λJ hJ=>?_) ?_;refine aG (λst=>0<=st.fst/\st.fst<=↑l.equations.length) (λst=>(↑l.equations.length-st.fst).toNat) ?_ ?_ ?_;omega;omega;rintro rec ⟨_,_⟩ hI aH;dsimp only at hI;dsimp only;obtain⟨j8,iV⟩:=hI;refine bg (λhb=>?_) λhb=>?_;refine aw ?_ ?_ λx hx bV=>?_;trivial;trivial;refine ag (tY ?_ _ _ ?_) λy hy cI=>?_;trivial;trivial;refine cA (λhb=>?_) λhb=>?_;refine ag (FG ?_ _ _ _ _ _) λy hy cI=>?_;trivial;refine aa ?_;dsimp only;apply aH;dsimp only
 (simp(disch:=omega)only[bq]at*;omega);dsimp only
 (simp(disch:=omega)only[bq]at*;omega);apply hJ;dsimp only;rintro⟨_,_⟩ hR;refine aj (λ_=>True) (λJ hJ=>?_) ?_;refine aG (λst=>0<=st.fst/\st.fst<=↑l.c8.length) (λst=>(↑l.c8.length-st.fst).toNat) ?_ ?_ ?_;omega;omega;rintro rec ⟨_,_⟩ hI aH;dsimp only at hI;dsimp only;obtain⟨j8,iV⟩:=hI;refine bg (λhb=>?_) λhb=>?_;refine aj (λ_=>True) (λJ hJ=>?_) ?_;refine aw ?_ ?_ λx hx bV=>?_;trivial;trivial;refine ag (tY ?_ _ _ ?_) λy hy cI=>?_;trivial;trivial;refine cA (λhb=>?_) λhb=>?_;refine ag (FG ?_ _ _ _ _ _) λy hy cI=>?_;trivial;refine aa ?_;dsimp only;refine aG (λst=>0<=st.fst/\st.fst<=n) (λst=>(n-st.fst).toNat) ?_ ?_ ?_;omega;omega;rintro rec ⟨agy,_⟩ hI aH;dsimp only at hI;dsimp only;obtain⟨j8,iV⟩:=hI;refine bg (λhb=>?_) λhb=>?_;refine aj (λ_=>True) (λJ hJ=>?_) ?_;refine uI (l:=ls) (i:=agy) ?_ ?_ λx hz hx bV=>?_;trivial;omega;simp only[hz];have hk:=k1 x hx;have hk:=k2 x hx;have hk:=k3 x hx;have hk:=k4 x hx;refine aG (λst=>0<=st.fst/\st.fst<=↑x.c8.length) (λst=>(↑x.c8.length-st.fst).toNat) ?_ ?_ ?_;omega;omega;rintro rec ⟨_,_⟩ hI aH;dsimp only at hI;dsimp only;obtain⟨j8,iV⟩:=hI;refine gO ?_;refine bg (λhb=>?_) λhb=>?_;refine gO ?_;refine aw ?_ ?_ λx hx bV=>?_;trivial;trivial;refine cb (λhb=>?_) λhb=>?_;refine ag (FG ?_ _ _ _ _ _) λy hy cI=>?_;trivial;refine aa ?_;dsimp only;apply aH;dsimp only
 (simp(disch:=omega)only[bq]at*;omega);dsimp only
 (simp(disch:=omega)only[bq]at*;omega);apply hJ;dsimp only;rintro⟨_,_⟩ hR;apply aH;dsimp only
 (simp(disch:=omega)only[bq]at*;omega);dsimp only
 (simp(disch:=omega)only[bq]at*;omega);apply hJ;dsimp only;rintro⟨_,_⟩ hR;apply aH;dsimp only
 (simp(disch:=omega)only[bq]at*;omega);dsimp only
 (simp(disch:=omega)only[bq]at*;omega);apply hJ;dsimp only;rintro⟨_,_⟩ hR;refine aj (λ_=>True) (λJ hJ=>?_) ?_;refine aG (λst=>0<=st.fst/\st.fst<=↑l.cd.length) (λst=>(↑l.cd.length-st.fst).toNat) ?_ ?_ ?_;omega;omega;rintro rec ⟨_,_⟩ hI aH;dsimp only at hI;dsimp only;obtain⟨j8,iV⟩:=hI;refine bg (λhb=>?_) λhb=>?_;refine aj (λ_=>True) (λJ hJ=>?_) ?_;refine aw ?_ ?_ λx hx bV=>?_;trivial;trivial;refine ag (tY ?_ _ _ ?_) λy hy cI=>?_;trivial;trivial;refine cA (λhb=>?_) λhb=>?_;refine ag (FG ?_ _ _ _ _ _) λy hy cI=>?_;trivial;refine aa ?_;dsimp only;refine aG (λst=>0<=st.fst/\st.fst<=n) (λst=>(n-st.fst).toNat) ?_ ?_ ?_;omega;omega;rintro rec ⟨agz,_⟩ hI aH;dsimp only at hI;dsimp only;obtain⟨j8,iV⟩:=hI;refine bg (λhb=>?_) λhb=>?_;refine aj (λ_=>True) (λJ hJ=>?_) ?_;refine uI (l:=ls) (i:=agz) ?_ ?_ λx hz hx bV=>?_;trivial;omega;simp only[hz];have hk:=k1 x hx;have hk:=k2 x hx;have hk:=k3 x hx;have hk:=k4 x hx;refine aG (λst=>0<=st.fst/\st.fst<=↑x.cd.length) (λst=>(↑x.cd.length-st.fst).toNat) ?_ ?_ ?_;omega;omega;rintro rec ⟨_,_⟩ hI aH;dsimp only at hI;dsimp only;obtain⟨j8,iV⟩:=hI;refine gO ?_;refine bg (λhb=>?_) λhb=>?_;refine gO ?_;refine aw ?_ ?_ λx hx bV=>?_;trivial;trivial;refine cb (λhb=>?_) λhb=>?_;refine ag (FG ?_ _ _ _ _ _) λy hy cI=>?_;trivial;refine aa ?_;dsimp only;apply aH;dsimp only
 (simp(disch:=omega)only[bq]at*;omega);dsimp only
 (simp(disch:=omega)only[bq]at*;omega);apply hJ;dsimp only;rintro⟨_,_⟩ hR;apply aH;dsimp only
 (simp(disch:=omega)only[bq]at*;omega);dsimp only
 (simp(disch:=omega)only[bq]at*;omega);apply hJ;dsimp only;rintro⟨_,_⟩ hR;apply aH;dsimp only
 (simp(disch:=omega)only[bq]at*;omega);dsimp only
 (simp(disch:=omega)only[bq]at*;omega);apply hJ;dsimp only;rintro⟨_,_⟩ hR;refine aa ?_;dsimp only
theorem alw(ls:List bT)(hl:gA ls)(tM:((cs ls).map (·.name)).Nodup):T (F15 N ls) λ_=>True:=by
 have hlen:=hl.len;have k1:=hl.all;have k2:=λl jq=>(hl.all l jq).aQ;unfold F15;refine bg (λhb=>?_) λhb=>?_;refine ag (FG ?_ _ _ _ _ _) λy hy cI=>?_;trivial;refine aa ?_;dsimp only;refine aj (λ_=>True) (λJ hJ=>?_) ?_;refine aG (λst=>0<=st.fst/\st.fst<=↑ls.length) (λst=>(↑ls.length-st.fst).toNat) ?_ ?_ ?_;omega;omega;rintro rec ⟨_,_⟩ hI aH;dsimp only at hI;dsimp only;obtain⟨j8,iV⟩:=hI;refine bg (λhb=>?_) λhb=>?_;refine aw ?_ ?_ λx hx bV=>?_;trivial;trivial;have hk:=k1 x hx;have hk:=k2 x hx;refine ag (alp ?_ _ ?_) λy hy cI=>?_;trivial;trivial;refine bL (λhb=>?_) λhb=>?_;refine ag (FG ?_ _ _ _ _ _) λy hy cI=>?_;trivial;refine aa ?_;dsimp only;apply aH;dsimp only
 (simp(disch:=omega)only[bq]at*;omega);dsimp only
 (simp(disch:=omega)only[bq]at*;omega);apply hJ;dsimp only;rintro⟨_,_⟩ hR;refine aj (λ_=>True) (λJ hJ=>?_) ?_;refine aG (λst=>0<=st.fst/\st.fst<=↑ls.length) (λst=>(↑ls.length-st.fst).toNat) ?_ ?_ ?_;omega;omega;rintro rec ⟨agA,_⟩ hI aH;dsimp only at hI;dsimp only;obtain⟨j8,iV⟩:=hI;refine bg (λhb=>?_) λhb=>?_;refine aj (λ_=>True) (λJ hJ=>?_) ?_;refine aG (λst=>0<=st.fst/\st.fst<=agA) (λst=>(agA-st.fst).toNat) ?_ ?_ ?_;omega;omega;rintro rec ⟨_,_⟩ hI aH;dsimp only at hI;dsimp only;obtain⟨j8,iV⟩:=hI;refine bg (λhb=>?_) λhb=>?_;refine aw ?_ ?_ λx hx bV=>?_;trivial;omega;have hk:=k1 x hx;have hk:=k2 x hx;refine aw ?_ ?_ λx hx bV=>?_;trivial;trivial;have hk:=k1 x hx;have hk:=k2 x hx;refine cb (λhb=>?_) λhb=>?_;refine ag (FG ?_ _ _ _ _ _) λy hy cI=>?_;trivial;refine aa ?_;dsimp only;apply aH;dsimp only
 (simp(disch:=omega)only[bq]at*;omega);dsimp only
 (simp(disch:=omega)only[bq]at*;omega);apply hJ;dsimp only;rintro⟨_,_⟩ hR;apply aH;dsimp only
 (simp(disch:=omega)only[bq]at*;omega);dsimp only
 (simp(disch:=omega)only[bq]at*;omega);apply hJ;dsimp only;rintro⟨_,_⟩ hR;refine aj (λ_=>True) (λJ hJ=>?_) ?_;refine aG (λst=>0<=st.fst/\st.fst<=3) (λst=>(3-st.fst).toNat) ?_ ?_ ?_;omega;omega;rintro rec ⟨_,_⟩ hI aH;dsimp only at hI;dsimp only;obtain⟨j8,iV⟩:=hI;refine bg (λhb=>?_) λhb=>?_;refine aj (λ_=>True) (λJ hJ=>?_) ?_;refine aG (λst=>0<=st.fst/\st.fst<=↑ls.length) (λst=>(↑ls.length-st.fst).toNat) ?_ ?_ ?_;omega;omega;rintro rec ⟨agB,_⟩ hI aH;dsimp only at hI;dsimp only;obtain⟨j8,iV⟩:=hI;refine bg (λhb=>?_) λhb=>?_;refine aj (λ_=>True) (λJ hJ=>?_) ?_;refine uI (l:=ls) (i:=agB) ?_ ?_ λx hz hx bV=>?_;trivial;trivial;simp only[hz];have hk:=k1 x hx;have hk:=k2 x hx;refine aG (λst=>0<=st.fst/\st.fst<=↑x.aQ.length) (λst=>(↑x.aQ.length-st.fst).toNat) ?_ ?_ ?_;omega;omega;rintro rec ⟨_,_⟩ hI aH;dsimp only at hI;dsimp only;obtain⟨j8,iV⟩:=hI;refine gO ?_;refine bg (λhb=>?_) λhb=>?_;refine aj (λ_=>True) (λJ hJ=>?_) ?_;refine cb (λhb=>?_) λhb=>?_;refine ag (alq ?_ _ _ _ ?_ ?_ ?_ ?_ ?_ ?_ ?_ ?_) λy hy cI=>?_;trivial;trivial;trivial;trivial;trivial;trivial;trivial;trivial;trivial;apply hJ;dsimp only;refine cb (λhb=>?_) λhb=>?_;refine ag (alr ?_ _ _ _ ?_ ?_ ?_ ?_ ?_ ?_ ?_ ?_) λy hy cI=>?_;trivial;trivial;trivial;trivial;trivial;trivial;trivial;trivial;trivial;apply hJ;dsimp only;refine ag (als ?_ _ _ _ ?_ ?_ ?_ ?_ ?_ ?_ ?_ ?_ ?_) λy hy cI=>?_;trivial;trivial;trivial;trivial;trivial;trivial;trivial;trivial;trivial;trivial;apply hJ;dsimp only;rintro⟨⟨_,_⟩,_⟩ hR;refine bL (λhb=>?_) λhb=>?_;simp only[az]at hb;refine ag (FG ?_ _ _ _ _ _) λy hy cI=>?_;trivial;dsimp only at cI;refine aa ?_;dsimp only;simp only[az]at hb;apply aH;dsimp only
 (simp(disch:=omega)only[bq]at*;omega);dsimp only
 (simp(disch:=omega)only[bq]at*;omega);apply hJ;dsimp only;rintro⟨_,_⟩ hR;apply aH;dsimp only
 (simp(disch:=omega)only[bq]at*;omega);dsimp only
 (simp(disch:=omega)only[bq]at*;omega);apply hJ;dsimp only;rintro⟨_,_⟩ hR;apply aH;dsimp only
 (simp(disch:=omega)only[bq]at*;omega);dsimp only
 (simp(disch:=omega)only[bq]at*;omega);apply hJ;dsimp only;rintro⟨_,_⟩ hR;refine aj (λ_=>True) (λJ hJ=>?_) ?_;refine aG (λst=>0<=st.fst/\st.fst<=↑ls.length) (λst=>(↑ls.length-st.fst).toNat) ?_ ?_ ?_;omega;omega;rintro rec ⟨_,_⟩ hI aH;dsimp only at hI;dsimp only;obtain⟨j8,iV⟩:=hI;refine bg (λhb=>?_) λhb=>?_;refine ag (alv ?_ _ _ ?_ ?_ ?_) λy hy cI=>?_;trivial;trivial;trivial;trivial;refine bL (λhb=>?_) λhb=>?_;refine aa ?_;dsimp only;apply aH;dsimp only
 (simp(disch:=omega)only[bq]at*;omega);dsimp only
 (simp(disch:=omega)only[bq]at*;omega);apply hJ;dsimp only;rintro⟨_,_⟩ hR;refine aa ?_;dsimp only
end
noncomputable def EF {α:Type} (N:Nat) (a0:List bT) (a1:bT->Option (List α)) (a2:(Int×Int×α)->Hp->Option ((Option ia)×Hp)) (h:Hp):Option ((Option ia)×Hp):=aM (λ((_,h91):(Unit)×Hp)=>some (none,h91)) λJ90=>aE (λacE((Zd,agC):(Int)×Hp)=>bif decide (Zd<(a0.length:Int))then aM (λ((_,alx):(Unit)×Hp)=>acE ((IntKind.i64.wrap (Zd+1)),alx)) λaly=>(aA a0 Zd).bind λalz=>(a1 alz).bind λagD=>aE (λacF((Ze,agE):(Int)×Hp)=>bif decide (Ze<(agD.length:Int))then(aA agD Ze).bind λalA=>(a2 (Zd,Ze,alA) agE).bind λZf=>bif !Zf.1.isNone then some (Zf.1,Zf.2)else acF ((IntKind.i64.wrap (Ze+1)),Zf.2)else aly ((),agE)) N (0,agC)else J90 ((),agC)) N (0,h)
def jb(r:Option ia):Prop:=∃f,r=some f/\f.err≠0
theorem jb.some {r:Option ia} (h:jb r):r.isNone=false:=by obtain ⟨f,rfl,_⟩:=h;rfl
section
variable{N:Nat}(hN:1073741824<=N)
include hN
theorem r9{ls:List bT}{list:bT->Option (List α)}{g:(Int×Int×α)->Hp->Option ((Option ia)×Hp)}{h:Hp}(lf:bT->List α)(agF:∀l,list l=some (lf l))(hl:ls.length<=1048576)(jq:∀l∈ls,(lf l).length<=1048576)
  (I:List α->Hp->Prop) (Q:Hp->Prop) (h0:I [] h)
  (step:∀(n i:Int)(l:bT)(x:α)(pre post:List α)(h:Hp),0<=n->n<ls.length->aA ls n=some l->l∈ls->x∈lf l->ls.flatMap lf=pre++x::post->I pre h->T (g (n,i,x) h) λr=>(r.1=none/\I (pre++[x]) r.2)∨(jb r.1/\Q r.2)):
  T (EF N ls list g h) λr=>(r.1=none/\I (ls.flatMap lf) r.2)∨(jb r.1/\Q r.2):=by
 unfold EF;refine aj (λs=>I (ls.flatMap lf) s.2) (λJ hJ=>?_) (λx hx=>aa (.inl ⟨rfl,hx⟩));refine aG (λs=>0<=s.1/\s.1<=ls.length/\I ((ls.take s.1.toNat).flatMap lf) s.2) (λs=>(ls.length-s.1).toNat) ⟨by simp,by simp,by simpa using h0⟩ (by dsimp only;omega) ?_;rintro rec ⟨p,h1⟩ ⟨k1,k2,k3⟩ aH;dsimp only at k1 k2 k3;refine af (λhb=>?_) (λhb=>?_)
 ·simp only[az]at hb;obtain⟨l,hz,hm,JE⟩:=lj k1 hb;have hd:ls.drop p.toNat=l::ls.drop (p.toNat+1):=by obtain⟨hi,rfl⟩:=aV.1 JE;exact uY hi
  have ht:ls.take (p.toNat+1)=ls.take p.toNat++[l]:=by obtain⟨hi,rfl⟩:=aV.1 JE;exact(kO hi).symm
  have cY:ls.flatMap lf=(ls.take p.toNat).flatMap lf++(lf l++(ls.drop (p.toNat+1)).flatMap lf):=by
   conv=>lhs;rw[<-vO p.toNat ls,hd]
   simp
  refine aj (λs=>I ((ls.take (p.toNat+1)).flatMap lf) s.2) (λJ2 Jd=>?_) (λx hx=>aH _ ⟨?_,?_,?_⟩ ?_)
  ·simp only[hz,agF,aU];have hll:=jq l hm;refine aG (λs=>0<=s.1/\s.1<=(lf l).length/\I ((ls.take p.toNat).flatMap lf++(lf l).take s.1.toNat) s.2) (λs=>((lf l).length-s.1).toNat) ⟨by simp,by simp,by simpa using k3⟩ (by dsimp only;omega) ?_;rintro Zc ⟨q,h2⟩ ⟨j1,j2,j3⟩ yA;dsimp only at j1 j2 j3;refine af (λdZ=>?_) (λdZ=>?_)
   ·simp only[az]at dZ;refine aw j1 dZ λx hx bV=>?_;have xh:(lf l).drop q.toNat=x::(lf l).drop (q.toNat+1):=by obtain⟨hi,rfl⟩:=aV.1 bV;exact uY hi
    have L7:(lf l).take (q.toNat+1)=(lf l).take q.toNat++[x]:=by obtain⟨hi,rfl⟩:=aV.1 bV;exact(kO hi).symm
    refine an (step p q l x ((ls.take p.toNat).flatMap lf++(lf l).take q.toNat) ((lf l).drop (q.toNat+1)++(ls.drop (p.toNat+1)).flatMap lf) h2 k1 hb hz hm hx ?_ j3) λr hr=>?_
    ·rw[cY];conv=>lhs;rw[<-vO q.toNat (lf l),xh]
     simp
    ·rcases hr with⟨e,hI⟩|⟨e,hq⟩
     ·rw[e];refine yA _ ⟨?_,?_,?_⟩ ?_<;>dsimp only<;>rw[bq (by omega) (by omega)]
      ·omega
      ·omega
      ·rw[show(q+1).toNat=q.toNat+1 by omega,L7,<-sO];exact hI
      ·omega
     ·rw[e.some];exact aa (.inr ⟨e,hq⟩)
   ·simp only[bz,fI]at dZ;refine Jd _ ?_;dsimp only;rw[cV (l:=lf l) (by omega)]at j3;rw[ht,yC];simpa using j3
  ·dsimp only;rw[bq (by omega) (by omega)];omega
  ·dsimp only;rw[bq (by omega) (by omega)];omega
  ·dsimp only;rw[bq (by omega) (by omega),show(p+1).toNat=p.toNat+1 by omega];exact hx
  ·dsimp only;rw[bq (by omega) (by omega)];omega
 ·simp only[bz,fI]at hb;refine hJ _ ?_;rw[cV (by omega)]at k3;exact k3
theorem pK(a b c d e:Int):T (Bz N (a,b,c,d,e)) λr=>e≠0->jb r:=⟨_,rfl,λh=>⟨_,rfl,h⟩⟩
theorem alB(x y:bT):T (F65 N (x,y)) λ_=>True:=⟨_,rfl,trivial⟩
theorem alC(p:Option Nat)(ls:List bT)(hl:gA ls):T (F32 N (p,ls)) λr=>(r=none/\ls.length<=128/\∀c∈cs ls,c.name≠[])∨jb r:=by
 have hlen:=hl.len;have cY:=hl.all;unfold F32;refine af (λ_=>an (pK hN _ _ _ _ _) λy hy=>aa (.inr (hy (by decide)))) λZg=>?_;simp only[bz,fI]at Zg;refine aj (λ_=>∀c∈cs ls,c.name≠[]) (λJ hJ=>?_) (λx hx=>?_)
 ·refine aG (λs=>0<=s.1/\s.1<=ls.length/\∀c∈cs (ls.take s.1.toNat),c.name≠[]) (λs=>(ls.length-s.1).toNat) ⟨by simp,by simp,by simp[cs]⟩ (by dsimp only;omega) ?_;rintro rec ⟨p,u⟩ ⟨k1,k2,k3⟩ aH;dsimp only at k1 k2 k3;refine af (λhb=>?_) (λhb=>hJ _ ?_)
  ·simp only[az]at hb;refine aw k1 hb λx hx bV=>an (alk hN x (cY x hx)) λy hy=>af (λdZ=>?_) (λdZ=>?_)
   ·refine an (pK hN _ _ _ _ _) λz hz=>aa (.inr (hz ?_));simpa using dZ
   ·simp only[mF,fc]at dZ;refine aH _ ⟨?_,?_,?_⟩ ?_<;>dsimp only<;>rw[bq (by omega) (by omega)]
    ·omega
    ·omega
    ·have ht:ls.take (p.toNat+1)=ls.take p.toNat++[x]:=by obtain⟨hi,rfl⟩:=aV.1 bV;exact(kO hi).symm
     rw[show(p+1).toNat=p.toNat+1 by omega,ht];intro c hc;simp only[cs,yC,EE,LG,GD,dt]at hc;rcases hc with hc|hc
     ·exact k3 c hc
     ·exact hy dZ c hc
    ·omega
  ·simp only[bz,fI]at hb;rw[cV (by omega)]at k3;exact k3
 ·refine aj (λ_=>True) (λJ hJ=>?_) (λ_ _=>aa (.inl ⟨rfl,by omega,hx⟩));clear hx;refine aG (λst=>0<=st.fst/\st.fst<=↑ls.length) (λst=>(↑ls.length-st.fst).toNat) ?_ ?_ ?_;omega;omega;rintro rec ⟨_,_⟩ hI aH;dsimp only at hI;dsimp only;obtain⟨j8,iV⟩:=hI;refine bg (λhb=>?_) λhb=>?_;refine aw ?_ ?_ λx hx bV=>?_;trivial;trivial;have hk:=cY x hx;refine bO ?_ ?_
  (simp(disch:=omega) [bq,bi]at*;omega);refine ag (alg ?_ _ _ ?_ ?_) λy hy cI=>?_;trivial
  (simp(disch:=omega) [bq,bi]at*;omega);intro x;intro x;refine dG (alB ?_ _ _) λy hy=>?_;trivial;trivial;refine af (λhb=>?_) λhb=>?_;refine ag (pK ?_ _ _ _ _ _) λy hy cI=>?_;trivial;refine aa ?_;rotate_left;apply aH;dsimp only
  (simp(disch:=omega)only[bq]at*;omega);dsimp only
  (simp(disch:=omega)only[bq]at*;omega);apply hJ;dsimp only;all_goals exact .inr (cI (by decide))
end
end Go.Proofs.Mo
