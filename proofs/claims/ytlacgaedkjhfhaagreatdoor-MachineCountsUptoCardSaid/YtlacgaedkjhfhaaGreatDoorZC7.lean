import Derived.Test.YtlacgaedkjhfhaaGreatDoorZC6
set_option linter.all false
open Option renaming some->O,none->Y
open Bool renaming true->W,false->F
namespace Go.X
open Go Go.Ev
def lk{β:Type}:Z (Nat×β)->Nat->V β
 |[],_=>Y|(a,x)::l,t=>bif Nat.beq a t then O x else lk l t
def KY{β:Type}:∀{l:Z (Nat×β)}{t:Nat}{x:β},lk l t=O x->(t,x)∈l
 |(a,y)::l,t,x,h=>by
  simp only[lk]at h;cases b:Nat.beq a t with
  |true=>rw[b]at h;simp only[bf,ax]at h;subst h;rw[bV b];exact EV ..|false=>rw[b]at h;exact s6 _ (KY h)
def vR(U:cg)(hz:Nat->Nat):Nat->dm U.C
 |0=>{cl:=λ_ _=>[],hz:=hz}|k+1=>{cl:=λn x=>ka (vR U hz k) (U.dA n) (U.un n x),hz:=hz}
def below(k:Nat):Ty->tl
 |.struct n=>Nat.blt n k|.aq t|.ref t|.cell t|.Mm _ t=>below k t
 |.gn t u=>below k t&&below k u|_=>W
def XK(U:cg)(k:Nat):Nat:=match U.ak k with
 |.bi t _=>bD U D t|_=>1
section
variable{U:cg}{hz:Nat->Nat}
def lg{T c:dm U.C}(a:T.hz=c.hz){k:Nat}(b:∀n x,n<k->T.cl n x=c.cl n x):∀(t:Ty)(x:bL U.C t),below k t=W->enc T t x=enc c t x
 |.struct n,x,h=>by simp only[below,fQ]at h;simp only[enc,b n x h]|.aq t,x,h=>by simp only[enc];congr 1;exact qT λy _=>lg a b t y h
 |.ref t,x,h=>by
  change V (bL U.C t)at x;cases x with
  |none=>rfl|some y=>simp only[enc,FH];rw[lg a b t y h]
 |.cell t,x,h=>by simp only[enc];rw[lg a b t x h]|.Mm _ t,x,h=>by simp only[enc];rw[lg a b t x h]
 |.gn t u,x,h=>by simp only[below,aI]at h;simp only[enc];rw[lg a b t _ h.1,lg a b u _ h.2]|.jR _ _,_,_|.zb _ _,_,_|.int _,_,_|.bool,_,_|.str,_,_|.unit,_,_|.fn _ _,_,_|.qu _ _,_,_=>rfl|.ptr k,x,_=>rfl
 |.mp k,x,_=>rfl|.hs k,x,_=>by
  change V (Nat×Nat)at x;cases x with
  |none=>rfl|some y=>simp only[enc,gz,a]
def tX{T a:dm U.C}(b:T.hz=a.hz){k:Nat}(c:∀n x,n<k->T.cl n x=a.cl n x):∀(ts:Z Ty)(x:HL U.C ts),ts.all (below k)=W->ka T ts x=ka a ts x
 |[],_,_=>rfl|t::ts,x,h=>by simp only[qQ,aI]at h;simp only[ka];rw[lg b c t _ h.1,tX b c ts _ h.2]
def vS:∀k,(vR U hz k).hz=hz
 |0=>rfl|_+1=>rfl
def IE(a:∀n,(U.dA n).all (below n)=W):∀(k k' n:Nat)(x:U.C n),n<k->n<k'->(vR U hz k).cl n x=(vR U hz k').cl n x
 |0,_,_,_,h,_=>M|_,0,_,_,_,h=>M
 |k+1,k'+1,n,x,b,c=>by simp only[vR];exact tX (by rw[vS,vS]) (λm y d=>IE a k k' m y M M) _ _ (a n)
def OC{top:Nat}(c:∀n x,U.un n (U.make n x)=x)(a:∀n,(U.dA n).all (below n)=W)(d:∀n,(U.dA n).all eV=W)(f:∀n,gk U D (.struct n)=W)
  (g:∀n,top<=n->U.dA n=[]) (i:∀k h l,k<U.nk->U.get k (U.set k h l)=l) (j:U.nk<=1000) (o:∀k h h',U.nk<=k->U.get k h=U.get k h') (p:∀k k' h l,k'≠k->U.get k' (U.set k h l)=U.get k' h):
  cw U (vR U (XK U) (top+1)):=by
 refine⟨c,λn x=>?_,d,f,λk t e q=>?_,i,j,o,p⟩
 .simp only[vR];by_cases s:n<top
  .exact tX (by rw[vS,vS]) (λm y u=>IE a top (top+1) m y M M) _ _ (a n)
  .have:=g n M;have r:∀(ts:Z Ty)(y:HL U.C ts)(T b:dm U.C),ts=[]->ka T ts y=ka b ts y:=by intro ts y T b e;subst e;rfl
   exact r _ _ _ _ this
 .simp only[vR,XK,q]
end
section
variable(P:qK){U:cg}(X:gj U)
def KZ{C:Nat->Type}:(t:Ty)->bL C t->Jz->tl
 |.int k,x,.int k' n=>decide (k=k')&&bp x n|.bool,x,.bool b=>M1 x b
 |.str,x,.string s=>c7 x s.data.toList|.ref t,x,.pointer Y=>eV t&&Option.isNone (α:=bL C t) x
 |.ptr _,x,.pointer Y=>Option.isNone (α:=Nat) x|.mp _,x,.map Y=>Option.isNone (α:=Nat) x
 |.hs _,x,.slice Y 0 0=>Option.isNone (α:=Nat×Nat) x|_,_,_=>F
def zR{C:Nat->Type}:R C->Jz->tl
 |.val t x,v=>KZ t x v|.bM t xs,.slice Y 0 0=>xs.isEmpty&&eV t
 |_,_=>F
def Z1{C:Nat->Type}:Z (R C)->Z Jz->tl
 |[],[]=>W|r::rs,v::vs=>zR r v&&Z1 rs vs
 |_,_=>F
def Gp:Jz->tl
 |.agg _=>W|_=>F
def Gq(e:JA)(t:Ty):tl:=match P.info? e with
 |some i=>match i.zero with
  |some a=>(a.cells.all λv=>v.oneCell')&&Nat.beq a.cells.size i.size&&(bif aV t then Gp a else !Gp a)&&(match lJ U D t with
   |some rs=>Z1 rs a.cells.toList|none=>W)
  |none=>F
 |none=>F
def upto(f:Nat->tl):Nat->tl
 |0=>W|n+1=>f n&&upto f n
def pW{f:Nat->tl}:∀{n:Nat},upto f n=W->∀i,i<n->f i=W
 |n+1,h,i,hi=>by
  simp only[upto,aI]at h;by_cases e:i=n
  .subst e;exact h.1
  .exact pW h.2 i M
def IF(o:V tl)(b:tl):tl:=match o with
 |some x=>x==b|none=>F
def vT{o:V tl}{b:tl}(h:IF o b=W):o=O b:=by
 cases o with
 |none=>cases h
 |some x=>cases x<;>cases b<;>first|rfl|cases h
def IG(e:JA)(n f:Nat):tl:=match fieldAt U (.struct n) f with
 |some (off,a)=>match kj P e f with
  |some (o,b)=>Nat.beq o off&&eV a&&Nat.beq (P.cellsOf b) (bD U D a)&&IF (k7 P b) (aV a)&&Nat.blt 0 (P.cellsOf b)|none=>F
 |none=>W
def IH(pl:Z (Nat×Nat))(n f:Nat):tl:=match oX U 0 (U.dA n) f with
 |some (off,c)=>match pl[f]? with
  |some (a,b)=>Nat.beq a off&&Nat.beq b (bD U D c)|none=>F
 |none=>W
def xv(e:JA)(n:Nat):tl:=match ki P e with
 |some pl=>upto (IH (U:=U) pl n) (U.dA n).length&&(pl.all λp=>Nat.ble (p.1+p.2) (bD U D (.struct n)))|none=>F
def ZL:Ty->Nat
 |.int _=>0|.bool=>1
 |_=>2
def II(e:JA)(n:Nat):tl:=bif (U.dA n).all w6 then(match r3 P e with
 |some a=>decide (a=(U.dA n).map ZL)|none=>F)else W
def kF(e:JA):Ty->tl
 |.int k=>match P.underlying e with
  |some (.int k')=>decide (k=k')|_=>F
 |.bool=>match P.underlying e with
  |some .bool=>W|_=>F
 |.str=>match P.underlying e with
  |some .string=>W|_=>F
 |.aq f=>match P.underlying e with
  |some (.slice c)=>decide (X.ty c=O f)&&(match X.elem e with
   |some g=>Nat.beq g c|none=>W)
  |_=>F
 |.ref _|.ptr _=>match P.underlying e with
  |some (.pointer _)=>W|_=>F
 |.mp k=>match P.underlying e with
  |some (.map a b)=>match U.ak k with
   |.map h d=>decide (X.ty a=O h)&&decide (X.ty b=O d)&&Xh U d|_=>F
  |_=>F
 |.hs _|.struct _=>W|_=>F
def pk(e:JA):Ty->tl
 |.struct n=>(bif (X.j9 e).isNone then upto (IG P (U:=U) e n) (U.dA n).length&&II P (U:=U) e n else W)&&xv P (U:=U) e n|_=>W
def Ra(e:JA)(t:Ty):tl:=eV t&&Nat.beq (P.cellsOf e) (bD U D t)&&Nat.blt 0 (P.cellsOf e)&&Nat.ble (P.cellsOf e) 256&&P.concrete e&&IF (k7 P e) (aV t)&&Nat.beq (X.bytes e) (P.bytesOf e)&&kF P X e t&&pk P X e t&&Gq P (U:=U) e t
end
section
variable{P:qK}{U:cg}{X:gj U}{E:cm}{T:dm U.C}
def Uf{t:Ty}{x:bL U.C t}{v:Jz}(h:KZ t x v=W):(∀bx g tick,bC P E T bx g tick (.val t x) (ct v))∨(v=.slice Y 0 0/\∀bx g tick,bC P E T bx g tick (.val t x) (.val .gx)):=by
 have c:eV t=W->bu (ct v)=O (enc T t x)->(∀bx g tick,bC P E T bx g tick (.val t x) (ct v)):=λd e bx g tick=>.val t x _ _ e (gu d);cases t with
 |int k=>cases v<;>simp only[KZ,iA,aI,aU,bp,gH]at h;obtain⟨rfl,rfl⟩:=h;exact .inl (c rfl rfl)
 |bool=>cases v<;>simp only[KZ,iA,M1,gH]at h;subst h;exact .inl (c rfl rfl)
 |str=>cases v<;>simp only[KZ,iA,c7,gH]at h;subst h;exact .inl (c rfl (by simp only[ct,bu,enc,AE]))
 |ref t=>
  change V (bL U.C t)at x;cases v with
  |pointer p=>
   cases p with
   |none=>
    cases x with
    |none=>simp only[KZ,aI]at h;exact .inl (c h.1 rfl)|some y=>simp[KZ]at h
   |some p=>cases h
  |_=>cases h
 |ptr k=>
  change V Nat at x;cases v with
  |pointer p=>
   cases p with
   |none=>
    cases x with
    |none=>exact .inl (c rfl rfl)|some y=>cases h
   |some p=>cases h
  |_=>cases h
 |mp k=>
  change V Nat at x;cases v with
  |map p=>
   cases p with
   |none=>
    cases x with
    |none=>exact .inl (c rfl rfl)|some y=>cases h
   |some p=>cases h
  |_=>cases h
 |hs k=>
  change V (Nat×Nat)at x;cases v with
  |slice p a b=>
   cases p with
   |none=>cases a with
    |zero=>cases b with
     |zero=>cases x with
      |none=>exact .inr ⟨rfl,λbx g tick=>.val (.hs k) Y _ .gx rfl (gu (t:=.hs k) rfl)⟩|some y=>cases h
     |succ b=>cases h
    |succ a=>cases h
   |some p=>cases h
  |_=>cases h
 |_=>cases v<;>cases h
def ZM{r:R U.C}{v:Jz}(h:zR r v=W):(∀bx g tick,bC P E T bx g tick r (ct v))∨(v=.slice Y 0 0/\∀bx g tick,bC P E T bx g tick r (.val .gx)):=by
 unfold zR at h;split at h
 .exact Uf h
 .rename_i t xs;simp only[aI,Ma]at h;obtain⟨rfl,h⟩:=h;exact .inl λbx g tick=>.bM t [] h
 .cases h
def Rb:∀{rs:Z (R U.C)}{vs:Z Jz},Z1 rs vs=W->vs.length=rs.length/\∀(i:Nat)(r:R U.C)(v:Jz),rs[i]?=O r->vs[i]?=O v->zR r v=W
 |[],[],_=>⟨rfl,λi r v h=>by simp at h⟩|r::rs,v::vs,h=>by
  simp only[Z1,aI]at h;obtain⟨c,d⟩:=Rb h.2;refine⟨by simp[c],λi e f a b=>?_⟩;cases i with
  |zero=>simp at a b;subst a b;exact h.1|succ i=>exact d i e f (by simpa using a) (by simpa using b)
 |[],_::_,h=>by cases h
 |_::_,[],h=>by cases h
def BY:∀{ts:Z Ty}{o f off:Nat}{a:Ty},oX U o ts f=O (off,a)->f<ts.length
 |[],_,_,_,_,h=>by simp[oX]at h|t::ts,_,0,_,_,_=>aE
 |t::ts,_,f+1,_,_,h=>by have:=BY (ts:=ts) (f:=f) h;simp only[ec];omega
def IJ{n f off:Nat}{a:Ty}(h:fieldAt U (.struct n) f=O (off,a)):oX U 0 (U.dA n) f=O (off,a):=by
 simp only[fieldAt]at h;split at h
 .rename_i o t b;obtain⟨_,h⟩:=aA h;simp only[ax,bc]at h;obtain⟨rfl,rfl⟩:=h;exact b
 .cases h
def BZ:∀(ts:Z Ty)(x y:HL U.C ts)(b:tl),ts.all w6=W->pL VW ts x y=O b->fF (ts.map ZL) (ka T ts x) (ka T ts y)=O b
 |[],x,y,b,_,h=>h|t::ts,x,y,b,d,h=>by
  simp only[qQ,aI]at d;simp only[pL]at h;split at h
  .rename_i a b' c f;simp only[ax]at h;subst h;have e:=BZ ts _ _ b' d.2 f;simp only[dy,ka];cases t with
   |int k=>simp only[VW,ax]at c;subst c;simp only[enc,AV.cells,ZL,qR,oy,fF,ca,e,cj]|bool=>simp only[VW,ax]at c;subst c;simp only[enc,AV.cells,ZL,qR,oy,fF,e,cj]
   |str=>simp only[VW,ax]at c;subst c;simp only[enc,AV.cells,ZL,qR,oy,bs,fF,e,cj]|_=>cases d.1
  .cases h
def Rc:∀(ts:Z Ty)(x y:HL U.C ts)(b:tl),pL VW ts x y=O b->ts.all w6=W
 |[],x,y,b,_=>rfl|t::ts,x,y,b,h=>by
  simp only[pL]at h;split at h
  .rename_i a b' c d;have e:w6 t=W:=by cases t<;>first|rfl|(simp[VW]at c;done)
   have f:=Rc ts _ _ _ d;simp only[qQ,e,f,Bool.and_self]
  .cases h
def Re{e:JA}{t:Ty}(h:Ra P X e t=W):jj P E T X e t:=by
 simp only[Ra,aI]at h;obtain⟨⟨⟨⟨⟨⟨⟨⟨⟨I,s⟩,u⟩,w⟩,J⟩,K⟩,L⟩,c⟩,d⟩,g⟩:=h;have s:=bV s;have u:0<P.cellsOf e:=by simpa using u
 have w:P.cellsOf e<=256:=by simpa using w
 refine⟨I,s,u,w,J,vT K,bV L,?_,?_,?_,?_,?_,?_,?_,?_,?_,?_,?_,?_,?_,?_⟩
 .rintro k rfl;simp only[kF]at c;split at c
  .rename_i k' hu;simp only[aU]at c;subst c;exact hu
  .cases c
 .rintro rfl;simp only[kF]at c;split at c
  .assumption
  .cases c
 .rintro rfl;simp only[kF]at c;split at c
  .assumption
  .cases c
 .rintro D rfl;simp only[kF]at c;split at c
  .rename_i l hu;simp only[aI,aU]at c;exact⟨l,hu,c.1⟩
  .cases c
 .rintro D l rfl N;simp only[kF]at c;split at c
  .rename_i j0 hu;simp only[aI,aU,N]at c;have:=bV c.2;subst this;exact⟨hu,c.1⟩
  .cases c
 .rintro D rfl;simp only[kF]at c;split at c
  .rename_i l hu;exact ⟨l,hu⟩
  .cases c
 .rintro k rfl;simp only[kF]at c;split at c
  .rename_i l hu;exact ⟨l,hu⟩
  .cases c
 .rintro k rfl;simp only[kF]at c;split at c
  .rename_i a b hu;split at c
   .rename_i Q R S;simp only[aI,aU]at c;exact⟨a,b,hu,Q,R,S,c.1.1,c.1.2,c.2⟩
   .cases c
  .cases c
 .rintro z n rfl f off U m;simp only[pk,aI]at d;rw[z]at d;simp only[l6,bf,aI]at d;have:=pW d.1.1 f (BY (IJ m));simp only[IG,m]at this;split at this
  .rename_i o a0 b0;simp only[aI]at this;obtain⟨⟨⟨⟨g1,g2⟩,j⟩,q⟩,c0⟩:=this;have g1:=bV g1;subst g1;exact⟨a0,b0,g2,bV j,vT q,by simpa using c0⟩
  .cases this
 .rintro n rfl;simp only[pk,aI]at d;have d:=d.2;simp only[xv]at d;split at d
  .rename_i pl A;simp only[aI]at d;refine⟨pl,A,λf off U m=>?_⟩;have:=pW d.1 f (BY m);simp only[IH,m]at this;split at this
   .rename_i a b d0;simp only[aI]at this;rw[d0,bV this.1,bV this.2]
   .cases this
  .cases d
 .rintro n rfl pl A;simp only[pk,aI]at d;have d:=d.2;simp only[xv,A,aI]at d;refine cS.2 λp e0=>?_;have:=cS.1 d.2 p e0;simpa using this
 .simp only[Gq]at g;split at g
  .rename_i i hi;split at g
   .rename_i B C;simp only[aI]at g;obtain⟨⟨⟨g1,g2⟩,j⟩,q⟩:=g;refine⟨i,B,hi,C,g1,bV g2,λhs=>?_,λrs f0=>?_⟩
    .rw[hs]at j;unfold Gp at j;split at j
     .exact ⟨_,rfl⟩
     .cases j
    .rw[f0]at q;obtain⟨g0,h0⟩:=Rb q;exact⟨by simpa using g0,λi r v a b=>ZM (h0 i r v a (by simpa using b))⟩
   .cases g
  .cases g
 .intro hs i B hi C;simp only[Gq,hi,C,hs,aI,bq]at g;obtain⟨⟨⟨g1,g2⟩,j⟩,q⟩:=g;cases B<;>first|exact ⟨rfl,rfl⟩|(simp[Gp]at j)
 .rintro z n rfl b x y G;simp only[pk,aI]at d;rw[z]at d;simp only[l6,bf,aI]at d;have d:=d.1.2;have H:=Rc _ _ _ _ G;simp only[II,H,bf]at d;split at d
  .rename_i l0 i0;simp only[aU]at d;subst d;exact⟨_,i0,BZ _ _ _ _ H G⟩
  .cases d
end
structure vU where
 ty:List (Nat×Ty)
 elem:List (Nat×Nat)
 bytes:List (Nat×Nat)
 JL:List Nat
 JM:List Nat
 j9:List (Nat×Nat)
 pK:List Nat:=[]
 VV:List (Nat×Nat):=[]
def vU.qN {U:cg} (B:vU) (N:Nat) (con:Z (Nat×Z (b7 U))) (wr:tl:=W):gj U:={ty:=lk B.ty,elem:=lk B.elem,bytes:=λt=>(lk B.bytes t).getD 0,con:=λf=>(lk con f).getD [],N:=N,wr:=wr,JL:=λe=>ig e B.JL,JM:=λe=>ig e B.JM,j9:=lk B.j9,pK:=λe=>ig e B.pK,VV:=B.VV}
section
variable(P:qK)(U:cg)
def IK(k:Nat):tl:=match U.ak k with
 |.hC t=>eV t|.map a b=>w6 a&&eV b
 |_=>W
def Rg(e:JA):tl:=match P.underlying e with
 |some (.slice a)=>tt P a&&Nat.beq (P.cellsOf a) 1|_=>F
def Rh(B:vU)(e a:JA):tl:=match P.underlying e with
 |some (.array N b)=>Nat.beq b a&&Nat.beq (P.cellsOf a) 1&&(ig e B.pK||IF (k7 P a) F)&&(match lk B.ty e with
  |some (.struct n)=>Nat.beq (U.dA n).length N&&Nat.beq (bD U D (.struct n)) N&&(U.dA n).all λt=>!aV t|_=>W)
 |_=>F
def Nb:Jz->tl
 |.nilFunc=>W|_=>F
def Nc(e:JA):tl:=match P.info? e with
 |some i=>match i.zero with
  |some a=>a.cells.toList.all Nb|none=>W
 |none=>W
def xw(B:vU):tl:=(B.ty.all λp=>Ra P (B.qN (U:=U) 0 []) p.1 p.2)&&upto (IK U) U.nk&&B.JL.all (Rg P)&&(B.JM.all λe=>Nat.beq (P.cellsOf e) 1&&IF (k7 P e) F)&&(B.j9.all λp=>Rh P U B p.1 p.2)&&B.pK.all (Nc P)
end
section
variable{P:qK}{U:cg}{B:vU}{E:cm}{T:dm U.C}{N:Nat}{con:Z (Nat×Z (b7 U))}{wr:tl}
def Ri{a:Nat}{b:Z (Nat×Z (b7 U))}{c:tl}{e:JA}{t:Ty}(h:jj P E T (B.qN N con wr) e t):jj P E T (B.qN a b c) e t:=⟨h.ok,h.cells,h.pos,h.few,h.Xr,h.agg,h.bytes,h.int,h.bool,h.str,h.aq,h.elem,h.ref,h.ptr,h.mp,h.field,h.Ky,h.rz,h.zero,h.zv1,h.kinds⟩
def OD{a:Nat}{b:Z (Nat×Z (b7 U))}{d:tl}{f:JC}{c:b7 U}(h:jV P E T (B.qN N con wr) f c):jV P E T (B.qN a b d) f c:=⟨h.rs,h.dO,h.sy⟩
inductive tY(P:Program)(E:cm)(T:dm U.C)(B:vU):List (Nat×List (b7 U))->Prop where
 |nil:tY P E T B []
 |cons {f:Nat} {c:b7 U} {l:List (Nat×List (b7 U))} (h:jV P E T (B.qN 0 []) f c) (hl:tY P E T B l):tY P E T B ((f,[c])::l)
def tY.ok {l:Z (Nat×Z (b7 U))} (h:tY P E T B l):∀f c,c∈(lk l f).getD []->jV P E T (B.qN 0 []) f c:=by
 induction h with
 |nil=>intro f c a;simp[lk]at a|@cons d g l h i e=>
  intro f c a;simp only[lk]at a;cases b:Nat.beq d f with
  |true=>rw[b]at a;simp only[bf,eP,iC]at a;subst a;rw[<-bV b];exact h|false=>rw[b]at a;exact e f c a
def Rj(a:xw P U B=W):∀E' e t,(B.qN (U:=U) N con wr).ty e=O t->jj P E' T (B.qN N con wr) e t:=λE' e t h=>by simp only[xw,aI]at a;have:=cS.1 a.1.1.1.1.1 _ (KY (l:=B.ty) h);exact Ri (Re this)
def rJ(p:xw P U B=W)(x:∀k,U.nk<=k->U.ak k=.hC .bool)(q:∀i,E.ro i=Y)(y:tY P E T B con):bP P E T (B.qN N con wr):=by
 have r:=p;simp only[xw,aI]at r;obtain⟨⟨⟨⟨⟨J,z⟩,A⟩,C⟩,D⟩,G⟩:=r;have s:∀k,IK U k=W:=λk=>by
  rcases tf k U.nk with h|h
  .exact pW z k h
  .simp[IK,x k h,eV]
 refine⟨λ_=>q,λk i _ _=>q _,λe t h=>Rj p E e t h,λf c h=>OD (y.ok f c h),λk t h=>?_,λk a b h=>?_,λe h=>?_,λe h=>?_,λe u h=>?_,λe h i K hi hz v hv=>?_,λf n fs H=>by cases H⟩
 .have:=s k;simpa only[IK,h]using this
 .have:=s k;simpa only[IK,h,aI]using this
 .have:=cS.1 A e (cf.1 h);simp only[Rg]at this;split at this
  .rename_i u g;simp only[aI]at this;exact⟨u,g,this.1,bV this.2⟩
  .cases this
 .have:=cS.1 C e (cf.1 h);simp only[aI]at this;exact⟨bV this.1,vT this.2⟩
 .have:=cS.1 D _ (KY (l:=B.j9) h);simp only[Rh]at this;split at this
  .rename_i N L g;simp only[aI]at this;obtain⟨⟨⟨j,I⟩,w⟩,d⟩:=this;have j:=bV j;subst j;refine⟨N,g,bV I,λm=>?_,λn o=>?_⟩
   .have m:ig e B.pK=F:=m;rw[m]at w;exact vT w
   have o:lk B.ty e=O (.struct n):=o;rw[o]at d;simp only[aI]at d;exact⟨bV d.1.1,bV d.1.2,d.2⟩
  .cases this
 .have:=cS.1 G e (cf.1 h);simp only[Nc,hi,hz]at this;have:=cS.1 this v hv;unfold Nb at this;split at this
  .rfl
  .cases this
end
end Go.X
namespace Go.X
open Go Go.Ev
def om(fn:Pz)(n:Nat):tl:=fn.body.isSome&&!(fn.name== "runtime.NumGoroutine")&&Nat.ble n fn.ntmps&&eQ fn.ntmps (fn.body.getD .skip)&&kB fn.ntmps fn.results.toList
def Wb(B:vU):RK->tl
 |.v t=>eV t|.bU t e=>decide (lk B.ty e=O t)
def kG(B:vU)(rs:Z RK)(a:V (JA×Ty)):tl:=rs.all (Wb B)&&(match a with
 |some (_,t)=>eV t|none=>W)
section
variable{P:qK}{U:cg}{B:vU}{E:cm}{T:dm U.C}{N:Nat}{con:Z (Nat×Z (b7 U))}
def hp{f:JC}{ps:Z Ty}{rs:Z RK}{dO:V (JA×Ty)}{c:Run U ps rs dO}(a:kG B rs dO=W)(h:nY P E T f ps rs dO c):jV P E T (B.qN 0 []) f ⟨ps,rs,dO,c⟩:=by
 simp only[kG,aI]at a;refine⟨λr d=>?_,λg t b=>?_,h⟩
 .have:=cS.1 a.1 r d;cases r with
  |v t=>exact this|bU t e=>show lk B.ty e=O t;simpa[Wb]using this
 .have:=a.2;have b:dO=O (g,t):=b;rw[b]at this;exact this
def rK{fn:Pz}{n:Nat}(h:om fn n=W):∃c,fn.body=O c/\fn.body.getD .skip=c/\(fn.name== "runtime.NumGoroutine")=F/\n<=fn.ntmps/\eQ fn.ntmps c=W/\kB fn.ntmps fn.results.toList=W:=by
 simp only[om,aI]at h;obtain⟨⟨⟨⟨a,e⟩,f⟩,b⟩,g⟩:=h;cases d:fn.body with
 |none=>rw[d]at a;cases a
 |some c=>rw[d]at b;exact⟨c,rfl,rfl,by simpa using e,by simpa using f,b,g⟩
structure Gr(P:Program)(U:cg)(T:dm U.C)(B:vU):Prop where
 L:cw U T
 mo:P.follows .mixedOrders=W
 yG:xw P U B=W
 ak:∀k,U.nk<=k->U.ak k=.hC .bool
def Rk(S:Gr P U T B)(b:∀i,E.ro i=Y)(h0:U.C 0){f:JC}{fn:Pz}{ps:Z Ty}{rs:Z RK}{dO:V (JA×Ty)}{esc:Z (Nat×Nat)}{hint:fC}{a:HL U.C ps->V (h7 U dO (HL U.C (rs.map RK.ty)))}(d:tY P E T B con)(e:P.funcs[f]?=O fn)(g:om fn ps.length=W)(j:kG B rs dO=W)
  (hF:∀x h,DT (B.qN N con) ps rs dO esc fn.results.toList (fn.body.getD .skip) hint x h=a x):jV P E T (B.qN 0 []) f ⟨ps,rs,dO,.pure a⟩:=by
 obtain⟨c,h1,k,l,m,n,o⟩:=rK g;rw[k]at hF;exact hp j (QX S.L S.mo (rJ S.yG S.ak b d) e l h1 m n o h0 λx=>hF x h0)
def XL(S:Gr P U T B)(b:∀i,E.ro i=Y){f:JC}{fn:Pz}{ps:Z Ty}{rs:Z RK}{dO:V (JA×Ty)}{esc:Z (Nat×Nat)}{hint:fC}{a:HL U.C ps->U.C 0->V (h7 U dO (HL U.C (rs.map RK.ty))×U.C 0)}(d:tY P E T B con)(e:P.funcs[f]?=O fn)(g:om fn ps.length=W)(j:kG B rs dO=W)
  (hF:∀x h,vr (B.qN N con) ps rs dO esc fn.results.toList (fn.body.getD .skip) hint x h=a x h):jV P E T (B.qN 0 []) f ⟨ps,rs,dO,.st a⟩:=by
 obtain⟨c,h1,k,l,m,n,o⟩:=rK g;rw[k]at hF;exact hp j (QY S.L S.mo (rJ S.yG S.ak b d) e l h1 m n o hF)
def Ug(S:Gr P U T B)(b:∀i,E.ro i=Y){f:JC}{fn:Pz}{ps:Z Ty}{rs:Z RK}{dO:V (JA×Ty)}{esc:Z (Nat×Nat)}{hint:fC}{a:HL U.C ps->U.C 0->V (h7 U dO (HL U.C (rs.map RK.ty))×U.C 0)}(d:tY P E T B con)(e:P.funcs[f]?=O fn)(g:om fn ps.length=W)(j:kG B rs dO=W)
  (hF:∀x h,Gn (B.qN N con) ps rs dO esc fn.results.toList (fn.body.getD .skip) hint x h=a x h):jV P E T (B.qN 0 []) f ⟨ps,rs,dO,.st a⟩:=by
 obtain⟨c,h1,k,l,m,n,o⟩:=rK g;rw[k]at hF;exact hp j (XJ S.L S.mo (Rj S.yG) (rJ S.yG S.ak b d) e l h1 m n o hF)
def Rl{f:JC}{ps:Z Ty}{rs:Z RK}(a:kG B rs Y=W):jV P E T (B.qN (U:=U) 0 []) f ⟨ps,rs,Y,.st λ_ _=>Y⟩:=hp a λx h c r h' A Vloc _ _ b=>by cases b
def ZN(S:Gr P U T B)(b:∀i,E.ro i=Y)(h0:U.C 0){f:JC}(fn:Pz)(c:b7 U)(N:Nat)(esc:Z (Nat×Nat))(hint:fC)(d:tY P E T B con)(a:HL U.C c.ps->V (h7 U c.dO (HL U.C (c.rs.map RK.ty))))(e:P.funcs[f]?=O fn)(g:om fn c.ps.length=W)(j:kG B c.rs c.dO=W)
  (hF:∀x h,DT (B.qN N con) c.ps c.rs c.dO esc fn.results.toList (fn.body.getD .skip) hint x h=a x):jV P E T (B.qN 0 []) f ⟨c.ps,c.rs,c.dO,.pure a⟩:=
 Rk S b h0 d e g j hF
def Wc(S:Gr P U T B)(b:∀i,E.ro i=Y){f:JC}(fn:Pz)(c:b7 U)(N:Nat)(esc:Z (Nat×Nat))(hint:fC)(d:tY P E T B con)(a:HL U.C c.ps->U.C 0->V (h7 U c.dO (HL U.C (c.rs.map RK.ty))×U.C 0))(e:P.funcs[f]?=O fn)(g:om fn c.ps.length=W)(j:kG B c.rs c.dO=W)
  (hF:∀x h,vr (B.qN N con) c.ps c.rs c.dO esc fn.results.toList (fn.body.getD .skip) hint x h=a x h):jV P E T (B.qN 0 []) f ⟨c.ps,c.rs,c.dO,.st a⟩:=
 XL S b d e g j hF
def ZO(S:Gr P U T B)(b:∀i,E.ro i=Y){f:JC}(fn:Pz)(c:b7 U)(N:Nat)(esc:Z (Nat×Nat))(hint:fC)(d:tY P E T B con)(a:HL U.C c.ps->U.C 0->V (h7 U c.dO (HL U.C (c.rs.map RK.ty))×U.C 0))(e:P.funcs[f]?=O fn)(g:om fn c.ps.length=W)(j:kG B c.rs c.dO=W)
  (hF:∀x h,Gn (B.qN N con) c.ps c.rs c.dO esc fn.results.toList (fn.body.getD .skip) hint x h=a x h):jV P E T (B.qN 0 []) f ⟨c.ps,c.rs,c.dO,.st a⟩:=
 Ug S b d e g j hF
end
abbrev fC.J (a b:fC):fC:=.seq (O ⟨F,[],[],[],[]⟩) a b
abbrev fC.q (b:fC):fC:=.seq Y .aC b
abbrev fC.w (k:Z Nat) (r:Z (Nat×RS)) (a:fC):fC:=.loop ⟨F,k,r,[],[]⟩ a
abbrev fC.W (k:Z Nat) (r:Z (Nat×RS)):fC:=.seq Y .aC (.block (.loop ⟨F,k,r,[],[]⟩ .aC))
abbrev Ty.I:Ty:=.int .i64
end Go.X
