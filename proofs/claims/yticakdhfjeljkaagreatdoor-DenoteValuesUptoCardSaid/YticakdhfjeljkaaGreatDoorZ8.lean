import Derived.Test.YticakdhfjeljkaaGreatDoorZ7
set_option linter.all false
set_option maxRecDepth 20000
open Option renaming some->O,none->Y
open Bool renaming true->W,false->F
namespace Go.X
open Go Go.Ev
def lk{β:Type}:Z (Nat×β)->Nat->V β
 |[],_=>Y|(a,x)::l,t=>bif Nat.beq a t then O x else lk l t
theorem MM{β:Type}:∀{l:Z (Nat×β)}{t:Nat}{x:β},lk l t=O x->(t,x)∈l
 |(a,y)::l,t,x,h=>by
  simp only[lk]at h;cases b:Nat.beq a t with
  |true=>simp_all|false=>rw[b]at h;exact IX _ (MM h)
def wT(U:cp)(hz:Nat->Nat):Nat->dt U.C
 |0=>{cl:=λ_ _=>[],hz:=hz}|k+1=>{cl:=λn x=>jZ (wT U hz k) (U.dO n) (U.un n x),hz:=hz}
def below(k:Nat):Ty->aa
 |.struct n=>Nat.blt n k|.bk t|.ref t|.cell t|.NY _ t=>below k t
 |.iz t u=>below k t&&below k u|_=>W
def ZN(U:cp)(k:Nat):Nat:=match U.ak k with
 |.br t _=>bB U D t|_=>1
section
variable{U:cp}{hz:Nat->Nat}
theorem lW{T c:dt U.C}(a:T.hz=c.hz){k:Nat}(b:∀n x,n<k->T.cl n x=c.cl n x):∀(t:Ty)(x:bL U.C t),below k t=W->enc T t x=enc c t x
 |.struct n,x,h=>by grind [below,Nat.blt_eq,enc]|.bk t,x,h=>by simp only[enc];congr 1;exact EY λy _=>lW a b t y h
 |.ref t,x,h=>by
  change V (bL U.C t)at x;cases x with
  |none=>rfl|some y=>simp only[enc,Hq];rw[lW a b t y h]
 |.cell t,x,h=>by simp only[enc];rw[lW a b t x h]|.NY _ t,x,h=>by simp only[enc];rw[lW a b t x h]
 |.iz t u,x,h=>by simp only[below,aP]at h;simp only[enc];rw[lW a b t _ h.1,lW a b u _ h.2]|.iC _ _,_,_|.An _ _,_,_|.int _,_,_|.bool,_,_|.str,_,_|.unit,_,_|.fn _ _,_,_|.lP _ _,_,_=>rfl|.ptr k,x,_=>rfl
 |.mp k,x,_=>rfl|.hs k,x,_=>by
  change V (Nat×Nat)at x;cases x with
  |none=>rfl|some y=>simp only[enc,hD,a]
def uW{T a:dt U.C}(b:T.hz=a.hz){k:Nat}(c:∀n x,n<k->T.cl n x=a.cl n x):∀(ts:Z Ty)(x:HL U.C ts),ts.all (below k)=W->jZ T ts x=jZ a ts x
 |[],_,_=>rfl|t::ts,x,h=>by simp only[tC,aP]at h;simp only[jZ];rw[lW b c t _ h.1,uW b c ts _ h.2]
def wU:∀k,(wT U hz k).hz=hz
 |0=>rfl|_+1=>rfl
def Kf(a:∀n,(U.dO n).all (below n)=W):∀(k k' n:Nat)(x:U.C n),n<k->n<k'->(wT U hz k).cl n x=(wT U hz k').cl n x
 |0,_,_,_,h,_=>M|_,0,_,_,_,h=>M
 |k+1,k'+1,n,x,b,c=>by simp only[wT];exact uW (by rw[wU,wU]) (λm y d=>Kf a k k' m y M M) _ _ (a n)
theorem Qk{top:Nat}(c:∀n x,U.un n (U.make n x)=x)(a:∀n,(U.dO n).all (below n)=W)(d:∀n,(U.dO n).all fD=W)(f:∀n,ha U D (.struct n)=W)
  (g:∀n,top<=n->U.dO n=[]) (i:∀k h l,k<U.nk->U.get k (U.set k h l)=l) (j:U.nk<=1000) (o:∀k h p,U.nk<=k->U.get k h=U.get k p) (q:∀k k' h l,k'≠k->U.get k' (U.set k h l)=U.get k' h):
  cD U (wT U (ZN U) (top+1)):=by
 refine⟨c,λn x=>?_,d,f,λk t e r=>?_,i,j,o,q⟩
 .simp only[wT];by_cases s:n<top
  .exact uW (by rw[wU,wU]) (λm y u=>Kf a top (top+1) m y M M) _ _ (a n)
  .have:=g n M;have v:∀(ts:Z Ty)(y:HL U.C ts)(T b:dt U.C),ts=[]->jZ T ts y=jZ b ts y:=by intro ts y T b e;subst e;rfl
   grind
 .simp only[wT,ZN,r]
end
section
variable(P:ai){U:cp}(X:gy U)
def MN{C:Nat->Type}:(t:Ty)->bL C t->ag->aa
 |.int k,x,.int k' n=>decide (k=k')&&dp x n|.bool,x,.bool b=>xV x b
 |.str,x,.string s=>dz x s.data.toList|.ref t,x,.pointer Y=>fD t&&Option.isNone (α:=bL C t) x
 |.ptr _,x,.pointer Y=>Option.isNone (α:=Nat) x|.mp _,x,.map Y=>Option.isNone (α:=Nat) x
 |.hs _,x,.slice Y 0 0=>Option.isNone (α:=Nat×Nat) x|_,_,_=>F
def zR{C:Nat->Type}:R C->ag->aa
 |.val t x,v=>MN t x v|.bF t xs,.slice Y 0 0=>xs.isEmpty&&fD t
 |_,_=>F
def zRs{C:Nat->Type}:Z (R C)->Z ag->aa
 |[],[]=>W|r::rs,v::vs=>zR r v&&zRs rs vs
 |_,_=>F
def HZ:ag->aa
 |.agg _=>W|_=>F
def H6(e:an)(t:Ty):aa:=match P.info? e with
 |some i=>match i.zero with
  |some a=>(a.cells.all λv=>v.oneCell')&&Nat.beq a.cells.size i.size&&(bif a7 t then HZ a else !HZ a)&&(match mB U D t with
   |some rs=>zRs rs a.cells.toList|none=>W)
  |none=>F
 |none=>F
def upto(f:Nat->aa):Nat->aa
 |0=>W|n+1=>f n&&upto f n
theorem qS{f:Nat->aa}:∀{n:Nat},upto f n=W->∀i,i<n->f i=W
 |n+1,h,i,hi=>by
  simp only[upto,aP]at h;by_cases e:i=n
  grind
  .exact qS h.2 i M
def Kg(o:V aa)(b:aa):aa:=match o with
 |some x=>x==b|none=>F
theorem wV{o:V aa}{b:aa}(h:Kg o b=W):o=O b:=by
 cases o with
 |none=>cases h
 |some x=>cases x<;>cases b<;>first|rfl|cases h
def Kh(e:an)(n f:Nat):aa:=match fieldAt U (.struct n) f with
 |some (off,a)=>match kX P e f with
  |some (o,b)=>Nat.beq o off&&fD a&&Nat.beq (P.cellsOf b) (bB U D a)&&Kg (mZ P b) (a7 a)&&Nat.blt 0 (P.cellsOf b)|none=>F
 |none=>W
def Ki(c:Z (Nat×Nat))(n f:Nat):aa:=match pU U 0 (U.dO n) f with
 |some (off,d)=>match c[f]? with
  |some (a,b)=>Nat.beq a off&&Nat.beq b (bB U D d)|none=>F
 |none=>W
def yt(e:an)(n:Nat):aa:=match kW P e with
 |some a=>upto (Ki (U:=U) a n) (U.dO n).length&&(a.all λp=>Nat.ble (p.1+p.2) (bB U D (.struct n)))|none=>F
def r2:Ty->Nat
 |.int _=>0|.bool=>1
 |_=>2
def Kj(e:an)(n:Nat):aa:=bif (U.dO n).all xY then(match sM P e with
 |some a=>decide (a=(U.dO n).map r2)|none=>F)else W
def lh(e:an):Ty->aa
 |.int k=>match P.underlying e with
  |some (.int k')=>decide (k=k')|_=>F
 |.bool=>match P.underlying e with
  |some .bool=>W|_=>F
 |.str=>match P.underlying e with
  |some .string=>W|_=>F
 |.bk f=>match P.underlying e with
  |some (.slice c)=>decide (X.ty c=O f)&&(match X.elem e with
   |some g=>Nat.beq g c|none=>W)
  |_=>F
 |.ref _|.ptr _=>match P.underlying e with
  |some (.pointer _)=>W|_=>F
 |.mp k=>match P.underlying e with
  |some (.map a b)=>match U.ak k with
   |.map h d=>decide (X.ty a=O h)&&decide (X.ty b=O d)&&Zj U d|_=>F
  |_=>F
 |.hs _|.struct _=>W|_=>F
def qe(e:an):Ty->aa
 |.struct n=>(bif (X.k6 e).isNone then upto (Kh P (U:=U) e n) (U.dO n).length&&Kj P (U:=U) e n else W)&&yt P (U:=U) e n|_=>W
def Tk(e:an)(t:Ty):aa:=fD t&&Nat.beq (P.cellsOf e) (bB U D t)&&Nat.blt 0 (P.cellsOf e)&&Nat.ble (P.cellsOf e) 256&&P.concrete e&&Kg (mZ P e) (a7 t)&&Nat.beq (X.bytes e) (P.bytesOf e)&&lh P X e t&&qe P X e t&&H6 P (U:=U) e t
end
section
variable{P:ai}{U:cp}{X:gy U}{E:cd}{T:dt U.C}
def Wd{t:Ty}{x:bL U.C t}{v:ag}(h:MN t x v=W):(∀bx g tick,bA P E T bx g tick (.val t x) (cB v))∨(v=.slice Y 0 0/\∀bx g tick,bA P E T bx g tick (.val t x) (.val .hk)):=by
 have c:fD t=W->bz (cB v)=O (enc T t x)->(∀bx g tick,bA P E T bx g tick (.val t x) (cB v)):=λd e bx g tick=>.val t x _ _ e (eg d);cases t with
 |int k=>cases v<;>simp only[MN,jo,aP,aV,dp,gE]at h;obtain⟨rfl,rfl⟩:=h;exact .inl (c rfl rfl)
 |bool=>cases v<;>simp only[MN,jo,xV,gE]at h;subst h;exact .inl (c rfl rfl)
 |str=>cases v<;>simp only[MN,jo,dz,gE]at h;subst h;exact .inl (c rfl (by simp only[cB,bz,enc,BK]))
 |ref t=>
  change V (bL U.C t)at x;cases v with
  |pointer p=>
   cases p with
   |none=>
    cases x with
    |none=>simp only[MN,aP]at h;exact .inl (c h.1 rfl)|some y=>simp[MN]at h
   |some p=>cases h
  |_=>cases h
 |ptr k=>
  change V Nat at x;cases v with
  |pointer p=>
   cases p with
   |none=>
    cases x with
    |none=>exact .inl (c rfl rfl)|some y=>cases h
   |some p=>cases h
  |_=>cases h
 |mp k=>
  change V Nat at x;cases v with
  |map p=>
   cases p with
   |none=>
    cases x with
    |none=>exact .inl (c rfl rfl)|some y=>cases h
   |some p=>cases h
  |_=>cases h
 |hs k=>
  change V (Nat×Nat)at x;cases v with
  |slice p a b=>
   cases p with
   |none=>cases a with
    |zero=>cases b with
     |zero=>cases x with
      |none=>exact .inr ⟨rfl,λbx g tick=>.val (.hs k) Y _ .hk rfl (eg (t:=.hs k) rfl)⟩|some y=>cases h
     |succ b=>cases h
    |succ a=>cases h
   |some p=>cases h
  |_=>cases h
 |_=>cases v<;>cases h
def abx{r:R U.C}{v:ag}(h:zR r v=W):(∀bx g tick,bA P E T bx g tick r (cB v))∨(v=.slice Y 0 0/\∀bx g tick,bA P E T bx g tick r (.val .hk)):=by
 unfold zR at h;split at h
 .exact Wd h
 .rename_i t xs;simp only[aP,NJ]at h;obtain⟨rfl,h⟩:=h;exact .inl λbx g tick=>.bF t [] h
 .cases h
theorem Tl:∀{rs:Z (R U.C)}{vs:Z ag},zRs rs vs=W->vs.length=rs.length/\∀(i:Nat)(r:R U.C)(v:ag),rs[i]?=O r->vs[i]?=O v->zR r v=W
 |[],[],_=>⟨rfl,λi r v h=>by simp at h⟩|r::rs,v::vs,h=>by
  simp only[zRs,aP]at h;obtain⟨a,b⟩:=Tl h.2
  grind
 |[],_::_,h=>by cases h
 |_::_,[],h=>by cases h
theorem Dd:∀{ts:Z Ty}{o f off:Nat}{a:Ty},pU U o ts f=O (off,a)->f<ts.length
 |[],_,_,_,_,h=>by simp[pU]at h|t::ts,_,0,_,_,_=>aH
 |t::ts,_,f+1,_,_,h=>by
  have:=Dd (ts:=ts) (f:=f) h
  grind
theorem Kk{n f off:Nat}{a:Ty}(h:fieldAt U (.struct n) f=O (off,a)):pU U 0 (U.dO n) f=O (off,a):=by
 simp only[fieldAt]at h
 grind
theorem De:∀(ts:Z Ty)(x y:HL U.C ts)(b:aa),ts.all xY=W->qG Yf ts x y=O b->gp (ts.map r2) (jZ T ts x) (jZ T ts y)=O b
 |[],x,y,b,_,h=>h|t::ts,x,y,b,d,h=>by
  simp only[tC,aP]at d;simp only[qG]at h;split at h
  .rename_i a b' c f;simp only[aN]at h;subst h;have e:=De ts _ _ b' d.2 f;simp only[gb,jZ];cases t with
   |int k=>simp only[Yf,aN]at c;subst c;simp only[enc,AV.cells,r2,EU,pw,gp,cm,e,dr]|bool=>
    simp only[Yf,aN]at c
    grind [enc,AV.cells,r2,gp]
   |str=>simp only[Yf,aN]at c;subst c;simp only[enc,AV.cells,r2,EU,pw,bs,gp,e,dr]|_=>cases d.1
  .cases h
theorem Tm:∀(ts:Z Ty)(x y:HL U.C ts)(b:aa),qG Yf ts x y=O b->ts.all xY=W
 |[],x,y,b,_=>rfl|t::ts,x,y,b,h=>by
  simp only[qG]at h;split at h
  .rename_i a b' c d;have e:xY t=W:=by cases t<;>first|rfl|(simp[Yf]at c;done)
   have f:=Tm ts _ _ _ d
   grind
  .cases h
theorem Tn{e:an}{t:Ty}(h:Tk P X e t=W):kv P E T X e t:=by
 simp only[Tk,aP]at h;obtain⟨⟨⟨⟨⟨⟨⟨⟨⟨D,p⟩,q⟩,s⟩,G⟩,H⟩,I⟩,g⟩,c⟩,d⟩:=h;have p:=cC p;have q:0<P.cellsOf e:=by simpa using q
 have s:P.cellsOf e<=256:=by simpa using s
 refine⟨D,p,q,s,G,wV H,cC I,?_,?_,?_,?_,?_,?_,?_,?_,?_,?_,?_,?_,?_,?_⟩
 .rintro k rfl;simp only[lh]at g
  grind
 .rintro rfl
  grind [lh]
 .rintro rfl
  grind [lh]
 .rintro B rfl;simp only[lh]at g
  grind
 .rintro B a0 rfl b0;simp only[lh]at g;split at g;simp_all
  .cases g
 .rintro B rfl
  grind [lh]
 .rintro k rfl
  grind [lh]
 .rintro k rfl;simp only[lh]at g
  grind
 .rintro u n rfl f off J l;simp only[qe,aP]at c;rw[u]at c;simp only[mU,aW,aP]at c;have:=qS c.1.1 f (Dd (Kk l));simp only[Kh,l]at this;split at this
  .rename_i o K L;simp only[aP]at this;obtain⟨⟨⟨⟨g1,g2⟩,j⟩,m⟩,N⟩:=this;have g1:=cC g1;subst g1;exact⟨K,L,g2,cC j,wV m,by simpa using N⟩
  grind
 .rintro n rfl;simp only[qe,aP]at c;have c:=c.2;simp only[yt]at c;split at c
  .rename_i C w;simp only[aP]at c;refine⟨C,w,λf off J l=>?_⟩;have:=qS c.1 f (Dd l);simp only[Ki,l]at this;split at this;simp_all
   grind
  .cases c
 .rintro n rfl C w;simp only[qe,aP]at c;have c:=c.2;simp only[yt,w,aP]at c;simp_all
 .simp only[H6]at d;split at d
  .rename_i i hi;split at d
   .rename_i z A;simp only[aP]at d;obtain⟨⟨⟨g1,g2⟩,j⟩,m⟩:=d;refine⟨i,z,hi,A,g1,cC g2,λhs=>?_,λrs Q=>?_⟩
    .rw[hs]at j;unfold HZ at j
     grind
    .rw[Q]at m;obtain⟨c0,R⟩:=Tl m;exact⟨by grind,λi r v a b=>abx (R i r v a (by grind))⟩
   .cases d
  .cases d
 .intro hs i z hi A;simp only[H6,hi,A,hs,aP,aX]at d;obtain⟨⟨⟨g1,g2⟩,j⟩,m⟩:=d;cases z<;>first|exact ⟨rfl,rfl⟩|(simp[HZ]at j)
 .rintro u n rfl b x y S;simp only[qe,aP]at c;rw[u]at c;simp only[mU,aW,aP]at c;have c:=c.1.2;have U:=Tm _ _ _ _ S;simp only[Kj,U,aW]at c;split at c
  .rename_i d0 e0;simp only[aV]at c
   grind [De]
  .cases c
end
structure Ar where
 ty:List (Nat×Ty)
 elem:List (Nat×Nat)
 bytes:List (Nat×Nat)
 Mb:List Nat
 Mc:List Nat
 k6:List (Nat×Nat)
 ry:List Nat:=[]
 Ze:List (Nat×Nat):=[]
def Ar.lA {U:cp} (B:Ar) (N:Nat) (lB:Z (Nat×Z (bZ U))) (wr:aa:=W):gy U:={ty:=lk B.ty,elem:=lk B.elem,bytes:=λt=>(lk B.bytes t).getD 0,lB:=λf=>(lk lB f).getD [],N:=N,wr:=wr,Mb:=λe=>ik e B.Mb,Mc:=λe=>ik e B.Mc,k6:=lk B.k6,ry:=λe=>ik e B.ry,Ze:=B.Ze}
section
variable(P:ai)(U:cp)
def Kl(k:Nat):aa:=match U.ak k with
 |.h7 t=>fD t|.map a b=>xY a&&fD b
 |_=>W
def To(e:an):aa:=match P.underlying e with
 |some (.slice a)=>uu P a&&Nat.beq (P.cellsOf a) 1|_=>F
def Tp(B:Ar)(e a:an):aa:=match P.underlying e with
 |some (.array N b)=>Nat.beq b a&&Nat.beq (P.cellsOf a) 1&&(ik e B.ry||Kg (mZ P a) F)&&(match lk B.ty e with
  |some (.struct n)=>Nat.beq (U.dO n).length N&&Nat.beq (bB U D (.struct n)) N&&(U.dO n).all λt=>!a7 t|_=>W)
 |_=>F
def OR:ag->aa
 |.nilFunc=>W|_=>F
def OS(e:an):aa:=match P.info? e with
 |some i=>match i.zero with
  |some a=>a.cells.toList.all OR|none=>W
 |none=>W
def yu(B:Ar):aa:=(B.ty.all λp=>Tk P (B.lA (U:=U) 0 []) p.1 p.2)&&upto (Kl U) U.nk&&B.Mb.all (To P)&&(B.Mc.all λe=>Nat.beq (P.cellsOf e) 1&&Kg (mZ P e) F)&&(B.k6.all λp=>Tp P U B p.1 p.2)&&B.ry.all (OS P)
end
section
variable{P:ai}{U:cp}{B:Ar}{E:cd}{T:dt U.C}{N:Nat}{lB:Z (Nat×Z (bZ U))}{wr:aa}
def Tq{a:Nat}{b:Z (Nat×Z (bZ U))}{c:aa}{e:an}{t:Ty}(h:kv P E T (B.lA N lB wr) e t):kv P E T (B.lA a b c) e t:=⟨h.ok,h.cells,h.pos,h.few,h.abr,h.agg,h.bytes,h.int,h.bool,h.str,h.bk,h.elem,h.ref,h.ptr,h.mp,h.field,h.Sr,h.wx,h.zero,h.zv1,h.kinds⟩
def Ql{a:Nat}{b:Z (Nat×Z (bZ U))}{d:aa}{f:bH}{c:bZ U}(h:eb P E T (B.lA N lB wr) f c):eb P E T (B.lA a b d) f c:=⟨h.rs,h.ea,h.tr⟩
inductive uX(P:Program)(E:cd)(T:dt U.C)(B:Ar):List (Nat×List (bZ U))->Prop where
 |nil:uX P E T B []
 |cons {f:Nat} {c:bZ U} {l:List (Nat×List (bZ U))} (h:eb P E T (B.lA 0 []) f c) (hl:uX P E T B l):uX P E T B ((f,[c])::l)
theorem uX.ok {l:Z (Nat×Z (bZ U))} (h:uX P E T B l):∀f c,c∈(lk l f).getD []->eb P E T (B.lA 0 []) f c:=by
 induction h with
 |nil=>intro f c a;simp[lk]at a|@cons b d l h e g=>
  intro f c a;simp only[lk]at a;cases i:Nat.beq b f with
  |true=>simp_all|false=>grind
def Tr(a:yu P U B=W):∀E' e t,(B.lA (U:=U) N lB wr).ty e=O t->kv P E' T (B.lA N lB wr) e t:=λE' e t h=>by simp only[yu,aP]at a;have:=di.1 a.1.1.1.1.1 _ (MM (l:=B.ty) h);exact Tq (Tn this)
theorem sh(j:yu P U B=W)(s:∀k,U.nk<=k->U.ak k=.h7 .bool)(m:∀i,E.ro i=Y)(u:uX P E T B lB):bJ P E T (B.lA N lB wr):=by
 have o:=j;simp only[yu,aP]at o;obtain⟨⟨⟨⟨⟨H,w⟩,x⟩,y⟩,z⟩,A⟩:=o;have p:∀k,Kl U k=W:=λk=>by
  rcases Nat.lt_or_ge k U.nk with h|h
  .exact qS w k h
  .simp[Kl,s k h,fD]
 refine⟨λ_=>m,λk i _ _=>m _,λe t h=>Tr j E e t h,λf c h=>Ql (u.ok f c h),λk t h=>?_,λk a b h=>?_,λe h=>?_,λe h=>?_,λe I h=>?_,λe h i J hi hz v hv=>?_,λf n fs C=>by cases C⟩
 .have:=p k;simpa only[Kl,h]using this
 .have:=p k;simpa only[Kl,h,aP]using this
 .have:=di.1 x e (ck.1 h);simp only[To]at this;split at this;simp_all
  grind
 .have:=di.1 y e (ck.1 h);simp only[aP]at this
  grind [cC,wV]
 .have:=di.1 z _ (MM (l:=B.k6) h);simp only[Tp]at this;split at this
  .rename_i N K D;simp only[aP]at this;obtain⟨⟨⟨d,G⟩,q⟩,L⟩:=this;have d:=cC d;subst d;refine⟨N,D,cC G,λg=>?_,λn r=>?_⟩
   .have g:ik e B.ry=F:=g;rw[g]at q;exact wV q
   have r:lk B.ty e=O (.struct n):=r;simp_all
  grind
 .have:=di.1 A e (ck.1 h)
  grind [OS,di,OR]
end
end Go.X
namespace Go.X
open Go Go.Ev
def si(fn:Func)(n:Nat):aa:=fn.body.isSome&&!(fn.name== "runtime.NumGoroutine")&&Nat.ble n fn.ntmps&&eJ fn.ntmps (fn.body.getD .skip)&&mH fn.ntmps fn.results.toList
def Yp(B:Ar):RK->aa
 |.v t=>fD t|.bR t e=>decide (lk B.ty e=O t)
def nh(B:Ar)(rs:Z RK)(a:V (an×Ty)):aa:=rs.all (Yp B)&&(match a with
 |some (_,t)=>fD t|none=>W)
section
variable{P:ai}{U:cp}{B:Ar}{E:cd}{T:dt U.C}{N:Nat}{lB:Z (Nat×Z (bZ U))}
theorem gI{f:bH}{ps:Z Ty}{rs:Z RK}{ea:V (an×Ty)}{a:Vv U ps rs ea}(b:nh B rs ea=W)(h:nu P E T f ps rs ea a):eb P E T (B.lA 0 []) f ⟨ps,rs,ea,a⟩:=by
 simp only[nh,aP]at b;refine⟨λr c=>?_,λd t g=>?_,h⟩
 .have:=di.1 b.1 r c;cases r with
  |v t=>exact this|bR t e=>show lk B.ty e=O t;simpa[Yp]using this
 grind
theorem Df{fn:Func}{n:Nat}(h:si fn n=W):∃c,fn.body=O c/\fn.body.getD .skip=c/\(fn.name== "runtime.NumGoroutine")=F/\n<=fn.ntmps/\eJ fn.ntmps c=W/\mH fn.ntmps fn.results.toList=W:=by
 simp only[si,aP]at h;obtain⟨⟨⟨⟨a,b⟩,d⟩,e⟩,f⟩:=h;cases g:fn.body with
 |none=>grind|some c=>simp_all
structure MO(P:Program)(U:cp)(T:dt U.C)(B:Ar):Prop where
 L:cD U T
 mo:P.follows .mixedOrders=W
 zM:yu P U B=W
 ak:∀k,U.nk<=k->U.ak k=.h7 .bool
def Ts(S:MO P U T B)(d:∀i,E.ro i=Y)(h0:U.C 0){f:bH}{fn:Func}{ps:Z Ty}{rs:Z RK}{ea:V (an×Ty)}{esc:Z (Nat×Nat)}{hint:e9}{a:HL U.C ps->V (jm U ea (HL U.C (rs.map RK.ty)))}(e:uX P E T B lB)(g:P.funcs[f]?=O fn)(j:si fn ps.length=W)(k:nh B rs ea=W)
  (b:∀x h,Fo (B.lA N lB) ps rs ea esc fn.results.toList (fn.body.getD .skip) hint x h=a x):eb P E T (B.lA 0 []) f ⟨ps,rs,ea,.pure a⟩:=by
 obtain⟨c,l,m,n,o,p,q⟩:=Df j;rw[m]at b;exact gI k (Td S.L S.mo (sh S.zM S.ak d e) g n l o p q h0 λx=>b x h0)
def ZO(S:MO P U T B)(d:∀i,E.ro i=Y){f:bH}{fn:Func}{ps:Z Ty}{rs:Z RK}{ea:V (an×Ty)}{esc:Z (Nat×Nat)}{hint:e9}{a:HL U.C ps->U.C 0->V (jm U ea (HL U.C (rs.map RK.ty))×U.C 0)}(e:uX P E T B lB)(g:P.funcs[f]?=O fn)(j:si fn ps.length=W)(k:nh B rs ea=W)
  (b:∀x h,Jz (B.lA N lB) ps rs ea esc fn.results.toList (fn.body.getD .skip) hint x h=a x h):eb P E T (B.lA 0 []) f ⟨ps,rs,ea,.st a⟩:=by
 obtain⟨c,l,m,n,o,p,q⟩:=Df j;rw[m]at b;exact gI k (ZH S.L S.mo (sh S.zM S.ak d e) g n l o p q b)
def We(S:MO P U T B)(d:∀i,E.ro i=Y){f:bH}{fn:Func}{ps:Z Ty}{rs:Z RK}{ea:V (an×Ty)}{esc:Z (Nat×Nat)}{hint:e9}{a:HL U.C ps->U.C 0->V (jm U ea (HL U.C (rs.map RK.ty))×U.C 0)}(e:uX P E T B lB)(g:P.funcs[f]?=O fn)(j:si fn ps.length=W)(k:nh B rs ea=W)
  (b:∀x h,HY (B.lA N lB) ps rs ea esc fn.results.toList (fn.body.getD .skip) hint x h=a x h):eb P E T (B.lA 0 []) f ⟨ps,rs,ea,.st a⟩:=by
 obtain⟨c,l,m,n,o,p,q⟩:=Df j;rw[m]at b;exact gI k (ZM S.L S.mo (Tr S.zM) (sh S.zM S.ak d e) g n l o p q b)
def Dg{f:bH}{ps:Z Ty}{rs:Z RK}{ea:V (an×Ty)}(a:nh B rs ea=W):eb P E T (B.lA (U:=U) 0 []) f ⟨ps,rs,ea,.st λ_ _=>Y⟩:=gI a λx h c r d A Vloc _ _ b=>by cases b
def aby(S:MO P U T B)(b:∀i,E.ro i=Y)(h0:U.C 0){f:bH}(fn:Func)(c:bZ U)(N:Nat)(esc:Z (Nat×Nat))(hint:e9)(d:uX P E T B lB)(a:HL U.C c.ps->V (jm U c.ea (HL U.C (c.rs.map RK.ty))))(e:P.funcs[f]?=O fn)(g:si fn c.ps.length=W)(j:nh B c.rs c.ea=W)
  (k:∀x h,Fo (B.lA N lB) c.ps c.rs c.ea esc fn.results.toList (fn.body.getD .skip) hint x h=a x):eb P E T (B.lA 0 []) f ⟨c.ps,c.rs,c.ea,.pure a⟩:=
 Ts S b h0 d e g j k
def mJ(S:MO P U T B)(b:∀i,E.ro i=Y){f:bH}(fn:Func)(c:bZ U)(N:Nat)(esc:Z (Nat×Nat))(hint:e9)(d:uX P E T B lB)(a:HL U.C c.ps->U.C 0->V (jm U c.ea (HL U.C (c.rs.map RK.ty))×U.C 0))(e:P.funcs[f]?=O fn)(g:si fn c.ps.length=W)(j:nh B c.rs c.ea=W)
  (k:∀x h,Jz (B.lA N lB) c.ps c.rs c.ea esc fn.results.toList (fn.body.getD .skip) hint x h=a x h):eb P E T (B.lA 0 []) f ⟨c.ps,c.rs,c.ea,.st a⟩:=
 ZO S b d e g j k
def abz(S:MO P U T B)(b:∀i,E.ro i=Y){f:bH}(fn:Func)(c:bZ U)(N:Nat)(esc:Z (Nat×Nat))(hint:e9)(d:uX P E T B lB)(a:HL U.C c.ps->U.C 0->V (jm U c.ea (HL U.C (c.rs.map RK.ty))×U.C 0))(e:P.funcs[f]?=O fn)(g:si fn c.ps.length=W)(j:nh B c.rs c.ea=W)
  (k:∀x h,HY (B.lA N lB) c.ps c.rs c.ea esc fn.results.toList (fn.body.getD .skip) hint x h=a x h):eb P E T (B.lA 0 []) f ⟨c.ps,c.rs,c.ea,.st a⟩:=
 We S b d e g j k
end
abbrev e9.J (a b:e9):e9:=.seq (O ⟨F,[],[],[],[]⟩) a b
abbrev e9.q (b:e9):e9:=.seq Y .leaf b
abbrev e9.B (j:Sh) (a:e9):e9:=.q (.block (.loop j a))
abbrev e9.w (k:Z Nat) (r:Z (Nat×RS)) (a:e9):e9:=.loop ⟨F,k,r,[],[]⟩ a
abbrev e9.W (k:Z Nat) (r:Z (Nat×RS)):e9:=.seq Y .leaf (.block (.loop ⟨F,k,r,[],[]⟩ .leaf))
abbrev Ty.I:Ty:=.int .i64
end Go.X
