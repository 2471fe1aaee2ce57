import Derived.Test.YtedadjfbbpjaiaaGreatZ11
set_option linter.all false
namespace Go.X
open Go Go.Ev
def lk{β:Type}:List (Nat×β)->Nat->Option β
 |[],_=>none|(a,x)::l,t=>bif Nat.beq a t then some x else lk l t
theorem NM{β:Type}:∀{l:List (Nat×β)}{t:Nat}{x:β},lk l t=some x->(t,x)∈l
 |(a,y)::l,t,x,h=>by
  simp only[lk]at h;cases hb:Nat.beq a t with
  |true=>rw[hb]at h;simp only[ba,ah]at h;subst h;rw[bM hb];exact IA ..|false=>rw[hb]at h;exact tF _ (NM h)
def yq(U:cm)(hz:Nat->Nat):Nat->da U.C
 |0=>{cl:=λ_ _=>[],hz:=hz}|k+1=>{cl:=λn x=>lx (yq U hz k) (U.fields n) (U.un n x),hz:=hz}
def below(k:Nat):Ty->Bool
 |.struct n=>Nat.blt n k|.list t|.ref t|.cell t|.J9 _ t=>below k t
 |.pair t u=>below k t&&below k u|_=>true
def abG(U:cm)(k:Nat):Nat:=match U.ak k with
 |.aT t _=>bj U D t|_=>1
section
variable{U:cm}{hz:Nat->Nat}
theorem m9{T T':da U.C}(hh:T.hz=T'.hz){k:Nat}(hc:∀n x,n<k->T.cl n x=T'.cl n x):∀(t:Ty)(x:den U.C t),below k t=true->enc T t x=enc T' t x
 |.struct n,x,h=>by simp only[below,gE]at h;simp only[enc,hc n x h]|.list t,x,h=>by simp only[enc];congr 1;exact xr λy _=>m9 hh hc t y h
 |.ref t,x,h=>by
  change Option (den U.C t)at x;cases x with
  |none=>rfl|some y=>simp only[enc,Ig];rw[m9 hh hc t y h]
 |.cell t,x,h=>by simp only[enc];rw[m9 hh hc t x h]|.J9 _ t,x,h=>by simp only[enc];rw[m9 hh hc t x h]
 |.pair t u,x,h=>by simp only[below,aD]at h;simp only[enc];rw[m9 hh hc t _ h.1,m9 hh hc u _ h.2]|.mz _ _,_,_|.zq _ _,_,_|.int _,_,_|.bool,_,_|.str,_,_|.unit,_,_|.fn _ _,_,_|.rJ _ _,_,_=>rfl|.ptr k,x,_=>rfl
 |.mp k,x,_=>rfl|.hs k,x,_=>by
  change Option (Nat×Nat)at x;cases x with
  |none=>rfl|some y=>simp only[enc,jA,hh]
theorem wB{T T':da U.C}(hh:T.hz=T'.hz){k:Nat}(hc:∀n x,n<k->T.cl n x=T'.cl n x):∀(ts:List Ty)(x:HL U.C ts),ts.all (below k)=true->lx T ts x=lx T' ts x
 |[],_,_=>rfl|t::ts,x,h=>by simp only[vi,aD]at h;simp only[lx];rw[m9 hh hc t _ h.1,wB hh hc ts _ h.2]
theorem yr:∀k,(yq U hz k).hz=hz
 |0=>rfl|_+1=>rfl
theorem Li(hb:∀n,(U.fields n).all (below n)=true):∀(k k' n:Nat)(x:U.C n),n<k->n<k'->(yq U hz k).cl n x=(yq U hz k').cl n x
 |0,_,_,_,h,_=>by omega|_,0,_,_,_,h=>by omega
 |k+1,k'+1,n,x,h1,h2=>by simp only[yq];exact wB (by rw[yr,yr]) (λm y hm=>Li hb k k' m y (by omega) (by omega)) _ _ (hb n)
theorem RF{top:Nat}(h1:∀n x,U.un n (U.make n x)=x)(h2:∀n,(U.fields n).all (below n)=true)(h3:∀n,(U.fields n).all fg=true)(h4:∀n,eW U D (.struct n)=true)
  (h5:∀n,top<=n->U.fields n=[]) (h6:∀k h l,k<U.nk->U.get k (U.set k h l)=l) (h7:U.nk<=1000) (h8:∀k h h',U.nk<=k->U.get k h=U.get k h') (h9:∀k k' h l,k'≠k->U.get k' (U.set k h l)=U.get k' h):
  Lawful U (yq U (abG U) (top+1)):=by
 refine⟨h1,λn x=>?_,h3,h4,λk t e hk=>?_,h6,h7,h8,h9⟩
 ·simp only[yq];by_cases hn:n<top
  ·exact wB (by rw[yr,yr]) (λm y hm=>Li h2 top (top+1) m y (by omega) (by omega)) _ _ (h2 n)
  ·have:=h5 n (by omega);have key:∀(ts:List Ty)(y:HL U.C ts)(T T':da U.C),ts=[]->lx T ts y=lx T' ts y:=by intro ts y T T' e;subst e;rfl
   exact key _ _ _ _ this
 ·simp only[yq,abG,hk]
end
section
variable(P:Program){U:cm}(X:Ctx U)
def NN{C:Nat->Type}:(t:Ty)->den C t->Value->Bool
 |.int k,x,.int k' n=>decide (k=k')&&gK x n|.bool,x,.bool b=>zx x b
 |.str,x,.string s=>eqStr x s.data.toList|.ref t,x,.pointer none=>fg t&&Option.isNone (α:=den C t) x
 |.ptr _,x,.pointer none=>Option.isNone (α:=Nat) x|.mp _,x,.map none=>Option.isNone (α:=Nat) x
 |.hs _,x,.slice none 0 0=>Option.isNone (α:=Nat×Nat) x|_,_,_=>false
def zR{C:Nat->Type}:R C->Value->Bool
 |.val t x,v=>NN t x v|.full t xs,.slice none 0 0=>xs.isEmpty&&fg t
 |_,_=>false
def zRs{C:Nat->Type}:List (R C)->List Value->Bool
 |[],[]=>true|r::rs,v::vs=>zR r v&&zRs rs vs
 |_,_=>false
def IV:Value->Bool
 |.agg _=>true|_=>false
def IW(e:TypeId)(t:Ty):Bool:=match P.info? e with
 |some i=>match i.zero with
  |some zv=>(zv.cells.all λv=>v.oneCell')&&Nat.beq zv.cells.size i.size&&(bif aL t then IV zv else !IV zv)&&(match pk U D t with
   |some rs=>zRs rs zv.cells.toList|none=>true)
  |none=>false
 |none=>false
def upto(f:Nat->Bool):Nat->Bool
 |0=>true|n+1=>f n&&upto f n
theorem rY{f:Nat->Bool}:∀{n:Nat},upto f n=true->∀i,i<n->f i=true
 |n+1,h,i,hi=>by
  simp only[upto,aD]at h;by_cases e:i=n
  ·subst e;exact h.1
  ·exact rY h.2 i (by omega)
def Lj(o:Option Bool)(b:Bool):Bool:=match o with
 |some x=>x==b|none=>false
theorem yt{o:Option Bool}{b:Bool}(h:Lj o b=true):o=some b:=by
 cases o with
 |none=>cases h
 |some x=>cases x<;>cases b<;>first|rfl|cases h
def Lk(e:TypeId)(n f:Nat):Bool:=match fieldAt U (.struct n) f with
 |some (off,ft)=>match lJ P e f with
  |some (o,fe)=>Nat.beq o off&&fg ft&&Nat.beq (P.cellsOf fe) (bj U D ft)&&Lj (nS P fe) (aL ft)&&Nat.blt 0 (P.cellsOf fe)|none=>false
 |none=>true
def Ll(pl:List (Nat×Nat))(n f:Nat):Bool:=match qN U 0 (U.fields n) f with
 |some (off,ft)=>match pl[f]? with
  |some (a,b)=>Nat.beq a off&&Nat.beq b (bj U D ft)|none=>false
 |none=>true
def z7(e:TypeId)(n:Nat):Bool:=match placesOf P e with
 |some pl=>upto (Ll (U:=U) pl n) (U.fields n).length&&(pl.all λp=>Nat.ble (p.1+p.2) (bj U D (.struct n)))|none=>false
def kOf:Ty->Nat
 |.int _=>0|.bool=>1
 |_=>2
def Lm(e:TypeId)(n:Nat):Bool:=bif (U.fields n).all zA then(match uw P e with
 |some ks=>decide (ks=(U.fields n).map kOf)|none=>false)else true
def l6(e:TypeId):Ty->Bool
 |.int k=>match P.underlying e with
  |some (.int k')=>decide (k=k')|_=>false
 |.bool=>match P.underlying e with
  |some .bool=>true|_=>false
 |.str=>match P.underlying e with
  |some .string=>true|_=>false
 |.list t'=>match P.underlying e with
  |some (.slice el)=>decide (X.ty el=some t')&&(match X.elem e with
   |some el'=>Nat.beq el' el|none=>true)
  |_=>false
 |.ref _|.ptr _=>match P.underlying e with
  |some (.pointer _)=>true|_=>false
 |.mp k=>match P.underlying e with
  |some (.map a b)=>match U.ak k with
   |.map ta tb=>decide (X.ty a=some ta)&&decide (X.ty b=some tb)&&Xf U tb|_=>false
  |_=>false
 |.hs _|.struct _=>true|_=>false
def rf(e:TypeId):Ty->Bool
 |.struct n=>(bif (X.mq e).isNone then upto (Lk P (U:=U) e n) (U.fields n).length&&Lm P (U:=U) e n else true)&&z7 P (U:=U) e n|_=>true
def UP(e:TypeId)(t:Ty):Bool:=fg t&&Nat.beq (P.cellsOf e) (bj U D t)&&Nat.blt 0 (P.cellsOf e)&&Nat.ble (P.cellsOf e) 256&&P.concrete e&&Lj (nS P e) (aL t)&&Nat.beq (X.bytes e) (P.bytesOf e)&&l6 P X e t&&rf P X e t&&IW P (U:=U) e t
end
section
variable{P:Program}{U:cm}{X:Ctx U}{E:Env}{T:da U.C}
theorem Ya{t:Ty}{x:den U.C t}{v:Value}(h:NN t x v=true):(∀bx g tick,bn P E T bx g tick (.val t x) (cf v))∨(v=.slice none 0 0/\∀bx g tick,bn P E T bx g tick (.val t x) (.val .emp)):=by
 have key:fg t=true->bh (cf v)=some (enc T t x)->(∀bx g tick,bn P E T bx g tick (.val t x) (cf v)):=λho he bx g tick=>.val t x _ _ he (gH ho);cases t with
 |int k=>cases v<;>simp only[NN,gB,aD,az,gK,fc]at h;obtain⟨rfl,rfl⟩:=h;exact .inl (key rfl rfl)
 |bool=>cases v<;>simp only[NN,gB,zx,fc]at h;subst h;exact .inl (key rfl rfl)
 |str=>cases v<;>simp only[NN,gB,eqStr,fc]at h;subst h;exact .inl (key rfl (by simp only[cf,bh,enc,AT]))
 |ref t=>
  change Option (den U.C t)at x;cases v with
  |pointer p=>
   cases p with
   |none=>
    cases x with
    |none=>simp only[NN,aD]at h;exact .inl (key h.1 rfl)|some y=>simp[NN]at h
   |some p=>cases h
  |_=>cases h
 |ptr k=>
  change Option Nat at x;cases v with
  |pointer p=>
   cases p with
   |none=>
    cases x with
    |none=>exact .inl (key rfl rfl)|some y=>cases h
   |some p=>cases h
  |_=>cases h
 |mp k=>
  change Option Nat at x;cases v with
  |map p=>
   cases p with
   |none=>
    cases x with
    |none=>exact .inl (key rfl rfl)|some y=>cases h
   |some p=>cases h
  |_=>cases h
 |hs k=>
  change Option (Nat×Nat)at x;cases v with
  |slice p a b=>
   cases p with
   |none=>cases a with
    |zero=>cases b with
     |zero=>cases x with
      |none=>exact .inr ⟨rfl,λbx g tick=>.val (.hs k) none _ .emp rfl (gH (t:=.hs k) rfl)⟩|some y=>cases h
     |succ b=>cases h
    |succ a=>cases h
   |some p=>cases h
  |_=>cases h
 |_=>cases v<;>cases h
theorem aeM{r:R U.C}{v:Value}(h:zR r v=true):(∀bx g tick,bn P E T bx g tick r (cf v))∨(v=.slice none 0 0/\∀bx g tick,bn P E T bx g tick r (.val .emp)):=by
 unfold zR at h;split at h
 ·exact Ya h
 ·rename_i t xs;simp only[aD,List.isEmpty_iff]at h;obtain⟨rfl,h⟩:=h;exact .inl λbx g tick=>.full t [] h
 ·cases h
theorem UQ:∀{rs:List (R U.C)}{vs:List Value},zRs rs vs=true->vs.length=rs.length/\∀(i:Nat)(r:R U.C)(v:Value),rs[i]?=some r->vs[i]?=some v->zR r v=true
 |[],[],_=>⟨rfl,λi r v h=>by simp at h⟩|r::rs,v::vs,h=>by
  simp only[zRs,aD]at h;obtain⟨h1,h2⟩:=UQ h.2;refine⟨by simp[h1],λi r' v' g1 g2=>?_⟩;cases i with
  |zero=>simp at g1 g2;subst g1 g2;exact h.1|succ i=>exact h2 i r' v' (by simpa using g1) (by simpa using g2)
 |[],_::_,h=>by cases h
 |_::_,[],h=>by cases h
theorem Eg:∀{ts:List Ty}{o f off:Nat}{ft:Ty},qN U o ts f=some (off,ft)->f<ts.length
 |[],_,_,_,_,h=>by simp[qN]at h|t::ts,_,0,_,_,_=>by simp
 |t::ts,_,f+1,_,_,h=>by have:=Eg (ts:=ts) (f:=f) h;simp only[dE];omega
theorem Ln{n f off:Nat}{ft:Ty}(h:fieldAt U (.struct n) f=some (off,ft)):qN U 0 (U.fields n) f=some (off,ft):=by
 simp only[fieldAt]at h;split at h
 ·rename_i o t ho;obtain⟨_,h⟩:=aq h;simp only[ah,aS]at h;obtain⟨rfl,rfl⟩:=h;exact ho
 ·cases h
theorem Eh:∀(ts:List Ty)(x y:HL U.C ts)(b:Bool),ts.all zA=true->rL ZM ts x y=some b->fP (ts.map kOf) (lx T ts x) (lx T ts y)=some b
 |[],x,y,b,_,h=>h|t::ts,x,y,b,hf,h=>by
  simp only[vi,aD]at hf;simp only[rL]at h;split at h
  ·rename_i a b' ha hb;simp only[ah]at h;subst h;have ih:=Eh ts _ _ b' hf.2 hb;simp only[eD,lx];cases t with
   |int k=>simp only[ZM,ah]at ha;subst ha;simp only[enc,AV.cells,kOf,ou,pq,fP,bp,ih,bQ]|bool=>simp only[ZM,ah]at ha;subst ha;simp only[enc,AV.cells,kOf,ou,pq,fP,ih,bQ]
   |str=>simp only[ZM,ah]at ha;subst ha;simp only[enc,AV.cells,kOf,ou,pq,bs,fP,ih,bQ]|_=>cases hf.1
  ·cases h
theorem UR:∀(ts:List Ty)(x y:HL U.C ts)(b:Bool),rL ZM ts x y=some b->ts.all zA=true
 |[],x,y,b,_=>rfl|t::ts,x,y,b,h=>by
  simp only[rL]at h;split at h
  ·rename_i a b' ha hb;have h1:zA t=true:=by cases t<;>first|rfl|(simp[ZM]at ha;done)
   have h2:=UR ts _ _ _ hb;simp only[vi,h1,h2,Lo]
  ·cases h
theorem UT{e:TypeId}{t:Ty}(h:UP P X e t=true):kL P E T X e t:=by
 simp only[UP,aD]at h;obtain⟨⟨⟨⟨⟨⟨⟨⟨⟨h1,h2⟩,h3⟩,h4⟩,h5⟩,h6⟩,h7⟩,h8⟩,h9⟩,tf⟩:=h;have h2:=bM h2;have h3:0<P.cellsOf e:=by simpa using h3
 have h4:P.cellsOf e<=256:=by simpa using h4
 refine⟨h1,h2,h3,h4,h5,yt h6,bM h7,?_,?_,?_,?_,?_,?_,?_,?_,?_,?_,?_,?_,?_,?_⟩
 ·rintro k rfl;simp only[l6]at h8;split at h8
  ·rename_i k' hu;simp only[az]at h8;subst h8;exact hu
  ·cases h8
 ·rintro rfl;simp only[l6]at h8;split at h8
  ·assumption
  ·cases h8
 ·rintro rfl;simp only[l6]at h8;split at h8
  ·assumption
  ·cases h8
 ·rintro t' rfl;simp only[l6]at h8;split at h8
  ·rename_i el hu;simp only[aD,az]at h8;exact⟨el,hu,h8.1⟩
  ·cases h8
 ·rintro t' el rfl jk;simp only[l6]at h8;split at h8
  ·rename_i el' hu;simp only[aD,az,jk]at h8;have:=bM h8.2;subst this;exact⟨hu,h8.1⟩
  ·cases h8
 ·rintro t' rfl;simp only[l6]at h8;split at h8
  ·rename_i el hu;exact ⟨el,hu⟩
  ·cases h8
 ·rintro k rfl;simp only[l6]at h8;split at h8
  ·rename_i el hu;exact ⟨el,hu⟩
  ·cases h8
 ·rintro k rfl;simp only[l6]at h8;split at h8
  ·rename_i a b hu;split at h8
   ·rename_i ta tb Cj;simp only[aD,az]at h8;exact⟨a,b,hu,ta,tb,Cj,h8.1.1,h8.1.2,h8.2⟩
   ·cases h8
  ·cases h8
 ·rintro jY n rfl f off ft hf;simp only[rf,aD]at h9;rw[jY]at h9;simp only[od,ba,aD]at h9;have:=rY h9.1.1 f (Eg (Ln hf));simp only[Lk,hf]at this;split at this
  ·rename_i o fe Qz;simp only[aD]at this;obtain⟨⟨⟨⟨g1,g2⟩,g3⟩,g4⟩,g5⟩:=this;have g1:=bM g1;subst g1;exact⟨fe,Qz,g2,bM g3,yt g4,by simpa using g5⟩
  ·cases this
 ·rintro n rfl;simp only[rf,aD]at h9;have h9:=h9.2;simp only[z7]at h9;split at h9
  ·rename_i pl xm;simp only[aD]at h9;refine⟨pl,xm,λf off ft hf=>?_⟩;have:=rY h9.1 f (Eg hf);simp only[Ll,hf]at this;split at this
   ·rename_i a b hab;simp only[aD]at this;rw[hab,bM this.1,bM this.2]
   ·cases this
  ·cases h9
 ·rintro n rfl pl xm;simp only[rf,aD]at h9;have h9:=h9.2;simp only[z7,xm,aD]at h9;refine cJ.2 λp hp=>?_;have:=cJ.1 h9.2 p hp;simpa using this
 ·simp only[IW]at tf;split at tf
  ·rename_i i hi;split at tf
   ·rename_i zv Si;simp only[aD]at tf;obtain⟨⟨⟨g1,g2⟩,g3⟩,g4⟩:=tf;refine⟨i,zv,hi,Si,g1,bM g2,λhs=>?_,λrs rP=>?_⟩
    ·rw[hs]at g3;unfold IV at g3;split at g3
     ·exact ⟨_,rfl⟩
     ·cases g3
    ·rw[rP]at g4;obtain⟨k1,k2⟩:=UQ g4;exact⟨by simpa using k1,λi r v a b=>aeM (k2 i r v a (by simpa using b))⟩
   ·cases tf
  ·cases tf
 ·intro hs i zv hi Si;simp only[IW,hi,Si,hs,aD,bc]at tf;obtain⟨⟨⟨g1,g2⟩,g3⟩,g4⟩:=tf;cases zv<;>first|exact ⟨rfl,rfl⟩|(simp[IV]at g3)
 ·rintro jY n rfl b x y hxy;simp only[rf,aD]at h9;rw[jY]at h9;simp only[od,ba,aD]at h9;have h9:=h9.1.2;have Gy:=UR _ _ _ _ hxy;simp only[Lm,Gy,ba]at h9;split at h9
  ·rename_i ks QX;simp only[az]at h9;subst h9;exact⟨_,QX,Eh _ _ _ _ Gy hxy⟩
  ·cases h9
end
structure Ei where
 ty:List (Nat×Ty)
 elem:List (Nat×Nat)
 bytes:List (Nat×Nat)
 M3:List Nat
 Tr:List Nat
 mq:List (Nat×Nat)
def Ei.ctx {U:cm} (B:Ei) (N:Nat) (mA:List (Nat×List (ca U))) (wr:Bool:=true):Ctx U:={ty:=lk B.ty,elem:=lk B.elem,bytes:=λt=>(lk B.bytes t).getD 0,mA:=λf=>(lk mA f).getD [],N:=N,wr:=wr,M3:=λe=>iM e B.M3,Tr:=λe=>iM e B.Tr,mq:=lk B.mq}
section
variable(P:Program)(U:cm)
def Lp(k:Nat):Bool:=match U.ak k with
 |.obj t=>fg t|.map a b=>zA a&&fg b
 |_=>true
def UW(e:TypeId):Bool:=match P.underlying e with
 |some (.slice el)=>nV P el&&Nat.beq (P.cellsOf el) 1|_=>false
def UX(B:Ei)(e el:TypeId):Bool:=match P.underlying e with
 |some (.array N el')=>Nat.beq el' el&&Nat.beq (P.cellsOf el) 1&&Lj (nS P el) false&&(match lk B.ty e with
  |some (.struct n)=>Nat.beq (U.fields n).length N&&Nat.beq (bj U D (.struct n)) N&&(U.fields n).all λt=>!aL t|_=>true)
 |_=>false
def z8(B:Ei):Bool:=(B.ty.all λp=>UP P (B.ctx (U:=U) 0 []) p.1 p.2)&&upto (Lp U) U.nk&&B.M3.all (UW P)&&(B.Tr.all λe=>Nat.beq (P.cellsOf e) 1&&Lj (nS P e) false)&&B.mq.all λp=>UX P U B p.1 p.2
end
section
variable{P:Program}{U:cm}{B:Ei}{E:Env}{T:da U.C}{N:Nat}{mA:List (Nat×List (ca U))}{wr:Bool}
theorem UY{N':Nat}{abH:List (Nat×List (ca U))}{wr':Bool}{e:TypeId}{t:Ty}(h:kL P E T (B.ctx N mA wr) e t):kL P E T (B.ctx N' abH wr') e t:=⟨h.ok,h.cells,h.pos,h.few,h.aem,h.agg,h.bytes,h.int,h.bool,h.str,h.list,h.elem,h.ref,h.ptr,h.mp,h.field,h.TG,h.xV,h.zero,h.zv1,h.kinds⟩
theorem RG{N':Nat}{abH:List (Nat×List (ca U))}{wr':Bool}{f:FuncId}{c:ca U}(h:kZ P E T (B.ctx N mA wr) f c):kZ P E T (B.ctx N' abH wr') f c:=⟨h.rs,h.cG,h.tG⟩
inductive Cons(P:Program)(E:Env)(T:da U.C)(B:Ei):List (Nat×List (ca U))->Prop where
 |nil:Cons P E T B []
 |cons {f:Nat} {c:ca U} {l:List (Nat×List (ca U))} (h:kZ P E T (B.ctx 0 []) f c) (hl:Cons P E T B l):Cons P E T B ((f,[c])::l)
theorem Cons.ok {l:List (Nat×List (ca U))} (h:Cons P E T B l):∀f c,c∈(lk l f).getD []->kZ P E T (B.ctx 0 []) f c:=by
 induction h with
 |nil=>intro f c hc;simp[lk]at hc|@cons f' c' l h hl ih=>
  intro f c hc;simp only[lk]at hc;cases hb:Nat.beq f' f with
  |true=>rw[hb]at hc;simp only[ba,dB,mX]at hc;subst hc;rw[<-bM hb];exact h|false=>rw[hb]at hc;exact ih f c hc
theorem UZ(hB:z8 P U B=true):∀E' e t,(B.ctx (U:=U) N mA wr).ty e=some t->kL P E' T (B.ctx N mA wr) e t:=λE' e t h=>by simp only[z8,aD]at hB;have:=cJ.1 hB.1.1.1.1 _ (NM (l:=B.ty) h);exact UY (UT this)
theorem Ej(hB:z8 P U B=true)(Cj:∀k,U.nk<=k->U.ak k=.obj .bool)(hE:∀i,E.ro i=none)(hc:Cons P E T B mA):bG P E T (B.ctx N mA wr):=by
 have cZ:=hB;simp only[z8,aD]at cZ;obtain⟨⟨⟨⟨h1,h2⟩,h3⟩,h4⟩,h5⟩:=cZ;have akc:∀k,Lp U k=true:=λk=>by
  rcases th k U.nk with h|h
  ·exact rY h2 k h
  ·simp[Lp,Cj k h,fg]
 refine⟨λ_=>hE,λk i _ _=>hE _,λe t h=>UZ hB E e t h,λf c h=>RG (hc.ok f c h),λk t h=>?_,λk a b h=>?_,λe h=>?_,λe h=>?_,λe el h=>?_⟩
 ·have:=akc k;simpa only[Lp,h]using this
 ·have:=akc k;simpa only[Lp,h,aD]using this
 ·have:=cJ.1 h3 e (bU.1 h);simp only[UW]at this;split at this
  ·rename_i el hu;simp only[aD]at this;exact⟨el,hu,this.1,bM this.2⟩
  ·cases this
 ·have:=cJ.1 h4 e (bU.1 h);simp only[aD]at this;exact⟨bM this.1,yt this.2⟩
 ·have:=cJ.1 h5 _ (NM (l:=B.mq) h);simp only[UX]at this;split at this
  ·rename_i N el' hu;simp only[aD]at this;obtain⟨⟨⟨g1,g2⟩,g3⟩,g4⟩:=this;have g1:=bM g1;subst g1;refine⟨N,hu,bM g2,yt g3,λn hn=>?_⟩;have hn:lk B.ty e=some (.struct n):=hn;rw[hn]at g4;simp only[aD]at g4;exact⟨bM g4.1.1,bM g4.1.2,g4.2⟩
  ·cases this
end
end Go.X
namespace Go.X
open Go Go.Ev
def tT(fn:Func)(n:Nat):Bool:=fn.body.isSome&&!(fn.name== "runtime.NumGoroutine")&&Nat.ble n fn.ntmps&&codeOk fn.ntmps (fn.body.getD .skip)&&lZ fn.ntmps fn.results.toList
def Z0(B:Ei):RK->Bool
 |.v t=>fg t|.own t e=>decide (lk B.ty e=some t)
def na(B:Ei)(rs:List RK)(cG:Option (TypeId×Ty)):Bool:=rs.all (Z0 B)&&(match cG with
 |some (_,t)=>fg t|none=>true)
section
variable{P:Program}{U:cm}{B:Ei}{E:Env}{T:da U.C}{N:Nat}{mA:List (Nat×List (ca U))}
theorem jD{f:FuncId}{ps:List Ty}{rs:List RK}{cG:Option (TypeId×Ty)}{run:Run U ps rs cG}(hc:na B rs cG=true)(h:pn P E T f ps rs cG run):kZ P E T (B.ctx 0 []) f ⟨ps,rs,cG,run⟩:=by
 simp only[na,aD]at hc;refine⟨λr hr=>?_,λtid t hp=>?_,h⟩
 ·have:=cJ.1 hc.1 r hr;cases r with
  |v t=>exact this|own t e=>show lk B.ty e=some t;simpa[Z0]using this
 ·have:=hc.2;have hp:cG=some (tid,t):=hp;rw[hp]at this;exact this
theorem Ek{fn:Func}{n:Nat}(h:tT fn n=true):∃c,fn.body=some c/\fn.body.getD .skip=c/\(fn.name== "runtime.NumGoroutine")=false/\n<=fn.ntmps/\codeOk fn.ntmps c=true/\lZ fn.ntmps fn.results.toList=true:=by
 simp only[tT,aD]at h;obtain⟨⟨⟨⟨h1,h2⟩,h3⟩,h4⟩,h5⟩:=h;cases hb:fn.body with
 |none=>rw[hb]at h1;cases h1
 |some c=>rw[hb]at h4;exact⟨c,rfl,rfl,by simpa using h2,by simpa using h3,h4,h5⟩
structure NO(P:Program)(U:cm)(T:da U.C)(B:Ei):Prop where
 L:Lawful U T
 mo:P.follows .mixedOrders=true
 El:z8 P U B=true
 ak:∀k,U.nk<=k->U.ak k=.obj .bool
theorem U0(S:NO P U T B)(hE:∀i,E.ro i=none)(h0:U.C 0){f:FuncId}{fn:Func}{ps:List Ty}{rs:List RK}{cG:Option (TypeId×Ty)}{esc:List (Nat×Nat)}{hint:Hint}{F:HL U.C ps->Option (iG U cG (HL U.C (rs.map RK.ty)))}(hc:Cons P E T B mA)(hf:P.funcs[f]?=some fn)(hk:tT fn ps.length=true)(hr:na B rs cG=true)
  (hF:∀x h,Gm (B.ctx N mA) ps rs cG esc fn.results.toList (fn.body.getD .skip) hint x h=F x):kZ P E T (B.ctx 0 []) f ⟨ps,rs,cG,.pure F⟩:=by
 obtain⟨c,h1,h2,h3,h4,h5,h6⟩:=Ek hk;rw[h2]at hF;exact jD hr (Uw S.L S.mo (Ej S.El S.ak hE hc) hf h3 h1 h4 h5 h6 h0 λx=>hF x h0)
theorem abI(S:NO P U T B)(hE:∀i,E.ro i=none){f:FuncId}{fn:Func}{ps:List Ty}{rs:List RK}{cG:Option (TypeId×Ty)}{esc:List (Nat×Nat)}{hint:Hint}{F:HL U.C ps->U.C 0->Option (iG U cG (HL U.C (rs.map RK.ty))×U.C 0)}(hc:Cons P E T B mA)(hf:P.funcs[f]?=some fn)(hk:tT fn ps.length=true)(hr:na B rs cG=true)
  (hF:∀x h,Dx (B.ctx N mA) ps rs cG esc fn.results.toList (fn.body.getD .skip) hint x h=F x h):kZ P E T (B.ctx 0 []) f ⟨ps,rs,cG,.st F⟩:=by
 obtain⟨c,h1,h2,h3,h4,h5,h6⟩:=Ek hk;rw[h2]at hF;exact jD hr (abA S.L S.mo (Ej S.El S.ak hE hc) hf h3 h1 h4 h5 h6 hF)
theorem Yb(S:NO P U T B)(hE:∀i,E.ro i=none){f:FuncId}{fn:Func}{ps:List Ty}{rs:List RK}{cG:Option (TypeId×Ty)}{esc:List (Nat×Nat)}{hint:Hint}{F:HL U.C ps->U.C 0->Option (iG U cG (HL U.C (rs.map RK.ty))×U.C 0)}(hc:Cons P E T B mA)(hf:P.funcs[f]?=some fn)(hk:tT fn ps.length=true)(hr:na B rs cG=true)
  (hF:∀x h,IU (B.ctx N mA) ps rs cG esc fn.results.toList (fn.body.getD .skip) hint x h=F x h):kZ P E T (B.ctx 0 []) f ⟨ps,rs,cG,.st F⟩:=by
 obtain⟨c,h1,h2,h3,h4,h5,h6⟩:=Ek hk;rw[h2]at hF;exact jD hr (abF S.L S.mo (UZ S.El) (Ej S.El S.ak hE hc) hf h3 h1 h4 h5 h6 hF)
theorem U1{f:FuncId}{ps:List Ty}{rs:List RK}(hr:na B rs none=true):kZ P E T (B.ctx (U:=U) 0 []) f ⟨ps,rs,none,.st λ_ _=>none⟩:=jD hr λx h aX r h' A V _ _ hx=>by cases hx
theorem aeN(S:NO P U T B)(hE:∀i,E.ro i=none)(h0:U.C 0){f:FuncId}(fn:Func)(c:ca U)(N:Nat)(esc:List (Nat×Nat))(hint:Hint)(hc:Cons P E T B mA)(F:HL U.C c.ps->Option (iG U c.cG (HL U.C (c.rs.map RK.ty))))(hf:P.funcs[f]?=some fn)(hk:tT fn c.ps.length=true)(hr:na B c.rs c.cG=true)
  (hF:∀x h,Gm (B.ctx N mA) c.ps c.rs c.cG esc fn.results.toList (fn.body.getD .skip) hint x h=F x):kZ P E T (B.ctx 0 []) f ⟨c.ps,c.rs,c.cG,.pure F⟩:=
 U0 S hE h0 hc hf hk hr hF
theorem Z1(S:NO P U T B)(hE:∀i,E.ro i=none){f:FuncId}(fn:Func)(c:ca U)(N:Nat)(esc:List (Nat×Nat))(hint:Hint)(hc:Cons P E T B mA)(F:HL U.C c.ps->U.C 0->Option (iG U c.cG (HL U.C (c.rs.map RK.ty))×U.C 0))(hf:P.funcs[f]?=some fn)(hk:tT fn c.ps.length=true)(hr:na B c.rs c.cG=true)
  (hF:∀x h,Dx (B.ctx N mA) c.ps c.rs c.cG esc fn.results.toList (fn.body.getD .skip) hint x h=F x h):kZ P E T (B.ctx 0 []) f ⟨c.ps,c.rs,c.cG,.st F⟩:=
 abI S hE hc hf hk hr hF
theorem aeO(S:NO P U T B)(hE:∀i,E.ro i=none){f:FuncId}(fn:Func)(c:ca U)(N:Nat)(esc:List (Nat×Nat))(hint:Hint)(hc:Cons P E T B mA)(F:HL U.C c.ps->U.C 0->Option (iG U c.cG (HL U.C (c.rs.map RK.ty))×U.C 0))(hf:P.funcs[f]?=some fn)(hk:tT fn c.ps.length=true)(hr:na B c.rs c.cG=true)
  (hF:∀x h,IU (B.ctx N mA) c.ps c.rs c.cG esc fn.results.toList (fn.body.getD .skip) hint x h=F x h):kZ P E T (B.ctx 0 []) f ⟨c.ps,c.rs,c.cG,.st F⟩:=
 Yb S hE hc hf hk hr hF
end
abbrev Hint.J (a b:Hint):Hint:=.seq (some ⟨false,[],[],[],[]⟩) a b
abbrev Hint.q (b:Hint):Hint:=.seq none .leaf b
abbrev Hint.w (k:List Nat) (r:List (Nat×RS)) (a:Hint):Hint:=.loop ⟨false,k,r,[],[]⟩ a
abbrev Hint.W (k:List Nat) (r:List (Nat×RS)):Hint:=.seq none .leaf (.block (.loop ⟨false,k,r,[],[]⟩ .leaf))
abbrev Ty.I:Ty:=.int .i64
end Go.X
