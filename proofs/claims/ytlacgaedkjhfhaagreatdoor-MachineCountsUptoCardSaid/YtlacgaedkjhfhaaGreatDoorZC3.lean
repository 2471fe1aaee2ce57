import Derived.Test.YtlacgaedkjhfhaaGreatDoorZC2
set_option linter.all false
open Option renaming some->O,none->Y
open Bool renaming true->W,false->F
namespace Go.X
open Go Go.Ev
variable{k d i tick hv off k' i' st tk t0:Nat}{e el:JA}{u:cy}{g:Nat->Nat}{C:Nat->Type}{β γ:Type}{q' q'':St}{A:Nat->V Ob}{Vloc m:Nat->tl}{qs:Z cy}{av:AV}{y:qm}{op:VQ}{be:Nat->V Nat}{c:Nat->Nat->V AV}{Xp:AV->St->Prop}
section
inductive Ty where
 |int (k:IntKind)
 |bool
 |str
 |unit
 |aq (t:Ty)
 |struct (n:Nat)
 |ref (t:Ty)
 |cell (t:Ty)
 |gn (a b:Ty)
 |fn (a b:Ty)
 |qu (a b:Ty)
 |ptr (k:Nat)
 |hs (k:Nat)
 |mp (k:Nat)
 |jR (a b:Ty)
 |Mm (f:Nat) (t:Ty)
 |zb (k off:Nat)
 deriving DecidableEq,Inhabited
abbrev cI:=Z NT
@[reducible] def bL(C:Nat->Type):Ty->Type
  |.int _=>Int|.bool=>tl
  |.str=>cI|.unit=>xW
  |.aq t=>Z (bL C t)|.struct n=>C n
  |.ref t=>V (bL C t)|.cell t=>bL C t
  |.gn a b=>bL C a×bL C b|.fn a b=>bL C a->V (bL C b)
  |.qu a b=>bL C a->C 0->V (bL C b×C 0)|.ptr _=>V Nat
  |.hs _=>V (Nat×Nat)|.mp _=>V Nat
  |.jR a b=>bL C a->C 0->V (bL C b×C 0)|.Mm _ t=>bL C t
  |.zb _ _=>Nat
def wX:Z Ty->Ty
 |[]=>.unit|[t]=>t
 |t::u::ts=>.gn t (wX (u::ts))
abbrev HL(C:Nat->Type)(ts:Z Ty):Type:=bL C (wX ts)
def hJ{C:Nat->Type}(t:Ty):(ts:Z Ty)->bL C t->HL C ts->HL C (t::ts)
 |[],x,_=>x|_::_,x,xs=>(x,xs)
def wD{C:Nat->Type}(t:Ty):(ts:Z Ty)->HL C (t::ts)->bL C t
 |[],x=>x|_::_,x=>x.1
def wC{C:Nat->Type}(t:Ty):(ts:Z Ty)->HL C (t::ts)->HL C ts
 |[],_=>()|_::_,x=>x.2
def eh{C:Nat->Type}(a b:Ty)(x:bL C a):V (bL C b):=if h:a=b then O (h▸x)else Y
inductive AK where
 |hC (t:Ty)
 |bi (t:Ty) (e:TypeId)
 |map (k v:Ty)
 deriving DecidableEq,Inhabited
@[reducible] def wY(C:Nat->Type):AK->Type
  |.hC t=>bL C t|.bi t _=>V (Z (bL C t))
  |.map k v=>Z (bL C k×bL C v)
structure cg where
 C:Nat->Type
 dA:Nat->List Ty
 un:(n:Nat)->C n->HL C (dA n)
 make:(n:Nat)->HL C (dA n)->C n
 ak:Nat->AK
 get:(k:Nat)->C 0->List (wY C (ak k))
 set:(k:Nat)->C 0->List (wY C (ak k))->C 0
 nk:Nat
 em:Nat->Bool:=λ_=>F
mutual
def eV:Ty->tl
 |.int _|.bool|.str|.struct _=>W|.aq t=>eV t
 |.ref t=>eV t|.ptr _|.hs _|.mp _=>W
 |.Mm _ t=>Zt t|.zb _ _=>W
 |_=>F
def Zt:Ty->tl
 |.gn t u=>Zt t&&Zt u|.cell t=>eV t
 |_=>F
end
def aZ{σ α:Type}(f:(σ->V α)->σ->V α):Nat->σ->V α
 |0,_=>Y|n+1,x=>f (aZ f n) x
def Ft{β γ:Type}:Z (Nat×Nat×β)->(Z (Nat×Nat×β)->γ)->γ
 |[],k=>k []|(t,a,x)::l,k=>Ft l λl'=>k ((t,a,x)::l')
def DM{β γ:Type}:∀(l:Z (Nat×Nat×β))(k:Z (Nat×Nat×β)->γ),Ft l k=k l
 |[],k=>rfl|(t,a,x)::l,k=>DM l _
def bw{σ α:Type}(h:σ)(k:σ->V α):V α:=k h
noncomputable def both {α:Type} (a b:V α):V α:=open Classical in if a=b then a else Y
def aS{σ α:Type}(J:σ->V α)(a:(σ->V α)->V α):V α:=a J
section
variable(C:Nat->Type)
inductive R where
 |none
 |val (t:Ty) (x:bL C t)
 |const (v:Value)
 |bM (t:Ty) (xs:List (bL C t))
 |dT (d k:Nat)
 |whole (d:Nat)
 |fV (d i k Mn:Nat) (t:Ty) (x:bL C t)
 |dJ (t:Ty) (x:bL C t) (k:Nat)
 |fK (rs:List R)
 |fn (f:FuncId) (caps:List R)
 |mQ (TC:TypeId) (t:Ty) (x:bL C t)
 |ji (k:Nat) (i off:Nat)
 |kn (k:Nat) (i j off:Nat)
 |sub (d off n:Nat)
 |sJ (rs:List R)
 |pw (r:R)
 |gx (t:Ty)
 |agg (n:Nat) (rs:List R)
 |lT (f:FuncId) (first:List R)
 |it
inductive B where
 |cells (t:Ty) (rs:List (R C))
 |bi (t:Ty) (e:TypeId) (xs:List (bL C t))
structure S where
 r:List (Nat×Nat×R C)
 b:List (Nat×Nat×B C)
 tick:Nat
 h:C 0
 hv:Nat:=0
 m:Nat->Bool:=λ_=>W
end
variable{U:cg}{α:Type}
def aB{β:Type}:Z (Nat×Nat×β)->Nat->V (Nat×β)
 |[],_=>Y|(d,st,x)::l,t=>bif Nat.beq d t then O (st,x)else aB l t
def ig(d:Nat):Z Nat->tl
 |[]=>F|e::l=>Nat.beq d e||ig d l
def bB{β:Type}:Z (Nat×Nat×β)->Nat->Z (Nat×Nat×β)
 |[],_=>[]|(d,st,x)::l,t=>bif Nat.beq d t then bB l t else(d,st,x)::bB l t
def S.bQ {C:Nat->Type} (s:S C) (t:Nat):R C:=match aB s.r t with
 |some (_,x)=>x|none=>.none
def S.box {C:Nat->Type} (s:S C) (d:Nat):V (B C):=match aB s.b d with
 |some (_,x)=>O x|none=>Y
def S.Mn {C:Nat->Type} (s:S C) (d:Nat):Nat:=match aB s.b d with
 |some (v,_)=>v|none=>0
def S.ev {C:Nat->Type} (s:S C):qm->R C
 |.tmp t=>s.bQ t|.const v=>.const v
 |.global _=>.none|.func f=>.fn f []
def S.put {C:Nat->Type} (s:S C) (dst:V Nat) (x:R C):S C:=match dst with
 |some d=>{s with r:=(d,s.tick,x)::s.r,tick:=s.tick+1}|none=>s
mutual
def R.aT {C:Nat->Type} (d:Nat):R C->tl
 |.dT d' _=>Nat.beq d' d|.whole d'=>Nat.beq d' d
 |.fV d' _ _ _ _ _=>Nat.beq d' d|.fK rs=>cN d rs
 |.fn _ rs=>cN d rs|.sub d' _ _=>Nat.beq d' d
 |.sJ rs=>cN d rs|.pw r=>r.aT d
 |.agg _ rs=>cN d rs|.lT _ rs=>cN d rs
 |_=>F
def cN{C:Nat->Type}(d:Nat):Z (R C)->tl
 |[]=>F|r::rs=>r.aT d||cN d rs
end
def B.aT {C:Nat->Type} (d:Nat):B C->tl
 |.cells _ rs=>cN d rs|.bi _ _ _=>F
def ko{C:Nat->Type}(d tick:Nat):Z (Nat×Nat×R C)->Z (Nat×Nat×R C)
 |[]=>[]|(t,st,x)::l=>bif x.aT d then(t,tick,.none)::ko d tick l else(t,st,x)::ko d tick l
def mm{C:Nat->Type}(d:Nat):Z (Nat×Nat×B C)->tl
 |[]=>W|(_,_,x)::l=>!x.aT d&&mm d l
def S.drop {C:Nat->Type} (s:S C) (d:Nat):S C:={s with b:=bB s.b d}
def S.new {C:Nat->Type} (s:S C) (d:Nat) (x:B C) (k:S C->V α):V α:=bif mm d s.b&&!x.aT d then k {s with r:=ko d s.tick s.r,b:=(d,s.tick,x)::bB s.b d,tick:=s.tick+1}else Y
def S.gm {C:Nat->Type} (s:S C) (d:Nat) (x:B C):S C:={s with b:=(d,s.tick,x)::bB s.b d,tick:=s.tick+1}
def AO{C:Nat->Type}(d tick:Nat)(v:R C):Z (Nat×Nat×R C)->Z (Nat×Nat×R C)
 |[]=>[]|(q,st,.whole d')::l=>bif Nat.beq d' d then(q,tick,v)::AO d tick v l else(q,st,.whole d')::AO d tick v l
 |e::l=>e::AO d tick v l
def Kn{C:Nat->Type}(d:Nat)(v:R C):Z (R C)->Z (R C)
 |[]=>[]|.whole d'::l=>(bif Nat.beq d' d then v else .whole d')::Kn d v l
 |e::l=>e::Kn d v l
def pJ{C:Nat->Type}(d tick:Nat)(v:R C):Z (Nat×Nat×B C)->Z (Nat×Nat×B C)
 |[]=>[]|(q,st,.cells u rs)::l=>bif cN d rs then(q,tick,.cells u (Kn d v rs))::pJ d tick v l else(q,st,.cells u rs)::pJ d tick v l
 |e::l=>e::pJ d tick v l
def S.AP {C:Nat->Type} (s:S C) (d:Nat) (t:Ty) (xs:Z (bL C t)):S C:={s with r:=AO d s.tick (.val (.aq t) xs) s.r,b:=pJ d s.tick (.val (.aq t) xs) (bB s.b d),tick:=s.tick+1}
def S.HF {C:Nat->Type} (s:S C) (d k:Nat) (v:V (Nat×Nat)) (h:C 0):S C:={r:=AO d s.tick (.val (.hs k) v) s.r,b:=pJ d s.tick (.val (.hs k) v) (bB s.b d),tick:=s.tick+1,h:=h,hv:=s.tick,m:=s.m}
def S.AQ {C:Nat->Type} (s:S C) (d:Nat) (h:C 0):S C:={r:=s.r,b:=bB s.b d,tick:=s.tick+1,h:=h,hv:=s.tick,m:=s.m}
def S.Mp {C:Nat->Type} (s:S C) (d:Nat):S C:={r:=s.r,b:=bB s.b d,tick:=s.tick+1,h:=s.h,hv:=s.hv,m:=s.m}
def S.bw {C:Nat->Type} {α:Type} (s:S C) (h:C 0) (k:S C->V α):V α:=Go.X.bw h λh=>k {s with h:=h,hv:=s.tick,tick:=s.tick+1}
section
variable(U:cg)
def Ko{C:Nat->Type}{a b:AK}(e:a=b)(x:Z (wY C a)):Z (wY C b):=e▸x
def tB(a:AK)(k:Nat)(h:U.C 0):V (Z (wY U.C a)):=if e:U.ak k=a then O (Ko e (U.get k h))else Y
def zc(a:AK)(k:Nat)(h:U.C 0)(l:Z (wY U.C a)):V (U.C 0):=if e:U.ak k=a then O (U.set k h (Ko e.symm l))else Y
def Oe(k:Nat)(t:Ty)(s:S U.C):V (Z (bL U.C t)):=bif s.m k&&Nat.blt k U.nk then tB U (.hC t) k s.h else Y
def Fu(k:Nat)(t:Ty)(s:S U.C)(l:Z (bL U.C t)):V (U.C 0):=bif s.m k&&Nat.blt k U.nk then zc U (.hC t) k s.h l else Y
def Db(k:Nat)(t:Ty)(e:JA)(s:S U.C):V (Z (V (Z (bL U.C t)))):=bif s.m k&&Nat.blt k U.nk then tB U (.bi t e) k s.h else Y
def vk(k:Nat)(t:Ty)(e:JA)(s:S U.C)(l:Z (V (Z (bL U.C t)))):V (U.C 0):=bif s.m k&&Nat.blt k U.nk then zc U (.bi t e) k s.h l else Y
def maps(k:Nat)(a b:Ty)(s:S U.C):V (Z (Z (bL U.C a×bL U.C b))):=bif s.m k&&Nat.blt k U.nk then tB U (.map a b) k s.h else Y
def Fv(k:Nat)(a b:Ty)(s:S U.C)(l:Z (Z (bL U.C a×bL U.C b))):V (U.C 0):=bif s.m k&&Nat.blt k U.nk then zc U (.map a b) k s.h l else Y
end
def bz{β:Type}(l:Z (V (Z β)))(i:Nat):V (Z β):=Option.bind (l[i]?) id
def ad{β:Type}(l:Z (V (Z β)))(p:V (Nat×Nat)):V (Z β):=match p with
 |none=>O []|some (i,n)=>(bz l i).bind λxs=>bif Nat.ble n xs.length then O (List.take n xs)else Y
def cU(p:V (Nat×Nat)):Nat:=match p with
 |none=>0|some (_,n)=>n
def ek{β:Type}(l:Z (V (Z β)))(p:V (Nat×Nat)):Z (V (Z β)):=match p with
 |none=>l|some (i,_)=>l.set i Y
def eW:Jz->tl
 |.slice Y 0 0=>W|_=>F
def gL{C:Nat->Type}:(t:Ty)->Jz->V (bL C t)
 |.int k,.int k' n=>if k=k' then O n else Y|.bool,.bool b=>O b
 |.str,.string s=>O s.data.toList|.aq _,.slice Y 0 0=>O []
 |.ref _,.pointer Y=>O Y|.ptr _,.pointer Y=>O Y
 |.mp _,.map Y=>O Y|_,_=>Y
def rm{β:Type}(f:Ty->V (Z β)):Z Ty->V (Z β)
 |[]=>O []|t::ts=>match f t,rm f ts with
  |some x,O xs=>O (x++xs)|_,_=>Y
def lJ(U:cg):Nat->Ty->V (Z (R U.C))
 |_,.int k=>O [.val (.int k) (0:Int)]|_,.bool=>O [.val .bool F]
 |_,.str=>O [.val .str ([]:cI)]|_,.aq t=>O [.bM t []]
 |_,.ref t=>O [.val (.ref t) Y]|_,.ptr k=>O [.val (.ptr k) Y]
 |_,.hs k=>O [.val (.hs k) Y]|_,.mp k=>bif Nat.blt k 1000 then O [.val (.mp k) Y]else Y
 |k+1,.struct n=>rm (lJ U k) (U.dA n)|_,_=>Y
def r4{C:Nat->Type}(f:(t:Ty)->bL C t->Z (R C)):(ts:Z Ty)->HL C ts->Z (R C)
 |[],_=>[]|t::ts,x=>f t (wD t ts x)++r4 f ts (wC t ts x)
def mn(U:cg):Nat->(t:Ty)->bL U.C t->Z (R U.C)
 |k+1,.struct n,x=>r4 (mn U k) (U.dA n) (U.un n x)|_,t,x=>[.val t x]
def jS(f:Ty->Z Ty):Z Ty->Z Ty
 |[]=>[]|t::ts=>f t++jS f ts
def gr(U:cg):Nat->Ty->Z Ty
 |k+1,.struct n=>jS (gr U k) (U.dA n)|_,t=>[t]
def Fw{C:Nat->Type}(t:Ty):R C->V (bL C t)
 |.dJ a x 0=>eh (.cell a) t x|_=>Y
def rn{C:Nat->Type}:(us:Ty)->Z (R C)->V (bL C us)
 |.gn t u,r::l=>match Fw t r,rn u l with
  |some x,O y=>O (x,y)|_,_=>Y
 |t,[r]=>Fw t r|_,_=>Y
def fD{C:Nat->Type}(t:Ty):R C->V (bL C t)
 |.val c x=>eh c t x|.const v=>bif eV t then gL t v else Y
 |.bM c xs=>eh (.aq c) t xs|.dJ c x 0=>match eh (.cell c) t x with
  |some v=>O v|none=>eh (C:=C) (.ref c) t (O x)
 |.pw (.val (.qu a b) φ)=>eh (C:=C) (.jR a b) t φ|.ji k i off=>eh (C:=C) (.zb k off) t i
 |.fn f caps=>match t with
  |.Mm d us=>bif Nat.beq f d&&Zt us then rn us caps else Y|_=>Y
 |_=>Y
def lK{C:Nat->Type}(f:(t:Ty)->Z (R C)->V (bL C t×Z (R C))):(ts:Z Ty)->Z (R C)->V (HL C ts×Z (R C))
 |[],l=>O ((),l)|t::ts,l=>match f t l with
  |some (x,l')=>match lK f ts l' with
   |some (xs,a)=>O (hJ t ts x xs,a)|none=>Y
  |none=>Y
def iW(U:cg):Nat->(t:Ty)->Z (R U.C)->V (bL U.C t×Z (R U.C))
 |k+1,.struct n,l=>match lK (iW U k) (U.dA n) l with
  |some (x,l')=>O (U.make n x,l')|none=>Y
 |_,t,r::l=>match fD t r with
  |some x=>O (x,l)|none=>Y
 |_,_,[]=>Y
def jA(f:Ty->Nat):Z Ty->Nat
 |[]=>0|t::ts=>f t+jA f ts
def bD(U:cg):Nat->Ty->Nat
 |k+1,.struct n=>jA (bD U k) (U.dA n)|_,_=>1
abbrev D:Nat:=6
def aV:Ty->tl
 |.struct _=>W|_=>F
def oX(U:cg):Nat->Z Ty->Nat->V (Nat×Ty)
 |_,[],_=>Y|o,t::_,0=>O (o,t)
 |o,t::ts,f+1=>oX U (o+bD U D t) ts f
def fieldAt(U:cg)(t:Ty)(f:Nat):V (Nat×Ty):=match t with
 |.struct n=>match oX U 0 (U.dA n) f with
  |some (o,t)=>bif Nat.blt 0 (bD U D t)then O (o,t)else Y|none=>Y
 |_=>Y
def oY{β:Type}:Nat->Z β->Z β
 |0,l=>l|n+1,_::l=>oY n l
 |_+1,[]=>[]
def HG(U:cg)(t:Ty)(k:Nat)(rs:Z (R U.C)):V (R U.C):=
 bif aV t then match iW U D t (oY k rs)with
  |some (x,_)=>O (.val t x)|none=>Y
 else(oY k rs).head?
def rp{β:Type}(k:Nat)(vs rs:Z β):Z β:=rs.take k++vs++oY vs.length (oY k rs)
inductive RK where
 |v (t:Ty)
 |bU (t:Ty) (e:TypeId)
def RK.ty:RK->Ty
 |.v t=>t|.bU t _=>.aq t
def RK.eM:RK->tl
 |.v _=>F|.bU _ _=>W
def h7(U:cg)(p:V (JA×Ty))(β:Type):Type:=match p with
 |none=>β|some (_,t)=>Except (bL U.C t) β
structure rq(U:cg)where
 TC:TypeId
 t:Ty
 x:bL U.C t
def zd{ε β γ:Type}(r:Except ε β)(f:ε->γ)(g:β->γ):γ:=match r with
 |.error e=>f e|.ok y=>g y
def sK{β γ:Type}(p:V (JA×Ty))(r:h7 U p β)(f:rq U->γ)(g:β->γ):γ:=match p,r with
 |none,r=>g r|some (a,t),r=>zd r (λe=>f ⟨a,t,e⟩) g
def wZ{β:Type}(p:V (JA×Ty))(y:β):h7 U p β:=match p with
 |none=>y|some (_,t)=>Except.ok (ε:=bL U.C t) y
def Dc{β:Type}(p:V (JA×Ty))(q:rq U):V (h7 U p β):=match p with
 |none=>Y|some (a,t)=>bif Nat.beq q.TC a then match eh q.t t q.x with
   |some e=>O (Except.error (ε:=bL U.C t) e)|none=>Y
  else Y
inductive Run(U:cg)(ps:List Ty)(rs:List RK)(dO:Option (TypeId×Ty))where
 |pure (f:HL U.C ps->Option (h7 U dO (HL U.C (rs.map RK.ty))))
 |rd (f:HL U.C ps->U.C 0->Option (h7 U dO (HL U.C (rs.map RK.ty))))
 |st (f:HL U.C ps->U.C 0->Option (h7 U dO (HL U.C (rs.map RK.ty))×U.C 0))
structure b7(U:cg)where
 ps:List Ty
 rs:List RK
 dO:Option (TypeId×Ty)
 run:Run U ps rs dO
structure gj(U:cg)where
 ty:TypeId->Option Ty
 elem:TypeId->Option TypeId
 bytes:TypeId->Nat
 con:FuncId->List (b7 U)
 N:Nat
 wr:Bool:=W
 JL:TypeId->Bool:=λ_=>F
 JM:TypeId->Bool:=λ_=>F
 j9:TypeId->Option TypeId:=λ_=>Y
 pK:TypeId->Bool:=λ_=>F
 VV:List (Nat×Nat):=[]
 Kp:FuncId->Option (Nat×List (Option FuncId)):=λ_=>Y
section
variable(X:gj U)(kx:rq U->S U.C->V α)
def S.val (b:tl) (s:S U.C) (r:R U.C) (t:Ty) (k:S U.C->bL U.C t->V α):V α:=
 match r with
 |.whole d=>match s.box d with
   |some (.bi a e xs)=>match t,k with
    |.hs m,k=>match Db U m a e s with
     |some l=>bif U.em m&&(Nat.blt m 2&&xs.isEmpty)then k (bif b then s.HF d m (O (l.length,0)) s.h else s.AQ d s.h) (O (l.length,0))else(cR (!xs.isEmpty)).bind λ_=>match vk U m a e s (l++[O xs])with
      |some h'=>Go.X.bw h' λh'=>k (bif b then s.HF d m (O (l.length,xs.length)) h' else s.AQ d h') (O (l.length,xs.length))|none=>Y
     |none=>Y
    |t,k=>bif b then match eh (.aq a) t xs with
     |some v=>k (s.AP d a xs) v|none=>Y
     else match eh (.aq a) t xs with
     |some v=>k (s.Mp d) v|none=>Y
   |_=>Y
 |r=>match fD t r with
  |some v=>k s v|none=>Y
def HH(op:VQ)(k:Pv)(x y:Int)(K:(t:Ty)->bL U.C t->V α):V α:=
 match op with
 |.add=>K (.int k) (k.wrap (x+y))|.sub=>K (.int k) (k.wrap (x-y))
 |.mul=>K (.int k) (k.wrap (x*y))|.quo=>(cR (decide (y≠0))).bind λ_=>K (.int k) (k.wrap (x.tdiv y))
 |.rem=>(cR (decide (y≠0))).bind λ_=>K (.int k) (x.tmod y)|.and=>K (.int k) (k.wrap (BitVec.ofInt k.bits x&&&BitVec.ofInt k.bits y).toNat)
 |.or=>K (.int k) (k.wrap (BitVec.ofInt k.bits x|||BitVec.ofInt k.bits y).toNat)
 |.xor=>K (.int k) (k.wrap (BitVec.ofInt k.bits x^^^BitVec.ofInt k.bits y).toNat)|.andNot=>K (.int k) (k.wrap (BitVec.ofInt k.bits x&&&~~~BitVec.ofInt k.bits y).toNat)
 |.shl=>(cR (decide (0<=y))).bind λ_=>K (.int k) (k.wrap (x*2^(min y.toNat k.bits)))|.shr=>(cR (decide (0<=y))).bind λ_=>K (.int k) (x.fdiv (2^(min y.toNat k.bits)))
 |.eql=>K .bool (x==y)|.neq=>K .bool (!(x==y))
 |.lss=>K .bool (decide (x<y))|.leq=>K .bool (decide (x<=y))
 |.gtr=>K .bool (decide (y<x))|.geq=>K .bool (decide (y<=x))
def P7(op:VQ)(x y:cI)(K:(t:Ty)->bL U.C t->V α):V α:=
 match op with
 |.add=>(cR (decide (x.length+y.length<=maxLen))).bind λ_=>K .str (x++y)|.eql=>K .bool (x==y)
 |.neq=>K .bool (!(x==y))|.lss=>K .bool (Op.bytesLess x y)
 |.leq=>K .bool (Op.bytesLess x y||x==y)|.gtr=>K .bool (!(Op.bytesLess x y||x==y))
 |.geq=>K .bool (!Op.bytesLess x y)|_=>Y
def pL{C:Nat->Type}(f:(t:Ty)->bL C t->bL C t->V tl):(ts:Z Ty)->HL C ts->HL C ts->V tl
 |[],_,_=>O W|t::ts,x,y=>match f t (wD t ts x) (wD t ts y),pL f ts (wC t ts x) (wC t ts y)with
  |some a,O b=>O (a&&b)|_,_=>Y
@[reducible] def bp(x y:Int):tl:=x==y
@[reducible] def M1(x y:tl):tl:=x==y
@[reducible] def c7(x y:cI):tl:=x==y
def VW{C:Nat->Type}:(t:Ty)->bL C t->bL C t->V tl
 |.int _,x,y=>O (bp x y)|.bool,x,y=>O (M1 x y)
 |.str,x,y=>O (c7 x y)|_,_,_=>Y
def Fx:qm->tl
 |.const (.slice Y 0 0)=>W|_=>F
def vl{C:Nat->Type}:R C->tl
 |.const (.pointer Y)=>W|_=>F
def AR{C:Nat->Type}:R C->tl
 |.const (.map Y)=>W|_=>F
def Xe(o:JB)(op:VQ)(t:Ty)(x y:R U.C)(ty:V Ty)(K:(t:Ty)->bL U.C t->V α):V α:=
 match t with
 |.int k=>match fD (.int k) x with
  |none=>Y|some a=>match y with
   |.val (.int k') b=>bif decide (k'=k)||kl op then HH op k a b K else Y|.const (.int k' b)=>bif decide (k'=k)||kl op then HH op k a b K else Y
   |_=>Y
 |.str=>match fD .str x,fD .str y with
  |some a,O b=>P7 op a b K|_,_=>Y
 |.bool=>match fD .bool x,fD .bool y with
  |some a,O b=>match op with
   |.eql=>K .bool (M1 a b)|.neq=>K .bool (!(M1 a b))
   |_=>Y
  |_,_=>Y
 |.ptr k=>match fD (.ptr k) x,vl y with
  |some a,W=>match op with
   |.eql=>K .bool (Option.isNone (α:=Nat) a)|.neq=>K .bool (!Option.isNone (α:=Nat) a)
   |_=>Y
  |_,_=>Y
 |.mp k=>match fD (.mp k) x,AR y with
  |some a,W=>match op with
   |.eql=>K .bool (Option.isNone (α:=Nat) a)|.neq=>K .bool (!Option.isNone (α:=Nat) a)
   |_=>Y
  |_,_=>Y
 |.ref k=>match fD (.ref k) x,vl y with
  |some a,W=>match op with
   |.eql=>K .bool (Option.isNone (α:=bL U.C k) a)|.neq=>K .bool (!Option.isNone (α:=bL U.C k) a)
   |_=>Y
  |_,_=>Y
 |.struct n=>match fD (.struct n) x,fD (.struct n) y with
  |some a,O b=>match pL VW (U.dA n) (U.un n a) (U.un n b)with
   |some e=>match op with
    |.eql=>K .bool e|.neq=>K .bool (!e)
    |_=>Y
   |none=>Y
  |_,_=>Y
 |_=>Y
def nr(s:S U.C)(dflt:V Int):V qm->V (V Int)
 |none=>O dflt|some x=>match s.ev x with
  |.val (.int _) m=>O (O m)|.const (.int _ m)=>O (O m)
  |_=>Y
def w4{β:Type}(xs:Z β)(a hi:V Int)(K:Z β->V α):V α:=
 match a,hi with
 |none,Y=>K xs|some l,Y=>(cR (decide (0<=l)&&decide (l.toNat<=xs.length))).bind λ_=>K (xs.drop l.toNat)
 |none,O h=>(cR (decide (0<=h)&&decide (h.toNat<=xs.length))).bind λ_=>K (xs.take h.toNat)|some l,O h=>(cR (decide (0<=l)&&(decide (0<=h)&&(decide (l.toNat<=h.toNat)&&decide (h.toNat<=xs.length))))).bind λ_=>K ((xs.take h.toNat).drop l.toNat)
def AS{C:Nat->Type}:R C->V Int
 |.val (.int _) m=>O m|.const (.int _ m)=>O m
 |_=>Y
def yg{C:Nat->Type}:R C->V tl
 |.val .bool b=>O b|.const (.bool b)=>O b
 |_=>Y
def Mq(t:Ty)(te:Ty)(x:bL U.C te)(k:Nat):V (bL U.C t):=
 bif Nat.beq k 0&&decide (te=t)then eh te t x else
 match iW U D t (oY k (mn U D te x))with
 |some (v,_)=>O v|none=>Y
def AT(t:Ty)(te:Ty)(x:bL U.C te)(k:Nat)(v:bL U.C t):V (bL U.C te):=
 bif Nat.beq k 0&&decide (t=te)then eh t te v else
 bif aV te&&Nat.ble (k+bD U D t) (bD U D te)then match iW U D te (rp k (mn U D t v) (mn U D te x))with
 |some (y,_)=>O y|none=>Y
 else Y
def Fy(t:Ty)(te:Ty)(x:bL U.C te)(k:Nat):V (R U.C):=
 bif aV t then match Mq t te x k with
  |some v=>O (.val t v)|none=>Y
 else(oY k (mn U D te x)).head?
def Of(U:cg)(t:Ty)(te:Ty)(k:Nat):V Ty:=bif aV t then O t else match(oY k (gr U D te)).head? with
 |some a=>bif aV a||!eV a then Y else O a|none=>Y
def vm(s:S U.C)(t:Ty)(p:R U.C)(K:R U.C->V α):V α:=
 match p with
 |.dT d k=>match s.box d with
  |some (.cells _ rs)=>match HG U t k rs with
   |some r=>K r|none=>Y
  |_=>Y
 |.fV d i k a te x=>match s.box d with
  |some (.bi b _ xs)=>bif Nat.beq a (s.Mn d)then match Fy t te x k with
    |some v=>K v|none=>Y
   else(xs[i]?).bind λy=>match Fy t b y k with
    |some v=>K v|none=>Y
  |_=>Y
 |.dJ te x k=>match Fy t te x k with
  |some v=>K v|none=>Y
 |.val (.ref te) p=>Option.bind (α:=bL U.C te) p λx=>match Fy t te x 0 with
  |some v=>K v|none=>Y
 |.ji k i off=>Fz U s t k i off K|.val (.ptr k) p=>Option.bind (α:=Nat) p λi=>Fz U s t k i 0 K
 |.kn k i j off=>match U.ak k with
  |.bi te e=>match bif decide (X.ty e=O te)then Db U k te e s else Y with
   |some l=>(bz l i).bind λxs=>Option.bind (α:=bL U.C te) (xs[j]?) λx=>match Fy t te x off with
    |some v=>K v|none=>Y
   |none=>Y
  |_=>Y
 |_=>Y
 where Fz (U:cg) (s:S U.C) (t:Ty) (k i off:Nat) (K:R U.C->V α):V α:=match U.ak k with
 |.hC te=>match Oe U k te s with
  |some l=>Option.bind (α:=bL U.C te) (l[i]?) λx=>match Fy t te x off with
   |some v=>K v|none=>Y
  |none=>Y
 |_=>Y
def Mr(s:S U.C)(t:Ty):R U.C->V (R U.C)
 |.whole d=>match s.box d with
  |some (.bi _ _ _)=>O (.whole d)|_=>Y
 |.dT d k=>match s.box d with
  |some (.cells _ _)=>O (.dT d k)|_=>Y
 |.fn f caps=>O (.fn f caps)|.bM a xs=>bif decide (t=.aq a)then O (.bM a xs)else Y
 |.const v=>bif eW v then match t with
   |.aq a=>bif eV a then O (.bM a [])else Y|_=>Y
  else bif eV t then match gL t v with
   |some x=>O (.val t x)|none=>Y
   else Y
 |.val a x=>match eh a t x with
  |some x=>bif eV t then O (.val t x)else Y|none=>Y
 |_=>Y
def FA(b:tl)(s:S U.C)(t:Ty)(p v:R U.C)(K:S U.C->V α):V α:=
 match p with
 |.dT d k=>match s.box d with
  |some (.cells u rs)=>bif aV t then match fD t v with
    |some x=>bif Nat.ble (k+bD U D t) rs.length then K (s.gm d (.cells u (rp k (mn U D t x) rs)))else Y|none=>match v with
     |.agg m vs=>bif decide (t=.struct m)&&(Nat.beq vs.length (bD U D t)&&Nat.ble (k+bD U D t) rs.length)then K (s.gm d (.cells u (rp k vs rs)))else Y|_=>Y
   else match Of U t u k with
    |some a=>match Mr s a v with
     |some r=>bif Nat.blt k rs.length then K (s.gm d (.cells u (rp k [r] rs)))else Y|none=>Y
    |none=>Y
  |_=>Y
 |.fV d i k f te x=>match Of U t te k with
  |some a=>S.val b s v a λs v=>match s.box d with
   |some (.bi c e xs)=>bif Nat.beq f (s.Mn d)then match eh te c x with
     |some x=>match AT a c x k v with
      |some y=>K (s.gm d (.bi c e (xs.set i y)))|none=>Y
     |none=>Y
    else(xs[i]?).bind λx=>match AT a c x k v with
     |some y=>K (s.gm d (.bi c e (xs.set i y)))|none=>Y
   |_=>Y
  |none=>Y
 |.ji k i off=>zp b s t k i off v K|.val (.ptr k) p=>Option.bind (α:=Nat) p λi=>zp b s t k i 0 v K
 |.kn k i j off=>match U.ak k with
  |.bi te e=>match bif decide (X.ty e=O te)then Of U t te off else Y with
   |some a=>S.val b s v a λs v=>match Db U k te e s with
    |some l=>(bz l i).bind λxs=>Option.bind (α:=bL U.C te) (xs[j]?) λx=>match AT a te x off v with
     |some y=>match vk U k te e s (l.set i (O (xs.set j y)))with
      |some h'=>s.bw h' K|none=>Y
     |none=>Y
    |none=>Y
   |none=>Y
  |_=>Y
 |_=>Y
 where zp (b:tl) (s:S U.C) (t:Ty) (k i off:Nat) (v:R U.C) (K:S U.C->V α):V α:=match U.ak k with
 |.hC te=>match Of U t te off with
  |some a=>S.val b s v a λs v=>match Oe U k te s with
   |some l=>Option.bind (α:=bL U.C te) (l[i]?) λx=>match AT a te x off v with
    |some y=>match Fu U k te s (l.set i y)with
     |some h'=>s.bw h' K|none=>Y
    |none=>Y
   |none=>Y
  |none=>Y
 |_=>Y
def tC(s:S U.C)(t:Ty)(f:Nat)(p:R U.C)(K:R U.C->V α):V α:=
 match fieldAt U t f with
 |some (off,_)=>match p with
  |.dT d k=>match s.box d with
   |some (.cells _ _)=>K (.dT d (k+off))|_=>Y
  |.fV d i k a te x=>match s.box d with
   |some (.bi _ _ _)=>K (.fV d i (k+off) a te x)|_=>Y
  |.dJ te x k=>K (.dJ te x (k+off))|.val (.ref te) p=>Option.bind (α:=bL U.C te) p λx=>K (.dJ te x off)
  |.ji k i o=>K (.ji k i (o+off))|.val (.ptr k) p=>Option.bind (α:=Nat) p λi=>K (.ji k i off)
  |.kn k i j o=>K (.kn k i j (o+off))|_=>Y
 |none=>Y
def tD(s:S U.C)(t:Ty)(el:JA)(x:R U.C)(i:Int)(K:R U.C->V α):V α:=
 match x with
 |.val (.aq te) xs=>bif decide (te=t)then Option.bind (α:=bL U.C te) (aR (α:=bL U.C te) xs i) λz=>K (.dJ te z 0)else Y|.bM te xs=>bif decide (te=t)then(aR xs i).bind λz=>K (.dJ te z 0)else Y
 |.whole d=>match s.box d with
  |some (.bi te e xs)=>bif decide (te=t)&&Nat.beq e el then(aR xs i).bind λz=>K (.fV d i.toNat 0 (s.Mn d) te z)else Y|_=>Y
 |.val (.hs k) p=>match U.ak k with
  |.bi te e=>bif decide (te=t)&&Nat.beq e el then Option.bind (α:=Nat×Nat) p λq=>(cR (decide (0<=i)&&decide (i<(q.2:Int)))).bind λ_=>K (.kn k q.1 i.toNat 0)else Y|_=>Y
 |_=>Y
def P8(s:S U.C)(te:Ty)(el:JA):R U.C->V (Z (bL U.C te))
 |.val a xs=>eh a (.aq te) xs|.bM a xs=>eh (.aq a) (.aq te) xs
 |.const v=>bif eW v then O []else Y|.whole d=>match s.box d with
  |some (.bi a e' xs)=>bif Nat.beq e' el then eh (.aq a) (.aq te) xs else Y|_=>Y
 |.sub d off n=>match s.box d with
  |some (.bi a e' xs)=>bif Nat.beq e' el then match eh (.aq a) (.aq te) xs with
    |some xs=>O (List.take n (List.drop off xs))|none=>Y
   else Y
  |_=>Y
 |_=>Y
def TD(s:S U.C)(te:Ty)(el:JA)(r:R U.C)(K:Z (bL U.C te)->V α):V α:=
 match r with
 |.val (.hs k) p=>match U.ak k with
  |.bi _ e=>bif Nat.beq e el then match Db U k te e s with
   |some l=>(ad l p).bind K|none=>Y
   else Y
  |_=>Y
 |r=>match P8 s te el r with
  |some ys=>K ys|none=>Y
def Xf(s:S U.C):R U.C->V Nat
 |.val (.aq t) xs=>O (List.length (α:=bL U.C t) xs)|.val (.hs _) p=>O (cU p)
 |.bM _ xs=>O xs.length|.const v=>match v with
  |.slice Y 0 0=>O 0|_=>Y
 |.whole d=>match s.box d with
  |some (.bi _ _ xs)=>O xs.length|_=>Y
 |_=>Y
def cE(b n:Nat)(m:Nat):tl:=decide (n<=maxLen)&&decide (n*b<=m)
def DN{C:Nat->Type}(d:Nat):R C->tl
 |.whole d'=>Nat.beq d' d|.sub d' _ _=>Nat.beq d' d
 |.val (.hs _) _=>W|_=>F
def Ms(c:tl)(s:S U.C)(dst:V Nat)(e:JA)(te:Ty)(b:qm)(y:R U.C)(K:S U.C->V α):V α:=
 match dst with
 |some d=>TD s te e y λys=>match s.ev b with
  |.whole d'=>match s.box d' with
   |some (.bi a e' xs)=>match eh (.aq a) (.aq te) xs,Nat.beq e' e with
    |some xs,W=>(cR (cE (X.bytes e) (List.length (α:=bL U.C te) xs+ys.length) 140737488355328)).bind λ_=>(s.drop d').new d (.bi te e (List.append (α:=bL U.C te) xs ys)) λs=>K (s.put dst (.whole d))|_,_=>Y
   |_=>Y
  |.val (.hs k) p=>bif DN d y||Nat.blt k 2 then Y else match b,Db U k te e s with
   |.tmp t,O l=>(ad l p).bind λxs=>(cR (cE (X.bytes e) (xs.length+ys.length) 140737488355328)).bind λ_=>match vk U k te e s (ek l p)with
    |some h'=>(s.put (O t) .none).bw h' λs=>s.new d (.bi te e (xs++ys)) λs=>K (s.put dst (.whole d))|none=>Y
   |_,_=>Y
  |.bM a xs=>match eh (.aq a) (.aq te) xs with
   |some xs=>(cR ((List.isEmpty (α:=bL U.C te) xs||!ys.isEmpty)&&cE (X.bytes e) (List.length (α:=bL U.C te) xs+ys.length) 140737488355328)).bind λ_=>s.new d (.bi te e (List.append (α:=bL U.C te) xs ys)) λs=>K (s.put dst (.whole d))|none=>Y
  |.const v=>bif eW v then(cR (cE (X.bytes e) ys.length 140737488355328)).bind λ_=>s.new d (.bi te e ys) λs=>K (s.put dst (.whole d))else Y|_=>Y
 |none=>Y
def tE(s:S U.C):Z qm->Z (R U.C)
 |[]=>[]|x::l=>s.ev x::tE s l
def HI{C:Nat->Type}:(ts us:Z Ty)->HL C ts->HL C us->HL C (ts++us)
 |[],_,_,y=>y|t::ts,us,x,y=>hJ t (ts++us) (wD t ts x) (HI ts us (wC t ts x) y)
def HJ:Nat->Ty->Z Ty
 |0,_=>[]|1,t=>[t]
 |n+2,.gn t u=>t::HJ (n+1) u|_+2,_=>[]
def AU{C:Nat->Type}:(ts:Z Ty)->Z (R C)->V (HL C ts)
 |[],[]=>O ()|t::ts,r::rs=>match fD t r,AU ts rs with
  |some x,O xs=>O (hJ t ts x xs)|_,_=>Y
 |_,_=>Y
def P9{β:Type}:Nat->Z β->Z β×Z β
 |0,l=>([],l)|n+1,x::l=>let p:=P9 n l;(x::p.1,p.2)
 |_+1,[]=>([],[])
def Mt{C:Nat->Type}{a b:Ty}(h:b=a)(x:bL C a):bL C b:=h▸x
def Mu{C:Nat->Type}{ts us:Z Ty}(h:us=ts)(x:HL C ts):HL C us:=h▸x
def VX{C:Nat->Type}{a b:Ty}(h:a=b)(x:V (bL C a)):V (bL C b):=h▸x
def jI(a b:Ty)(caps:Z (R U.C)):Z (b7 U)->V (bL U.C a->V (bL U.C b))
 |[]=>Y|⟨ps,rs,Y,.pure c⟩::l=>
   let qs:=HJ (ps.length-caps.length) a;let us:=(P9 qs.length ps).2;match AU us caps with
   |some y=>if d:wX qs=a then if e:wX (rs.map RK.ty)=b then if f:ps=qs++us then bif rs.all (λr=>!r.eM)&&qs.all eV then O λx=>VX e (c (Mu f (HI qs us (Mt d x) y)))else jI a b caps l else jI a b caps l else jI a b caps l else jI a b caps l|none=>jI a b caps l
 |_::l=>jI a b caps l
def VY{C:Nat->Type}{a b:Ty}{σ:Type}(h:a=b)(x:V (bL C a×σ)):V (bL C b×σ):=h▸x
def vn(a b:Ty)(caps:Z (R U.C)):Z (b7 U)->V (bL U.C a->U.C 0->V (bL U.C b×U.C 0))
 |[]=>Y|⟨ps,rs,Y,.st c⟩::l=>
   let qs:=HJ (ps.length-caps.length) a;let us:=(P9 qs.length ps).2;match AU us caps with
   |some y=>if d:wX qs=a then if e:wX (rs.map RK.ty)=b then if f:ps=qs++us then bif rs.all (λr=>!r.eM)&&qs.all eV then O λx h=>VY e (c (Mu f (HI qs us (Mt d x) y)) h)else vn a b caps l else vn a b caps l else vn a b caps l else vn a b caps l|none=>vn a b caps l
 |_::l=>vn a b caps l
def Kq{β γ σ:Type}(φ:β->V γ)(x:β)(h:σ):V (γ×σ):=(φ x).bind λy=>O (y,h)
def Qa(a b:Ty):R U.C->V (bL U.C a->V (bL U.C b))
 |.val t φ=>eh t (.fn a b) φ|.fn f caps=>jI a b caps (X.con f)
 |_=>Y
def Mv(a b:Ty):R U.C->V (bL U.C a->U.C 0->V (bL U.C b×U.C 0))
 |.val (.fn a' b') φ=>match eh (.fn a' b') (.fn a b) φ with
  |some φ=>O (Kq φ)|none=>Y
 |.val t φ=>eh t (.qu a b) φ|.fn f caps=>match jI a b caps (X.con f)with
  |some φ=>O (Kq φ)|none=>vn a b caps (X.con f)
 |_=>Y
def S.arg (c:tl) (s:S U.C) (r:R U.C) (t:Ty) (k:S U.C->bL U.C t->V α):V α:=
 match t,k with
 |.fn a b,k=>match Qa X a b r with
  |some φ=>k s φ|none=>Y
 |.qu a b,k=>match Mv X a b r with
  |some φ=>k s φ|none=>Y
 |t,k=>s.val c r t k
def oZ(a:tl):(s:S U.C)->(ts:Z Ty)->Z qm->Z (R U.C)->(S U.C->HL U.C ts->V α)->V α
 |s,[],[],[],K=>K s ()|s,t::ts,x::l,caps,K=>S.arg X a s (s.ev x) t λs v=>oZ a s ts l caps λs vs=>K s (hJ t ts v vs)
 |s,t::ts,[],r::caps,K=>match fD t r with
  |some v=>oZ a s ts [] caps λs vs=>K s (hJ t ts v vs)|none=>Y
 |_,_,_,_,_=>Y
def AW(b:tl):(s:S U.C)->(a:Ty)->Z qm->(S U.C->bL U.C a->V α)->V α
 |s,.gn t u,x::y::l,K=>bif eV t then s.val b (s.ev x) t λs v=>AW b s u (y::l) λs vs=>K s (v,vs)else Y|s,t,[x],K=>bif eV t then s.val b (s.ev x) t K else Y
 |_,_,_,_=>Y
def Qb(s:S U.C)(t:Ty)(r:R U.C)(k:bL U.C t->V α):V α:=
 match r with
 |.whole d=>match s.box d with
  |some (.bi a _ xs)=>match eh (.aq a) t xs with
   |some v=>k v|none=>Y
  |_=>Y
 |.val (.hs m) p=>match t,k with
  |.aq a,k=>match U.ak m with
   |.bi _ e=>match bif decide (X.ty e=O a)then Db U m a e s else Y with
    |some l=>(ad l p).bind k|none=>Y
   |_=>Y
  |t,k=>match eh (.hs m) t p with
   |some v=>k v|none=>Y
 |r=>match fD t r with
  |some v=>k v|none=>Y
def Qc(s:S U.C)(t:Ty)(r:R U.C)(k:bL U.C t->V α):V α:=
 match t,k with
 |.fn a b,k=>match Qa X a b r with
  |some v=>k v|none=>Y
 |.qu _ _,_=>Y|t,k=>Qb X s t r k
def w5(s:S U.C):(ts:Z Ty)->Z qm->(HL U.C ts->V α)->V α
 |[],[],K=>K ()|t::ts,x::l,K=>Qc X s t (s.ev x) λv=>w5 s ts l λvs=>K (hJ t ts v vs)
 |_,_,_=>Y
def w6:Ty->tl
 |.int _|.bool|.str=>W|_=>F
def TE(U:cg)(t:Ty):tl:=(gr U D t).all w6
def Xg(U:cg):RK->tl
 |.v t=>w6 t|.bU t _=>TE U t
def HK{C:Nat->Type}(s:S C):Nat->tl
 |0=>W|n+1=>s.m n&&HK s n
def gU(d j:Nat):Nat:=1000*(d+1)+j
def Kr(d:Nat):(j:Nat)->(rs:Z RK)->HL U.C (rs.map RK.ty)->S U.C->(S U.C->Z (R U.C)->V α)->V α
 |_,[],_,s,K=>K s []|j,.v t::rs,x,s,K=>Kr d (j+1) rs (wC t (rs.map RK.ty) x) s λs l=>K s (.val t (wD t (rs.map RK.ty) x)::l)
 |j,.bU t e::rs,x,s,K=>s.new (gU d j) (.bi t e (wD (.aq t) (rs.map RK.ty) x)) λs=>Kr d (j+1) rs (wC (.aq t) (rs.map RK.ty) x) s λs l=>K s (.whole (gU d j)::l)
def rr(s:S U.C)(dst:V Nat)(rs:Z RK)(y:HL U.C (rs.map RK.ty))(K:S U.C->V α):V α:=
 match dst with
 |none=>K s|some d=>match rs,y with
  |[.v t],y=>K (s.put (O d) (.val t y))|[.bU t e],y=>s.new d (.bi t e y) λs=>K (s.put (O d) (.whole d))
  |rs,y=>bif Nat.ble rs.length 8 then Kr d 0 rs y s λs l=>K (s.put (O d) (.fK l))else Y
def S.FB {C:Nat->Type} (s:S C) (h:C 0):S C:={s with h:=h,hv:=s.tick,tick:=s.tick+1}
def Mw(s:S U.C):Z Ty->Z qm->tl
 |t::ts,x::l=>(match t with
  |.fn a b=>(Qa X a b (s.ev x)).isSome|.qu a b=>(Mv X a b (s.ev x)).isSome
  |_=>W)&&Mw s ts l
 |_,_=>W
def ru(d:tl)(s:S U.C)(dst:V Nat)(c:b7 U)(caps:Z (R U.C))(args:Z qm)(K:S U.C->V α):V α:=
 match c with
 |⟨ps,rs,a,.pure b⟩=>bif caps.isEmpty&&(rs.all (Xg U)&&a.isNone)then w5 X s ps args λx=>(b x).bind λr=>sK a r (λq=>kx q s) λy=>rr s dst rs y K
  else oZ X d s ps args caps λs x=>(b x).bind λr=>sK a r (λq=>kx q s) λy=>rr s dst rs y K
 |⟨ps,rs,a,.rd b⟩=>bif X.wr then bif Nat.blt 0 U.nk&&HK s U.nk then oZ X d s ps args caps λs x=>(b x s.h).bind λr=>sK a r (λq=>kx q s) λy=>rr s dst rs y K else Y else Y|⟨ps,rs,a,.st b⟩=>bif X.wr then bif Nat.blt 0 U.nk&&HK s U.nk then oZ X d s ps args caps λs x=>(b x s.h).bind λr=>sK a r.1 (λq=>kx q (s.FB r.2)) λy=>rr (s.FB r.2) dst rs y K else Y else Y
def AX(a:tl)(s:S U.C)(dst:V Nat)(caps:Z (R U.C))(args:Z qm)(K:S U.C->V α):Z (b7 U)->V α
 |[]=>Y|[c]=>ru X kx a s dst c caps args K
 |c::l=>bif Mw X s c.ps args then ru X kx a s dst c caps args K else AX a s dst caps args K l
def Zu(a:tl)(s:S U.C)(dst:V Nat)(f:JC)(caps:Z (R U.C))(args:Z qm)(K:S U.C->V α):V α:=AX X kx a s dst caps args K (X.con f)
def AY:(s:S U.C)->(ts:Z Ty)->Z (R U.C)->Z qm->(S U.C->HL U.C ts->V α)->V α
 |s,ts,[],l,K=>oZ X W s ts l [] K|s,t::ts,r::fs,l,K=>match fD t r with
  |some v=>AY s ts fs l λs vs=>K s (hJ t ts v vs)|none=>Y
 |_,[],_::_,_,_=>Y
def AZ(s:S U.C)(dst:V Nat)(c:b7 U)(first:Z (R U.C))(args:Z qm)(K:S U.C->V α):V α:=
 match c with
 |⟨ps,rs,a,.pure b⟩=>AY X s ps first args λs x=>(b x).bind λr=>sK a r (λq=>kx q s) λy=>rr s dst rs y K
 |⟨ps,rs,a,.rd b⟩=>bif X.wr then bif Nat.blt 0 U.nk&&HK s U.nk then AY X s ps first args λs x=>(b x s.h).bind λr=>sK a r (λq=>kx q s) λy=>rr s dst rs y K else Y else Y
 |⟨ps,rs,a,.st b⟩=>bif X.wr then bif Nat.blt 0 U.nk&&HK s U.nk then AY X s ps first args λs x=>(b x s.h).bind λr=>sK a r.1 (λq=>kx q (s.FB r.2)) λy=>rr (s.FB r.2) dst rs y K else Y else Y
def Qd(b:Ty)(y:bL U.C b):R U.C:=match b,y with
 |.gn t u,y=>bif eV t&&eV u then .fK [.val t y.1,.val u y.2]else .none|b,y=>bif eV b then .val b y else .none
def xFn(c:tl)(s:S U.C)(dst:V Nat)(a b:Ty)(φ:bL U.C a->V (bL U.C b))(args:Z qm)(K:S U.C->V α):V α:=AW c s a args λs x=>(φ x).bind λy=>K (s.put dst (Qd b y))
def Zv(c:tl)(s:S U.C)(dst:V Nat)(a b:Ty)(φ:bL U.C a->U.C 0->V (bL U.C b×U.C 0))(args:Z qm)(K:S U.C->V α):V α:=bif Nat.blt 0 U.nk&&HK s U.nk then AW c s a args λs x=>(φ x s.h).bind λr=>K ((s.FB r.2).put dst (Qd b r.1))else Y
def h8{C:Nat->Type}:(t:Ty)->bL C t->bL C t->tl
 |.int _,x,y=>bp x y|.bool,x,y=>M1 x y
 |.str,x,y=>c7 x y|_,_,_=>F
def a8{β γ:Type}(eq:β->β->tl):Z (β×γ)->β->V γ
 |[],_=>Y|(a,v)::l,k=>bif eq k a then O v else a8 eq l k
def eX{β γ:Type}(eq:β->β->tl):Z (β×γ)->β->γ->Z (β×γ)
 |[],k,v=>[(k,v)]|(a,w)::l,k,v=>bif eq k a then(k,v)::l else(a,w)::eX eq l k v
def dX{β:Type}(l:Z (Z β))(p:V Nat):V (Z β):=match p with
 |none=>O []|some i=>l[i]?
def vo(U:cg)(t:Ty):V (bL U.C t):=match(lJ U D t).bind (iW U D t)with
 |some (z,_)=>O z|none=>Y
def Mx(s:S U.C)(e:Nat)(x k:R U.C)(f:tl)(K:R U.C->V α):V α:=
 match x with
 |.val (.mp m) p=>bif Nat.beq e m then match U.ak m with
  |.map a b=>match maps U m a b s,fD a k,vo U b with
   |some l,O c,O z=>(dX l p).bind λd=>bif f then K (.fK [.val b ((a8 (h8 a) d c).getD z),.val .bool (a8 (h8 a) d c).isSome])else K (.val b ((a8 (h8 a) d c).getD z))|_,_,_=>Y
  |_=>Y
  else Y
 |_=>Y
def zq(c:tl)(s:S U.C)(d:Nat)(x k v:R U.C)(K:S U.C->V α):V α:=
 match x with
 |.val (.mp m) p=>bif Nat.beq d m then match U.ak m with
  |.map a b=>match fD a k with
   |some e=>S.val c s v b λs v=>match maps U m a b s with
    |some l=>Option.bind (α:=Nat) p λi=>(l[i]?).bind λf=>match Fv U m a b s (l.set i (eX (h8 a) f e v))with
     |some h'=>s.bw h' K|none=>Y
    |none=>Y
   |none=>Y
  |_=>Y
  else Y
 |_=>Y
def Xh(U:cg)(t:Ty):tl:=(gr U D t).all λ|.hs _=>F|_=>W
def TF(s:S U.C)(dst:V Nat)(k:Nat)(t:Ty)(v:bL U.C t)(K:S U.C->V α):V α:=
 match Oe U k t s with
 |some l=>match Fu U k t s (l++[v])with
  |some h'=>s.bw h' λs=>K (s.put dst (.val (.ptr k) (O l.length)))|none=>Y
 |none=>Y
def O1(a:tl)(fs:Z Ty):S U.C->Z (Nat×qm)->Z (R U.C)->(S U.C->Z (R U.C)->V α)->V α
 |s,[],cs,K=>K s cs|s,(i,x)::l,cs,K=>match oX U 0 fs i with
  |some (off,t)=>S.val a s (s.ev x) t λs v=>O1 a fs s l (rp off (mn U D t v) cs) K|none=>Y
def A6(s:S U.C)(te:Ty):Z (Nat×qm)->Nat->V (Z (bL U.C te))
 |[],_=>O []|(i,x)::l,n=>bif Nat.beq i n then match fD te (s.ev x),A6 s te l (n+1)with
   |some v,O vs=>O (v::vs)|_,_=>Y
  else Y
def lL{C:Nat->Type}(d tick:Nat)(t:Ty)(x:bL C t):Z (Nat×Nat×R C)->Z (Nat×Nat×R C)
 |[]=>[]|(q,st,.dT d' k)::l=>bif Nat.beq d' d then(q,tick,.dJ t x k)::lL d tick t x l else(q,st,.dT d' k)::lL d tick t x l
 |e::l=>e::lL d tick t x l
def S.Hz (s:S U.C) (d:Nat) (K:S U.C->V α):V α:=
 match s.box d with
 |some (.cells t rs)=>match iW U D t rs with
  |some (x,_)=>bif mm d (bB s.b d)then K {s with r:=lL d s.tick t x s.r,b:=bB s.b d,tick:=s.tick+1}else Y|none=>Y
 |_=>Y
def sL(a:tl):S U.C->Z qm->(S U.C->V α)->V α
 |s,[],K=>K s|s,x::l,K=>match s.ev x,a with
  |.dT d _,W=>s.Hz d λs=>sL a s l K|_,_=>sL a s l K
def Zw{C:Nat->Type}:R C->tl
 |.val _ _|.dJ _ _ _|.fn _ _|.pw _=>W|_=>F
def sl0:V qm->V qm->qm->tl
 |none,O (.const (.int _ 0)),.const (.int _ 0)=>W|_,_,_=>F
def ox:Z (Nat×Nat)->V Nat->V Nat
 |(d,k)::l,O d'=>bif Nat.beq d d' then O k else ox l (O d')|_,_=>Y
def TG(b:tl)(s:S U.C)(dst:V Nat)(e:JA)(d':Nat)(t:Ty)(l h:V Int)(K:S U.C->V α):V α:=
 match b,dst,s.box d',l,h with
 |true,O d,O (.bi a el xs),Y,O m=>bif decide (a=t)&&decide (X.elem e=O el)then(cR (decide (0<=m)&&decide (m.toNat<=xs.length))).bind λ_=>(s.drop d').new d (.bi a el (xs.take m.toNat)) λs=>K (s.put (O d) (.whole d))else Y|_,_,_,_,_=>Y
def Zx(s:S U.C)(dst:V Nat)(e:JA)(d':Nat)(t:Ty)(l:Int)(h:V Int)(K:S U.C->V α):V α:=
 match s.box d' with
 |some (.bi a el xs)=>bif decide (a=t)&&decide (X.elem e=O el)then match h with
   |none=>(cR (decide (0<=l)&&decide (l.toNat<=xs.length))).bind λ_=>K (s.put dst (.sub d' l.toNat (xs.length-l.toNat)))|some h=>(cR (decide (0<=l)&&(decide (0<=h)&&(decide (l.toNat<=h.toNat)&&decide (h.toNat<=xs.length))))).bind λ_=>K (s.put dst (.sub d' l.toNat (h.toNat-l.toNat)))
  else Y
 |_=>Y
def VZ{C:Nat->Type}:R C->tl
 |.val _ _=>W|_=>F
def TH{C:Nat->Type}:R C->tl
 |.fn _ _=>W|.lT _ _=>W
 |_=>F
def V5{C:Nat->Type}:R C->tl
 |.fn _ _=>W|.const .nilFunc=>W
 |_=>F
def yh:Z (Nat×qm)->Nat->tl
 |[],_=>W|(i,_)::l,n=>Nat.beq i n&&yh l (n+1)
def gb:Z (Nat×qm)->Z qm
 |[]=>[]|(_,x)::l=>x::gb l
def My{C:Nat->Type}:R C->R C
 |.bM t []=>.gx t|r=>r
def V6{C:Nat->Type}:R C->tl
 |.val t _=>!aV t|.gx _=>W
 |_=>F
def A7{C:Nat->Type}:R C->R C
 |.gx t=>.bM t []|r=>r
def Xi(c:tl)(s:S U.C)(dst:V Nat)(e:JA)(len:Nat)(a:Z (Nat×qm))(K:S U.C->V α):V α:=
 match dst with
 |some d=>bif c&&(X.JL e&&(Nat.beq a.length len&&(yh a 0&&((tE s (gb a)).all TH&&(decide (len<=65536)&&(mm d (bB s.b d)&&(tE s (gb a)).all λr=>!r.aT d))))))then K (({s with r:=ko d s.tick s.r,b:=bB s.b d,tick:=s.tick+1}:S U.C).put dst (.sJ (tE s (gb a))))else Y|none=>Y
def Ks(s:S U.C)(j:Nat):R U.C->V (R U.C)
 |.dT d k=>match s.box d with
  |some (.cells _ _)=>O (.dT d (k+j))|_=>Y
 |.fV d i k a te x=>match s.box d with
  |some (.bi _ _ _)=>O (.fV d i (k+j) a te x)|_=>Y
 |.dJ te x k=>O (.dJ te x (k+j))|.ji k i off=>O (.ji k i (off+j))
 |.kn k i q off=>O (.kn k i q (off+j))|_=>Y
def FC(s:S U.C)(p:R U.C)(m:Int):Nat->Nat->(R U.C->V α)->V α
 |0,_,_=>Y|n+1,j,K=>cond (bp m (j:Int)) (match Ks s j p with
  |some r=>K r|none=>Y) (FC s p m n (j+1) K)
def HM(n:Nat):R U.C->Z (R U.C)
 |.agg a rs=>bif Nat.beq a n&&Nat.beq rs.length (bD U D (.struct n))then rs else []|r=>match fD (.struct n) r with
  |some v=>mn U D (.struct n) v|none=>[]
def FD(m:Int):Z (R U.C)->Nat->(R U.C->V α)->V α
 |[],_,_=>Y|r::rs,j,K=>cond (bp m (j:Int)) (K r) (FD m rs (j+1) K)
def Mz(s:S U.C)(t:Ty)(p:R U.C):V (Z (R U.C)):=
 match p with
 |.dT d k=>match s.box d with
  |some (.cells _ rs)=>bif Nat.ble (k+bD U D t) rs.length&&((oY k rs).take (bD U D t)).all V5 then O ((oY k rs).take (bD U D t))else Y|_=>Y
 |_=>Y
def MA(m:Int):Z (R U.C)->Nat->(R U.C->V α)->V α
 |[],_,_=>Y|r::rs,j,K=>cond (bp m (j:Int)) (K (.pw r)) (MA m rs (j+1) K)
def DO(a:tl):Z (R U.C)->S U.C->(S U.C->V α)->V α
 |[],s,K=>K s|.whole d::rs,s,K=>match s.box d with
  |some (.bi t _ xs)=>bif a then DO a rs (s.AP d t xs) K else Y|_=>Y
 |_::rs,s,K=>DO a rs s K
def Qe(a:tl)(s:S U.C)(t:Ty)(p:R U.C)(K:S U.C->V α):V α:=
 match p with
 |.dT d k=>match s.box d with
  |some (.cells _ rs)=>bif aV t then DO a ((oY k rs).take (bD U D t)) s K else K s|_=>Y
 |_=>K s
def Zy:Ty->tl
 |.hs _=>W|_=>F
def TI:Ty->tl
 |.aq _=>W|_=>F
def MB(l:Z (Nat×Nat))(e:JA):qm->tl
 |.tmp t=>l.any λp=>Nat.beq p.1 e&&Nat.beq p.2 t|_=>F
def Xj(s:S U.C)(dst:V Nat)(r:R U.C)(K:S U.C->V α):V α:=
 match r,dst with
 |.val (.hs k) p,O d=>match U.ak k with
  |.bi te e=>match bif decide (X.ty e=O te)then Db U k te e s else Y with
   |some l=>(ad l p).bind λxs=>match vk U k te e s (ek l p)with
    |some h'=>(s.put (O d) (.val (.aq te) xs)).bw h' K|none=>Y
   |none=>Y
  |_=>Y
 |_,_=>Y
def acC{C:Nat->Type}:V JC->R C
 |some f=>.fn f []|none=>.const .nilFunc
variable(esc:Z (Nat×Nat))
noncomputable def hS (g:tl) (o:JB) (s:S U.C) (K:S U.C->V α):V α:=
 match o.op with
 |.move x=>K (s.put o.dst (s.ev x))|.assign x=>match s.ev x,g,o.dst with
  |.whole d',W,O d=>match s.box d' with
   |some (.bi t e xs)=>bif Nat.beq d' d then K (s.put o.dst (.whole d))else(s.drop d').new d (.bi t e xs) λs=>K (s.put o.dst (.whole d))|_=>Y
  |r,_,_=>K (s.put o.dst r)
 |.pick c a b=>match yg (s.ev c),X.ty o.type with
  |some q,O t=>match fD t (s.ev a),fD t (s.ev b)with
   |some I,O J=>K (s.put o.dst (.val t (cond q I J)))|_,_=>cond q (K (s.put o.dst (s.ev a))) (K (s.put o.dst (s.ev b)))
  |_,_=>Y
 |.alloc e=>match ox esc o.dst with
  |some k=>match U.ak k with
   |.hC t=>match vo U t,X.ty e with
    |some z,O C=>bif decide (C=t)||(Zy t&&TI C)then TF s o.dst k t z K else Y|_,_=>Y
   |_=>Y
  |none=>match o.dst,X.ty e,(X.ty e).bind (lJ U D)with
  |some d,O t,O cs=>bif g||(s.box d).isNone then s.new d (.cells t cs) λs=>K (s.put o.dst (.dT d 0))else Y|some d,O t,Y=>bif (X.j9 e).isSome&&(g||(s.box d).isNone)then s.new d (.cells t (List.replicate (bD U D t) (bif X.pK e then .const .nilFunc else .none))) λs=>K (s.put o.dst (.dT d 0))else Y
  |_,_,_=>Y
 |.box e x=>match ox esc o.dst with
  |some k=>match U.ak k with
   |.hC t=>S.val g s (s.ev x) t λs v=>TF s o.dst k t v K|_=>Y
  |none=>match o.dst,X.ty e with
  |some d,O t=>bif g||(s.box d).isNone then
    bif aV t then match fD t (s.ev x)with
     |some v=>s.new d (.cells t (mn U D t v)) λs=>K (s.put o.dst (.dT d 0))|none=>Y
    else match Mr s t (s.ev x)with
     |some r=>s.new d (.cells t [r]) λs=>K (s.put o.dst (.dT d 0))|none=>Y
   else Y
  |_,_=>Y
 |.build e w=>match X.ty e with
  |some (.struct n)=>bif (X.j9 e).isSome&&(Nat.beq w.toList.length (U.dA n).length&&(yh w.toList 0&&(tE s (gb w.toList)).all TH))then K (s.put o.dst (.agg n (tE s (gb w.toList))))else match lJ U D (.struct n)with
   |some cs=>match ox esc o.dst with
    |some _=>O1 g (U.dA n) s w.toList (cs.map My) λs cs=>bif cs.all V6 then K (s.put o.dst (.agg n cs))else Y|none=>O1 g (U.dA n) s w.toList cs λs cs=>match iW U D (.struct n) cs with
     |some (v,_)=>K (s.put o.dst (.val (.struct n) v))|none=>Y
   |none=>Y
  |_=>Y
 |.buildSlice e len w=>match o.dst,X.ty e,X.elem e with
  |some d,O (.aq te),O el=>DO g (w.toList.map λp=>s.ev p.2) s λs=>match A6 s te w.toList 0 with
   |some xs=>bif Nat.beq w.toList.length len&&decide (len<=65536)then s.new d (.bi te el xs) λs=>K (s.put o.dst (.whole d))else Y|none=>Y
  |_,Y,_=>Xi X g s o.dst e len w.toList K|_,_,_=>Y
 |.load e p=>match X.ty e with
  |some t=>match(bif (X.j9 e).isSome then Mz s t (s.ev p)else Y),t with
   |some rs,.struct n=>K (s.put o.dst (.agg n rs))|_,t=>bif MB X.VV e p then vm X s t (s.ev p) λr=>Xj X s o.dst r K else Qe g s t (s.ev p) λs=>vm X s t (s.ev p) λr=>K (s.put o.dst (A7 r))
  |none=>match s.ev p with
   |.pw r=>bif X.JM e then K (s.put o.dst r)else Y|.dT d k=>match s.box d with
    |some (.cells _ rs)=>match rs[k]? with
     |some (.fn f [])=>bif X.JM e then K (s.put o.dst (.fn f []))else Y|_=>Y
    |_=>Y
   |_=>Y
 |.store e p v=>match X.ty e,o.dst with
  |some t,Y=>FA X g s t (s.ev p) (s.ev v) K|none,Y=>bif X.JM e then match s.ev p,s.ev v with
   |.dT d k,.fn f []=>match s.box d with
    |some (.cells u rs)=>bif Nat.blt k rs.length then K (s.gm d (.cells u (rp k [.fn f []] rs)))else Y|_=>Y
   |_,_=>Y
   else Y
  |_,_=>Y
 |.nilCheck p=>match s.ev p with
  |.val (.ptr k) p=>Option.bind (α:=Nat) p λi=>K (s.put o.dst (.ji k i 0))|.val (.ref t) p=>Option.bind (α:=bL U.C t) p λx=>K (s.put o.dst (.dJ t x 0))
  |.dT d k=>match s.box d with
   |some (.cells _ _)=>K (s.put o.dst (.dT d k))|_=>Y
  |.dJ t x k=>K (s.put o.dst (.dJ t x k))|.ji k i off=>K (s.put o.dst (.ji k i off))
  |.kn k i j off=>K (s.put o.dst (.kn k i j off))|_=>Y
 |.makeMap _ Y=>match ox esc o.dst with
  |some k=>match U.ak k with
   |.map E G=>match maps U k E G s with
    |some l=>match Fv U k E G s (l++[[]])with
     |some h'=>s.bw h' λs=>K (s.put o.dst (.val (.mp k) (O l.length)))|none=>Y
    |none=>Y
   |_=>Y
  |_=>Y
 |.lookup e x i L=>match X.ty e with
  |some (.mp m)=>Mx s m (s.ev x) (s.ev i) L λr=>K (s.put o.dst r)|_=>Y
 |.mapUpdate e m k v=>match X.ty e,o.dst with
  |some (.mp A),Y=>bif X.wr then zq g s A (s.ev m) (s.ev k) (s.ev v) K else Y|_,_=>Y
 |.insert e m k v=>match X.ty e,o.dst with
  |some (.mp A),Y=>bif X.wr then zq g s A (s.ev m) (s.ev k) (s.ev v) K else Y|_,_=>Y
 |.binOp op e x y e'=>match X.ty e with
  |some (.aq t)=>match fD (.aq t) (s.ev x),Fx y,op with
   |some a,W,.eql=>bif !g then Y else cond (List.isEmpty (α:=bL U.C t) a) (both (K (s.put o.dst (.val .bool W))) (K (s.put o.dst (.val .bool F)))) (K (s.put o.dst (.val .bool F)))|some a,W,.neq=>bif !g then Y else cond (List.isEmpty (α:=bL U.C t) a) (both (K (s.put o.dst (.val .bool F))) (K (s.put o.dst (.val .bool W)))) (K (s.put o.dst (.val .bool W)))
   |_,_,_=>Y
  |some t=>bif (X.j9 e).isNone then Xe o op t (s.ev x) (s.ev y) (X.ty e') λt v=>K (s.put o.dst (.val t v))else Y|none=>Y
 |.unOp .not _ x=>match yg (s.ev x)with
  |some b=>K (s.put o.dst (.val .bool (!b)))|none=>Y
 |.unOp .neg e x=>match X.ty e with
  |some (.int k)=>match fD (.int k) (s.ev x)with
   |some n=>K (s.put o.dst (.val (.int k) (k.wrap (0-n))))|none=>Y
  |_=>Y
 |.convert e e' x=>match X.ty e,X.ty e' with
  |some (.int _),O (.int k)=>match AS (s.ev x)with
   |some n=>K (s.put o.dst (.val (.int k) (k.wrap n)))|none=>Y
  |some .str,O (.aq (.int .u8))=>match fD .str (s.ev x)with
   |some v=>(cR (decide (List.length (α:=NT) v<=maxLen))).bind λ_=>K (s.put o.dst (.val (.aq (.int .u8)) (List.map (λc:NT=>(c.toNat:Int)) v)))|none=>Y
  |_,_=>Y
 |.fieldAddr e p f=>match X.ty e with
  |some t=>bif (X.j9 e).isNone then tC s t f (s.ev p) λr=>K (s.put o.dst r)else Y|none=>Y
 |.field e x f=>match(bif (X.j9 e).isNone then X.ty e else Y)with
  |some (.struct n)=>match fD (.struct n) (s.ev x),fieldAt U (.struct n) f with
   |some v,O (off,t)=>match Mq t (.struct n) v off with
    |some v=>K (s.put o.dst (.val t v))|none=>Y
   |_,_=>Y
  |_=>Y
 |.indexAddr e x i=>match AS (s.ev i),X.ty e,X.elem e with
  |some m,O (.aq t),O el=>tD s t el (s.ev x) m λr=>K (s.put o.dst r)|some m,O (.struct n),_=>bif (X.j9 e).isSome then FC s (s.ev x) m (U.dA n).length 0 λr=>K (s.put o.dst r)else Y
  |some m,Y,_=>match s.ev x with
   |.sJ rs=>bif X.JL e then MA m rs 0 λr=>K (s.put o.dst r)else Y|_=>Y
  |_,_,_=>Y
 |.index e x i=>match(bif X.pK e then Y else X.j9 e)with
  |some _=>match X.ty e,AS (s.ev i)with
   |some (.struct n),O m=>FD m (HM n (s.ev x)) 0 λr=>K (s.put o.dst (A7 r))|_,_=>Y
  |none=>match X.ty e,fD .str (s.ev x),AS (s.ev i)with
   |some .str,O v,O m=>(aR (α:=NT) v m).bind λc=>K (s.put o.dst (.val (.int .u8) (c.toNat:Int)))|_,_,_=>Y
 |.slice e x B hi Y=>match nr s Y B,nr s Y hi with
  |some l,O h=>match s.ev x,X.ty e with
   |.val (.aq te) xs,O (.aq t)=>bif decide (te=t)then w4 (β:=bL U.C te) xs l h λys=>K (s.put o.dst (.val (.aq te) ys))else Y|.bM te xs,O (.aq t)=>bif decide (te=t)then w4 xs l h λys=>K (s.put o.dst (.val (.aq te) ys))else Y
   |.whole d',O (.aq t)=>match l with
    |some l=>Zx X s o.dst e d' t l h K|none=>TG X g s o.dst e d' t Y h K
   |.val (.hs k) p,O (.aq t)=>match B,h,U.ak k with
    |none,O m,.bi te el=>bif decide (te=t)&&decide (X.elem e=O el)then Option.bind (α:=Nat×Nat) p λq=>(cR (decide (0<=m)&&decide (m.toNat<=q.2))).bind λ_=>K (s.put o.dst (.val (.hs k) (O (q.1,m.toNat))))else Y|_,_,_=>Y
   |x,O .str=>match fD .str x with
    |some v=>w4 (β:=NT) v l h λys=>K (s.put o.dst (.val .str ys))|none=>Y
   |_,_=>Y
  |_,_=>Y
 |.slice e x B hi (O mx)=>bif sl0 B hi mx then match s.ev x,X.ty e with
  |.val (.aq te) _,O (.aq t)=>bif decide (te=t)then K (s.put o.dst (.bM te []))else Y|_,_=>Y
  else match B,nr s Y hi,AS (s.ev mx)with
  |none,O (O h),O m=>match s.ev x,X.ty e with
   |.val (.aq te) xs,O (.aq t)=>bif decide (te=t)then(cR (decide (0<=h)&&(decide (h=m)&&decide (h.toNat<=List.length (α:=bL U.C te) xs)))).bind λ_=>K (s.put o.dst (.bM te (List.take (α:=bL U.C te) h.toNat xs)))else Y|_,_=>Y
  |_,_,_=>Y
 |.makeSlice e m A=>match o.dst,X.ty e,X.elem e,AS (s.ev m),(match m,A with|.tmp a,.tmp b=>Nat.beq a b|.const (.int _ a),.const (.int _ b)=>decide (a=b)|_,_=>F)with
  |some d,O (.aq te),O el,O n,W=>match vo U te with
   |some z=>(cR (decide (0<=n)&&cE (X.bytes el) n.toNat 281474976710656)).bind λ_=>s.new d (.bi te el (List.replicate n.toNat z)) λs=>K (s.put o.dst (.whole d))|none=>Y
  |_,_,_,_,_=>Y
 |.extract x i=>match s.ev x with
  |.fK rs=>match rs[i]? with
   |some r=>K (s.put o.dst r)|none=>Y
  |_=>Y
 |.makeFunc (.func f) first caps=>bif !first.toList.isEmpty&&(caps.toList.isEmpty&&(tE s first.toList).all VZ)then K (s.put o.dst (.lT f (tE s first.toList)))else bif first.toList.isEmpty then sL g s caps.toList λs=>bif (tE s caps.toList).all Zw then K (s.put o.dst (.fn f (tE s caps.toList)))else Y else Y
 |.call {callee:=.builtin b,args,argTypes}=>match b,args.toList,argTypes.toList with
  |.len,[x],[H]=>match X.ty H with
   |some (.mp A)=>match s.ev x with
    |.val (.mp m) p=>bif Nat.beq A m then match U.ak m with
     |.map E G=>match maps U m E G s with
      |some l=>(dX l p).bind λN=>K (s.put o.dst (.val (.int .i64) (N.length:Int)))|none=>Y
     |_=>Y
     else Y
    |_=>Y
   |some .str=>match fD .str (s.ev x)with
    |some v=>K (s.put o.dst (.val (.int .i64) ((List.length (α:=NT) v:Nat):Int)))|none=>Y
   |some (.aq _)=>match Xf s (s.ev x)with
    |some n=>K (s.put o.dst (.val (.int .i64) (n:Int)))|none=>Y
   |none=>match s.ev x with
    |.sJ rs=>bif X.JL H then K (s.put o.dst (.val (.int .i64) (rs.length:Int)))else Y|_=>Y
   |_=>Y
  |.append,[x,y],[e,u]=>match X.ty e,X.elem e,X.ty u with
   |some (.aq te),O el,O (.aq _)=>Ms X g s o.dst el te x (s.ev y) K|_,_,_=>Y
  |.copy,[x,y],[e,_]=>match s.ev x,X.ty e,X.elem e with
   |.whole d,O (.aq te),O el=>TD s te el (s.ev y) λys=>match s.box d with
    |some (.bi C e' xs)=>match eh (.aq C) (.aq te) xs,Nat.beq e' el with
     |some xs,W=>K ((s.gm d (.bi te e' (List.take (min ys.length (List.length (α:=bL U.C te) xs)) ys++List.drop (min ys.length (List.length (α:=bL U.C te) xs)) xs))).put o.dst (.val (.int .i64) ((min ys.length (List.length (α:=bL U.C te) xs):Nat):Int)))|_,_=>Y
    |_=>Y
   |_,_,_=>Y
  |_,_,_=>Y
 |.call {callee:=.value x,args,..}=>match s.ev x with
  |.fn f caps=>match X.Kp f with
   |some (n,fs)=>bif caps.isEmpty&&args.toList.isEmpty then K (s.put o.dst (.agg n (fs.map acC)))else Y|none=>Zu X kx g s o.dst f caps args.toList K
  |.lT f first=>bif g then match X.con f with
   |c::_=>AZ X kx s o.dst c first args.toList K
   |[]=>Y
   else Y
  |.val (.fn a b) φ=>xFn g s o.dst a b φ args.toList K|.val (.qu a b) φ=>bif X.wr then Zv g s o.dst a b φ args.toList K else Y
  |_=>Y
 |.makeInterface e x=>match X.ty e with
  |some t=>match fD t (s.ev x)with
   |some v=>K (s.put o.dst (.mQ e t v))|none=>Y
  |none=>Y
 |.panic x=>match s.ev x with
  |.mQ e t v=>kx ⟨e,t,v⟩ s|_=>Y
 |_=>Y
def o6{C:Nat->Type}:R C:=.fK []
def Qf(esc:Z (Nat×Nat))(dst:V Nat):tl:=match ox esc dst with
 |some k=>Nat.beq k 998|none=>F
def V7:V Nat->Z qm
 |some d=>[.tmp d]|none=>[]
noncomputable def HN (o:JB) (s:S U.C) (K:S U.C->V α):V α:=bif Qf esc o.dst then hS X kx [] W o s (λs=>sL W s (V7 o.dst) K)else hS X kx esc W o s K
noncomputable def mE (a:Array JB):Z JB->S U.C->(S U.C->V α)->V α
 |[],s,K=>K s|o::l,s,K=>match o.guard with
  |none=>HN X kx esc o s λs=>mE a l s K|some (j,c)=>match(a[j]?).bind (·.dst)with
   |none=>Y|some t=>match s.bQ t with
    |.val .bool b=>
     cond b (let s:=s.put (O t) (.val .bool W);bif c then HN X kx esc o s λs=>mE a l s K else mE a l (s.put o.dst o6) K)
      (let s:=s.put (O t) (.val .bool F);bif c then mE a l (s.put o.dst o6) K else HN X kx esc o s λs=>mE a l s K)
    |.const (.bool b)=>bif Bool.xor b c then mE a l (s.put o.dst o6) K else HN X kx esc o s λs=>mE a l s K|.fK []=>mE a l (s.put o.dst o6) K
    |_=>Y
end
section
variable(X:gj U)(esc:Z (Nat×Nat))
mutual
def R.qM {C:Nat->Type}:R C->Z Nat
 |.dT d _=>[d]|.whole d=>[d]
 |.fV d _ _ _ _ _=>[d]|.fK rs=>Dd rs
 |.fn _ rs=>Dd rs|.sub d _ _=>[d]
 |.sJ rs=>Dd rs|.pw r=>r.qM
 |.agg _ rs=>Dd rs|.lT _ rs=>Dd rs
 |_=>[]
def Dd{C:Nat->Type}:Z (R C)->Z Nat
 |[]=>[]|r::rs=>r.qM++Dd rs
end
def B.qM {C:Nat->Type}:B C->Z Nat
 |.cells _ rs=>Dd rs|.bi _ _ _=>[]
def V8{C:Nat->Type}(s:S C):Nat->Z Nat->Z Nat
 |0,l=>l|n+1,l=>l++V8 s n (l.flatMap λd=>match s.box d with|some b=>b.qM|none=>[])
def iN(a:Array JB)(o:JB):Z Nat:=(o.op.operands.toList.filterMap λ|.tmp t=>O t|_=>Y)++(match o.guard with|some (j,_)=>((a[j]?).bind (·.dst)).toList|none=>[])
def Xk{C:Nat->Type}:R C->Z Nat
 |.val (.ptr k) _=>[k]|.val (.hs k) _=>[k]
 |.val (.mp k) _=>[k]|.ji k _ _=>[k]
 |.kn k _ _ _=>[k]|_=>[]
def Xl{C:Nat->Type}:R C->Z Nat
 |.val (.hs k) _=>[k]|_=>[]
def Qg(U:cg)(k:Nat):Z Nat:=
 let f:=λt=>(gr U D t).flatMap λ|.hs m=>[m]|_=>[]
 match U.ak k with
 |.hC t=>f t|.bi t _=>f t
 |.map _ t=>f t
def Qh:Nat->Z Nat
 |0=>[]|n+1=>n::Qh n
def Xm{C:Nat->Type}{U:cg}(X:gj U):R C->tl
 |.fn f _=>(X.con f).any λc=>match c.run with|.pure _=>F|_=>W
 |.val (.qu _ _) _=>W|_=>F
def Xn{U:cg}(X:gj U)(e:JA):Z Nat:=match X.ty e with
 |some t=>(gr U D t).flatMap λ|.hs m=>[m]|_=>[]
 |none=>[]
def TJ(s:S U.C)(o:JB):Z Nat:=
 let rs:=o.op.operands.toList.map s.ev;let l:=rs.flatMap Xk++(ox esc o.dst).toList;match o.op with
 |.call {callee:=.value x,..}=>bif Xm X (s.ev x)then Qh U.nk else rs.flatMap Xl|.move _|.assign _|.pick ..|.fieldAddr ..|.binOp ..|.unOp ..|.extract ..|.nilCheck _=>[]
 |.build e _=>(l++l.flatMap (Qg U))++Xn X e|_=>l++l.flatMap (Qg U)
def lC{C:Nat->Type}:R C->tl
 |.whole _=>W|_=>F
def eS{C:Nat->Type}{U:cg}(X:gj U)(s:S C):Op->tl
 |.move _|.pick ..|.fieldAddr ..|.indexAddr ..|.binOp ..|.unOp ..|.extract ..|.nilCheck _|.lookup ..|.field ..|.index ..|.slice ..|.convert ..|.makeInterface ..=>F|.load e p=>MB X.VV e p
 |.build _ b=>b.toList.any λp=>lC (s.ev p.2)|.assign x=>match s.ev x with
  |.whole _=>W|_=>F
 |.call {callee:=.builtin .len,..}=>F|.call {callee:=.value x,args,..}=>args.toList.any (λa=>lC (s.ev a))||match s.ev x with
  |.fn f _=>(X.con f).any λc=>(match c.run with|.pure _=>F|_=>W)||c.rs.any RK.eM
  |.val (.qu _ _) _=>W|_=>F
 |_=>W
def ez(o:JB):Z Nat:=match o.dst with
 |some d=>match o.op with
  |.call {callee:=.value _,..}=>d::(Qh 8).map (gU d)|.move _|.pick ..|.load ..|.fieldAddr ..|.indexAddr ..|.binOp ..|.unOp ..|.extract ..|.nilCheck _|.lookup ..|.field ..|.index ..|.slice ..|.convert ..|.build ..|.makeInterface ..=>[]
  |_=>[d]
 |none=>[]
def w7:Z JB->Z Nat
 |[]=>[]|o::l=>ez o++w7 l
def hM(o:JB):Z Nat:=match o.op with
 |.call {callee:=.builtin .append,args,..}=>match args.toList with
  |[.tmp t,_]=>[t]|_=>[]
 |_=>[]
structure Fp where
 i:Nat
 bs:List Nat
 ks:List Nat
 w:Bool
def S.only {C:Nat->Type} (s:S C) (rs bs c:Z Nat):S C:={r:=tF s.r rs,b:=tF s.b bs,tick:=s.tick,h:=s.h,hv:=s.hv,m:=λk=>s.m k&&ig k c}
 where tF {β:Type} (l:Z (Nat×Nat×β)):Z Nat->Z (Nat×Nat×β)
 |[]=>[]|t::ts=>match aB l t with
  |some (a,x)=>(t,a,x)::tF l ts|none=>tF l ts
def F3{β:Type}(l:Z (Nat×Nat×β)):Z Nat->Z (Nat×Nat×β)
 |[]=>l|d::a=>F3 (bB l d) a
def tG(U:cg)(h a:U.C 0):Z Nat->U.C 0
 |[]=>h|k::b=>tG U (U.set k h (U.get k a)) a b
def kp{C:Nat->Type}(tick:Nat):Z Nat->Z (Nat×Nat×R C)->Z (Nat×Nat×R C)
 |[],l=>l|t::ts,l=>(t,tick,.none)::kp tick ts l
def S.DP {C:Nat->Type} {γ:Type} (s:S C) (k:S C->γ):γ:=match s with
 |⟨r,b,tick,h,hv,m⟩=>Ft r λr=>Ft b λb=>k ⟨r,b,tick,h,hv,m⟩
def S.A8 (s:S C) (k:S C->γ):s.DP k=k s:=by cases s;simp only[S.DP,DM]
def S.sM {U:cg} (s a:S U.C) (dst:V Nat) (c:Z Nat) (f:Fp):S U.C:=
 {r:=match dst with
   |some d=>(d,a.tick,a.bQ d)::kp a.tick c s.r|none=>kp a.tick c s.r
  b:=bif f.w then a.b++F3 s.b f.bs else s.b,tick:=a.tick+1
  h:=bif f.w&&Nat.ble s.tick a.hv then tG U s.h a.h f.ks else s.h,hv:=bif f.w&&Nat.ble s.tick a.hv then a.hv else s.hv,m:=s.m}
def Qi{C:Nat->Type}:Z Nat->S C->V (S C)
 |[],s=>O s|d::a,s=>bif mm d (bB s.b d)then Qi a {s with r:=ko d s.tick s.r,b:=bB s.b d,tick:=s.tick+1}else Y
def A9:Z Nat->Z Nat->tl
 |[],_=>F|d::l,l'=>ig d l'||A9 l l'
def vp(a:Nat)(f:Fp):Z Fp->tl
 |[]=>W|g::l=>(Nat.testBit a g.i||!((f.w||g.w)&&(A9 f.bs g.bs||A9 f.ks g.ks)))&&vp a f l
def MC{C:Nat->Type}:R C->tl
 |.val t _=>eV t|.fn _ caps=>caps.all λ|.val t _=>eV t|.dJ _ _ _=>W|_=>F
 |.fK rs=>rs.all λ|.val t _=>eV t|.whole _=>W|_=>F
 |.sJ _=>F|.pw _=>F
 |.lT _ _=>F|.agg _ rs=>rs.all λ|.val t _=>eV t|.gx _=>W|_=>F
 |_=>W
def R.Qj {C:Nat->Type} (bs:Z Nat) (tick:Nat) (r:R C):tl:=r.qM.all (λd=>ig d bs)&&match r with
 |.fV _ _ _ a _ _=>Nat.blt a tick|_=>W
def Xo{C:Nat->Type}(s:S C)(bs:Z Nat):V Nat->tl
 |some d=>MC (s.bQ d)&&R.Qj bs s.tick (s.bQ d)|none=>W
mutual
def ed{C:Nat->Type}(tick:Nat):R C->tl
 |.fV _ _ _ a _ _=>Nat.blt a tick|.fK rs=>la tick rs
 |.fn _ rs=>la tick rs|.sJ rs=>la tick rs
 |.pw r=>ed tick r|.agg _ rs=>la tick rs
 |.lT _ rs=>la tick rs|_=>W
def la{C:Nat->Type}(tick:Nat):Z (R C)->tl
 |[]=>W|r::rs=>ed tick r&&la tick rs
end
def B.FE {C:Nat->Type} (tick:Nat):B C->tl
 |.cells _ rs=>la tick rs|.bi _ _ _=>W
def TK{β:Type}(l:Z (Nat×Nat×β))(d:Nat):tl:=match aB l d with
 |some _=>W|none=>F
def TL{C:Nat->Type}(f:Fp)(a:Z Nat)(bx:Z (Nat×Nat×B C))(tick:Nat):Z (Nat×Nat×B C)->tl
 |[]=>W|(d,st,x)::l=>ig d f.bs&&(Nat.blt st tick&&(x.qM.all (λe=>ig e f.bs)&&(x.FE tick&&((ig d a||TK bx d)&&TL f a bx tick l))))
def FF{C:Nat->Type}(tick:Nat)(bx a:Z (Nat×Nat×B C)):Z Nat->tl
 |[]=>W|d::l=>(match aB a d with|some (st,_)=>Nat.blt st tick|none=>!TK bx d)&&FF tick bx a l
def Ba(a:Z Nat):Z Fp->tl
 |[]=>W|g::l=>!A9 a g.bs&&Ba a l
def w8{U:cg}(X:gj U)(f:Fp)(o:JB)(p a:S U.C):tl:=Xo a f.bs o.dst&&((f.w||!eS X p o.op)&&bif f.w then TL f (ez o) p.b a.tick a.b else FF p.tick p.b a.b f.bs)
def S.w9 {U:cg} (X:gj U) (esc:Z (Nat×Nat)) (a:Array JB) (i:Nat) (o:JB) (s:S U.C):Fp:={i:=i,bs:=V8 s 2 ((iN a o).flatMap λt=>(s.bQ t).qM)++ez o,ks:=TJ X esc s o,w:=eS X s o.op}
noncomputable def yi (a:Array JB) (d:Array Nat):Z JB->Nat->Z Fp->S U.C->(S U.C->V α)->V α
 |[],_,_,s,K=>K s|o::l,i,fs,s,K=>
  let c:=λs:S U.C=>
   let f:Fp:=S.w9 X esc a i o s
   bif vp (d.getD i 0) f fs&&Ba (ez o) fs then hS X (λ_ _=>Y) esc F o (s.only (iN a o) f.bs f.ks) λg=>bif w8 X f o (s.only (iN a o) f.bs f.ks) g then(s.sM g o.dst (hM o) f).DP λs=>yi a d l (i+1) (f::fs) s K else Y else Y
  let skip:=λs:S U.C=>yi a d l (i+1) ({i:=i,bs:=[],ks:=[],w:=F}::fs) (s.put o.dst o6) K;match o.guard with
  |none=>c s|some (j,e)=>match(a[j]?).bind (·.dst)with
   |none=>Y|some t=>match s.bQ t with
    |.val .bool b=>
     cond b (let s:=s.put (O t) (.val .bool W);bif e then c s else skip s)
      (let s:=s.put (O t) (.val .bool F);bif e then skip s else c s)
    |.const (.bool b)=>bif Bool.xor b e then skip s else c s|.fK []=>skip s
    |_=>Y
def Bb(a:Array JB):tl:=
 let b:=Region.before a
 (List.range a.size).all λk=>match a[k]? with
  |some c=>(c.after.all λe=>!Region.binds .any e||decide (e.on<k))&&(match c.op with|.select ..=>F|_=>W)&&
   ((List.range a.size).all λi=>match a[i]? with
     |some d=>Nat.beq i k||(hM c).all λt=>!ig t (d.looksAt a)|none=>W)&&
   (List.range k).all λi=>match a[i]? with
    |some d=>(b.getD k 0).testBit i||d.apart a c|none=>W
  |none=>W
noncomputable def MD (a:Array JB) (s:S U.C) (K:S U.C->V α):V α:=
 bif Bb a then match Qi (w7 a.toList) s with
  |some s=>yi X esc a (Region.before a) a.toList 0 [] s K|none=>Y
 else Y
end
inductive Ex where
 |normal
 |exit (id:Nat)
 |ret
inductive RS where
 |val (t:Ty)
 |bM (t:Ty)
 |dT (d k:Nat)
 |whole (d:Nat)
 |bU (d:Nat) (t:Ty) (e:TypeId)
 |dJ (t:Ty) (k:Nat)
inductive BS where
 |cells (t:Ty) (rs:List RS)
 |bi (t:Ty) (e:TypeId)
structure Sh where
 h:Bool:=F
 cK:List Nat
 cu:List (Nat×RS)
 sN:List Nat
 bG:List (Nat×BS)
inductive fC where
 |aC
 |seq (j:Option Sh) (a b:fC)
 |cond (a b:fC)
 |block (a:fC)
 |loop (j:Sh) (a:fC)
 |rv (a:fC)
 |scope (a:fC)
 |FG (j:Sh) (a:fC)
 |enm
def RS.ty:RS->V Ty
 |.val t=>O t|.bM t=>O (.aq t)
 |.bU _ t _=>O (.aq t)|.dJ t _=>O t
 |_=>Y
def HO:V Ty->Z Ty->Z Ty
 |some t,ts=>t::ts|none,ts=>ts
def tH:Z (Nat×RS)->Z Ty->Z Ty
 |[],ts=>ts|(_,r)::l,ts=>HO r.ty (tH l ts)
def pM:Z RS->Z Ty->Z Ty
 |[],ts=>ts|r::l,ts=>HO r.ty (pM l ts)
def kq:Z (Nat×BS)->Z Ty
 |[]=>[]|(_,.cells _ rs)::l=>pM rs (kq l)
 |(_,.bi t _)::l=>.aq t::kq l
def Sh.Xq (j:Sh):Z Ty:=tH j.cu (kq j.bG)
section
variable{C:Nat->Type}
def RS.pN (s:S C):(r:RS)->R C->(ts:Z Ty)->HL C ts->V (HL C (HO r.ty ts))
 |.val t,x,ts,y=>match fD t x with
  |some v=>O (hJ t ts v y)|none=>Y
 |.bM t,x,ts,y=>match x with
  |.bM a xs=>match eh (.aq a) (.aq t) xs with
   |some v=>O (hJ (.aq t) ts v y)|none=>Y
  |_=>Y
 |.dT d k,x,ts,y=>match x with
  |.dT d' k'=>bif Nat.beq d d'&&Nat.beq k k' then O y else Y|_=>Y
 |.whole d,x,ts,y=>match x with
  |.whole d'=>bif Nat.beq d d' then O y else Y|_=>Y
 |.bU d t e,x,ts,y=>match x with
  |.whole d'=>match s.box d' with
   |some (.bi a e' xs)=>bif decide (e'=e)then match eh (.aq a) (.aq t) xs with
     |some v=>O (hJ (.aq t) ts v y)|none=>Y
    else Y
   |_=>Y
  |.bM a xs=>bif decide (a=t)then match xs with
    |[]=>O (hJ (.aq t) ts [] y)|_=>Y
   else Y
  |.const v=>bif eW v then O (hJ (.aq t) ts [] y)else Y|.gx a=>bif decide (a=t)then O (hJ (.aq t) ts [] y)else Y
  |_=>Y
 |.dJ t k,x,ts,y=>match x with
  |.dJ a z k'=>bif Nat.beq k k' then match eh a t z with
    |some v=>O (hJ t ts v y)|none=>Y
   else Y
  |_=>Y
def mR(s:S C):(l:Z RS)->(ts:Z Ty)->Z (R C)->HL C ts->V (HL C (pM l ts))
 |[],ts,[],x=>O x|r::l,ts,c::rs,x=>match mR s l ts rs x with
  |some y=>r.pN s c (pM l ts) y|none=>Y
 |_,_,_,_=>Y
def mS(s:S C):(l:Z (Nat×BS))->V (HL C (kq l))
 |[]=>O ()|(d,.cells t cs)::l=>match s.box d,mS s l with
  |some (.cells a rs),O x=>bif decide (t=a)then mR s cs (kq l) rs x else Y|_,_=>Y
 |(d,.bi t e)::l=>match s.box d,mS s l with
  |some (.bi a e' xs),O x=>bif decide (e=e')then match eh (.aq a) (.aq t) xs with
    |some v=>O (hJ (.aq t) (kq l) v x)|none=>Y
   else Y
  |_,_=>Y
def vq(s:S C):(l:Z (Nat×RS))->(ts:Z Ty)->HL C ts->V (HL C (tH l ts))
 |[],_,x=>O x|(q,r)::l,ts,x=>match vq s l ts x with
  |some y=>r.pN s (s.bQ q) (tH l ts) y|none=>Y
def RS.src (x:R C):RS->Z Nat
 |.bU _ _ _=>match x with
  |.whole d=>[d]|_=>[]
 |_=>[]
def ME(s:S C):Z (Nat×RS)->Z Nat
 |[]=>[]|(q,r)::l=>r.src (s.bQ q)++ME s l
def DQ:Z RS->Z (R C)->Z Nat
 |r::l,c::rs=>r.src c++DQ l rs|_,_=>[]
def DR(s:S C):Z (Nat×BS)->Z Nat
 |[]=>[]|(d,.cells _ cs)::l=>d::((match s.box d with
  |some (.cells _ rs)=>DQ cs rs|_=>[])++DR s l)
 |(d,.bi _ _)::l=>d::DR s l
def RS.o7:RS->Z Nat
 |.bU d _ _=>[d]|_=>[]
def sO:Z (Nat×RS)->Z Nat
 |[]=>[]|(_,r)::l=>r.o7++sO l
def yj:Z RS->Z Nat
 |[]=>[]|r::l=>r.o7++yj l
def Bc:Z (Nat×BS)->Z Nat
 |[]=>[]|(_,.cells _ cs)::l=>yj cs++Bc l
 |(_,.bi _ _)::l=>Bc l
def yk:Z (Nat×BS)->Z Nat
 |[]=>[]|(d,.cells _ cs)::l=>d::(yj cs++yk l)
 |(d,.bi _ _)::l=>d::yk l
def RS.Qk (ow:Z Nat):RS->tl
 |.whole d=>!ig d ow|_=>W
def HP(ow:Z Nat):Z (Nat×BS)->tl
 |[]=>W|(_,.cells _ cs)::l=>cs.all (RS.Qk ow)&&HP ow l
 |(_,.bi _ _)::l=>HP ow l
def R.still {C:Nat->Type} (ow:Z Nat):R C->tl
 |.fV _ _ _ _ _ _=>F|.fK _=>F
 |.sub _ _ _=>F|.sJ _=>F
 |.pw (.val _ _)=>W|.pw _=>F
 |.agg _ _=>F|.lT _ _=>F
 |.whole d=>!ig d ow|.fn _ caps=>caps.all λ|.val _ _=>W|.dJ _ _ _=>W|_=>F
 |_=>W
def B.still {C:Nat->Type} (ow:Z Nat):B C->tl
 |.cells _ rs=>rs.all (R.still ow)|.bi _ _ _=>W
def Bd:Z Nat->tl
 |[]=>W|d::l=>!ig d l&&Bd l
def Be{β:Type}(p:β->tl)(c s:Z (Nat×Nat×β)):Z Nat->tl
 |[]=>W|t::l=>match aB c t,aB s t with
  |some (a,x),O (b,_)=>Nat.beq a b&&p x&&Be p c s l|_,_=>F
def HT(C:Nat->Type):tl->Type
 |true=>C 0|false=>xW
def Zz(b:tl)(a s:S C):V (HT C b):=match b with
 |true=>O s.h|false=>bif Nat.beq a.hv s.hv&&Nat.blt a.hv a.tick then O ()else Y
def Kt(b:tl)(a:S C)(x:HT C b):C 0:=match b,x with
 |true,h=>h|false,_=>a.h
def Bf(b:tl)(a:S C):Nat:=match b with
 |true=>a.tick|false=>a.hv
def RS.sP {U:cg} (X:gj U):RS->tl
 |.bU _ t e=>decide (X.ty e=O t)|_=>W
def Bg{U:cg}(X:gj U):Z (Nat×BS)->tl
 |[]=>W|(_,.cells _ cs)::l=>cs.all (RS.sP X)&&Bg X l
 |(_,.bi _ _)::l=>Bg X l
def Sh.sP {U:cg} (X:gj U) (j:Sh):tl:=j.cu.all (λe=>e.2.sP X)&&Bg X j.bG
def Sh.o7 (j:Sh):Z Nat:=sO j.cu++Bc j.bG
def Sh.pN (j:Sh) (a s:S C):V (HL C j.Xq×HT C j.h):=
 bif Be (R.still j.o7) a.r s.r j.cK&&(Be (B.still j.o7) a.b s.b j.sN&&(Bd (ME s j.cu++(DR s j.bG++j.sN))&&(Bd (sO j.cu++(yk j.bG++j.sN))&&(j.cu.all (λe=>e.2.Qk j.o7)&&HP j.o7 j.bG))))then match mS s j.bG with
  |some x=>match vq s j.cu (kq j.bG) x,Zz j.h a s with
   |some y,O z=>O (y,z)|_,_=>Y
  |none=>Y
 else Y
def RS.load (tick:Nat):(r:RS)->(ts:Z Ty)->HL C (HO r.ty ts)->(R C×Z (Nat×Nat×B C))×HL C ts
 |.val t,ts,x=>((.val t (wD t ts x),[]),wC t ts x)|.bM t,ts,x=>((.bM t (wD (.aq t) ts x),[]),wC (.aq t) ts x)
 |.dT d k,ts,x=>((.dT d k,[]),x)|.whole d,ts,x=>((.whole d,[]),x)
 |.bU d t e,ts,x=>((.whole d,[(d,tick,.bi t e (wD (.aq t) ts x))]),wC (.aq t) ts x)|.dJ t k,ts,x=>((.dJ t (wD t ts x) k,[]),wC t ts x)
def loadCells(tick:Nat):(l:Z RS)->(ts:Z Ty)->HL C (pM l ts)->(Z (R C)×Z (Nat×Nat×B C))×HL C ts
 |[],ts,x=>(([],[]),x)|r::l,ts,x=>let p:=r.load tick (pM l ts) x;let q:=loadCells tick l ts p.2;((p.1.1::q.1.1,p.1.2++q.1.2),q.2)
def mT(tick:Nat):(l:Z (Nat×BS))->HL C (kq l)->Z (Nat×Nat×B C)
 |[],_=>[]|(d,.cells t cs)::l,x=>let p:=loadCells tick cs (kq l) x;(d,tick,.cells t p.1.1)::(p.1.2++mT tick l p.2)
 |(d,.bi t e)::l,x=>(d,tick,.bi t e (wD (.aq t) (kq l) x))::mT tick l (wC (.aq t) (kq l) x)
def o8(tick:Nat):(l:Z (Nat×RS))->(ts:Z Ty)->HL C (tH l ts)->(Z (Nat×Nat×R C)×Z (Nat×Nat×B C))×HL C ts
 |[],_,x=>(([],[]),x)|(t,r)::l,ts,x=>let p:=r.load tick (tH l ts) x;let q:=o8 tick l ts p.2;(((t,tick,p.1.1)::q.1.1,p.1.2++q.1.2),q.2)
def o9{β:Type}(b:Z (Nat×Nat×β)):Z Nat->Z (Nat×Nat×β)
 |[]=>[]|t::l=>match aB b t with
  |some (a,x)=>(t,a,x)::o9 b l|none=>o9 b l
def Sh.load (j:Sh) (a:S C) (x:HL C j.Xq×HT C j.h):S C:=
 let p:=o8 a.tick j.cu (kq j.bG) x.1
 {r:=p.1.1++o9 a.r j.cK,b:=p.1.2++(mT a.tick j.bG p.2++o9 a.b j.sN),tick:=a.tick+1,h:=Kt j.h a x.2,hv:=Bf j.h a,m:=a.m}
end
def S.xa {C:Nat->Type} (s:S C) (c:qm) (b:tl):S C:=match c with
 |.tmp t=>match s.bQ t with
  |.val .bool _=>s.put (O t) (.val .bool b)|_=>s
 |_=>s
section
variable(X:gj U)(kx:rq U->S U.C->V α)(esc:Z (Nat×Nat))
noncomputable def Ku (f:Nat->V α):Z Nat->V α
 |[]=>Y|[i]=>f i
 |i::l=>both (f i) (Ku f l)
noncomputable def DS (a:Array JB):Nat->Array tl->S U.C->(S U.C->V α)->V α
 |0,_,_,_=>Y|n+1,b,s,K=>match Region.ready .any a b with
  |[]=>K s|i::l=>Ku (λi=>match a[i]? with
   |some o=>bif o.guard.isNone then hS X (λ_ _=>Y) esc W o s λs=>DS a n (b.setIfInBounds i W) s K else Y|none=>Y) (i::l)
noncomputable def Ql (h:fC) (a:Array JB) (s:S U.C) (K:S U.C->V α):V α:=match h with
 |.enm=>DS X esc a (a.size+1) (Array.replicate a.size F) s K|_=>MD X esc a s K
noncomputable def gV:F4->fC->S U.C->(Ex->S U.C->V α)->V α
 |.skip,_,s,k=>k .normal s|.label _,_,s,k=>k .normal s
 |.region _ g l,h,s,k=>s.DP λs=>bif l then Ql X esc h g s λs=>k .normal s
  else mE X kx esc g g.toList s λs=>k .normal s
 |.seq a b,h,s,k=>match h with
  |.seq (O j) d f=>s.DP λs=>bif !j.sP X then Y else aS (λx=>gV b f (j.load s x) k) λJ=>gV a d s λe s'=>match e with
   |.normal=>match j.pN s s' with
    |some x=>J x|none=>Y
   |e=>k e s'
  |.seq Y d f=>gV a d s λe s'=>match e with
   |.normal=>gV b f s' k|e=>k e s'
  |_=>gV a .aC s λe s'=>match e with
   |.normal=>gV b .aC s' k|e=>k e s'
 |.cond c a b,h,s,k=>match yg (s.ev c),h with
  |some q,.cond d f=>cond q (gV a d (s.xa c W) k) (gV b f (s.xa c F) k)|some q,_=>cond q (gV a .aC (s.xa c W) k) (gV b .aC (s.xa c F) k)
  |none,_=>Y
 |.block id a,h,s,k=>gV a (match h with|.block d=>d|_=>.aC) s λe s'=>match e with
  |.exit i=>bif Nat.beq i id then k .normal s' else k (.exit i) s'|e=>k e s'
 |.loop a,h,s,k=>match h with
  |.loop j d=>bif !j.sP X then Y else match j.pN s s with
   |some m=>aZ (λrec x=>gV a d (j.load s x) λe s'=>match e with
    |.normal=>match j.pN s s' with
     |some x=>rec x|none=>Y
    |e=>k e s') X.N m
   |none=>Y
  |.rv d=>aZ (λrec s=>gV a d s λe s'=>match e with
    |.normal=>rec s'|e=>k e s') 64 s
  |_=>Y
 |.exit id,_,s,k=>k (.exit id) s|.scope a,h,s,k=>gV a (match h with|.scope d=>d|_=>.aC) s k
 |.ret,_,s,k=>k .ret s|_,_,_,_=>Y
end
def MF{U:cg}{α:Type}(ty:Ty)(s:S U.C)(r:R U.C)(K:S U.C->V α):V α:=match ty,r with
 |.ref _,.dT d _=>s.Hz d K|_,_=>K s
def da(X:gj U):tl->(l:Z ResultVar)->(rs:Z RK)->S U.C->(S U.C->HL U.C (rs.map RK.ty)->V α)->V α
 |_,[],[],s,K=>K s ()|fr,.tmp t::l,.v ty::rs,s,K=>bif eV ty then(bif fr then MF ty s (s.bQ t) λs=>s.val W (s.bQ t) ty λs v=>da X fr l rs s λs vs=>K s (hJ ty (rs.map RK.ty) v vs)
   else match fD ty (s.bQ t)with
    |some v=>da X fr l rs s λs vs=>K s (hJ ty (rs.map RK.ty) v vs)|none=>Y)else Y
 |fr,.tmp t::l,.bU ty e::rs,s,K=>bif fr&&decide (X.ty e=O ty)then match(match s.bQ t with
   |.whole d=>(match s.box d with|some (.bi b e' xs)=>(bif decide (e=e')then eh (.aq b) (.aq ty) xs else Y)|_=>Y)
   |.const v=>(bif eW v then O []else Y)|.bM b xs=>(bif decide (b=ty)then(match xs with|[]=>O []|_=>Y)else Y)
   |_=>Y:V (bL U.C (.aq ty)))with
  |some xs=>da X F l rs s λs vs=>K s (hJ (.aq ty) (rs.map RK.ty) xs vs)|none=>Y
  else Y
 |fr,.cell a te::l,.v ty::rs,s,K=>bif decide (X.ty te=O ty)then match s.bQ a with
  |.dT d k=>match s.box d with
   |some (.cells _ cs)=>match(HG U ty k cs).bind (fD ty)with
    |some v=>da X F l rs s λs vs=>K s (hJ ty (rs.map RK.ty) v vs)|none=>Y
   |_=>Y
  |_=>Y
  else Y
 |_,_,_,_,_=>Y
def ZA{C:Nat->Type}:(t:Ty)->bL C t->R C
 |.cell t,x=>.dJ t x 0|.jR a b,φ=>.pw (.val (.qu a b) φ)
 |t,x=>.val t x
def mq(ps:Z Ty):(i:Nat)->HL U.C ps->Z (Nat×Nat×R U.C):=match ps with
 |[]=>λ_ _=>[]|t::ts=>λi x=>(i,0,ZA t (wD t ts x))::mq ts (i+1) (wC t ts x)
noncomputable def DT (X:gj U) (ps:Z Ty) (rs:Z RK) (p:V (JA×Ty)) (esc:Z (Nat×Nat)) (a:Z ResultVar) (c:F4) (hint:fC) (x:HL U.C ps) (h:U.C 0):V (h7 U p (HL U.C (rs.map RK.ty))):=
 gV X (λq s=>Dc p q) esc c hint {r:=mq ps 0 x,b:=[],tick:=1,h:=h,m:=λ_=>F} λe s=>match e with
  |.exit _=>Y|_=>da X W a rs s λs y=>O (wZ p y)
def HQ{β σ:Type}(h:σ):V β->V (β×σ)
 |some x=>O (x,h)|none=>Y
noncomputable def vr (X:gj U) (ps:Z Ty) (rs:Z RK) (p:V (JA×Ty)) (esc:Z (Nat×Nat)) (a:Z ResultVar) (c:F4) (hint:fC) (x:HL U.C ps) (h:U.C 0):V (h7 U p (HL U.C (rs.map RK.ty))×U.C 0):=
 gV X (λq s=>HQ s.h (Dc p q)) esc c hint {r:=mq ps 0 x,b:=[],tick:=1,h:=h} λe s=>match e with
  |.exit _=>Y|_=>da X W a rs s λs y=>O (wZ p y,s.h)
end
variable{t a b te:Ty}
def dI(k i:Nat):Nat:=k+1000*i
def TM(a:k<1000)(b:k'<1000)(h:dI k i=dI k' i'):k=k'/\i=i':=by unfold dI at h;omega
structure dm(C:Nat->Type)where
 cl:(n:Nat)->C n->List AV
 hz:Nat->Nat
section
variable{C:Nat->Type}(T:dm C)
def gz(p:V (Nat×Nat))(k:Nat):AV:=match p with
 |none=>.gx|some q=>.view (dI k q.1) (T.hz k) q.2
def Qm(p:V Nat)(k:Nat):AV:=match p with
 |none=>.fl (.pointer Y)|some i=>.ptr (dI k i) 0
def Bh(p:V Nat)(k:Nat):AV:=match p with
 |none=>.fl (.map Y)|some i=>.mp (dI k i)
def FH{β:Type}(f:β->AV)(p:V β):AV:=match p with
 |none=>.fl (.pointer Y)|some x=>.ref (f x).cells
def MG:Ty->AV->Z AV
 |.gn _ u,.ref [a,b]=>a::MG u b|_,a=>[a]
def enc:(t:Ty)->bL C t->AV
 |.int k,n=>.fl (.int k n)|.bool,b=>.fl (.bool b)
 |.str,s=>.fl (bs s)|.unit,_=>.fl undef
 |.aq t,xs=>.sl (List.map (enc t) xs)|.struct n,x=>.agg (T.cl n x)
 |.ref t,p=>FH (enc t) p|.cell t,x=>.ref (enc t x).cells
 |.gn t u,x=>.ref [enc t x.1,enc u x.2]|.fn _ _,_=>.fl undef
 |.qu _ _,_=>.fl undef|.ptr k,p=>Qm p k
 |.hs k,p=>gz T p k|.mp k,p=>Bh p k
 |.jR _ _,_=>.fl undef|.Mm f t,x=>.fn f (MG t (enc t x))
 |.zb k off,i=>.ptr (dI k i) off
def ka:(ts:Z Ty)->HL C ts->Z AV
 |[],_=>[]|t::ts,x=>(enc T t (wD t ts x)).cells++ka ts (wC t ts x)
end
def gk(U:cg):Nat->Ty->tl
 |0,.struct _=>F|k+1,.struct n=>(U.dA n).all (gk U k)
 |_,_=>W
structure cw(U:cg)(T:dm U.C):Prop where
 FI:∀n x,U.un n (U.make n x)=x
 cells:∀n x,T.cl n x=ka T (U.dA n) (U.un n x)
 ok:∀n,(U.dA n).all eV=W
 acD:∀n,gk U D (.struct n)=W
 hz:∀k t e,U.ak k=.bi t e->T.hz k=bD U D t
 zr:∀k h l,k<U.nk->U.get k (U.set k h l)=l
 nk:U.nk<=1000
 FJ:∀k h h',U.nk<=k->U.get k h=U.get k h'
 r6:∀k k' h l,k'≠k->U.get k' (U.set k h l)=U.get k' h
def hg{U:cg}{T:dm U.C}(L:cw U T)(a:k<U.nk)(b:k'<U.nk)(h:dI k i=dI k' i'):k=k'/\i=i':=TM (jf a L.nk) (jf b L.nk) h
section
variable{C:Nat->Type}
@[simp] theorem eJ(t:Ty)(ts:Z Ty)(x:bL C t)(xs:HL C ts):wD t ts (hJ t ts x xs)=x:=by cases ts<;>rfl
@[simp] theorem eK(t:Ty)(ts:Z Ty)(x:bL C t)(xs:HL C ts):wC t ts (hJ t ts x xs)=xs:=by cases ts<;>rfl
def Kv(x:bL C a):eh a a x=O x:=by simp[eh]
def bN{x:bL C a}{y:bL C b}(h:eh a b x=O y):∃e:a=b,y=e▸x:=by
 unfold eh at h;split at h
 .rename_i e;exact ⟨e,by simpa using h.symm⟩
 .cases h
end
section
variable{U:cg}{T:dm U.C}(L:cw U T)
def pa{T:dm C}{x:bL C t}(h:aV t=F):(enc T t x).isAgg=F:=by
 cases t<;>first|rfl|(simp[aV]at h;done)|skip
 all_goals
  change V _ at x;cases x<;>rfl
def iX{T:dm C}{x:bL C t}(h:aV t=F):(enc T t x).cells=[enc T t x]:=by have:=pa (T:=T) (x:=x) h;generalize enc T t x=v at*;cases v<;>first|rfl|(simp[AV.isAgg]at this)
include L in
theorem Kw:∀{k:Nat}{t:Ty}(x:bL U.C t),gk U k t=W->(enc T t x).wf/\(enc T t x).cells.length=bD U k t
 |k,t,x,h=>by
  by_cases b:aV t=W
  .cases t with
   |struct n=>
    cases k with
    |zero=>simp[gk]at h|succ k=>
     simp only[gk,cS]at h;have f:∀(ts:Z Ty)(y:HL U.C ts),(∀t∈ts,gk U k t=W)->(∀c∈ka T ts y,c.isAgg=F)/\(ka T ts y).length=jA (bD U k) ts:=by
      intro ts;induction ts with
      |nil=>intro y _;simp[ka,jA]|cons t ts g=>
       intro y h;obtain⟨d,e⟩:=Kw (k:=k) (wD t ts y) (h t aE);obtain⟨i,j⟩:=g (wC t ts y) λt l=>h t (by simp[l]);simp only[ka,jA,ey,e,j];refine⟨λc a=>?_,trivial⟩;rcases dR.1 a with a|a
       .exact d c a
       .exact i c a
     have:=f _ (U.un n x) h;simp only[enc,AV.cells,AV.wf,bD];rw[L.cells];exact this
   |_=>simp[aV]at b
  .have b:aV t=F:=by simpa using b
   have d:=iX (T:=T) (x:=x) b;have e:=pa (T:=T) (x:=x) b;refine⟨λc a=>?_,?_⟩
   .rw[d]at a;simp at a;subst a;exact e
   .rw[d];cases t<;>first|(simp[aV]at b;done)|(cases k<;>rfl)
include L in
theorem hO(t:Ty):gk U D t=W:=by cases t<;>first|exact L.acD _|rfl
include L in
theorem ew(x:bL U.C t):(enc T t x).cells.length=bD U D t:=(Kw L x (hO L t)).2
include L in
theorem pO(x:bL U.C t):(enc T t x).wf:=(Kw L x (hO L t)).1
end
def ry{a b:Nat}(h:¬a=b):Nat.beq a b=F:=by
 cases c:Nat.beq a b with
 |false=>rfl|true=>exact absurd (bV c) h
section
variable{β:Type}
def aQ(d st:Nat)(x:β)(l:Z (Nat×Nat×β))(t:Nat):aB ((d,st,x)::l) t=if d=t then O (st,x)else aB l t:=by
 simp only[aB];by_cases h:d=t
 .subst h;simp
 .simp[ry h,h]
def aN(l:Z (Nat×Nat×β))(d t:Nat):aB (bB l d) t=if d=t then Y else aB l t:=by
 induction l with
 |nil=>simp[bB,aB]|cons e l b=>
  obtain⟨d',st,x⟩:=e;simp only[bB];by_cases h:d'=d
  .subst h;simp only[py,bf,b];by_cases a:d'=t
   .simp[a]
   .simp[aQ,a]
  .simp only[ry h,bq,aQ,b];by_cases a:d'=t
   .subst a;simp[dz h]
   .simp[a]
def vu(a b:Z (Nat×Nat×β))(t:Nat):aB (a++b) t=(aB a t).or (aB b t):=by
 induction a with
 |nil=>rfl|cons e l c=>obtain⟨d',st,x⟩:=e;simp only[qR,aQ,c];split<;>rfl
def fM{l:Z (Nat×Nat×β)}{t:Nat}{x:β}(h:aB l t=O (st,x)):(t,st,x)∈l:=by
 induction l with
 |nil=>cases h
 |cons e l a=>
  obtain⟨d',st',b⟩:=e;rw[aQ]at h;split at h
  .rename_i e;subst e;simp only[ax,bc]at h;obtain ⟨rfl,rfl⟩:=h;simp
  .exact s6 _ (a h)
end
section
variable{C:Nat->Type}
def jT(d tk:Nat)(l:Z (Nat×Nat×R C))(t:Nat):aB (ko d tk l) t=(aB l t).map λe=>if e.2.aT d=W then(tk,.none)else e:=by
 induction l with
 |nil=>rfl|cons e l b=>
  obtain⟨d',st,x⟩:=e;simp only[ko];cases h:x.aT d<;>simp only[bf,bq,aQ,b]
  .by_cases a:d'=t<;>simp[a,h]
  .by_cases a:d'=t<;>simp[a,h]
def tI{l:Z (Nat×Nat×B C)}(h:mm d l=W){t:Nat}{x:B C}(a:aB l t=O (st,x)):x.aT d=F:=by
 have b:=fM a;clear a;induction l with
 |nil=>cases b
 |cons e l c=>
  obtain⟨d',st',f⟩:=e;simp only[mm,aI,il]at h;rcases cT.1 b with e|e
  .simp only[bc]at e;obtain ⟨rfl,rfl,rfl⟩:=e;exact h.1
  .exact c h.2 e
def eF{d:Nat}:∀{rs:Z (R C)},cN d rs=F↔∀r∈rs,r.aT d=F
 |[]=>by simp[cN]|r::rs=>by simp[cN,eF (rs:=rs)]
end
section
variable(P:qK)(E:cm){U:cg}(T:dm U.C)(X:gj U)
def FK:(a:Ty)->bL U.C a->Z AV->Prop
 |.unit,_,b=>b=[]|.gn t u,x,b=>eV t=W/\∃r,b=enc T t x.1::r/\FK u x.2 r
 |t,x,b=>eV t=W/\b=[enc T t x]
def jq:(b:Ty)->bL U.C b->Z RV
 |.unit,_=>[]|.gn t u,y=>.v (enc T t y.1)::jq u y.2
 |t,y=>[.v (enc T t y)]
def Bi:(k:AK)->wY U.C k->V Ob
 |.hC t,x=>O (.cells (enc T t x).cells)|.bi t e,x=>match(x:V (Z (bL U.C t)))with
  |some xs=>O (.bi e (xs.map (enc T t)))|none=>Y
 |.map a b,c=>O (.map (List.map (λp:bL U.C a×bL U.C b=>(enc T a p.1,enc T b p.2)) c))
def tJ(k:AK)(x:wY U.C k):mj (Bi T k x)=Bi T k x:=by
 cases k with
 |bi t e=>
  have:∀y:V (Z (bL U.C t)),mj (Bi T (.bi t e) y)=Bi T (.bi t e) y:=λy=>by cases y<;>rfl
  exact this x
 |_=>rfl
def eY(m:Nat->tl)(h:U.C 0)(a:Nat->V Ob)(u:Nat->tl):Prop:=
 ∀k,k<U.nk->m k=W->∀i,match(U.get k h)[i]? with
  |some x=>mj (a (dI k i))=Bi T (U.ak k) x|none=>a (dI k i)=Y/\u (dI k i)=F
def bM:Nat->tl:=λ_=>W
def kr:(t:Ty)->bL U.C t->AV->Prop
 |.fn a b,φ,av=>∃f caps,av=.fn f caps/\∀x y,φ x=O y->∀c,FK T a x c->nm P E f (c++caps) (.ret (jq T b y))|.qu a b,φ,av=>∃f caps,av=.fn f caps/\∀x h y h',φ x h=O (y,h')->∀c,FK T a x c->∀A Vloc,eY T bM h A Vloc->∃d e,eY T bM h' d e/\np P E f (c++caps) A Vloc (.ret (jq T b y)) d e
 |.cell t,x,av=>eV t=W/\av=enc T (.cell t) x|.jR a b,φ,av=>∃f caps,av=.ref [.fn f caps]/\∀x h y h',φ x h=O (y,h')->∀c,FK T a x c->∀A Vloc,eY T bM h A Vloc->∃d e,eY T bM h' d e/\np P E f (c++caps) A Vloc (.ret (jq T b y)) d e
 |t,x,av=>eV t=W/\av=enc T t x
inductive bC(bx:List (Nat×Nat×B U.C))(g:Nat->Nat)(tick:Nat):R U.C->cy->Prop
 |none (q:cy):bC bx g tick .none q
 |val (t:Ty) (x:bL U.C t) (q:cy) (av:AV) (hq:bu q=O av) (h:kr P E T t x av):bC bx g tick (.val t x) q
 |const (v:Value) (h:uH v=W):bC bx g tick (.const v) (ct v)
 |bM (t:Ty) (xs:List (bL U.C t)) (h:eV t=W):bC bx g tick (.bM t xs) (.bM (xs.map (enc T t)))
 |dT (d k:Nat) (q:cy) (h:∀st u rs,aB bx d=O (st,.cells u rs)->q=.dT d (g d) 0 0 k):bC bx g tick (.dT d k) q
 |whole (d:Nat) (q:cy) (h:∀st t e xs,aB bx d=O (st,.bi t e xs)->q=.view d (g d) 0 xs.length):bC bx g tick (.whole d) q
 |fV (d i k Mn:Nat) (t:Ty) (x:bL U.C t) (q:cy) (hv:Mn<tick) (h:∀st t' e xs,aB bx d=O (st,.bi t' e xs)->q=.dT d (g d) (bD U D t') i k/\i<xs.length/\(st=Mn->(⟨t',xs[i]?⟩:(u:Ty)×Option (bL U.C u))=⟨t,O x⟩)):bC bx g tick (.fV d i k Mn t x) q
 |dJ (t:Ty) (x:bL U.C t) (k:Nat) (h:eV t=W):bC bx g tick (.dJ t x k) (.val (.ref ((enc T t x).cells.drop k)))
 |fK (rs:List (R U.C)) (qs:List cy) (h:rs.length=qs.length) (h2:∀(i:Nat)(r:R U.C)(q:cy),rs[i]?=O r->qs[i]?=O q->bC bx g tick r q):bC bx g tick (.fK rs) (.fK qs)
 |fn (f:FuncId) (caps:List (R U.C)) (fw:List AV) (h:caps.length=fw.length) (h2:∀(i:Nat)(r:R U.C)(av:AV),caps[i]?=O r->fw[i]?=O av->bC bx g tick r (.val av)):bC bx g tick (.fn f caps) (.val (.fn f fw))
 |mQ (TC:TypeId) (t:Ty) (x:bL U.C t) (h:eV t=W):bC bx g tick (.mQ TC t x) (.val (.mQ TC (enc T t x)))
 |ji (k i off:Nat):bC bx g tick (.ji k i off) (.val (.ptr (dI k i) off))
 |kn (k i j off:Nat):bC bx g tick (.kn k i j off) (.val (.ptr (dI k i) (j*T.hz k+off)))
 |sub (d off m:Nat) (q:cy) (h:∀st t e xs,aB bx d=O (st,.bi t e xs)->q=.view d (g d) off m/\off+m<=xs.length):bC bx g tick (.sub d off m) q
 |sJ (rs:List (R U.C)) (fw:List AV) (h:rs.length=fw.length) (h2:∀(i:Nat)(r:R U.C)(av:AV),rs[i]?=O r->fw[i]?=O av->bC bx g tick r (.val av)) (h3:∀(i:Nat)(av:AV),fw[i]?=O av->av.isAgg=F):bC bx g tick (.sJ rs) (.val (.sl fw))
 |pw (r:R U.C) (av:AV) (h:bC bx g tick r (.val av)):bC bx g tick (.pw r) (.val (.ref [av]))
 |gx (t:Ty) (h:eV t=W):bC bx g tick (.gx t) (.val .gx)
 |agg (n:Nat) (rs:List (R U.C)) (fw:List AV) (h:rs.length=fw.length) (h2:∀(i:Nat)(r:R U.C)(av:AV),rs[i]?=O r->fw[i]?=O av->bC bx g tick r (.val av)) (h3:∀(i:Nat)(av:AV),fw[i]?=O av->av.isAgg=F):bC bx g tick (.agg n rs) (.val (.agg fw))
 |it:bC bx g tick .it (.val (.fl (.pointer (O ⟨E.it,0,Y⟩))))
 |lT (f:FuncId) (rs:List (R U.C)) (fw:List AV) (h:rs.length=fw.length) (h2:∀(i:Nat)(r:R U.C)(av:AV),rs[i]?=O r->fw[i]?=O av->bC bx g tick r (.val av)):bC bx g tick (.lT f rs) (.val (.lT f fw))
def nM(bx:Z (Nat×Nat×B U.C))(g:Nat->Nat)(tick:Nat):V (Nat×B U.C)->V Bx->Prop
 |none,_=>True|some (_,.cells u rs),q=>eV u=W/\bD U D u=rs.length/\∃cs,q=O (.cells cs)/\rs.length=cs.length/\∀(i:Nat)(r:R U.C)(c:cy),rs[i]?=O r->cs[i]?=O c->bC P E T bx g tick r c
 |some (_,.bi t e xs),q=>X.ty e=O t/\q=O (.bi e (xs.map (enc T t)))
structure aX(s:S U.C)(q:St):Prop where
 cu:∀t,bC P E T s.b q.g s.tick (s.bQ t) (q.r t)
 bG:∀d,nM P E T X s.b q.g s.tick (aB s.b d) (q.b d)
 Bj:∀t st x,aB s.r t=O (st,x)->st<s.tick
 DU:∀d st x,aB s.b d=O (st,x)->st<s.tick
 heap:eY T s.m s.h q.a q.u
 df:q.df=E.df
def ku{C:Nat->Type}(bx bx':Z (Nat×Nat×B C))(g g':Nat->Nat)(tick d:Nat):Prop:=(aB bx' d=aB bx d/\g' d=g d)∨aB bx' d=Y∨(g' d=g d/\∃st u rs st' u' b,aB bx d=O (st,.cells u rs)/\aB bx' d=O (st',.cells u' b))∨(g' d=g d/\∃st t e xs st' e' a,aB bx d=O (st,.bi t e xs)/\aB bx' d=O (st',.bi t e' a)/\a.length=xs.length/\tick<=st')
end
section
variable{P:qK}{E:cm}{U:cg}{T:dm U.C}{X:gj U}{bx bx':Z (Nat×Nat×B U.C)}{g g':Nat->Nat}{tick tick':Nat}
def bC.mono {r:R U.C} {q:cy} (h:bC P E T bx g tick r q) (y:∀d,r.aT d=W->ku bx bx' g g' tick d) (N:tick<=tick'):bC P E T bx' g' tick' r q:=by
 induction h with
 |none q=>exact .none q|val t x q av s h=>exact .val t x q av s h
 |const v h=>exact .const v h|bM t xs h=>exact .bM t xs h
 |dT d k q h=>
  refine .dT d k q λst u rs a=>?_;rcases y d (by simp[R.aT])with⟨h1,b⟩|h1|⟨b,A,u0,G,_,_,_,l,o⟩|⟨b,A,t,e,xs,st',e',H,l,o,_⟩
  .rw[b];exact h st u rs (h1▸a)
  .rw[h1]at a;cases a
  .rw[b];exact h _ _ _ l
  .rw[o]at a;simp at a
 |whole d q h=>
  refine .whole d q λst t e xs a=>?_;rcases y d (by simp[R.aT])with⟨h1,b⟩|h1|⟨b,A,u0,G,_,_,_,l,o⟩|⟨b,A,t0,e0,I,st',e',H,l,o,D,_⟩
  .rw[b];exact h st t e xs (h1▸a)
  .rw[h1]at a;cases a
  .rw[o]at a;simp at a
  .rw[o]at a;simp only[ax,bc,B.bi.injEq]at a;obtain⟨_,rfl,_,a⟩:=a;cases a;rw[b,D];exact h _ _ _ _ l
 |fV d i k J t x q hv h=>
  refine .fV d i k J t x q M λst K e xs a=>?_;rcases y d (by simp[R.aT])with⟨h1,b⟩|h1|⟨b,A,u0,G,_,_,_,l,o⟩|⟨b,A,t0,e0,I,st',e',H,l,o,D,Q⟩
  .rw[b];exact h st K e xs (h1▸a)
  .rw[h1]at a;cases a
  .rw[o]at a;simp at a
  .rw[o]at a;simp only[ax,bc,B.bi.injEq]at a;obtain⟨rfl,rfl,_,a⟩:=a;cases a;obtain⟨q1,S,_⟩:=h _ _ _ _ l;rw[b];exact⟨q1,M,λe=>M⟩
 |dJ t x k h=>exact .dJ t x k h|fK rs qs h b w=>
  refine .fK rs qs h λi r q p s=>w i r q p s λd c=>y d ?_;simp only[R.aT];cases z:cN d rs with
  |true=>rfl|false=>rw[eF.1 z r (bF p)]at c;cases c
 |fn f caps C h b w=>
  refine .fn f caps C h λi r q p s=>w i r q p s λd c=>y d ?_;simp only[R.aT];cases z:cN d caps with
  |true=>rfl|false=>rw[eF.1 z r (bF p)]at c;cases c
 |mQ L t x h=>exact .mQ L t x h|ji k i off=>exact .ji k i off
 |kn k i j off=>exact .kn k i j off|sub d off m q h=>
  refine .sub d off m q λst t e xs a=>?_;rcases y d (by simp[R.aT])with⟨h1,b⟩|h1|⟨b,A,u0,G,_,_,_,l,o⟩|⟨b,A,t0,e0,I,st',e',H,l,o,D,_⟩
  .rw[b];exact h st t e xs (h1▸a)
  .rw[h1]at a;cases a
  .rw[o]at a;simp at a
  .rw[o]at a;simp only[ax,bc,B.bi.injEq]at a;obtain⟨_,rfl,_,a⟩:=a;cases a;rw[b,D];exact h _ _ _ _ l
 |sJ rs C h b l w=>
  refine .sJ rs C h (λi r q p s=>w i r q p s λd c=>y d ?_) l;simp only[R.aT];cases z:cN d rs with
  |true=>rfl|false=>rw[eF.1 z r (bF p)]at c;cases c
 |pw r av h w=>exact .pw r av (w λd c=>y d (by simpa[R.aT]using c))|gx t h=>exact .gx t h
 |it=>exact .it|lT f rs C h b w=>
  refine .lT f rs C h λi r q p s=>w i r q p s λd c=>y d ?_;simp only[R.aT];cases z:cN d rs with
  |true=>rfl|false=>rw[eF.1 z r (bF p)]at c;cases c
 |agg n rs C h b l w=>
  refine .agg n rs C h (λi r q p s=>w i r q p s λd c=>y d ?_) l;simp only[R.aT];cases z:cN d rs with
  |true=>rfl|false=>rw[eF.1 z r (bF p)]at c;cases c
def ku.refl (d:Nat):ku bx bx g g tick d:=.inl ⟨rfl,rfl⟩
def bC.later {r:R U.C} {q:cy} (h:bC P E T bx g tick r q) (a:tick<=tick'):bC P E T bx g tick' r q:=h.mono (λd _=>.refl d) a
def nM.mono {o:V (Nat×B U.C)} {q:V Bx} (h:nM P E T X bx g tick o q) (f:∀st x,o=O (st,x)->∀d,x.aT d=W->ku bx bx' g g' tick d) (j:tick<=tick'):nM P E T X bx' g' tick' o q:=by
 rcases o with _|⟨st,x⟩
 .trivial
 .cases x with
  |cells u rs=>
   obtain⟨k,l,cs,m,n,p⟩:=h;refine⟨k,l,cs,m,n,λi r c a s=>(p i r c a s).mono (λd b=>f st _ rfl d ?_) j⟩;simp only[B.aT];cases v:cN d rs with
   |true=>rfl|false=>rw[eF.1 v r (bF a)]at b;cases b
  |bi t e xs=>exact h
def aX.put {s:S U.C} {q:St} (h:aX P E T X s q) (dst:V Nat) {r:R U.C} (b:bC P E T s.b q.g s.tick r u):aX P E T X (s.put dst r) (q.put dst u):=by
 cases dst with
 |none=>exact h|some d=>
  refine⟨λt=>?_,λd'=>(h.bG d').mono (λ_ _ _ d _=>.refl d) (cO _),λt st x a=>?_,λd' st x a=>V0 (h.DU d' st x a),h.heap,h.df⟩
  .simp only[S.put,S.bQ,aQ,St.qZ,aa];by_cases e:d=t
   .subst e;simp only[ca];exact b.later (cO _)
   .simp only[e,cG,dz e];exact(h.cu t).later (cO _)
  .simp only[S.put,aQ]at a⊢;split at a
   .simp only[ax,bc]at a;omega
   .have:=h.Bj t st x a;omega
def aX.ev {s:S U.C} {q:St} (h:aX P E T X s q) (x:qm) (a:bW x=W):bC P E T s.b q.g s.tick (s.ev x) (q.ev x):=by
 cases x with
 |tmp t=>exact h.cu t|const v=>exact .const v a
 |global g=>exact .none _|func f=>exact .fn f [] [] rfl (λi r av b=>by simp at b)
def dq{s:S C}{b:B C}(a:s.box d=O b):aB s.b d=O (s.Mn d,b):=by
 unfold S.box at a;unfold S.Mn;split at a
 .rename_i st x c;rw[c];simpa using a
 .cases a
def aX.drop {s:S U.C} {q:St} (h:aX P E T X s q) (d:Nat):aX P E T X (s.drop d) {q with b:=aa q.b d Y}:=by
 have c:∀d',ku s.b (bB s.b d) q.g q.g s.tick d':=λd'=>by
  by_cases e:d=d'
  .right;left;rw[aN,aj e]
  .left;rw[aN,ai e];exact ⟨rfl,rfl⟩
 refine⟨λt=>(h.cu t).mono (λd' _=>c d') (a6 _),λd'=>?_,h.Bj,λd' st x a=>?_,h.heap,h.df⟩
 .simp only[S.drop,aN,aa];by_cases e:d=d'
  .subst e;simp[nM]
  .simp only[e,cG,dz e];exact(h.bG d').mono (λ_ _ _ d _=>c d) (a6 _)
 .simp only[S.drop,aN]at a;split at a
  .cases a
  .exact h.DU d' st x a
def aX.Kx {s:S U.C} {q:St} (h:aX P E T X s q) {b:B U.C} (k:mm d s.b=W) {x:Bx}
  (l:nM P E T X ((d,s.tick,b)::bB s.b d) (aa q.g d (q.g d+1)) (s.tick+1) (O (s.tick,b)) (O x)):
  aX P E T X {s with r:=ko d s.tick s.r,b:=(d,s.tick,b)::bB s.b d,tick:=s.tick+1} {q with b:=aa q.b d (O x),g:=aa q.g d (q.g d+1)}:=by
 have i:∀d',d'≠d->ku s.b ((d,s.tick,b)::bB s.b d) q.g (aa q.g d (q.g d+1)) s.tick d':=λd' e=>by left;rw[aQ,ai (dz e),aN,ai (dz e),aJ _ _ e];exact ⟨rfl,rfl⟩
 refine⟨λt=>?_,λd'=>?_,λt st y a=>?_,λd' st y a=>?_,h.heap,h.df⟩
 .simp only[S.bQ,jT];have h1:=h.cu t;unfold S.bQ at h1;cases j:aB s.r t with
  |none=>simp only[j,iE]at h1⊢;exact .none _|some e=>
   obtain⟨st,y⟩:=e;simp only[j,cj]at h1⊢;cases m:y.aT d with
   |true=>simp only[ca];exact .none _|false=>simp only[iA,cG];exact h1.mono (λd' c=>i d' λe=>by subst e;rw[m]at c;cases c) (cO _)
 .simp only[aQ,aN,aa];by_cases e:d=d'
  .subst e;simp only[ca];exact l
  .simp only[e,cG,dz e];refine(h.bG d').mono (λst y a n c=>i n λo=>?_) (cO _);subst o;rw[tI k a]at c;cases c
 .simp only[jT,ck]at a;obtain⟨⟨st',p⟩,h1,f⟩:=a;have:=h.Bj t st' p h1;simp only at f⊢;split at f
  .simp only[bc]at f;omega
  .simp only[bc]at f;omega
 .simp only[aQ,aN]at a;split at a
  .simp only[ax,bc]at a;show st<s.tick+1;omega
  .have:=h.DU d' st y a;show st<s.tick+1;omega
def aX.TN {s:S U.C} {q:St} (h:aX P E T X s q) {b:B U.C} (j:mm d s.b=W) {x:Bx} {q1:St} (k:∀t,s.bQ t≠.none->q1.r t=q.r t) (l:∀d',d'≠d->q1.b d'=q.b d') (m:q1.b d=O x) (n:∀d',d'≠d->q1.g d'=q.g d') (o:q1.a=q.a) (p:q1.u=q.u) (u:q1.df=q.df)
  (v:nM P E T X ((d,s.tick,b)::bB s.b d) q1.g (s.tick+1) (O (s.tick,b)) (O x)):
  aX P E T X {s with r:=ko d s.tick s.r,b:=(d,s.tick,b)::bB s.b d,tick:=s.tick+1} q1:=by
 have g:∀d',d'≠d->ku s.b ((d,s.tick,b)::bB s.b d) q.g q1.g s.tick d':=λd' e=>by left;rw[aQ,ai (dz e),aN,ai (dz e),n _ e];exact ⟨rfl,rfl⟩
 refine⟨λt=>?_,λd'=>?_,λt st y a=>?_,λd' st y a=>?_,by rw[o,p];exact h.heap,by rw[u];exact h.df⟩
 .have h1:=h.cu t;have c:=k t;simp only[S.bQ,jT]at h1 c⊢;cases i:aB s.r t with
  |none=>simp only[i,iE]at h1⊢;exact .none _|some e=>
   obtain⟨st,y⟩:=e;simp only[i,cj]at h1 c⊢;cases w:y.aT d with
   |true=>simp only[ca];exact .none _|false=>
    simp only[iA,cG];by_cases a:y=.none
    .subst a;exact .none _
    .rw[c a];exact h1.mono (λd' f=>g d' λe=>by subst e;rw[w]at f;cases f) (cO _)
 .simp only[aQ,aN];by_cases e:d=d'
  .subst e;simp only[ca,m];exact v
  .simp only[e,cG,l _ (dz e)];refine(h.bG d').mono (λst y a z f=>g z λA=>?_) (cO _);subst A;rw[tI j a]at f;cases f
 .simp only[jT,ck]at a;obtain⟨⟨st',C⟩,h1,c⟩:=a;have:=h.Bj t st' C h1;simp only at c⊢;split at c
  .simp only[bc]at c;omega
  .simp only[bc]at c;omega
 .simp only[aQ,aN]at a;split at a
  .simp only[ax,bc]at a;show st<s.tick+1;omega
  .have:=h.DU d' st y a;show st<s.tick+1;omega
def lM{α:Type}{s:S C}{b:B C}{k:S C->V α}{out:α}(h:s.new d b k=O out):
  (mm d s.b=W/\b.aT d=F)/\k {s with r:=ko d s.tick s.r,b:=(d,s.tick,b)::bB s.b d,tick:=s.tick+1}=O out:=by
 unfold S.new at h;cases a:(mm d s.b&&!b.aT d)with
 |false=>rw[a]at h;cases h
 |true=>rw[a]at h;simp only[aI,il]at a;exact⟨a,h⟩
def V9{C:Nat->Type}:B C->B C->Prop
 |.cells _ _,.cells _ _=>True|.bi t _ xs,.bi a _ b=>∃e:a=t,(e▸b).length=xs.length
 |_,_=>False
def aX.gm {s:S U.C} {q:St} (h:aX P E T X s q) {b b':B U.C} (i:s.box d=O b) {x:Bx}
  (c:V9 b b')
  (j:nM P E T X ((d,s.tick,b')::bB s.b d) q.g (s.tick+1) (O (s.tick,b')) (O x)):
  aX P E T X (s.gm d b') {q with b:=aa q.b d (O x)}:=by
 have f:=dq i;have g:∀d',ku s.b ((d,s.tick,b')::bB s.b d) q.g q.g s.tick d':=λd'=>by
  by_cases e:d=d'
  .subst e;right;right;rw[aQ,aj rfl];cases b with
   |cells u rs=>
    cases b' with
    |cells u' k=>left;exact ⟨rfl,_,_,_,_,_,_,f,rfl⟩|bi _ _ _=>exact c.elim
   |bi t e xs=>
    cases b' with
    |cells u' k=>exact c.elim|bi m e' n=>obtain⟨rfl,h1⟩:=c;right;exact ⟨rfl,_,_,_,_,_,_,_,f,rfl,h1,a6 _⟩
  .left;rw[aQ,ai e,aN,ai e];exact ⟨rfl,rfl⟩
 refine⟨λt=>(h.cu t).mono (λd' _=>g d') (cO _),λd'=>?_,λt st y a=>V0 (h.Bj t st y a),λd' st y a=>?_,h.heap,h.df⟩
 .simp only[S.gm,aQ,aN,aa];by_cases e:d=d'
  .subst e;simp only[ca];exact j
  .simp only[e,cG,dz e];exact(h.bG d').mono (λ_ _ _ l _=>g l) (cO _)
 .simp only[S.gm,aQ,aN]at a⊢;split at a
  .simp only[ax,bc]at a;omega
  .have:=h.DU d' st y a;omega
end
structure bE{C:Nat->Type}(s s':S C):Prop where
 m:s'.m=s.m
 tick:s.tick<=s'.tick
 r:∀t st x,aB s'.r t=O (st,x)->st<s.tick->aB s.r t=O (st,x)
 b:∀d st x,aB s'.b d=O (st,x)->st<s.tick->aB s.b d=O (st,x)
 h:s'.hv<s.tick->s'.hv=s.hv/\s'.h=s.h
section
variable{C:Nat->Type}{s s' s'':S C}
def bE.refl (s:S C):bE s s:=⟨rfl,a6 _,λ_ _ _ h _=>h,λ_ _ _ h _=>h,λ_=>⟨rfl,rfl⟩⟩
def bE.trans (a:bE s s') (b:bE s' s''):bE s s'':=⟨b.m.trans a.m,fk a.tick b.tick,λt st x h c=>a.r t st x (b.r t st x h (jf c a.tick)) c,λd st x h c=>a.b d st x (b.b d st x h (jf c a.tick)) c,λh=>by obtain⟨e,f⟩:=b.h (jf h a.tick);obtain⟨g,i⟩:=a.h (by rw[<-e];exact h);exact⟨e.trans g,f.trans i⟩⟩
def bh(dst:V Nat)(r:R C):bE s (s.put dst r):=by
 cases dst with
 |none=>exact .refl s|some d=>
  refine⟨rfl,cO _,λt st x h a=>?_,λ_ _ _ h _=>h,λ_=>⟨rfl,rfl⟩⟩;simp only[S.put,aQ]at h;split at h
  .simp only[ax,bc]at h;omega
  .exact h
def jU(d:Nat)(x:B C):bE s {s with r:=ko d s.tick s.r,b:=(d,s.tick,x)::bB s.b d,tick:=s.tick+1}:=by
 refine⟨rfl,cO _,λt st y h c=>?_,λd' st y h c=>?_,λ_=>⟨rfl,rfl⟩⟩
 .simp only[jT,ck]at h;obtain⟨⟨st',e⟩,h1,a⟩:=h;simp only at a;split at a
  .simp only[bc]at a;omega
  .simp only[bc]at a;rw[h1,a.1,a.2]
 .simp only[aQ,aN]at h;split at h
  .simp only[ax,bc]at h;omega
  .exact h
def hU(d:Nat)(x:B C):bE s (s.gm d x):=by
 refine⟨rfl,cO _,λt st y h a=>h,λd' st y h a=>?_,λ_=>⟨rfl,rfl⟩⟩;simp only[S.gm,aQ,aN]at h;split at h
 .simp only[ax,bc]at h;omega
 .exact h
def hj{l:Z (Nat×Nat×β)}{t:Nat}{x:Nat×β}(h:aB (bB l d) t=O x):aB l t=O x:=by
 rw[aN]at h;split at h
 .cases h
 .exact h
def tK(d:Nat):bE s (s.drop d):=⟨rfl,a6 _,λ_ _ _ h _=>h,λ_ _ _ h _=>hj h,λ_=>⟨rfl,rfl⟩⟩
def nX(h':C 0):bE s {s with h:=h',hv:=s.tick,tick:=s.tick+1}:=⟨rfl,cO _,λ_ _ _ h _=>h,λ_ _ _ h _=>h,λh=>absurd h (Nat.lt_irrefl _)⟩
def tL(h':C 0):bE s (s.FB h'):=nX h'
def De(d:Nat):bE s (s.Mp d):=⟨rfl,cO _,λ_ _ _ h _=>h,λ_ _ _ h _=>hj h,λ_=>⟨rfl,rfl⟩⟩
def vv(d:Nat)(h':C 0):bE s (s.AQ d h'):=⟨rfl,cO _,λ_ _ _ h _=>h,λ_ _ _ h _=>hj h,λh=>absurd h (Nat.lt_irrefl _)⟩
end
def pb:V JC->AV
 |some g=>.fn g []|none=>.fl .nilFunc
section
variable(P:qK)(E:cm){U:cg}(T:dm U.C)
structure jj(X:gj U)(e:TypeId)(t:Ty):Prop where
 ok:eV t=W
 cells:P.cellsOf e=bD U D t
 pos:0<P.cellsOf e
 few:P.cellsOf e<=256
 Xr:P.concrete e=W
 agg:k7 P e=O (aV t)
 bytes:X.bytes e=P.bytesOf e
 int:∀k,t=.int k->P.underlying e=O (.int k)
 bool:t=.bool->P.underlying e=O .bool
 str:t=.str->P.underlying e=O .string
 aq:∀t',t=.aq t'->∃el,P.underlying e=O (.slice el)/\X.ty el=O t'
 elem:∀t' el,t=.aq t'->X.elem e=O el->P.underlying e=O (.slice el)/\X.ty el=O t'
 ref:∀t',t=.ref t'->∃el,P.underlying e=O (.pointer el)
 ptr:∀k,t=.ptr k->∃el,P.underlying e=O (.pointer el)
 mp:∀k,t=.mp k->∃a b,P.underlying e=O (.map a b)/\∃ta tb,U.ak k=.map ta tb/\X.ty a=O ta/\X.ty b=O tb/\Xh U tb=W
 field:X.j9 e=Y->∀n,t=.struct n->∀f off ft,fieldAt U t f=O (off,ft)->∃fe,kj P e f=O (off,fe)/\eV ft=W/\P.cellsOf fe=bD U D ft/\k7 P fe=O (aV ft)/\0<P.cellsOf fe
 Ky:∀n,t=.struct n->∃pl,ki P e=O pl/\∀f off ft,oX U 0 (U.dA n) f=O (off,ft)->pl[f]?=O (off,bD U D ft)
 rz:∀n,t=.struct n->∀pl,ki P e=O pl->(pl.all λp=>decide (p.1+p.2<=bD U D t))=W
 zero:∃i zv,P.info? e=O i/\i.zero=O zv/\(zv.cells.all λv=>v.oneCell')=W/\zv.cells.size=i.size/\(aV t=W->∃cs,zv=.agg cs)/\∀rs,lJ U D t=O rs->zv.cells.size=rs.length/\∀(i:Nat)(r:R U.C)(v:Value),rs[i]?=O r->zv.cells[i]?=O v->
  (∀bx g tick,bC P E T bx g tick r (ct v))∨(v=.slice Y 0 0/\∀bx g tick,bC P E T bx g tick r (.val .gx))
 zv1:aV t=F->∀i zv,P.info? e=O i->i.zero=O zv->zv.cells=#[zv]/\nf zv=dM zv
 kinds:X.j9 e=Y->∀n,t=.struct n->∀b x y,pL VW (U.dA n) x y=O b->∃ks,r3 P e=O ks/\fF ks (ka T (U.dA n) x) (ka T (U.dA n) y)=O b
def fy:(ps:Z Ty)->HL U.C ps->Z AV->Prop
 |[],_,b=>b=[]|t::ts,x,b=>∃a r,b=a::r/\kr P E T t (wD t ts x) a/\fy ts (wC t ts x) r
def cL:(rs:Z RK)->HL U.C (rs.map RK.ty)->Z RV
 |[],_=>[]|.v t::rs,y=>.v (enc T t (wD t (rs.map RK.ty) y))::cL rs (wC t (rs.map RK.ty) y)
 |.bU t e::rs,y=>.bU e (List.map (enc T t) (wD (.aq t) (rs.map RK.ty) y))::cL rs (wC (.aq t) (rs.map RK.ty) y)
def pc(rs:Z RK):(p:V (JA×Ty))->h7 U p (HL U.C (rs.map RK.ty))->ni
 |none,y=>.ret (cL T rs y)|some (a,t),r=>match(r:Except (bL U.C t) (HL U.C (rs.map RK.ty)))with
  |.ok y=>.ret (cL T rs y)|.error e=>.dO (.mQ a (enc T t e))
def Og(X:gj U):RK->Prop
 |.v t=>eV t=W|.bU t e=>X.ty e=O t
def nY(f:JC)(ps:Z Ty)(rs:Z RK)(e:V (JA×Ty)):Run U ps rs e->Prop
 |.pure b=>∀x a r,fy P E T ps x a->b x=O r->nm P E f a (pc T rs e r)|.rd b=>∀x h a r A Vloc,fy P E T ps x a->eY T bM h A Vloc->b x h=O r->∃c d,eY T bM h c d/\np P E f a A Vloc (pc T rs e r) c d
 |.st b=>∀x h a r h' A Vloc,fy P E T ps x a->eY T bM h A Vloc->b x h=O (r,h')->∃c d,eY T bM h' c d/\np P E f a A Vloc (pc T rs e r) c d
structure jV(X:gj U)(f:FuncId)(c:b7 U):Prop where
 rs:∀r∈c.rs,Og X r
 dO:∀TC t,c.dO=O (TC,t)->eV t=W
 sy:nY P E T f c.ps c.rs c.dO c.run
structure bP(X:gj U):Prop where
 ro:X.wr=W->∀i,E.ro i=Y
 ZB:∀k i,k<U.nk->(∀a b,U.ak k≠.map a b)->E.ro (dI k i)=Y
 ty:∀e t,X.ty e=O t->jj P E T X e t
 con:∀f,∀c∈X.con f,jV P E T X f c
 hC:∀k t,U.ak k=.hC t->eV t=W
 map:∀k a b,U.ak k=.map a b->w6 a=W/\eV b=W
 JL:∀e,X.JL e=W->∃el,P.underlying e=O (.slice el)/\tt P el=W/\P.cellsOf el=1
 JM:∀e,X.JM e=W->P.cellsOf e=1/\k7 P e=O F
 j9:∀e el,X.j9 e=O el->∃N,P.underlying e=O (.array N el)/\P.cellsOf el=1/\(X.pK e=F->k7 P el=O F)/\∀n,X.ty e=O (.struct n)->(U.dA n).length=N/\bD U D (.struct n)=N/\((U.dA n).all λt=>!aV t)=W
 pK:∀e,X.pK e=W->∀i zv,P.info? e=O i->i.zero=O zv->∀v∈zv.cells.toList,v=.nilFunc
 Kp:∀f n fs,X.Kp f=O (n,fs)->nm P E f [] (.ret [.v (.agg (fs.map pb))])
end
section
variable{β:Type}
def kv:∀(n:Nat)(l:Z β),oY n l=l.drop n
 |0,l=>rfl|n+1,[]=>rfl
 |n+1,x::l=>by simp only[oY,List.drop_succ_cons,kv n l]
def mU(k:Nat)(vs rs:Z β):rp k vs rs=bd rs k vs:=by simp only[rp,bd,kv,Hg]
end
section
variable{P:qK}{E:cm}{U:cg}{T:dm U.C}{X:gj U}{bx:Z (Nat×Nat×B U.C)}{g:Nat->Nat}{tick:Nat}
def ee(P:qK)(E:cm)(T:dm U.C)(bx:Z (Nat×Nat×B U.C))(g:Nat->Nat)(tick:Nat)(rs:Z (R U.C))(qs:Z cy):Prop:=rs.length=qs.length/\∀(i:Nat)(r:R U.C)(q:cy),rs[i]?=O r->qs[i]?=O q->bC P E T bx g tick r q
def ee.nil:ee P E T bx g tick [] []:=⟨rfl,λi r q h=>by simp at h⟩
def ee.cons {r:R U.C} {q:cy} {rs:Z (R U.C)} {qs:Z cy} (h:bC P E T bx g tick r q) (c:ee P E T bx g tick rs qs):ee P E T bx g tick (r::rs) (q::qs):=by
 refine⟨by simp[c.1],λi d q' a b=>?_⟩;cases i with
 |zero=>simp at a b;subst a b;exact h|succ i=>exact c.2 i d q' (by simpa using a) (by simpa using b)
def ee.FL {r:R U.C} {rs:Z (R U.C)} (h:ee P E T bx g tick (r::rs) qs):∃q ps,qs=q::ps/\bC P E T bx g tick r q/\ee P E T bx g tick rs ps:=by
 cases qs with
 |nil=>simp[ee]at h|cons q ps=>exact ⟨q,ps,rfl,h.2 0 r q rfl rfl,by simpa using h.1,λi a q' b c=>h.2 (i+1) a q' (by simpa using b) (by simpa using c)⟩
def ee.append {rs c:Z (R U.C)} {d:Z cy} (h:ee P E T bx g tick rs qs) (h':ee P E T bx g tick c d):ee P E T bx g tick (rs++c) (qs++d):=by
 refine⟨by simp[h.1,h'.1],λi r q a b=>?_⟩;by_cases hi:i<rs.length
 .rw[fx hi]at a;rw[fx (by rw[<-h.1];exact hi)]at b;exact h.2 i r q a b
 .rw[im M]at a;rw[im (by rw[<-h.1];omega),<-h.1]at b;exact h'.2 _ r q a b
def ee.drop {rs:Z (R U.C)} (h:ee P E T bx g tick rs qs) (k:Nat):ee P E T bx g tick (rs.drop k) (qs.drop k):=by refine⟨by simp[h.1],λi r q a b=>?_⟩;rw[kT]at a b;exact h.2 _ r q a b
def ee.take {rs:Z (R U.C)} (h:ee P E T bx g tick rs qs) (k:Nat):ee P E T bx g tick (rs.take k) (qs.take k):=by
 refine⟨by simp[h.1],λi r q a b=>?_⟩;rw[gf]at a b;split at a
 .rename_i hi;rw[aj hi]at b;exact h.2 _ r q a b
 .cases a
def gu{x:bL U.C t}(h:eV t=W):kr P E T t x (enc T t x):=by cases t<;>first|exact ⟨h,rfl⟩|(simp[eV]at h)
def fW{x:bL U.C t}(h:kr P E T t x av)(a:eV t=W):av=enc T t x:=by cases t<;>first|exact h.2|(simp[eV]at a)
def bg{x:bL U.C t}(h:eV t=W):bC P E T bx g tick (.val t x) (.val (enc T t x)):=.val t x _ _ rfl (gu h)
def Kz{v:Jz}{x:bL U.C t}(h:gL t v=O x):bu (ct v)=O (enc T t x):=by
 cases t with
 |int k=>
  cases v<;>simp only[gL,reduceCtorEq]at h;split at h
  .rename_i e;subst e;simp only[ax]at h;subst h;rfl
  .cases h
 |bool=>cases v<;>simp only[gL,reduceCtorEq,ax]at h;subst h;rfl
 |str=>cases v<;>simp only[gL,reduceCtorEq,ax]at h;subst h;simp only[ct,bu,enc,AE]
 |aq t=>
  cases v<;>simp only[gL,reduceCtorEq]at h;rename_i a n c;cases a with
  |some a=>simp[gL]at h|none=>
   cases n with
   |succ n=>simp[gL]at h|zero=>cases c with
    |succ c=>simp[gL]at h|zero=>simp only[gL,ax]at h;subst h;rfl
 |ref t=>
  cases v<;>simp only[gL,reduceCtorEq]at h;rename_i a;cases a with
  |some a=>simp[gL]at h|none=>simp only[gL,ax]at h;subst h;rfl
 |ptr k=>
  cases v<;>simp only[gL,reduceCtorEq]at h;rename_i a;cases a with
  |some a=>simp[gL]at h|none=>simp only[gL,ax]at h;subst h;rfl
 |mp k=>
  cases v<;>simp only[gL,reduceCtorEq]at h;rename_i a;cases a with
  |some a=>simp[gL]at h|none=>simp only[gL,ax]at h;subst h;rfl
 |_=>cases v<;>simp[gL]at h
def Bk{r:R U.C}{x:bL U.C t}(h:bC P E T bx g tick r (.val av))(hv:Fw t r=O x):∃u,t=.cell u/\eV u=W/\av=enc T t x:=by
 unfold Fw at hv;split at hv
 .rename_i b y;obtain⟨e,rfl⟩:=bN hv;subst e;generalize a:cy.val av=q at h;cases h with
  |dJ t x k c=>simp only[cy.val.injEq]at a;subst a;exact⟨b,rfl,c,by simp[enc]⟩
 .cases hv
def Bl:∀{us:Ty}{caps:Z (R U.C)}{c:Z AV}{x:bL U.C us},caps.length=c.length->(∀(i:Nat)(r:R U.C)(av:AV),caps[i]?=O r->c[i]?=O av->bC P E T bx g tick r (.val av))->rn us caps=O x->c=MG us (enc T us x)
 |.gn t u,[],c,x,d,h,b=>by simp[rn]at b|.gn t u,r::l,[],x,d,h,b=>by simp at d
 |.gn t u,r::l,a::c,x,d,h,b=>by
  simp only[rn]at b;split at b
  .rename_i y z f j;simp only[ax]at b;subst b;obtain⟨u',_,_,e⟩:=Bk (h 0 r a rfl rfl) f;have m:=Bl (us:=u) (by simpa using d) (λi r av n o=>h (i+1) r av (by simpa using n) (by simpa using o)) j;simp only[enc,MG];rw[e,m]
  .cases b
 |.int k,caps,c,x,d,h,b|.bool,caps,c,x,d,h,b|.str,caps,c,x,d,h,b|.unit,caps,c,x,d,h,b|.aq _,caps,c,x,d,h,b|.struct _,caps,c,x,d,h,b|.ref _,caps,c,x,d,h,b
 |.cell _,caps,c,x,d,h,b|.fn _ _,caps,c,x,d,h,b|.qu _ _,caps,c,x,d,h,b|.ptr _,caps,c,x,d,h,b|.hs _,caps,c,x,d,h,b|.mp _,caps,c,x,d,h,b|.jR _ _,caps,c,x,d,h,b|.zb _ _,caps,c,x,d,h,b|.Mm _ _,caps,c,x,d,h,b=>by
  match caps,c,d with
  |[],_,_=>simp[rn]at b|[r],[a],_=>simp only[rn]at b;obtain⟨u',hu,_,e⟩:=Bk (h 0 r a rfl rfl) b;subst e;first|(cases hu;rfl)|cases hu
  |_::_::_,_,_=>simp[rn]at b
def ns{r:R U.C}{q:cy}{v:bL U.C t}(h:bC P E T bx g tick r q)(hv:fD t r=O v):∃av,bu q=O av/\kr P E T t v av:=by
 unfold fD at hv;split at hv
 .rename_i d x;obtain⟨e,rfl⟩:=bN hv;subst e;cases h with
  |val t x q av j h=>exact ⟨av,j,h⟩
 .rename_i u;cases l:eV t with
  |false=>rw[l]at hv;cases hv
  |true=>
   rw[l]at hv;simp only[bf]at hv;cases h with
   |const s z=>exact ⟨_,Kz hv,gu l⟩
 .rename_i d xs;obtain⟨e,rfl⟩:=bN hv;subst e;cases h with
  |bM t xs h=>exact ⟨_,rfl,gu (t:=.aq d) (x:=xs) h⟩
 .rename_i d x;split at hv
  .rename_i s m;simp only[ax]at hv;subst hv;obtain⟨e,rfl⟩:=bN m;subst e;cases h with
   |dJ t x k h=>exact ⟨_,rfl,h,by simp[enc]⟩
  .obtain ⟨e,rfl⟩:=bN hv;subst e;cases h with
   |dJ t x k h=>exact ⟨_,rfl,h,by simp[enc,FH]⟩
 .rename_i a b φ;obtain⟨e,rfl⟩:=bN hv;subst e;cases h with
  |pw r av o=>
   generalize j:cy.val av=q' at o;cases o with
   |val t x q A p m=>subst j;simp only[bu,ax]at p;subst p;obtain⟨f,caps,rfl,n⟩:=m;exact⟨_,rfl,f,caps,rfl,n⟩
 .rename_i k i off;obtain⟨e,rfl⟩:=bN hv;subst e;cases h with
  |ji k i off=>exact ⟨_,rfl,rfl,rfl⟩
 .rename_i f caps;split at hv
  .rename_i w us;cases c:(Nat.beq f w&&Zt us)with
   |false=>rw[c]at hv;cases hv
   |true=>
    rw[c]at hv;simp only[aI]at c;obtain rfl:=bV c.1;cases h with
    |fn f caps B y n=>exact ⟨_,rfl,c.2,by rw[Bl y n hv];rfl⟩
  .cases hv
 .cases hv
def dk{r:R U.C}{q:cy}{v:bL U.C t}(h:bC P E T bx g tick r q)(hv:fD t r=O v)(a:eV t=W):bu q=O (enc T t v):=by obtain⟨av,h1,b⟩:=ns h hv;rw[h1,fW b a]
def DV{r:R U.C}{q:cy}{v:bL U.C t}(h:bC P E T bx g tick r q)(hv:fD t r=O v):bC P E T bx g tick (.val t v) q:=by obtain⟨av,h1,a⟩:=ns h hv;exact .val t v q av h1 a
def dF{q:cy}{v:Jz}(h:bu q=O (.fl v)):q=.val (.fl v):=by cases q<;>simp[bu]at h;rw[h]
def r7{q:cy}{cs:Z AV}(h:bu q=O (.agg cs)):q=.val (.agg cs):=by cases q<;>simp[bu]at h;rw[h]
def Oh{q:cy}{cs:Z AV}(h:bu q=O (.ref cs)):q=.val (.ref cs):=by cases q<;>simp[bu]at h;rw[h]
def Bm{q:cy}{f:JC}{cs:Z AV}(h:bu q=O (.fn f cs)):q=.val (.fn f cs):=by cases q<;>simp[bu]at h;rw[h]
def nt{q:cy}{cs:Z AV}(h:bu q=O (.sl cs)):q=.val (.sl cs)∨q=.bM cs:=by
 cases q<;>simp[bu]at h
 .rw[h];exact .inl rfl
 .rw[h];exact .inr rfl
def lb{r:R U.C}{q:cy}{b:tl}(h:bC P E T bx g tick r q)(a:yg r=O b):q=.val (.fl (.bool b)):=by
 unfold yg at a;split at a
 .simp only[ax]at a;subst a;cases h with
  |val t x q av c h=>rw[fW h rfl]at c;exact dF c
 .simp only[ax]at a;subst a;cases h with
  |const v d=>rfl
 .cases a
def jr{r:R U.C}{q:cy}{m:Int}(h:bC P E T bx g tick r q)(a:AS r=O m):∃k,q=.val (.fl (.int k m)):=by
 unfold AS at a;split at a
 .rename_i k x;simp only[ax]at a;subst a;cases h with
  |val t x q av b h=>rw[fW h rfl]at b;exact ⟨k,dF b⟩
 .simp only[ax]at a;subst a;cases h with
  |const v c=>exact ⟨_,rfl⟩
 .cases a
variable(L:cw U T)
include L in
theorem h9:∀(k:Nat)(t:Ty)(x:bL U.C t),gk U k t=W->eV t=W->ee P E T bx g tick (mn U k t x) ((enc T t x).cells.map .val)
 |k,t,x,c,d=>by
  by_cases a:aV t=W
  .cases t with
   |struct n=>
    cases k with
    |zero=>simp[gk]at c|succ k=>
     simp only[gk,cS]at c;have e:∀(ts:Z Ty)(y:HL U.C ts),(∀t∈ts,gk U k t=W/\eV t=W)->ee P E T bx g tick (r4 (mn U k) ts y) ((ka T ts y).map .val):=by
      intro ts;induction ts with
      |nil=>intro y _;exact .nil|cons t ts f=>intro y h;simp only[r4,ka,kZ];exact(h9 k t _ (h t aE).1 (h t aE).2).append (f _ λt b=>h t (by simp[b]))
     have:=e _ (U.un n x) λt b=>⟨c t b,cS.1 (L.ok n) t b⟩
     simp only[mn,enc,AV.cells];rw[L.cells];exact this
   |_=>simp[aV]at a
  .have a:aV t=F:=by simpa using a
   have i:=iX (T:=T) (x:=x) a;have j:mn U k t x=[.val t x]:=by cases t<;>first|(simp[aV]at a;done)|(cases k<;>rfl)
   rw[i,j];exact .cons (bg d) .nil
def sQ:∀{a b:Z cy}{xs ys:Z AV},cZ a=O xs->cZ b=O ys->cZ (a++b)=O (xs++ys)
 |[],b,xs,ys,h1,d=>by simp[cZ]at h1;subst h1;simpa using d|r::a,b,xs,ys,h1,d=>by
  simp only[cZ]at h1;cases c:bu r with
  |none=>simp[c]at h1|some x=>
   cases e:cZ a with
   |none=>simp[c,e]at h1|some zs=>simp only[c,e,ax]at h1;subst h1;simp[cZ,c,sQ e d]
def take_add(l:Z β)(m n:Nat):l.take (m+n)=l.take m++(l.drop m).take n:=by rw[List.take_add]
include L in
theorem hP:∀(k:Nat)(t:Ty)(rs:Z (R U.C))(qs:Z cy)(x:bL U.C t)(a:Z (R U.C)),gk U k t=W->eV t=W->ee P E T bx g tick rs qs->iW U k t rs=O (x,a)->
  a=rs.drop (bD U k t)/\bD U k t<=rs.length/\cZ (qs.take (bD U k t))=O (enc T t x).cells
 |k,t,rs,qs,x,a,f,w,d,b=>by
  by_cases c:aV t=W
  .cases t with
   |struct n=>
    cases k with
    |zero=>simp[gk]at f|succ k=>
     simp only[gk,cS]at f;have A:∀(ts:Z Ty)(rs:Z (R U.C))(qs:Z cy)(y:HL U.C ts)(a:Z (R U.C)),(∀t∈ts,gk U k t=W/\eV t=W)->ee P E T bx g tick rs qs->lK (iW U k) ts rs=O (y,a)->
       a=rs.drop (jA (bD U k) ts)/\jA (bD U k) ts<=rs.length/\cZ (qs.take (jA (bD U k) ts))=O (ka T ts y):=by
      intro ts;induction ts with
      |nil=>intro rs qs y a _ _ h;simp only[lK,ax,bc]at h;obtain⟨_,rfl⟩:=h;simp[jA,cZ,ka]|cons t ts B=>
       intro rs qs y a i d h;simp only[lK]at h;split at h
       .rename_i z l' C;split at h
        .rename_i zs D G;simp only[ax,bc]at h;obtain⟨rfl,rfl⟩:=h;obtain⟨j,u,m⟩:=hP k t rs qs z l' (i t aE).1 (i t aE).2 d C;subst j;obtain⟨o,p,v⟩:=B _ (qs.drop (bD U k t)) zs D (λt e=>i t (by simp[e])) (d.drop _) G;refine⟨by rw[o,Hg];rfl,by simp only[jA];rw[zQ]at p;omega,?_⟩;simp only[jA,ka,eJ,eK,take_add];exact sQ m v
        .cases h
       .cases h
     simp only[iW]at b;split at b
     .rename_i y l' s;simp only[ax,bc]at b;obtain⟨rfl,rfl⟩:=b;have:=A _ rs qs y l' (λt e=>⟨f t e,cS.1 (L.ok n) t e⟩) d s;simp only[bD,enc,AV.cells];rw[L.cells,L.FI];exact this
     .cases b
   |_=>simp[aV]at c
  .have c:aV t=F:=by simpa using c
   have j:=iX (T:=T) (x:=x) c;have u:bD U k t=1:=by cases t<;>first|(simp[aV]at c;done)|(cases k<;>rfl)
   have m:∃r l,rs=r::l/\fD t r=O x/\a=l:=by
    cases rs with
    |nil=>cases t<;>first|(simp[aV]at c;done)|(cases k<;>simp[iW]at b)
    |cons r l=>
     refine⟨r,l,rfl,?_⟩;have:(match fD t r with|some x=>O (x,l)|none=>Y)=O (x,a):=by cases t<;>first|(simp[aV]at c;done)|(cases k<;>exact b)
     split at this
     .rename_i y s;simp only[ax,bc]at this;obtain⟨rfl,rfl⟩:=this;exact⟨s,rfl⟩
     .cases this
   obtain⟨r,l,rfl,o,rfl⟩:=m;obtain⟨q,ps,rfl,p,v⟩:=d.FL;rw[u,j];refine⟨rfl,aE,?_⟩;have:=dk p o w;simp[cZ,this]
end
section
variable{P:qK}{E:cm}{U:cg}{T:dm U.C}{X:gj U}{s:S U.C}{q:St}{α:Type}{out:α}
def tM:∀l:Z AV,cZ (l.map .val)=O l
 |[]=>rfl|x::l=>by simp[cZ,bu,tM l]
def aX.cells (a:aX P E T X s q) {u:Ty} {rs:Z (R U.C)} (b:s.box d=O (.cells u rs)):eV u=W/\bD U D u=rs.length/\∃cs,q.b d=O (.cells cs)/\ee P E T s.b q.g s.tick rs cs:=by have h:=a.bG d;rw[dq b]at h;obtain⟨c,e,cs,f,g,i⟩:=h;exact⟨c,e,cs,f,g,i⟩
def aX.bi (a:aX P E T X s q) {xs:Z (bL U.C t)} (b:s.box d=O (.bi t e xs)):X.ty e=O t/\q.b d=O (.bi e (xs.map (enc T t))):=by have h:=a.bG d;rw[dq b]at h;exact h
def iY(b:aX P E T X s q){v:cy}(h:bC P E T s.b q.g s.tick (.dT d k) v){u:Ty}{rs:Z (R U.C)}(a:s.box d=O (.cells u rs)):v=.dT d (q.g d) 0 0 k:=by
 cases h with
 |dT d k q h=>exact h _ _ _ (dq a)
def eZ(b:aX P E T X s q){v:cy}(h:bC P E T s.b q.g s.tick (.whole d) v){xs:Z (bL U.C t)}(a:s.box d=O (.bi t e xs)):v=.view d (q.g d) 0 xs.length:=by
 cases h with
 |whole d q h=>exact h _ _ _ _ (dq a)
def iZ(x:bL U.C t)(h:aV t=W):AV.agg (enc T t x).cells=enc T t x:=by cases t<;>first|rfl|(simp[aV]at h)
variable(L:cw U T)
include L in
theorem yl(b:P.cellsOf e=bD U D t)(i:k7 P e=O (aV t))(f:0<P.cellsOf e){cs:Z AV}{v:bL U.C t}(a:cs.take (bD U D t)=(enc T t v).cells)(g:bD U D t<=cs.length){K:AV->Prop}(h:K (enc T t v)):iV P e cs K:=by
 unfold iV;rw[i];cases d:aV t with
 |true=>simp only;refine⟨⟨f,by rw[b];exact g⟩,?_⟩;rw[b,a,iZ _ d];exact h|false=>
  simp only;refine⟨⟨f,by rw[b];exact g⟩,?_⟩;have j:bD U D t=1:=by have:=ew L v;rw[iX d]at this;simpa using this.symm
  rw[j,iX d]at a;cases cs with
  |nil=>simp at a|cons c k=>simp at a;subst a;exact h
include L in
theorem KA(a:jj P E T X e t){cs:Z AV}{v:bL U.C t}(b:cs.take (bD U D t)=(enc T t v).cells)(c:bD U D t<=cs.length){K:AV->Prop}(d:K (enc T t v)):iV P e cs K:=yl L a.cells a.agg a.pos b c d
include L in
theorem ym(P:qK)(E:cm){x:bL U.C te}{v:bL U.C t}(h:Mq t te x k=O v)(f:eV t=W)(i:eV te=W):
  ((enc T te x).cells.drop k).take (bD U D t)=(enc T t v).cells/\bD U D t<=((enc T te x).cells.drop k).length:=by
 unfold Mq at h;cases a:(Nat.beq k 0&&decide (te=t))with
 |true=>rw[a]at h;simp only[bf]at h;obtain⟨e,rfl⟩:=bN h;subst e;simp only[aI]at a;obtain rfl:k=0:=bV a.1;rw[uF,ew L x];exact⟨by rw[<-ew L x,lW],a6 _⟩|false=>
  rw[a]at h;simp only[bq]at h;split at h
  .rename_i l m b;simp only[ax]at h;subst h;have c:=h9 (P:=P) (E:=E) (bx:=[]) (g:=λ_=>0) (tick:=0) L D te x (hO L te) i;rw[kv]at b;obtain⟨_,j,d⟩:=hP L D t _ _ _ _ (hO L t) f (c.drop k) b;rw[<-wF,<-mZ,tM]at d;refine⟨by simpa using d,?_⟩;have:=(c.drop k).1;simp at this j⊢;omega
  .cases h
def yn{a:AK}(e:a=a)(x:Z (wY C a)):Ko e x=x:=rfl
def eY.at {m:Nat->tl} {h:U.C 0} {A:Nat->V Ob} {Vloc:Nat->tl} (d:eY T m h A Vloc) {k:Nat} (f:k<U.nk) (g:m k=W) {a:AK} {l:Z (wY U.C a)} (b:tB U a k h=O l) (i:Nat):
  match l[i]? with
  |some x=>mj (A (dI k i))=Bi T a x|none=>A (dI k i)=Y/\Vloc (dI k i)=F:=by
 unfold tB at b;split at b
 .rename_i e;subst e;simp only[ax]at b;subst b;rw[yn];have:=d k f g i;cases c:(U.get k h)[i]? with
  |none=>rw[c]at this;exact this|some x=>rw[c]at this;exact this
 .cases b
def aA{b:tl}{o:V β}{x:β}(h:(bif b then o else Y)=O x):b=W/\o=O x:=by
 cases b with
 |true=>exact ⟨rfl,h⟩|false=>cases h
def MH{l:Z (bL U.C t)}(h:Oe U k t s=O l)(b:aX P E T X s q){x:bL U.C t}(c:l[i]?=O x):q.a (dI k i)=O (.cells (enc T t x).cells):=by obtain⟨a,d⟩:=aA h;simp only[aI,fQ]at a;have:=b.heap.at a.2 a.1 d i;have e:(l:Z (wY U.C (.hC t)))[i]?=O x:=c;rw[e]at this;exact ya this
def r8{l:Z (V (Z (bL U.C t)))}(h:Db U k t e s=O l)(d:aX P E T X s q){xs:Z (bL U.C t)}(a:bz l i=O xs):q.a (dI k i)=O (.bi e (xs.map (enc T t))):=by
 obtain⟨b,f⟩:=aA h;simp only[aI,fQ]at b;have:=d.heap.at b.2 b.1 f i;unfold bz at a;cases c:l[i]? with
 |none=>rw[c]at a;cases a
 |some y=>rw[c]at a;obtain rfl:y=O xs:=a;have g:(l:Z (wY U.C (.bi t e)))[i]?=O (O xs):=c;rw[g]at this;exact DC this
def FM{l:Z (Z (bL U.C a×bL U.C b))}(h:maps U k a b s=O l)(f:aX P E T X s q){d:Z (bL U.C a×bL U.C b)}(g:l[i]?=O d):∃c,q.a (dI k i)=O (.map (d.map λp=>(enc T a p.1,enc T b p.2)) c):=by obtain⟨e,j⟩:=aA h;simp only[aI,fQ]at e;have:=f.heap.at e.2 e.1 j i;have m:(l:Z (wY U.C (.map a b)))[i]?=O d:=g;rw[m]at this;exact NV this
include L in
theorem vw(a:jj P E T X e t)(f:eV te=W){x:bL U.C te}{r:R U.C}(h:Fy t te x k=O r){bx:Z (Nat×Nat×B U.C)}:
  iV P e ((enc T te x).cells.drop k) λv=>bC P E T bx g tick r (.val v):=by
 unfold Fy at h;cases d:aV t with
 |true=>
  rw[d]at h;simp only[bf]at h;split at h
  .rename_i v hv;simp only[ax]at h;subst h;obtain⟨n,o⟩:=ym L P E hv a.ok f;exact KA L a n o (K:=λv=>bC P E T bx g tick _ (.val v)) (bg a.ok)
  .cases h
 |false=>
  rw[d]at h;simp only[bq,kv]at h;have p:bD U D t=1:=by cases t<;>first|rfl|(simp[aV]at d)
  have i:=(h9 (P:=P) (E:=E) (bx:=bx) (g:=g) (tick:=tick) L D te x (hO L te) f).drop k;cases j:(mn U D te x).drop k with
  |nil=>rw[j]at h;cases h
  |cons q l=>
   rw[j]at h i;simp only[List.head?_cons,ax]at h;subst h;obtain⟨c,ps,b,s,w⟩:=i.FL;rw[<-wF]at b;cases m:(enc T te x).cells.drop k with
   |nil=>rw[m]at b;cases b
   |cons u l'=>rw[m]at b;simp only[dy,Dz]at b;unfold iV;rw[a.agg,d];simp only;refine⟨⟨a.pos,by rw[a.cells,p];simp⟩,?_⟩;show bC P E T bx g tick q (.val u);rw[b.1];exact s
def Bn{p:V (bL U.C te)}{x:bL U.C te}{bx:Z (Nat×Nat×B U.C)}(h:bC P E T bx g tick (.val (.ref te) p) u)(a:p=O x):eV te=W/\u=.val (.ref (enc T te x).cells):=by
 subst a;cases h with
 |val _ _ _ av b hv=>obtain⟨c,rfl⟩:=hv;exact⟨c,Oh b⟩
def pd{q:cy}(h:bu q=O (.ptr i off)):q=.val (.ptr i off):=by cases q<;>simp[bu]at h;rw[h]
def vx{p:V Nat}{bx:Z (Nat×Nat×B U.C)}(h:bC P E T bx g tick (.val (.ptr k) p) u)(a:p=O i):u=.val (.ptr (dI k i) 0):=by
 subst a;cases h with
 |val _ _ _ av b hv=>obtain⟨_,rfl⟩:=hv;exact pd b
def DW{a:AK}{h:U.C 0}{l:Z (wY U.C a)}(b:tB U a k h=O l):U.ak k=a:=by
 unfold tB at b;split at b
 .assumption
 .cases b
def Oi{l:Z (bL U.C t)}(h:Oe U k t s=O l):U.ak k=.hC t:=DW (aA h).2
def pe{l:Z (V (Z (bL U.C t)))}(h:Db U k t e s=O l):U.ak k=.bi t e:=DW (aA h).2
def rA(P:qK)(q:St)(e:JA)(u:cy)(K:cy->Prop):Prop:=
 u9 P q e u K∨match u with
  |.val (.ptr i off)=>match q.a i with
   |some (.cells cs)=>jh P e (cs.drop off) λv=>K (.val v)|some (.bi e' xs)=>∃y,xs[off/P.cellsOf e']?=O y/\jh P e (y.cells.drop (off%P.cellsOf e')) λv=>K (.val v)
   |_=>False
  |_=>False
def rA.value {q:St} {x:qm} {o:JB} {K:cy->Prop} (a:o.op=.load e x) (h:rA P q e (q.ev x) K):E9 P o q K:=by
 rcases h with h|h
 .left;unfold rZ;simp only[a];exact Mj h
 .right;unfold Zf;simp only[a];exact h
include L in
theorem HR(b:bP P E T X)(c:jj P E T X e t){K:R U.C->V α}(h:vm.Fz U s t k i off K=O out):∃r,K r=O out/\∀q,aX P E T X s q->rA P q e (.val (.ptr (dI k i) off)) λu'=>bC P E T s.b q.g s.tick r u':=by
 unfold vm.Fz at h;split at h
 .rename_i te j;split at h
  .rename_i l a;obtain⟨x,d,h⟩:=bind_some h;split at h
   .rename_i r f;refine⟨r,h,λq g=>.inr ?_⟩;simp only[MH a g d];exact oW (vw L c (b.hC k te (Oi a)) f)
   .cases h
  .cases h
 .cases h
def KB{cs:Z AV}{K:AV->Prop}(h:iV P e cs K):0<cs.length:=by
 unfold iV at h;split at h
 .have:=h.1.1;have:=h.1.2;omega
 .have:=h.1.1;have:=h.1.2;omega
 .exact h.elim
include L in
theorem HS(B:bP P E T X)(m:jj P E T X e t){p:R U.C}{K:R U.C->V α}(h:vm X s t p K=O out):
  ∃r,K r=O out/\∀q u,aX P E T X s q->bC P E T s.b q.g s.tick p u->rA P q e u λu'=>bC P E T s.b q.g s.tick r u':=by
 unfold vm at h;split at h
 .
  rename_i d k;split at h
  .rename_i u0 rs v;split at h
   .rename_i r b;refine⟨r,h,λq u f a=>.inl ?_⟩;have h0:=iY f a v;obtain⟨_,_,cs,H,I⟩:=f.cells v;subst h0;unfold u9;simp only[H,m.agg,lY,cX];unfold HG at b;cases C:aV t with
    |true=>
     rw[C]at b;simp only[bf]at b;split at b
     .rename_i x v0 G;simp only[ax]at b;subst b;rw[kv]at G;obtain⟨_,o,J⟩:=hP L D t _ _ _ _ (hO L t) m.ok (I.drop k) G;rw[m.cells,J];have w:=(I.drop k).1;refine⟨⟨aE,by rw[<-m.cells];exact m.pos,M⟩,?_⟩;rw[iZ _ C];exact bg m.ok
     .cases b
    |false=>
     rw[C]at b;simp only[bq,kv]at b;have h1:bD U D t=1:=by cases t<;>first|rfl|(simp[aV]at C)
     cases N:rs.drop k with
     |nil=>rw[N]at b;cases b
     |cons w0 l=>rw[N]at b;simp only[List.head?_cons,ax]at b;subst b;have o:=I.drop k;rw[N]at o;obtain⟨c,ps,J,i0,x0⟩:=o.FL;rw[J];exact⟨⟨aE,m.pos,by rw[m.cells,h1];simp⟩,i0⟩
   .cases h
  .cases h
 .
  rename_i d i k c0 te x;split at h
  .rename_i d0 e' xs v;have e0:∀(y:bL U.C d0)(r:R U.C)(q:St)(u:cy),aX P E T X s q->bC P E T s.b q.g s.tick (.fV d i k c0 te x) u->xs[i]?=O y->Fy t d0 y k=O r->rA P q e u λu'=>bC P E T s.b q.g s.tick r u':=by
    intro y r q u f a Q n;obtain⟨A,H⟩:=f.bi v;have z:=B.ty _ _ A;cases a with
    |fV _ _ _ _ _ _ _ hv S=>obtain⟨rfl,hi,f0⟩:=S _ _ _ _ (dq v);left;unfold u9;simp only[H,dC,Q,cj];exact⟨⟨trivial,z.cells.symm⟩,vw L m z.ok n⟩
   cases a0:Nat.beq c0 (s.Mn d)with
   |true=>
    rw[a0]at h;simp only[bf]at h;split at h
    .rename_i r n;refine⟨r,h,λq u f a=>?_⟩;have j0:=a;cases a with
     |fV _ _ _ _ _ _ _ hv S=>obtain⟨_,hi,f0⟩:=S _ _ _ _ (dq v);have:=f0 (bV a0).symm;simp only[Sigma.mk.injEq]at this;obtain⟨rfl,o⟩:=this;exact e0 x r q _ f j0 (eq_of_heq o) n
    .cases h
   |false=>
    rw[a0]at h;simp only[bq]at h;obtain⟨y,Q,h⟩:=bind_some h;split at h
    .rename_i r n;exact⟨r,h,λq u f a=>e0 y r q u f a Q n⟩
    .cases h
  .cases h
 .
  rename_i te x k;split at h
  .rename_i r n;refine⟨r,h,λq u f a=>.inl ?_⟩;cases a with
   |dJ _ _ _ b0=>exact vw L m b0 n
  .cases h
 .
  rename_i te p;obtain⟨x,l0,h1⟩:=bind_some h;clear h;have h:=h1;split at h
  .rename_i r n;refine⟨r,h,λq u f a=>.inl ?_⟩;obtain⟨b0,rfl⟩:=Bn a l0;have:=vw (P:=P) (E:=E) (bx:=s.b) (g:=q.g) (tick:=s.tick) L m b0 n;rw[uF]at this;exact this
  .cases h
 .
  rename_i k i off;obtain⟨r,h1,o⟩:=HR L B m h;exact⟨r,h1,λq u f a=>by cases a;exact o q f⟩
 .rename_i k p;obtain⟨i,m0,h⟩:=bind_some h;obtain⟨r,h1,o⟩:=HR L B m h;exact⟨r,h1,λq u f a=>by rw[vx a m0];exact o q f⟩
 .
  rename_i k i j off;split at h
  .rename_i te e' n0;split at h
   .rename_i l w;replace w:=aA w;obtain⟨A,w⟩:=w;replace A:=di A;obtain⟨xs,o0,h⟩:=bind_some h;obtain⟨x,G,h⟩:=bind_some h;split at h
    .rename_i r n;refine⟨r,h,λq u f a=>.inr ?_⟩;cases a;have p0:=r8 w f o0;have z:=B.ty _ _ A;have b:=vw (P:=P) (E:=E) (bx:=s.b) (g:=q.g) (tick:=s.tick) L m z.ok n;have g0:off<P.cellsOf e':=by have:=KB b;rw[zQ,ew L,<-z.cells]at this;omega
     have q0:T.hz k=P.cellsOf e':=by rw[L.hz k te e' n0,z.cells]
     have r0:0<P.cellsOf e':=M;simp only[p0,q0];have s0:(j*P.cellsOf e'+off)/P.cellsOf e'=j:=by rw[tg,Nat.mul_add_div r0,Nat.div_eq_of_lt g0,lX]
     have t0:(j*P.cellsOf e'+off)%P.cellsOf e'=off:=by rw[tg,Nat.mul_add_mod,Nat.mod_eq_of_lt g0]
     refine⟨enc T te x,by rw[s0];simp[G],?_⟩;rw[t0];exact oW b
    .cases h
   .cases h
  .cases h
 .cases h
end
section
variable{P:qK}{E:cm}{U:cg}{T:dm U.C}{X:gj U}{w0:zI}{I0:aD}{n:Nat}{o:JB}{s:S U.C}{q:St}{α:Type}{out:α}
variable(L:cw U T)
def KC(P:qK)(E:cm)(T:dm U.C)(X:gj U)(w0:zI)(I0:aD)(n:Nat)(o:JB)(s:S U.C)(r:R U.C):Prop:=∀q,aX P E T X s q->∃u,dQ P E w0 I0 n o q u/\bC P E T s.b q.g s.tick r u
def yo{r:R U.C}(a:aW n o=W)(h:∀q,aX P E T X s q->E9 P o q λu=>bC P E T s.b q.g s.tick r u):KC P E T X w0 I0 n o s r:=λq b=>by obtain⟨u,h1,c⟩:=Fa a (h q b);exact⟨u,c,h1⟩
def ky{r:R U.C}(a:aW n o=W)(h:∀q,aX P E T X s q->fU P o q λu=>bC P E T s.b q.g s.tick r u):KC P E T X w0 I0 n o s r:=yo a λq b=>PW (h q b)
def bR{x:qm}(a:aW n o=W)(b:x∈o.op.operands):bW x=W:=by unfold aW at a;have:=qO.1 a x b;simp only[aI]at this;exact this.1
def aX.fq (a:aX P E T X s q) (b:aW n o=W) {x:qm} (c:x∈o.op.operands):bC P E T s.b q.g s.tick (s.ev x) (q.ev x):=a.ev x (bR b c)
def Df(g0:bP P E T X)(Q:jj P E T X e t)(S:X.j9 e=Y){f:Nat}{x:qm}(B:o.op=.fieldAddr e x f)(l:aW n o=W){K:R U.C->V α}(h:tC s t f (s.ev x) K=O out):
  ∃r,K r=O out/\KC P E T X w0 I0 n o s r:=by
 have v:x∈o.op.operands:=by simp[B,Op.operands]
 have A:∀r,(∀q,aX P E T X s q->iK P q e f (q.ev x) λu=>bC P E T s.b q.g s.tick r u)->KC P E T X w0 I0 n o s r:=λr h=>ky l λq b=>by unfold fU;simp only[B];exact h q b
 have C:∀r,(∀q,aX P E T X s q->∃i off,q.ev x=.val (.ptr i off)/\∃J D,kj P e f=O (J,D)/\bC P E T s.b q.g s.tick r (.val (.ptr i (off+J))))->KC P E T X w0 I0 n o s r:=λr h=>yo l λq b=>by right;unfold Zf;obtain⟨i,off,h1,G⟩:=h q b;simp only[B,h1];exact G
 unfold tC at h;split at h
 .rename_i off D L;obtain⟨m,rfl⟩:∃m,t=.struct m:=by cases t<;>first|exact ⟨_,rfl⟩|cases L
  obtain⟨h0,w,_⟩:=Q.field S m rfl f off D L;split at h
  .rename_i d k c;split at h
   .rename_i i0 rs z;refine⟨_,h,A _ λq b=>?_⟩;have a:=b.fq l v;rw[c]at a;unfold iK;simp only[w,iY b a z];obtain⟨_,_,cs,H,_⟩:=b.cells z;exact⟨⟨trivial,by rw[H];simp⟩,.dT d _ _ λst u j0 N=>rfl⟩
   .cases h
  .rename_i d i k a0 te y c;split at h
   .rename_i l0 e' xs z;refine⟨_,h,A _ λq b=>?_⟩;have a:=b.fq l v;rw[c]at a;unfold iK;simp only[w];obtain⟨_,H⟩:=b.bi z;generalize q.ev x=u at a;cases a with
    |fV _ _ _ _ _ _ _ hv a=>obtain⟨rfl,hi,m0⟩:=a _ _ _ _ (dq z);refine⟨⟨rfl,by rw[H];simp⟩,.fV d i _ a0 te y _ hv λst n0 e o0 N=>?_⟩;obtain⟨h1,G,b0⟩:=a _ _ _ _ N;refine⟨?_,G,b0⟩;simp only[cy.dT.injEq]at h1⊢;exact⟨trivial,trivial,h1.2.2.1,trivial,trivial⟩
   .cases h
  .rename_i te y k c;refine⟨_,h,A _ λq b=>?_⟩;have a:=b.fq l v;rw[c]at a;unfold iK;simp only[w];generalize q.ev x=u at a;cases a with
   |dJ _ _ _ I=>have:=bC.dJ (P:=P) (E:=E) (T:=T) (bx:=s.b) (g:=q.g) (tick:=s.tick) te y (k+off) I;simp only[Hg];exact this
  .rename_i te p c;obtain⟨y,c0,h⟩:=bind_some h;refine⟨_,h,A _ λq b=>?_⟩;have a:=b.fq l v;rw[c]at a;unfold iK;obtain⟨I,d0⟩:=Bn a c0;simp only[w,d0];exact .dJ te y off I
  .rename_i k i e0 c;refine⟨_,h,C _ λq b=>?_⟩;have a:=b.fq l v;rw[c]at a;generalize q.ev x=u at a;cases a;exact⟨_,_,rfl,_,_,w,.ji k i _⟩
  .rename_i k p c;obtain⟨i,f0,h⟩:=bind_some h;refine⟨_,h,C _ λq b=>?_⟩;have a:=b.fq l v;rw[c]at a;exact⟨_,_,vx a f0,_,_,w,by rw[cX];exact .ji k i _⟩
  .rename_i k i j e0 c;refine⟨_,h,C _ λq b=>?_⟩;have a:=b.fq l v;rw[c]at a;generalize q.ev x=u at a;cases a;exact⟨_,_,rfl,_,_,w,by rw[jd];exact .kn k i j _⟩
  .cases h
 .cases h
def fa(h:P.underlying e=O (.slice el)):ga P e=O el:=by simp[ga,h]
def Bo(f:β->γ){l:Z β}{i:Int}{x:β}(h:aR l i=O x):0<=i/\(l.map f)[i.toNat]?=O (f x)/\l[i.toNat]?=O x/\i<(l.length:Int):=by obtain⟨b,a,c⟩:=DI h;exact⟨b,by simp[a],a,c⟩
include L in
theorem Dg(a0:bP P E T X)(b0:jj P E T X e (.aq t))(c0:X.elem e=O el){x:qm}(w:o.op=.indexAddr e x y)(j:aW n o=W){m:Int}(Q:AS (s.ev y)=O m){K:R U.C->V α}
  (h:tD s t el (s.ev x) m K=O out):∃r,K r=O out/\KC P E T X w0 I0 n o s r:=by
 obtain⟨C,d0⟩:=b0.elem t el rfl c0;have f:=a0.ty _ _ d0;have D:x∈o.op.operands:=by simp[w,Op.operands]
 have S:y∈o.op.operands:=by simp[w,Op.operands]
 have J:∀r,(∀q k,aX P E T X s q->iL P q e (q.ev x) (.val (.fl (.int k m))) λu=>bC P E T s.b q.g s.tick r u)->KC P E T X w0 I0 n o s r:=λr h=>ky j λq b=>by unfold fU;simp only[w];obtain⟨k,i⟩:=jr (b.fq j S) Q;rw[i];exact h q k b
 unfold tD at h;split at h
 .rename_i te xs v;cases a:decide (te=t)with
  |false=>rw[a]at h;cases h
  |true=>
   rw[a]at h;obtain rfl:=di a;simp only[bf]at h;obtain⟨z,hz,h⟩:=bind_some h;obtain⟨h1,G,_,_⟩:=Bo (enc T te) hz;refine⟨_,h,J _ λq k b=>?_⟩;have c:=b.fq j D;rw[v]at c;have i:=bC.dJ (P:=P) (E:=E) (T:=T) (bx:=s.b) (g:=q.g) (tick:=s.tick) te z 0 f.ok;rw[uF]at i;unfold iL;simp only[fa C];generalize q.ev x=u at c;cases c with
   |val _ _ _ av l hv=>obtain⟨_,rfl⟩:=hv;rcases nt (cs:=xs.map (enc T te)) l with e|e<;>rw[e]<;>simp only[G]<;>exact ⟨⟨f.pos,h1,by rw[ew L,f.cells]⟩,i⟩
 .rename_i te xs v;cases a:decide (te=t)with
  |false=>rw[a]at h;cases h
  |true=>
   rw[a]at h;obtain rfl:=di a;simp only[bf]at h;obtain⟨z,hz,h⟩:=bind_some h;obtain⟨h1,G,_,_⟩:=Bo (enc T te) hz;refine⟨_,h,J _ λq k b=>?_⟩;have c:=b.fq j D;rw[v]at c;have i:=bC.dJ (P:=P) (E:=E) (T:=T) (bx:=s.b) (g:=q.g) (tick:=s.tick) te z 0 f.ok;rw[uF]at i;unfold iL;simp only[fa C];generalize q.ev x=u at c;cases c with
   |bM _ _ w=>simp only[G];exact⟨⟨f.pos,h1,by rw[ew L,f.cells]⟩,i⟩
 .rename_i d v;split at h
  .rename_i te e' xs H;cases a:(decide (te=t)&&Nat.beq e' el)with
   |false=>rw[a]at h;cases h
   |true=>rw[a]at h;simp only[aI,aU]at a;obtain⟨rfl,N⟩:=a;obtain rfl:=bV N;simp only[bf]at h;obtain⟨z,hz,h⟩:=bind_some h;obtain⟨h1,G,e0,f0⟩:=Bo (enc T te) hz;refine⟨_,h,J _ λq k b=>?_⟩;have c:=b.fq j D;rw[v]at c;obtain⟨_,l⟩:=b.bi H;rw[eZ b c H];unfold iL;simp only[fa C];refine⟨⟨f.pos,h1,trivial,⟨_,l⟩,f0⟩,.fV d m.toNat 0 (s.Mn d) te z _ (b.DU d _ _ (dq H)) λst l0 m0 n0 A=>?_⟩;rw[dq H]at A;simp only[ax,bc,B.bi.injEq]at A;obtain⟨rfl,rfl,rfl,A⟩:=A;cases A;refine⟨by rw[f.cells,cX],M,λ_=>by rw[e0]⟩
  .cases h
 .rename_i k p v;split at h
  .rename_i te e' i;cases a:(decide (te=t)&&Nat.beq e' el)with
   |false=>rw[a]at h;cases h
   |true=>
    rw[a]at h;simp only[aI,aU]at a;obtain⟨rfl,N⟩:=a;obtain rfl:=bV N;simp only[bf]at h;obtain⟨z,hz,h⟩:=bind_some h;obtain⟨_,I,h⟩:=bind_some h;have I:=dp I;simp only[aI,aU]at I;refine⟨_,h,yo j λq b=>?_⟩;have c:=b.fq j D;rw[v]at c;obtain⟨g0,h0⟩:=jr (b.fq j S) Q;have l:q.ev x=.val (.view (dI k z.1) (T.hz k) z.2):=by
     generalize q.ev x=u at c;cases c with
     |val _ _ _ av l hv=>obtain⟨_,rfl⟩:=hv;have i0:p=O z:=hz;subst i0;cases u<;>simp[bu,enc,gz]at l;rw[l]
    have j0:T.hz k=P.cellsOf e':=by rw[L.hz k te e' i,f.cells]
    right;unfold Zf;simp only[w,l];exact⟨e',g0,m,fa C,h0,⟨f.pos,j0,I.1,M⟩,.kn k z.1 m.toNat 0⟩
  .cases h
 .cases h
def Qn(dflt:Nat):V Int->Nat
 |none=>dflt|some m=>m.toNat
def pP{dflt:Nat}{x:V qm}(c:aX P E T X s q)(d:∀y,x=O y->bW y=W){b:V Int}(h:nr s Y x=O b)(h0:∀m,b=O m->0<=m):lU q dflt x=O (Qn dflt b):=by
 cases x with
 |none=>simp only[nr,ax]at h;subst h;rfl|some y=>
  simp only[nr]at h;have f:=c.ev y (d y rfl);have hm:∃m,AS (s.ev y)=O m/\b=O m:=by
   split at h
   .rename_i a;simp only[ax]at h;rw[a];exact ⟨_,rfl,h.symm⟩
   .rename_i a;simp only[ax]at h;rw[a];exact ⟨_,rfl,h.symm⟩
   .cases h
  obtain⟨m,hm,rfl⟩:=hm;obtain⟨k,e⟩:=jr f hm;have:=h0 m rfl;simp[lU,e,this,Qn]
def yp{xs:Z β}{b hi:V Int}{K:Z β->V α}(h:w4 xs b hi K=O out):
  ∃l q:Nat,Qn 0 b=l/\Qn xs.length hi=q/\(∀m,b=O m->0<=m)/\(∀m,hi=O m->0<=m)/\l<=q/\q<=xs.length/\K ((xs.drop l).take (q-l))=O out:=by
 unfold w4 at h;split at h
 .exact ⟨0,xs.length,rfl,rfl,aE,aE,dS _,a6 _,by simpa using h⟩
 .rename_i l;obtain⟨_,a,h⟩:=bind_some h;have:=dp a;simp only[aI,aU]at this;refine⟨l.toNat,xs.length,rfl,rfl,by simpa using this.1,aE,this.2,a6 _,?_⟩;rw[dh aE];exact h
 .rename_i r;obtain⟨_,a,h⟩:=bind_some h;have:=dp a;simp only[aI,aU]at this;exact⟨0,r.toNat,rfl,rfl,aE,by simpa using this.1,dS _,this.2,by simpa using h⟩
 .rename_i l r;obtain⟨_,a,h⟩:=bind_some h;have:=dp a;simp only[aI,aU]at this;refine⟨l.toNat,r.toNat,rfl,rfl,by simpa using this.1,by simpa using this.2.1,this.2.2.1,this.2.2.2,?_⟩;rw[List.drop_take]at h;exact h
def Qo{k k':Pv}{x y:Int}{K:(t:Ty)->bL U.C t->V α}(h:HH op k x y K=O out):
  ∃t v,K t v=O out/\eV t=W/\rl (rf op k x y) (·=.val (enc T t v)):=by
 unfold HH at h;split at h<;>simp only[rf,rl]
 .exact ⟨_,_,h,rfl,rfl⟩
 .exact ⟨_,_,h,rfl,rfl⟩
 .exact ⟨_,_,h,rfl,rfl⟩
 .obtain ⟨_,a,h⟩:=bind_some h;have:=dp a;simp only[ne_eq,decide_not,il,cY]at this;rw[ai this];exact⟨_,_,h,rfl,rfl⟩
 .obtain ⟨_,a,h⟩:=bind_some h;have:=dp a;simp only[ne_eq,decide_not,il,cY]at this;rw[ai this];exact⟨_,_,h,rfl,rfl⟩
 .exact ⟨_,_,h,rfl,rfl⟩
 .exact ⟨_,_,h,rfl,rfl⟩
 .exact ⟨_,_,h,rfl,rfl⟩
 .exact ⟨_,_,h,rfl,rfl⟩
 .obtain ⟨_,a,h⟩:=bind_some h;have:=dp a;simp only[aU]at this;rw[ai M];exact⟨_,_,h,rfl,rfl⟩
 .obtain ⟨_,a,h⟩:=bind_some h;have:=dp a;simp only[aU]at this;rw[ai M];exact⟨_,_,h,rfl,rfl⟩
 all_goals exact ⟨_,_,h,rfl,rfl⟩
def Qp{x y:cI}{K:(t:Ty)->bL U.C t->V α}(h:P7 op x y K=O out):
  ∃t v,K t v=O out/\eV t=W/\rl (l9 op x y) (·=.val (enc T t v)):=by
 unfold P7 at h;split at h<;>simp only[l9,rl]
 .obtain ⟨_,a,h⟩:=bind_some h;have:=dp a;simp only[aU]at this;rw[aj this];exact⟨_,_,h,rfl,rfl⟩
 all_goals first|exact ⟨_,_,h,rfl,rfl⟩|cases h
def DX{v:bL U.C t}(b:eV t=W){a:V Jz}(h:rl a (·=.val (enc T t v))){bx:Z (Nat×Nat×B U.C)}:rl a λu=>bC P E T bx g tick (.val t v) u:=by
 unfold rl at h⊢;cases a with
 |none=>exact h|some x=>have h:cy.val (.fl x)=.val (enc T t v):=h;show bC P E T bx g tick (.val t v) (.val (.fl x));rw[h];exact bg b
def yq{r:R U.C}{bx:Z (Nat×Nat×B U.C)}(h:bC P E T bx g tick r u)(a:vl r=W):u=.val (.fl (.pointer Y)):=by
 unfold vl at a;split at a
 .cases h;rfl
 .cases a
def HU{r:R U.C}{bx:Z (Nat×Nat×B U.C)}(h:bC P E T bx g tick r u)(a:AR r=W):u=.val (.fl (.map Y)):=by
 unfold AR at a;split at a
 .cases h;rfl
 .cases a
def HV{w:zI}{I:aD}{b:Nat->V Bx}{v:Jz}(h:b4 P w I be b g v u){a:V Nat}(d:bu u=O (Qm a k)):∃p:V Mc,v=.pointer p/\p.isNone=a.isNone:=by
 have c:=dN h d;cases a with
 |none=>exact ⟨Y,cb c,rfl⟩|some i=>obtain ⟨p,e⟩:=vd c;exact ⟨O p,e,rfl⟩
def HW{w:zI}{I:aD}{b:Nat->V Bx}{v:Jz}(h:b4 P w I be b g v u){f:β->AV}{a:V β}(d:bu u=O (FH f a)):∃p:V Mc,v=.pointer p/\p.isNone=a.isNone:=by
 have c:=dN h d;cases a with
 |none=>exact ⟨Y,cb c,rfl⟩|some i=>obtain ⟨p,e⟩:=AH c;exact ⟨O p,e,rfl⟩
def HX{w:zI}{I:aD}{b:Nat->V Bx}{v:Jz}(h:b4 P w I be b g v u){a:V Nat}(d:bu u=O (Bh a k)):∃p:V Nat,v=.map p/\p.isNone=a.isNone:=by
 have c:=dN h d;cases a with
 |none=>exact ⟨Y,cb c,rfl⟩|some i=>obtain ⟨B,_,e⟩:=ve c;exact ⟨O B,e,rfl⟩
include L in
theorem TO{R:JA}(r:jj P E T X e t)(S:X.j9 e=Y){x:qm}(B:o.op=.binOp op e x y R)(d:aW n o=W){ty:V Ty}
  {K:(t:Ty)->bL U.C t->V α} (h:Xe o op t (s.ev x) (s.ev y) ty K=O out):∃t v,K t v=O out/\KC P E T X w0 I0 n o s (.val t v):=by
 have p:x∈o.op.operands:=by simp[B,Op.operands]
 have l:y∈o.op.operands:=by simp[B,Op.operands]
 have D:∀(t:Ty)(v:bL U.C t),(∀q G,aX P E T X s q->PT P op e (q.ev x) (q.ev y) (λu=>bC P E T s.b q.g s.tick (.val t v) u) G)->KC P E T X w0 I0 n o s (.val t v):=λt v h=>ky d λq c=>by unfold fU;simp only[B];exact h q _ c
 unfold Xe at h;split at h
 .rename_i k;split at h
  .cases h
  .rename_i a f;have a0:∃k' b,(∀q,aX P E T X s q->q.ev y=.val (.fl (.int k' b)))/\HH op k a b K=O out/\(k'=k∨kl op=W):=by
    split at h
    .rename_i k' b j;cases g:(decide (k'=k)||kl op)with
     |false=>rw[g]at h;cases h
     |true=>
      rw[g]at h;simp only[kS,aU]at g;refine⟨k',b,λq c=>?_,h,g⟩;have z:=c.fq d l;rw[j]at z;generalize q.ev y=v at z;cases z with
      |val _ _ _ av Q hv=>rw[fW hv rfl]at Q;exact dF Q
    .rename_i k' b j;cases g:(decide (k'=k)||kl op)with
     |false=>rw[g]at h;cases h
     |true=>
      rw[g]at h;simp only[kS,aU]at g;refine⟨k',b,λq c=>?_,h,g⟩;have z:=c.fq d l;rw[j]at z;generalize q.ev y=v at z;cases z with
      |const _ _=>rfl
    .cases h
   obtain⟨k',b,b0,h,g⟩:=a0;obtain⟨t,v,h1,C,J⟩:=Qo (T:=T) (k':=k') h;refine⟨t,v,h1,D t v λq G c=>?_⟩;rw[b0 q c,dF (dk (c.fq d p) f rfl)];exact⟨g,DX C J⟩
 .split at h
  .rename_i a b f j;obtain⟨t,v,h1,C,J⟩:=Qp (T:=T) h;refine⟨t,v,h1,D t v λq G c=>?_⟩;rw[dF (dk (c.fq d p) f rfl),dF (dk (c.fq d l) j rfl)];exact DX C J
  .cases h
 .split at h
  .rename_i a b f j;split at h
   .refine ⟨_,_,h,D _ _ λq G c=>?_⟩;rw[dF (dk (c.fq d p) f rfl),dF (dk (c.fq d l) j rfl)];exact⟨⟨r.bool rfl,.inl rfl⟩,bg (t:=.bool) rfl⟩
   .refine ⟨_,_,h,D _ _ λq G c=>?_⟩;rw[dF (dk (c.fq d p) f rfl),dF (dk (c.fq d l) j rfl)];exact⟨⟨r.bool rfl,.inr rfl⟩,bg (t:=.bool) rfl⟩
   .cases h
  .cases h
 .rename_i k;split at h
  .rename_i a f H;obtain⟨el,hu⟩:=r.ptr k rfl;have i:(op=.eql∨op=.neq)->KC P E T X w0 I0 n o s (.val .bool (if op=.eql then Option.isNone (α:=Nat) a else !Option.isNone (α:=Nat) a)):=λA q c=>
    ⟨_,vc B d hu A (yq (c.fq d l) H) (λw I be v hv=>HV hv (dk (c.fq d p) f rfl)),bg (t:=.bool) rfl⟩
   split at h
   .exact ⟨_,_,h,i (.inl rfl)⟩
   .exact ⟨_,_,h,i (.inr rfl)⟩
   .cases h
  .cases h
 .rename_i k;split at h
  .rename_i a f H;obtain⟨el,d0,hu,_⟩:=r.mp k rfl;have i:(op=.eql∨op=.neq)->KC P E T X w0 I0 n o s (.val .bool (if op=.eql then Option.isNone (α:=Nat) a else !Option.isNone (α:=Nat) a)):=λA q c=>
    ⟨_,Fj B d hu A (HU (c.fq d l) H) (λw I be v hv=>HX hv (dk (c.fq d p) f rfl)),bg (t:=.bool) rfl⟩
   split at h
   .exact ⟨_,_,h,i (.inl rfl)⟩
   .exact ⟨_,_,h,i (.inr rfl)⟩
   .cases h
  .cases h
 .rename_i k;split at h
  .rename_i a f H;obtain⟨el,hu⟩:=r.ref k rfl;have i:(op=.eql∨op=.neq)->KC P E T X w0 I0 n o s (.val .bool (if op=.eql then Option.isNone (α:=bL U.C k) a else !Option.isNone (α:=bL U.C k) a)):=λA q c=>
    ⟨_,vc B d hu A (yq (c.fq d l) H) (λw I be v hv=>HW hv (dk (c.fq d p) f r.ok)),bg (t:=.bool) rfl⟩
   split at h
   .exact ⟨_,_,h,i (.inl rfl)⟩
   .exact ⟨_,_,h,i (.inr rfl)⟩
   .cases h
  .cases h
 .rename_i m;split at h
  .rename_i a b f j;split at h
   .rename_i N c0;obtain⟨e0,h1,C⟩:=r.kinds S m rfl N _ _ c0;rw[<-L.cells,<-L.cells]at C;have i:(op=.eql∨op=.neq)->KC P E T X w0 I0 n o s (.val .bool (if op=.eql then N else !N)):=λA=>D _ _ λq G c=>by rw[r7 (dk (c.fq d p) f rfl),r7 (dk (c.fq d l) j rfl)];unfold PT;simp only[h1,C];exact⟨A,bg (t:=.bool) rfl⟩
    split at h
    .exact ⟨_,_,h,i (.inl rfl)⟩
    .exact ⟨_,_,h,i (.inr rfl)⟩
    .cases h
   .cases h
  .cases h
 .cases h
def iz(P:qK)(E:cm)(w0:zI)(I0:aD)(n:Nat)(q q':St):Prop:=∀a w,gi P E w0 I0 n q a w->gi P E w0 I0 n q' a w
def iz.refl (q:St):iz P E w0 I0 n q q:=λ_ _ h=>h
def iz.trans {q:St} (h:iz P E w0 I0 n q q') (h':iz P E w0 I0 n q' q''):iz P E w0 I0 n q q'':=λa w b=>h' a w (h a w b)
def iz.mr {q:St} (h:iz P E w0 I0 n q q') {K:St->Prop} (h':dE P E w0 I0 n o q' K):dE P E w0 I0 n o q K:=λa w b=>h' a w (h a w b)
def iz.KD {q:St} (h:iz P E w0 I0 n q q') {K:St->Prop} (h':nq P E w0 I0 n o q' K Xp):nq P E w0 I0 n o q K Xp:=λa w b=>h' a w (h a w b)
def iz.nL {q:St} (h:iz P E w0 I0 n q q') {c:F4} {Q:eA->St->Prop} (h':nL P E w0 I0 n c Q Xp q'):nL P E w0 I0 n c Q Xp q:=PN h h'
def kX(q q':St):Prop:=∀x av,bu (q.ev x)=O av->bu (q'.ev x)=O av
def kX.refl (q:St):kX q q:=λ_ _ h=>h
def kX.trans {q:St} (h:kX q q') (h':kX q' q''):kX q q'':=λx av a=>h' x av (h x av a)
def kX.Qq {q:St} (h:∀t av,bu (q.r t)=O av->bu (q'.r t)=O av):kX q q':=λx av a=>by
 cases x with
 |tmp t=>exact h t av a|_=>exact a
def FN(a b:V Bx):Prop:=b=Y∨(∃c d,a=O (.cells c)/\b=O (.cells d))∨∃e l l',a=O (.bi e l)/\b=O (.bi e l')/\l'.length=l.length
def FN.refl (a:V Bx):FN a a:=by
 cases a with
 |none=>exact .inl rfl|some x=>cases x with
  |cells c=>exact .inr (.inl ⟨_,_,rfl,rfl⟩)|bi e l=>exact .inr (.inr ⟨_,_,_,rfl,rfl,rfl⟩)
def FN.trans {a b c:V Bx} (h:FN a b) (h':FN b c):FN a c:=by
 rcases h' with h'|⟨j,c2,h1,d⟩|⟨e,l,l',h1,d,g⟩
 .exact .inl h'
 .rcases h with h|⟨i,c4,g1,g2⟩|⟨e,l,l',g1,g2,f⟩
  .rw[h]at h1;cases h1
  .exact .inr (.inl ⟨_,_,g1,d⟩)
  .rw[g2]at h1;cases h1
 .rcases h with h|⟨i,c4,g1,g2⟩|⟨e',k,m,g1,g2,f⟩
  .rw[h]at h1;cases h1
  .rw[g2]at h1;cases h1
  .rw[g2]at h1;cases h1;exact .inr (.inr ⟨_,_,_,g1,d,g.trans f⟩)
def FN.HY {a b:V Bx} (h:b=a):FN a b:=h▸.refl _
def FN.HZ (f:Nat->V Bx) (d d':Nat):FN (f d') (aa f d Y d'):=by
 by_cases e:d'=d
 .subst e;exact .inl (bK _ _ _)
 .exact .HY (aJ _ _ e)
def FN.aa {f:Nat->V Bx} {x:V Bx} (h:FN (f d) x) (d':Nat):FN (f d') (Go.Ev.aa f d x d'):=by
 by_cases e:d'=d
 .subst e;rw[bK];exact h
 .exact .HY (aJ _ _ e)
def ze(s:S U.C)(q q':St):Prop:=(∀t,q'.r t=q.r t∨∃d gg off len,q.r t=.view d gg off len/\aB s.b d≠Y/\q'.b d=Y)/\(∀d,aB s.b d=Y->q'.b d=q.b d)/\q'.g=q.g/\(∀k i,k<U.nk->s.m k=F->q'.a (dI k i)=q.a (dI k i)/\q'.u (dI k i)=q.u (dI k i))/\q'.df=q.df/\∀d,FN (q.b d) (q'.b d)
def ze.refl (s:S U.C) (q:St):ze s q q:=⟨λ_=>.inl rfl,λ_ _=>rfl,rfl,λ_ _ _ _=>⟨rfl,rfl⟩,rfl,λ_=>.refl _⟩
def TP(i:Nat):i=dI (i%1000) (i/1000):=by unfold dI;omega
def eY.set {m:Nat->tl} {h h':U.C 0} {A c:Nat->V Ob} {Vloc d:Nat->tl} (L:cw U T) (j:eY T m h A Vloc) {k:Nat} (n:k<U.nk) {a:AK} {l:Z (wY U.C a)} (b:zc U a k h l=O h')
  (o:∀i,match l[i]? with|some x=>mj (c (dI k i))=Bi T a x|none=>c (dI k i)=Y/\d (dI k i)=F)
  (p:∀k' i,k'<U.nk->k'≠k->c (dI k' i)=A (dI k' i)/\d (dI k' i)=Vloc (dI k' i)):eY T m h' c d:=by
 unfold zc at b;split at b
 .rename_i e;subst e;simp only[ax]at b;subst b;intro k' f q i;by_cases e:k'=k
  .subst e;rw[L.zr _ _ _ n,yn];have:=o i;cases hi:l[i]? with
   |none=>rw[hi]at this;exact this|some x=>rw[hi]at this;exact this
  .rw[L.r6 k k' h _ e];have:=j k' f q i;obtain⟨g,r⟩:=p k' i f e;cases hi:(U.get k' h)[i]? with
   |none=>rw[hi]at this;exact ⟨by rw[g];exact this.1,by rw[r];exact this.2⟩|some x=>rw[hi]at this;simp only at this⊢;rw[g];exact this
 .cases b
def eY.push (L:cw U T) {h h':U.C 0} (f:eY T m h A Vloc) (b:k<U.nk) (n:m k=W) {a:AK} {l:Z (wY U.C a)} (o:tB U a k h=O l) {x:wY U.C a} (s:zc U a k h (l++[x])=O h'):
  A (dI k l.length)=Y/\Vloc (dI k l.length)=F/\∀g,(∀j,j≠dI k l.length->g j=Vloc j)->eY T m h' (aa A (dI k l.length) (Bi T a x)) g:=by
 have h0:=f.at b n o l.length;rw[uG (a6 _)]at h0;refine⟨h0.1,h0.2,λg p=>f.set L b s (λi=>?_) λk' i t d=>?_⟩
 .have c:=f.at b n o i;by_cases hi:i<l.length
  .rw[fx hi];rw[bS hi]at c⊢;simp only at c⊢;rw[aJ _ _ (λe=>by have:=(hg L b b e).2;omega)];exact c
  .by_cases q:i=l.length
   .subst q;rw[im (a6 _)];simp[tJ]
   .rw[im M,uG cM];rw[uG M]at c;have d:dI k i≠dI k l.length:=λe=>q (hg L b b e).2;exact⟨by rw[aJ _ _ d];exact c.1,by rw[p _ d];exact c.2⟩
 .have r:dI k' i≠dI k l.length:=λe=>d (hg L t b e).1;exact⟨aJ _ _ r,p _ r⟩
def eY.kQ (L:cw U T) {h h':U.C 0} (g:eY T m h A Vloc) (c:k<U.nk) (o:m k=W) {a:AK} {l:Z (wY U.C a)} (p:tB U a k h=O l) (hi:i<l.length) {x:wY U.C a} (q:zc U a k h (l.set i x)=O h'):
  eY T m h' (aa A (dI k i) (Bi T a x)) Vloc:=by
 refine g.set L c q (λj=>?_) λk' j r d=>?_
 .have b:=g.at c o p j;rw[qp];by_cases f:i=j
  .subst f;simp[hi,tJ]
  .simp only[f,cG];have d:dI k j≠dI k i:=λe=>f (hg L c c e).2.symm;cases n:l[j]? with
   |none=>rw[n]at b;exact ⟨by rw[aJ _ _ d];exact b.1,b.2⟩|some y=>rw[n]at b;simp only at b⊢;rw[aJ _ _ d];exact b
 .have s:dI k' j≠dI k i:=λe=>d (hg L r c e).1;exact⟨aJ _ _ s,rfl⟩
def mF{l:Z (V (Z (bL U.C t)))}{h':U.C 0}(h:vk U k t e s l=O h'):(s.m k=W/\k<U.nk)/\zc U (.bi t e) k s.h l=O h':=by obtain⟨a,b⟩:=aA h;simp only[aI,fQ]at a;exact⟨a,b⟩
def vy{l:Z (bL U.C t)}{h':U.C 0}(h:Fu U k t s l=O h'):(s.m k=W/\k<U.nk)/\zc U (.hC t) k s.h l=O h':=by obtain⟨a,b⟩:=aA h;simp only[aI,fQ]at a;exact⟨a,b⟩
def vz{l:Z (Z (bL U.C a×bL U.C b))}{h':U.C 0}(h:Fv U k a b s l=O h'):(s.m k=W/\k<U.nk)/\zc U (.map a b) k s.h l=O h':=by obtain⟨c,d⟩:=aA h;simp only[aI,fQ]at c;exact⟨c,d⟩
def r9{l:Z (V (Z (bL U.C t)))}(h:Db U k t e s=O l):(s.m k=W/\k<U.nk)/\tB U (.bi t e) k s.h=O l:=by obtain⟨a,b⟩:=aA h;simp only[aI,fQ]at a;exact⟨a,b⟩
def DY{l:Z (bL U.C t)}(h:Oe U k t s=O l):(s.m k=W/\k<U.nk)/\tB U (.hC t) k s.h=O l:=by obtain⟨a,b⟩:=aA h;simp only[aI,fQ]at a;exact⟨a,b⟩
def xb{l:Z (Z (bL U.C a×bL U.C b))}(h:maps U k a b s=O l):(s.m k=W/\k<U.nk)/\tB U (.map a b) k s.h=O l:=by obtain⟨c,d⟩:=aA h;simp only[aI,fQ]at c;exact⟨c,d⟩
def aX.qv {s:S U.C} {q:St} (h:aX P E T X s q) {h':U.C 0} (b:s.tick<=tk) (e:eY T s.m h' A Vloc):aX P E T X {s with h:=h',hv:=hv,tick:=tk} {q with a:=A,u:=Vloc}:=⟨λt=>(h.cu t).later b,λd=>(h.bG d).mono (λ_ _ _ d _=>.refl d) b,λt st x c=>jf (h.Bj t st x c) b,λd st x c=>jf (h.DU d st x c) b,e,h.df⟩
def pQ{C:Nat->Type}(d tk:Nat)(v:R C)(l:Z (Nat×Nat×R C))(z:Nat):aB (AO d tk v l) z=(aB l z).map λe=>match e.2 with|.whole d'=>if d'=d then(tk,v)else e|_=>e:=by
 induction l with
 |nil=>rfl|cons e l a=>
  obtain⟨c,st,x⟩:=e;cases x with
  |whole d'=>
   simp only[AO];by_cases b:d'=d
   .subst b;simp only[py,bf,aQ,a];split<;>simp
   .simp only[ry b,bq,aQ,a];split<;>simp[b]
  |_=>simp only[AO,aQ,a];split<;>rfl
def xc{C:Nat->Type}(d:Nat)(v:R C):R C->R C
 |.whole d'=>if d'=d then v else .whole d'|r=>r
def rB(d:Nat)(v:R U.C):∀(rs:Z (R U.C)),Kn d v rs=rs.map (xc d v)
 |[]=>rfl|r::rs=>by
  cases r with
  |whole d'=>
   simp only[Kn,dy,xc,rB d v rs];by_cases a:d'=d
   .subst a;simp
   .simp[ry a,a]
  |_=>simp only[Kn,dy,xc,rB d v rs]
def eI{C:Nat->Type}(d tk:Nat)(v:R C)(l:Z (Nat×Nat×B C))(z:Nat):aB (pJ d tk v l) z=(aB l z).map λe=>match e.2 with|.cells u rs=>if cN d rs=W then(tk,.cells u (Kn d v rs))else e|_=>e:=by
 induction l with
 |nil=>rfl|cons e l a=>
  obtain⟨c,st,x⟩:=e;cases x with
  |bi t e ys=>simp only[pJ,aQ,a];split<;>rfl|cells u rs=>
   simp only[pJ];cases b:cN d rs with
   |true=>simp only[bf,aQ,a];split<;>simp[b]|false=>simp only[bq,aQ,a];split<;>simp[b]
def DZ{s:S C}{v:R C}{h':C 0}(c:(hv=s.hv/\h'=s.h)∨hv=s.tick):
  bE s {r:=AO d s.tick v s.r,b:=pJ d s.tick v (bB s.b d),tick:=s.tick+1,h:=h',hv:=hv,m:=s.m}:=by
 refine⟨rfl,cO _,λt st y h g=>?_,λd' st y h g=>?_,λh=>?_⟩
 .simp only[pQ,ck]at h;obtain⟨⟨st',f⟩,h1,a⟩:=h;cases f with
  |whole d'=>
   simp only at a;split at a
   .simp only[bc]at a;omega
   .simp only[bc]at a;rw[h1,a.1,a.2]
  |_=>simp only[bc]at a;rw[h1,a.1,a.2]
 .simp only[eI,ck]at h;obtain⟨⟨st',f⟩,h1,a⟩:=h;have h1:=hj h1;cases f with
  |bi t e ys=>simp only[bc]at a;rw[h1,a.1,a.2]|cells u rs=>
   simp only at a;split at a
   .simp only[bc]at a;omega
   .simp only[bc]at a;rw[h1,a.1,a.2]
 .rcases c with c|c
  .exact c
  .simp only[c]at h;omega
def vA{U:cg}{s:S U.C}(d:Nat)(t:Ty)(xs:Z (bL U.C t)):bE s (s.AP d t xs):=DZ (.inl ⟨rfl,rfl⟩)
def yr{U:cg}{s:S U.C}(d k:Nat)(v:V (Nat×Nat))(h:U.C 0):bE s (s.HF d k v h):=DZ (.inr rfl)
def S.gA {C:Nat->Type} (s:S C) (t:Nat):s.bQ t=match aB s.r t with|some e=>e.2|none=>.none:=by
 unfold S.bQ;cases aB s.r t with
 |none=>rfl|some e=>rfl
def Bp{g:Nat}(h:bu u=O av):iM d g c u=u:=by cases u<;>first|rfl|(simp[bu]at h)
def yt{g:Nat}(v:Jz):iM d g c (ct v)=ct v:=by unfold ct;split<;>rfl
def aX.Z0 {s:S U.C} {q:St} (h:aX P E T X s q) {xs:Z (bL U.C t)} (e0:s.box d=O (.bi t e xs)) {v:R U.C} (f0:c 0 xs.length=O av)
  (hv:∀bx g tick,bC P E T bx g tick v (.val av)) {h':U.C 0} {g0:Nat} (h0:eY T s.m h' A Vloc):
  aX P E T X {r:=AO d s.tick v s.r,b:=pJ d s.tick v (bB s.b d),tick:=s.tick+1,h:=h',hv:=g0,m:=s.m} {q.cv d c with a:=A,u:=Vloc}:=by
 have i0:=dq e0;have j0:∀d',ku s.b (pJ d s.tick v (bB s.b d)) q.g q.g s.tick d':=λd'=>by
  by_cases e:d=d'
  .right;left;rw[eI,aN,aj e];rfl
  .cases I:aB s.b d' with
   |none=>right;left;rw[eI,aN,ai e,I];rfl|some x=>
    obtain⟨st,x⟩:=x;cases x with
    |bi t e' ys=>left;rw[eI,aN,ai e,I];exact ⟨rfl,rfl⟩|cells u rs=>
     right;right;left;refine⟨rfl,st,u,rs,?_⟩;rw[eI,aN,ai e,I];simp only[cj];split
     .exact ⟨_,_,_,trivial,rfl⟩
     .exact ⟨_,_,_,trivial,rfl⟩
 have one:∀r u,bC P E T s.b q.g s.tick r u->bC P E T (pJ d s.tick v (bB s.b d)) q.g (s.tick+1) (xc d v r) (iM d (q.g d) c u):=by
  intro r u n;have J:∀d' st' z e' H,aB (pJ d s.tick v (bB s.b d)) d'=O (st',.bi z e' H)->d'≠d/\aB s.b d'=O (st',.bi z e' H):=λd' st' z e' H f=>by
   by_cases l:d=d'
   .rw[eI,aN,aj l]at f;cases f
   .rw[eI,aN,ai l]at f;refine⟨dz l,?_⟩;cases p:aB s.b d' with
    |none=>rw[p]at f;cases f
    |some x=>
     obtain⟨l0,x⟩:=x;rw[p]at f;cases x with
     |bi t e' ys=>simpa using f|cells u rs=>simp only[cj]at f;split at f<;>simp at f
  have m0:∀d' st' u' N,aB (pJ d s.tick v (bB s.b d)) d'=O (st',.cells u' N)->∃st u rs,aB s.b d'=O (st,.cells u rs):=λd' st' u' N f=>by
   by_cases l:d=d'
   .rw[eI,aN,aj l]at f;cases f
   .rw[eI,aN,ai l]at f;cases p:aB s.b d' with
    |none=>rw[p]at f;cases f
    |some x=>
     obtain⟨l0,x⟩:=x;rw[p]at f;cases x with
     |bi t e' ys=>simp at f|cells u rs=>exact ⟨_,_,_,rfl⟩
  have j:=n.mono (bx':=pJ d s.tick v (bB s.b d)) (g':=q.g) (λn0 _=>j0 n0) (cO _);cases n with
  |whole d' _ o=>
   by_cases l:d'=d
   .subst l;have:=o _ _ _ _ i0;subst this;simp only[xc,ca,iM,and_self,f0];exact hv _ _ _
   .simp only[xc,ai l];refine .whole _ _ λst' z e' H f=>?_;have:=o _ _ _ _ (J _ _ _ _ _ f).2;subst this;simp[iM,l]
  |none=>exact .none _|val t x _ av o hv=>simp only[xc];rw[Bp o];exact j
  |const w A0=>simp only[xc];rw[yt];exact j|dT d' k _ o=>refine .dT d' k _ λst u rs f=>?_;obtain⟨_,_,_,p⟩:=m0 _ _ _ _ f;rw[o _ _ _ p];rfl
  |fV d' i k o0 t x _ B0 o=>refine .fV d' i k o0 t x _ M λst z e xs f=>?_;obtain⟨q1,K,p0⟩:=o _ _ _ _ (J _ _ _ _ _ f).2;rw[q1];exact⟨rfl,K,p0⟩|sub d' off m _ o=>refine .sub d' off m _ λst z e xs f=>?_;have Q:=J _ _ _ _ _ f;obtain⟨q1,K⟩:=o _ _ _ _ Q.2;rw[q1];exact⟨by simp[iM,Q.1],K⟩
  |_=>exact j
 refine⟨λt=>?_,λd'=>?_,λt st x D=>?_,λd' st x D=>?_,h0,h.df⟩
 .have h1:=one _ _ (h.cu t);rw[S.gA]at h1⊢;rw[pQ];cases q0:aB s.r t with
  |none=>exact .none _|some x=>
   obtain⟨st,x⟩:=x;rw[q0]at h1;simp only[cj]at h1⊢;cases x with
   |whole d'=>
    simp only[xc]at h1;by_cases l:d'=d
    .simp only[l,ca]at h1⊢;exact h1
    .simp only[l,cG]at h1⊢;exact h1
   |_=>exact h1
 .have h1:=h.bG d';rw[eI,aN];by_cases l:d=d'
  .rw[aj l];trivial
  .rw[ai l];cases f:aB s.b d' with
   |none=>trivial|some x=>
    obtain⟨st,x⟩:=x;rw[f]at h1;have o:({q.cv d c with a:=A,u:=Vloc}:St).b d'=(q.b d').map (PY d (q.g d) c):=by simp[St.cv,Oa,dz l]
    rw[o];cases x with
    |bi t e' ys=>obtain⟨j,B⟩:=h1;simp only[cj];exact⟨j,by rw[B];rfl⟩|cells u rs=>
     obtain⟨j,B,cs,a0,b0,s0⟩:=h1;have d0:∀(i:Nat)(r:R U.C)(y:cy),(rs.map (xc d v))[i]?=O r->(cs.map (iM d (q.g d) c))[i]?=O y->bC P E T (pJ d s.tick v (bB s.b d)) q.g (s.tick+1) r y:=λi r y n C=>by simp only[dC,ck]at n C;obtain⟨t0,u0,rfl⟩:=n;obtain⟨v0,w0,rfl⟩:=C;exact one _ _ (s0 i t0 v0 u0 w0)
     have x0:cN d rs=F->rs.map (xc d v)=rs:=λL=>by
      have:∀r∈rs,xc d v r=id r:=λr n=>by
       have:=eF.1 L r n;cases r with
       |whole d'=>
        simp only[xc];have y0:¬d'=d:=λe=>by subst e;simp[R.aT]at this
        rw[ai y0];rfl
       |_=>rfl
      exact(qT this).trans (zS rs)
     simp only[cj];cases L:cN d rs with
     |true=>simp only[ca];refine⟨j,by rw[rB];simpa using B,_,by rw[a0];rfl,by rw[rB];simpa using b0,λi r y n C=>?_⟩;rw[rB]at n;exact d0 i r y n C|false=>simp only[iA,cG];refine⟨j,B,_,by rw[a0];rfl,by simpa using b0,λi r y n C=>?_⟩;rw[<-x0 L]at n;exact d0 i r y n C
 .simp only[pQ,ck]at D;obtain⟨⟨st',G⟩,h1,j⟩:=D;have B:=h.Bj t st' G h1;show st<s.tick+1;cases G with
  |whole d'=>
   simp only at j;split at j
   .simp only[bc]at j;omega
   .simp only[bc]at j;omega
  |_=>simp only[bc]at j;omega
 .simp only[eI,aN,ck]at D;obtain⟨⟨st',G⟩,h1,j⟩:=D;show st<s.tick+1;split at h1
  .cases h1
  .have B:=h.DU d' st' G h1;cases G with
   |bi t e ys=>simp only[bc]at j;omega|cells u rs=>
    simp only at j;split at j
    .simp only[bc]at j;omega
    .simp only[bc]at j;omega
def Oj{x:qm}(h:s.ev x=.whole d):∃t,x=.tmp t/\s.bQ t=.whole d:=by
 cases x with
 |tmp t=>exact ⟨t,rfl,h⟩|const v=>cases h
 |global g=>cases h
 |func f=>cases h
def V1(d:Nat)(c:Nat->Nat->V AV)(A:Nat->V Ob)(Vloc:Nat->tl):kX q {q.cv d c with a:=A,u:=Vloc}:=.Qq λt av h=>by show bu (iM d (q.g d) c (q.r t))=O av;rw[Bp h];exact h
def O4(d:Nat)(c:Nat->Nat->V AV):kX q (q.cv d c):=V1 d c q.a q.u
def fN{l:Z (Nat×Nat×β)}{d':Nat}(h:aB l d'=Y):aB (bB l d) d'=Y:=by
 rw[aN];split
 .rfl
 .exact h
def aX.Bq {s:S U.C} {q:St} (h:aX P E T X s q) (j:s.bQ t0=.whole d) (u:cy) {h':U.C 0} (k:eY T s.m h' A Vloc):
  aX P E T X {r:=s.r,b:=bB s.b d,tick:=s.tick+1,h:=h',hv:=hv,m:=s.m} {q with r:=aa q.r t0 u,b:=aa q.b d Y,a:=A,u:=Vloc}:=by
 have g:∀d',ku s.b (bB s.b d) q.g q.g s.tick d':=λd'=>by
  by_cases e:d=d'
  .right;left;rw[aN,aj e]
  .left;rw[aN,ai e];exact ⟨rfl,rfl⟩
 refine⟨λt=>?_,λd'=>?_,λt st x c=>V0 (h.Bj t st x c),λd' st x c=>?_,k,h.df⟩
 .have f:=(h.cu t).mono (λd' _=>g d') (cO _);by_cases i:t=t0
  .subst i;have l:S.bQ (C:=U.C) {r:=s.r,b:=bB s.b d,tick:=s.tick+1,h:=h',hv:=hv,m:=s.m} t=.whole d:=j;rw[l];exact .whole d _ λst t e xs n=>by simp[aN]at n
  .simp only[aJ _ _ i];exact f
 .by_cases e:d=d'
  .subst e;simp[aN,nM]
  .have f:=(h.bG d').mono (λ_ _ _ o _=>g o) (cO _);simpa only[aN,ai e,aJ _ _ (dz e)]using f
 .simp only[aN]at c;split at c
  .cases c
  .exact V0 (h.DU d' st x c)
def ze.Bq {s:S U.C} {q:St} {gg len:Nat} (h:q.r t0=.view d gg off len) {b:B U.C} (c:s.box d=O b) (u:cy) (j:∀k i,k<U.nk->s.m k=F->A (dI k i)=q.a (dI k i)/\Vloc (dI k i)=q.u (dI k i)):
  ze s q {q with r:=aa q.r t0 u,b:=aa q.b d Y,a:=A,u:=Vloc}:=by
 refine⟨λt=>?_,λd' f=>?_,rfl,j,rfl,.HZ _ _⟩
 .by_cases g:t=t0
  .subst g;exact .inr ⟨d,gg,off,len,h,by rw[dq c];simp,bK _ _ _⟩
  .exact .inl (aJ _ _ g)
 .refine aJ _ _ λe=>?_;subst e;rw[dq c]at f;cases f
def FO{s:S C}{c:Nat}{v:R C}{b:Z (Nat×Nat×B C)}{h:C 0}(a:lC (s.ev y)=F):S.ev {r:=AO d tk v s.r,b:=b,tick:=c,h:=h,hv:=hv,m:=m} y=s.ev y:=by
 cases y with
 |tmp t=>
  simp only[S.ev]at a⊢;rw[S.gA]at a⊢;rw[S.gA];simp only[pQ];cases f:aB s.r t with
  |none=>rfl|some e=>obtain⟨st,x⟩:=e;rw[f]at a;cases x<;>first|rfl|cases a
 |_=>rfl
structure ZD(P:Program)(E:cm)(T:dm U.C)(X:gj U)(w0:World)(I0:aD)(n:Nat)(fz:Bool)(s s':S U.C)(x:Operand)(t:Ty)(v:bL U.C t)(q q':St)(av:AV):Prop where
 oE:iz P E w0 I0 n q q'
 nN:aX P E T X s' q'
 CU:bu (q'.ev x)=O av
 Dh:kr P E T t v av
 jb:kX q q'
 fr:fz=F->ze s q q'
 still:lC (s.ev x)=F->q'=q/\s'=s
include L in
theorem lD(J:bP P E T X)(l0:(∃k,s.m k=W)->E.dc=F){r:tl}{x:qm}(m0:bW x=W){k:S U.C->bL U.C t->V α}(h:S.val r s (s.ev x) t k=O out):
  ∃s' v,k s' v=O out/\bE s s'/\(∀d,aB s.b d=Y->aB s'.b d=Y)/\(∀y,lC (s.ev y)=F->s'.ev y=s.ev y)/\∀q,aX P E T X s q->∃q' av,ZD P E T X w0 I0 n r s s' x t v q q' av:=by
 unfold S.val at h;split at h
 .rename_i d H;obtain⟨t0,rfl,N⟩:=Oj H;split at h
  .rename_i i e xs o;have K:∀q,aX P E T X s q->q.r t0=.view d (q.g d) 0 xs.length:=λq b=>by have:=b.cu t0;rw[N]at this;exact eZ b this o
   split at h
   .
    rename_i m k;split at h
    .rename_i l b0;cases Q:(U.em m&&(Nat.blt m 2&&xs.isEmpty))with
     |true=>
      rw[Q]at h;simp only[aI]at Q;obtain⟨_,n0,o0⟩:=Q;rw[fQ]at n0;obtain rfl:xs=[]:=Ma.1 o0;simp only[bf]at h;have R:U.ak m=.bi i e:=pe b0;cases r with
      |true=>
      simp only[bf]at h;refine⟨_,_,h,yr _ _ _ _,λd' u=>?_,λy I=>FO I,λq b=>?_⟩
      .show aB (pJ _ _ _ (bB s.b d)) d'=Y;rw[eI,fN u];rfl
      .obtain ⟨C,z⟩:=b.bi o;have B:=J.ty _ _ C;have D:T.hz m=P.cellsOf e:=by rw[L.hz m i e R,B.cells]
       have f:=K q b;refine⟨q.cv d (pI (dI m l.length) (P.cellsOf e)),.view (dI m l.length) (P.cellsOf e) 0,⟨λa w p=>Kj (by unfold dI;omega) z p,?_,?_,⟨rfl,by simp[enc,gz,D]⟩,O4 d _,(λh=>by cases h),λh=>by rw[H]at h;cases h⟩⟩
       .exact b.Z0 (c:=pI (dI m l.length) (P.cellsOf e)) o rfl (λbx g tick=>.val (.hs m) _ _ _ rfl ⟨rfl,by simp[enc,gz,D]⟩) b.heap
       .show bu (iM d (q.g d) _ (q.r t0))=_;rw[f];simp[iM,bu,pI]
      |false=>
      simp only[bq]at h;refine⟨_,_,h,vv _ _,λd' u=>fN u,λy I=>by cases y<;>rfl,λq b=>?_⟩;obtain⟨C,z⟩:=b.bi o;have B:=J.ty _ _ C;have D:T.hz m=P.cellsOf e:=by rw[L.hz m i e R,B.cells]
      have f:=K q b;refine⟨_,.view (dI m l.length) (P.cellsOf e) 0,⟨λa w p=>HA t0 (by unfold dI;omega) f rfl z p,b.Bq N (.val (.view (dI m l.length) (P.cellsOf e) 0)) (A:=q.a) (Vloc:=q.u) b.heap,by simp[St.ev,bu],⟨rfl,by simp[enc,gz,D]⟩,.Qq λt av h=>?_,λ_=>ze.Bq f o _ λ_ _ _ _=>⟨rfl,rfl⟩,λh=>by rw[H]at h;cases h⟩⟩;by_cases G:t=t0
      .subst G;rw[f]at h;cases h
      .simpa only[aJ _ _ G]using h
     |false=>
     rw[Q]at h;simp only[bq]at h;obtain⟨_,c0,h⟩:=bind_some h;have c0:=dp c0;have a0:xs≠[]:=by intro e;subst e;cases c0
     split at h
     .rename_i h' p0;obtain⟨⟨d0,e0⟩,q0⟩:=r9 b0;obtain⟨_,r0⟩:=mF p0;have f0:=l0 ⟨m,d0⟩;have R:U.ak m=.bi i e:=pe b0;have h:k (bif r then s.HF d m (O (l.length,xs.length)) h' else s.AQ d h') (O (l.length,xs.length))=O out:=h;have s0:∀d',aB s.b d'=Y->aB (bif r then s.HF d m (O (l.length,xs.length)) h' else s.AQ d h').b d'=Y:=λd' u=>by
       cases r with
       |true=>show aB (pJ _ _ _ (bB s.b d)) d'=Y;rw[eI,fN u];rfl|false=>exact fN u
      refine⟨_,_,h,by cases r;exact vv _ _;exact yr _ _ _ _,s0,λy I=>by cases r with|true=>exact FO I|false=>cases y<;>rfl,λq b=>?_⟩;obtain⟨C,z⟩:=b.bi o;have B:=J.ty _ _ C;obtain⟨A0,g0,u0⟩:=b.heap.push L e0 d0 q0 r0;have D:T.hz m=P.cellsOf e:=by rw[L.hz m i e R,B.cells]
      have f:=K q b;have h0:xs.map (enc T i)≠[]:=by simpa using a0
      have i0:eY T s.m h' (aa q.a (dI m l.length) (O (.bi e (xs.map (enc T i))))) (aa q.u (dI m l.length) W):=u0 (aa q.u (dI m l.length) W) (λj v0=>aJ _ _ v0);cases r with
      |true=>
       refine⟨_,.view (dI m l.length) (P.cellsOf e) xs.length,⟨λa w p=>Oc f0 z g0 h0 p,?_,?_,⟨rfl,by simp[enc,gz,D]⟩,V1 d _ _ _,(λh=>by cases h),λh=>by rw[H]at h;cases h⟩⟩
       .exact b.Z0 (c:=pI (dI m l.length) (P.cellsOf e)) o rfl (λbx g tick=>.val (.hs m) _ _ _ rfl ⟨rfl,by simp[enc,gz,D]⟩) i0
       .show bu (iM d (q.g d) _ (q.r t0))=_;rw[f];simp[iM,bu,pI]
      |false=>
       refine⟨_,.view (dI m l.length) (P.cellsOf e) xs.length,⟨λa w p=>Kk f0 t0 (by rw[f]) rfl z g0 h0 p,?_,?_,⟨rfl,by simp[enc,gz,D]⟩,.Qq λt av h=>?_,λ_=>?_,λh=>by rw[H]at h;cases h⟩⟩
       .exact b.Bq N _ i0
       .simp[St.ev,bu]
       .by_cases G:t=t0
        .subst G;rw[f]at h;cases h
        .simpa only[aJ _ _ G]using h
       .refine ze.Bq f o _ λk' i' x0 j0=>?_;have a0:dI k' i'≠dI m l.length:=λe=>by have:=(hg L x0 e0 e).1;subst this;rw[d0]at j0;cases j0
        exact⟨aJ _ _ a0,aJ _ _ a0⟩
     .cases h
    .cases h
   .
    rename_i t k B0;cases r with
    |false=>
     simp only[bq]at h;split at h
     .rename_i v hv;obtain⟨e',rfl⟩:=bN hv;subst e';refine⟨_,_,h,De _,λd' u=>fN u,λy I=>by cases y<;>rfl,λq b=>?_⟩;obtain⟨C,z⟩:=b.bi o;have B:=J.ty _ _ C;have f:=K q b;refine⟨_,.sl (xs.map (enc T i)),⟨λa w p=>?_,b.Bq N (.val (.sl (xs.map (enc T i)))) (A:=q.a) (Vloc:=q.u) b.heap,by simp[St.ev,bu],⟨B.ok,rfl⟩,.Qq λt av h=>?_,λ_=>ze.Bq f o _ λ_ _ _ _=>⟨rfl,rfl⟩,λh=>by rw[H]at h;cases h⟩⟩
      .have:=PX (s:=q) t0 d (by rw[f]) rfl z p;simpa[dh]using this
      .by_cases G:t=t0
       .subst G;rw[f]at h;cases h
       .simpa only[aJ _ _ G]using h
     .cases h
    |true=>
     simp only[bf]at h;split at h
     .rename_i v hv;obtain⟨e',rfl⟩:=bN hv;subst e';refine⟨_,_,h,vA _ _ _,λd' u=>?_,λy I=>FO I,λq b=>?_⟩
      .show aB (pJ _ _ _ (bB s.b d)) d'=Y;rw[eI,fN u];rfl
      .obtain ⟨C,z⟩:=b.bi o;have B:=J.ty _ _ C;have f:=K q b;refine⟨q.cv d λoff len=>O (.sl (((xs.map (enc T i)).drop off).take len)),.sl (xs.map (enc T i)),⟨λa w p=>tA z p,?_,?_,⟨B.ok,rfl⟩,O4 d _,(λh=>by cases h),λh=>by rw[H]at h;cases h⟩⟩
       .exact b.Z0 (c:=λoff len=>O (.sl (((xs.map (enc T i)).drop off).take len))) o (av:=.sl (xs.map (enc T i))) (by simp[dh]) (λbx g tick=>.val (.aq i) xs _ _ rfl ⟨B.ok,rfl⟩) b.heap
       .simp only[St.ev,St.cv,f];simp[iM,bu,dh]
     .cases h
  .cases h
 .split at h
  .rename_i v hv;refine⟨_,_,h,.refl s,λ_ h=>h,λ_ _=>rfl,λq b=>?_⟩;obtain⟨av,h1,y0⟩:=ns (b.ev x m0) hv;exact⟨q,av,.refl q,b,h1,y0,.refl q,λ_=>.refl s q,λ_=>⟨rfl,rfl⟩⟩
  .cases h
end
end Go.X
