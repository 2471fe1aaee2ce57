import Derived.Test.YtedadjfbbpjaiaaGreatZ4
set_option linter.all false
namespace Go.X
open Go Go.Ev
variable{d k k' i i' st:Nat}{C:Nat->Type}
section
inductive Ty where
 |int (k:IntKind)
 |bool
 |str
 |unit
 |list (t:Ty)
 |struct (n:Nat)
 |ref (t:Ty)
 |cell (t:Ty)
 |pair (a b:Ty)
 |fn (a b:Ty)
 |rJ (a b:Ty)
 |ptr (k:Nat)
 |hs (k:Nat)
 |mp (k:Nat)
 |mz (a b:Ty)
 |J9 (f:Nat) (t:Ty)
 |zq (k off:Nat)
 deriving DecidableEq,Inhabited
abbrev bE:=List UInt8
@[reducible] def den(C:Nat->Type):Ty->Type
  |.int _=>Int|.bool=>Bool
  |.str=>bE|.unit=>Unit
  |.list t=>List (den C t)|.struct n=>C n
  |.ref t=>Option (den C t)|.cell t=>den C t
  |.pair a b=>den C a×den C b|.fn a b=>den C a->Option (den C b)
  |.rJ a b=>den C a->C 0->Option (den C b×C 0)|.ptr _=>Option Nat
  |.hs _=>Option (Nat×Nat)|.mp _=>Option Nat
  |.mz a b=>den C a->C 0->Option (den C b×C 0)|.J9 _ t=>den C t
  |.zq _ _=>Nat
def zr:List Ty->Ty
 |[]=>.unit|[t]=>t
 |t::u::ts=>.pair t (zr (u::ts))
abbrev HL(C:Nat->Type)(ts:List Ty):Type:=den C (zr ts)
def il{C:Nat->Type}(t:Ty):(ts:List Ty)->den C t->HL C ts->HL C (t::ts)
 |[],x,_=>x|_::_,x,xs=>(x,xs)
def xP{C:Nat->Type}(t:Ty):(ts:List Ty)->HL C (t::ts)->den C t
 |[],x=>x|_::_,x=>x.1
def wZ{C:Nat->Type}(t:Ty):(ts:List Ty)->HL C (t::ts)->HL C ts
 |[],_=>()|_::_,x=>x.2
def eV{C:Nat->Type}(a b:Ty)(x:den C a):Option (den C b):=if h:a=b then some (h▸x)else none
inductive AK where
 |obj (t:Ty)
 |aT (t:Ty) (e:TypeId)
 |map (k v:Ty)
 deriving DecidableEq,Inhabited
@[reducible] def zu(C:Nat->Type):AK->Type
  |.obj t=>den C t|.aT t _=>Option (List (den C t))
  |.map k v=>List (den C k×den C v)
structure cm where
 C:Nat->Type
 fields:Nat->List Ty
 un:(n:Nat)->C n->HL C (fields n)
 make:(n:Nat)->HL C (fields n)->C n
 ak:Nat->AK
 get:(k:Nat)->C 0->List (zu C (ak k))
 set:(k:Nat)->C 0->List (zu C (ak k))->C 0
 nk:Nat
 em:Nat->Bool:=λ_=>false
mutual
def fg:Ty->Bool
 |.int _|.bool|.str|.struct _=>true|.list t=>fg t
 |.ref t=>fg t|.ptr _|.hs _|.mp _=>true
 |.J9 _ t=>okC t|.zq _ _=>true
 |_=>false
def okC:Ty->Bool
 |.pair t u=>okC t&&okC u|.cell t=>fg t
 |_=>false
end
def aE{σ α:Type}(f:(σ->Option α)->σ->Option α):Nat->σ->Option α
 |0,_=>none|n+1,x=>f (aE f n) x
def cP{σ α:Type}(h:σ)(k:σ->Option α):Option α:=k h
noncomputable def both {α:Type} (a b:Option α):Option α:=open Classical in if a=b then a else none
def aM{σ α:Type}(J:σ->Option α)(body:(σ->Option α)->Option α):Option α:=body J
section
variable(C:Nat->Type)
inductive R where
 |none
 |val (t:Ty) (x:den C t)
 |const (v:Value)
 |full (t:Ty) (xs:List (den C t))
 |loc (d k:Nat)
 |whole (d:Nat)
 |gl (d i k mn:Nat) (t:Ty) (x:den C t)
 |dn (t:Ty) (x:den C t) (k:Nat)
 |fb (rs:List R)
 |fn (f:FuncId) (caps:List R)
 |mI (tid:TypeId) (t:Ty) (x:den C t)
 |jZ (k:Nat) (i off:Nat)
 |jv (k:Nat) (i j off:Nat)
 |sub (d off n:Nat)
 |vc (rs:List R)
 |sC (r:R)
 |emp (t:Ty)
 |agg (n:Nat) (rs:List R)
 |nz (f:FuncId) (first:List R)
 |it
inductive B where
 |cells (t:Ty) (rs:List (R C))
 |aT (t:Ty) (e:TypeId) (xs:List (den C t))
structure S where
 r:List (Nat×Nat×R C)
 b:List (Nat×Nat×B C)
 tick:Nat
 h:C 0
 hv:Nat:=0
 m:Nat->Bool:=λ_=>true
end
variable{U:cm}{α:Type}
def ao{β:Type}:List (Nat×Nat×β)->Nat->Option (Nat×β)
 |[],_=>none|(d,st,x)::l,t=>bif Nat.beq d t then some (st,x)else ao l t
def iM(d:Nat):List Nat->Bool
 |[]=>false|e::l=>Nat.beq d e||iM d l
def bk{β:Type}:List (Nat×Nat×β)->Nat->List (Nat×Nat×β)
 |[],_=>[]|(d,st,x)::l,t=>bif Nat.beq d t then bk l t else(d,st,x)::bk l t
def S.look {C:Nat->Type} (s:S C) (t:Nat):R C:=match ao s.r t with
 |some (_,x)=>x|none=>.none
def S.box {C:Nat->Type} (s:S C) (d:Nat):Option (B C):=match ao s.b d with
 |some (_,x)=>some x|none=>none
def S.mn {C:Nat->Type} (s:S C) (d:Nat):Nat:=match ao s.b d with
 |some (v,_)=>v|none=>0
def S.ev {C:Nat->Type} (s:S C):Operand->R C
 |.tmp t=>s.look t|.const v=>.const v
 |.global _=>.none|.func f=>.fn f []
def S.put {C:Nat->Type} (s:S C) (dst:Option Nat) (x:R C):S C:=match dst with
 |some d=>{s with r:=(d,s.tick,x)::s.r,tick:=s.tick+1}|none=>s
mutual
def R.mentions {C:Nat->Type} (d:Nat):R C->Bool
 |.loc d' _=>Nat.beq d' d|.whole d'=>Nat.beq d' d
 |.gl d' _ _ _ _ _=>Nat.beq d' d|.fb rs=>cF d rs
 |.fn _ rs=>cF d rs|.sub d' _ _=>Nat.beq d' d
 |.vc rs=>cF d rs|.sC r=>r.mentions d
 |.agg _ rs=>cF d rs|.nz _ rs=>cF d rs
 |_=>false
def cF{C:Nat->Type}(d:Nat):List (R C)->Bool
 |[]=>false|r::rs=>r.mentions d||cF d rs
end
def B.mentions {C:Nat->Type} (d:Nat):B C->Bool
 |.cells _ rs=>cF d rs|.aT _ _ _=>false
def lQ{C:Nat->Type}(d tick:Nat):List (Nat×Nat×R C)->List (Nat×Nat×R C)
 |[]=>[]|(t,st,x)::l=>bif x.mentions d then(t,tick,.none)::lQ d tick l else(t,st,x)::lQ d tick l
def oy{C:Nat->Type}(d:Nat):List (Nat×Nat×B C)->Bool
 |[]=>true|(_,_,x)::l=>!x.mentions d&&oy d l
def S.drop {C:Nat->Type} (s:S C) (d:Nat):S C:={s with b:=bk s.b d}
def S.new {C:Nat->Type} (s:S C) (d:Nat) (x:B C) (k:S C->Option α):Option α:=bif oy d s.b&&!x.mentions d then k {s with r:=lQ d s.tick s.r,b:=(d,s.tick,x)::bk s.b d,tick:=s.tick+1}else none
def S.gR {C:Nat->Type} (s:S C) (d:Nat) (x:B C):S C:={s with b:=(d,s.tick,x)::bk s.b d,tick:=s.tick+1}
def De{C:Nat->Type}(d tick:Nat)(v:R C):List (Nat×Nat×R C)->List (Nat×Nat×R C)
 |[]=>[]|(q,st,.whole d')::l=>bif Nat.beq d' d then(q,tick,v)::De d tick v l else(q,st,.whole d')::De d tick v l
 |e::l=>e::De d tick v l
def M0{C:Nat->Type}(d:Nat)(v:R C):List (R C)->List (R C)
 |[]=>[]|.whole d'::l=>(bif Nat.beq d' d then v else .whole d')::M0 d v l
 |e::l=>e::M0 d v l
def rK{C:Nat->Type}(d tick:Nat)(v:R C):List (Nat×Nat×B C)->List (Nat×Nat×B C)
 |[]=>[]|(q,st,.cells u rs)::l=>bif cF d rs then(q,tick,.cells u (M0 d v rs))::rK d tick v l else(q,st,.cells u rs)::rK d tick v l
 |e::l=>e::rK d tick v l
def S.freeze {C:Nat->Type} (s:S C) (d:Nat) (t:Ty) (xs:List (den C t)):S C:={s with r:=De d s.tick (.val (.list t) xs) s.r,b:=rK d s.tick (.val (.list t) xs) (bk s.b d),tick:=s.tick+1}
def S.Ka {C:Nat->Type} (s:S C) (d k:Nat) (v:Option (Nat×Nat)) (h:C 0):S C:={r:=De d s.tick (.val (.hs k) v) s.r,b:=rK d s.tick (.val (.hs k) v) (bk s.b d),tick:=s.tick+1,h:=h,hv:=s.tick,m:=s.m}
def S.HY {C:Nat->Type} (s:S C) (d:Nat) (h:C 0):S C:={r:=s.r,b:=bk s.b d,tick:=s.tick+1,h:=h,hv:=s.tick,m:=s.m}
def S.cP {C:Nat->Type} {α:Type} (s:S C) (h:C 0) (k:S C->Option α):Option α:=Go.X.cP h λh=>k {s with h:=h,hv:=s.tick,tick:=s.tick+1}
section
variable(U:cm)
def M1{C:Nat->Type}{a b:AK}(e:a=b)(x:List (zu C a)):List (zu C b):=e▸x
def vQ(a:AK)(k:Nat)(h:U.C 0):Option (List (zu U.C a)):=if e:U.ak k=a then some (M1 e (U.get k h))else none
def BZ(a:AK)(k:Nat)(h:U.C 0)(l:List (zu U.C a)):Option (U.C 0):=if e:U.ak k=a then some (U.set k h (M1 e.symm l))else none
def Q5(k:Nat)(t:Ty)(s:S U.C):Option (List (den U.C t)):=bif s.m k&&Nat.blt k U.nk then vQ U (.obj t) k s.h else none
def HZ(k:Nat)(t:Ty)(s:S U.C)(l:List (den U.C t)):Option (U.C 0):=bif s.m k&&Nat.blt k U.nk then BZ U (.obj t) k s.h l else none
def H0(k:Nat)(t:Ty)(e:TypeId)(s:S U.C):Option (List (Option (List (den U.C t)))):=bif s.m k&&Nat.blt k U.nk then vQ U (.aT t e) k s.h else none
def Cd(k:Nat)(t:Ty)(e:TypeId)(s:S U.C)(l:List (Option (List (den U.C t)))):Option (U.C 0):=bif s.m k&&Nat.blt k U.nk then BZ U (.aT t e) k s.h l else none
def maps(k:Nat)(a b:Ty)(s:S U.C):Option (List (List (den U.C a×den U.C b))):=bif s.m k&&Nat.blt k U.nk then vQ U (.map a b) k s.h else none
def H2(k:Nat)(a b:Ty)(s:S U.C)(l:List (List (den U.C a×den U.C b))):Option (U.C 0):=bif s.m k&&Nat.blt k U.nk then BZ U (.map a b) k s.h l else none
end
def fk{β:Type}(l:List (Option (List β)))(i:Nat):Option (List β):=Option.bind (l[i]?) id
def jw{β:Type}(l:List (Option (List β)))(p:Option (Nat×Nat)):Option (List β):=match p with
 |none=>some []|some (i,n)=>(fk l i).bind λxs=>bif Nat.ble n xs.length&&Nat.blt 0 n then some (List.take n xs)else none
def ZL(p:Option (Nat×Nat)):Nat:=match p with
 |none=>0|some (_,n)=>n
def nZ{β:Type}(l:List (Option (List β)))(p:Option (Nat×Nat)):List (Option (List β)):=match p with
 |none=>l|some (i,_)=>l.set i none
def eG:Value->Bool
 |.slice none 0 0=>true|_=>false
def gV{C:Nat->Type}:(t:Ty)->Value->Option (den C t)
 |.int k,.int k' n=>if k=k' then some n else none|.bool,.bool b=>some b
 |.str,.string s=>some s.data.toList|.list _,.slice none 0 0=>some []
 |.ref _,.pointer none=>some none|.ptr _,.pointer none=>some none
 |.mp _,.map none=>some none|_,_=>none
def tw{β:Type}(f:Ty->Option (List β)):List Ty->Option (List β)
 |[]=>some []|t::ts=>match f t,tw f ts with
  |some x,some xs=>some (x++xs)|_,_=>none
def pk(U:cm):Nat->Ty->Option (List (R U.C))
 |_,.int k=>some [.val (.int k) (0:Int)]|_,.bool=>some [.val .bool false]
 |_,.str=>some [.val .str ([]:bE)]|_,.list t=>some [.full t []]
 |_,.ref t=>some [.val (.ref t) none]|_,.ptr k=>some [.val (.ptr k) none]
 |_,.hs k=>some [.val (.hs k) none]|_,.mp k=>bif Nat.blt k 1000 then some [.val (.mp k) none]else none
 |k+1,.struct n=>tw (pk U k) (U.fields n)|_,_=>none
def ux{C:Nat->Type}(f:(t:Ty)->den C t->List (R C)):(ts:List Ty)->HL C ts->List (R C)
 |[],_=>[]|t::ts,x=>f t (xP t ts x)++ux f ts (wZ t ts x)
def oz(U:cm):Nat->(t:Ty)->den U.C t->List (R U.C)
 |k+1,.struct n,x=>ux (oz U k) (U.fields n) (U.un n x)|_,t,x=>[.val t x]
def kV(f:Ty->List Ty):List Ty->List Ty
 |[]=>[]|t::ts=>f t++kV f ts
def im(U:cm):Nat->Ty->List Ty
 |k+1,.struct n=>kV (im U k) (U.fields n)|_,t=>[t]
def H3{C:Nat->Type}(t:Ty):R C->Option (den C t)
 |.dn t' x 0=>eV (.cell t') t x|_=>none
def tx{C:Nat->Type}:(us:Ty)->List (R C)->Option (den C us)
 |.pair t u,r::l=>match H3 t r,tx u l with
  |some x,some y=>some (x,y)|_,_=>none
 |t,[r]=>H3 t r|_,_=>none
def fV{C:Nat->Type}(t:Ty):R C->Option (den C t)
 |.val t' x=>eV t' t x|.const v=>bif fg t then gV t v else none
 |.full t' xs=>eV (.list t') t xs|.dn t' x 0=>match eV (.cell t') t x with
  |some v=>some v|none=>eV (C:=C) (.ref t') t (some x)
 |.sC (.val (.rJ a b) φ)=>eV (C:=C) (.mz a b) t φ|.jZ k i off=>eV (C:=C) (.zq k off) t i
 |.fn f caps=>match t with
  |.J9 f' us=>bif Nat.beq f f'&&okC us then tx us caps else none|_=>none
 |_=>none
def nK{C:Nat->Type}(f:(t:Ty)->List (R C)->Option (den C t×List (R C))):(ts:List Ty)->List (R C)->Option (HL C ts×List (R C))
 |[],l=>some ((),l)|t::ts,l=>match f t l with
  |some (x,l')=>match nK f ts l' with
   |some (xs,l'')=>some (il t ts x xs,l'')|none=>none
  |none=>none
def lS(U:cm):Nat->(t:Ty)->List (R U.C)->Option (den U.C t×List (R U.C))
 |k+1,.struct n,l=>match nK (lS U k) (U.fields n) l with
  |some (x,l')=>some (U.make n x,l')|none=>none
 |_,t,r::l=>match fV t r with
  |some x=>some (x,l)|none=>none
 |_,_,[]=>none
def iF(f:Ty->Nat):List Ty->Nat
 |[]=>0|t::ts=>f t+iF f ts
def bj(U:cm):Nat->Ty->Nat
 |k+1,.struct n=>iF (bj U k) (U.fields n)|_,_=>1
abbrev D:Nat:=6
def aL:Ty->Bool
 |.struct _=>true|_=>false
def qN(U:cm):Nat->List Ty->Nat->Option (Nat×Ty)
 |_,[],_=>none|o,t::_,0=>some (o,t)
 |o,t::ts,f+1=>qN U (o+bj U D t) ts f
def fieldAt(U:cm)(t:Ty)(f:Nat):Option (Nat×Ty):=match t with
 |.struct n=>match qN U 0 (U.fields n) f with
  |some (o,t)=>bif Nat.blt 0 (bj U D t)then some (o,t)else none|none=>none
 |_=>none
def qO{β:Type}:Nat->List β->List β
 |0,l=>l|n+1,_::l=>qO n l
 |_+1,[]=>[]
def Kb(U:cm)(t:Ty)(k:Nat)(rs:List (R U.C)):Option (R U.C):=
 bif aL t then match lS U D t (qO k rs)with
  |some (x,_)=>some (.val t x)|none=>none
 else(qO k rs).head?
def vR{β:Type}(k:Nat)(vs rs:List β):List β:=rs.take k++vs++qO vs.length (qO k rs)
inductive RK where
 |v (t:Ty)
 |own (t:Ty) (e:TypeId)
def RK.ty:RK->Ty
 |.v t=>t|.own t _=>.list t
def RK.eU:RK->Bool
 |.v _=>false|.own _ _=>true
def iG(U:cm)(p:Option (TypeId×Ty))(β:Type):Type:=match p with
 |none=>β|some (_,t)=>Except (den U.C t) β
structure tz(U:cm)where
 tid:TypeId
 t:Ty
 x:den U.C t
def B1{ε β γ:Type}(r:Except ε β)(f:ε->γ)(g:β->γ):γ:=match r with
 |.error e=>f e|.ok y=>g y
def vd{β γ:Type}(p:Option (TypeId×Ty))(r:iG U p β)(f:tz U->γ)(g:β->γ):γ:=match p,r with
 |none,r=>g r|some (tid,t),r=>B1 r (λe=>f ⟨tid,t,e⟩) g
def zw{β:Type}(p:Option (TypeId×Ty))(y:β):iG U p β:=match p with
 |none=>y|some (_,t)=>Except.ok (ε:=den U.C t) y
def Fs{β:Type}(p:Option (TypeId×Ty))(q:tz U):Option (iG U p β):=match p with
 |none=>none|some (tid,t)=>bif Nat.beq q.tid tid then match eV q.t t q.x with
   |some e=>some (Except.error (ε:=den U.C t) e)|none=>none
  else none
inductive Run(U:cm)(ps:List Ty)(rs:List RK)(cG:Option (TypeId×Ty))where
 |pure (f:HL U.C ps->Option (iG U cG (HL U.C (rs.map RK.ty))))
 |rd (f:HL U.C ps->U.C 0->Option (iG U cG (HL U.C (rs.map RK.ty))))
 |st (f:HL U.C ps->U.C 0->Option (iG U cG (HL U.C (rs.map RK.ty))×U.C 0))
structure ca(U:cm)where
 ps:List Ty
 rs:List RK
 cG:Option (TypeId×Ty)
 run:Run U ps rs cG
structure Ctx(U:cm)where
 ty:TypeId->Option Ty
 elem:TypeId->Option TypeId
 bytes:TypeId->Nat
 mA:FuncId->List (ca U)
 N:Nat
 wr:Bool:=true
 M3:TypeId->Bool:=λ_=>false
 Tr:TypeId->Bool:=λ_=>false
 mq:TypeId->Option TypeId:=λ_=>none
section
variable(X:Ctx U)(kx:tz U->S U.C->Option α)
def S.val (fz:Bool) (s:S U.C) (r:R U.C) (t:Ty) (k:S U.C->den U.C t->Option α):Option α:=
 match r with
 |.whole d=>match s.box d with
   |some (.aT t' e xs)=>match t,k with
    |.hs m,k=>match H0 U m t' e s with
     |some l=>bif U.em m&&(fz&&xs.isEmpty)then k (s.Ka d m (some (l.length,0)) s.h) (some (l.length,0))else(db (!xs.isEmpty)).bind λ_=>match Cd U m t' e s (l++[some xs])with
      |some h'=>Go.X.cP h' λh'=>k (bif fz then s.Ka d m (some (l.length,xs.length)) h' else s.HY d h') (some (l.length,xs.length))|none=>none
     |none=>none
    |t,k=>bif fz then match eV (.list t') t xs with
     |some v=>k (s.freeze d t' xs) v|none=>none
     else none
   |_=>none
 |r=>match fV t r with
  |some v=>k s v|none=>none
def Kc(op:BinOp)(k:IntKind)(x y:Int)(K:(t:Ty)->den U.C t->Option α):Option α:=
 match op with
 |.add=>K (.int k) (k.wrap (x+y))|.sub=>K (.int k) (k.wrap (x-y))
 |.mul=>K (.int k) (k.wrap (x*y))|.quo=>(db (decide (y≠0))).bind λ_=>K (.int k) (k.wrap (x.tdiv y))
 |.rem=>(db (decide (y≠0))).bind λ_=>K (.int k) (x.tmod y)|.and=>K (.int k) (k.wrap (BitVec.ofInt k.bits x&&&BitVec.ofInt k.bits y).toNat)
 |.or=>K (.int k) (k.wrap (BitVec.ofInt k.bits x|||BitVec.ofInt k.bits y).toNat)
 |.xor=>K (.int k) (k.wrap (BitVec.ofInt k.bits x^^^BitVec.ofInt k.bits y).toNat)|.andNot=>K (.int k) (k.wrap (BitVec.ofInt k.bits x&&&~~~BitVec.ofInt k.bits y).toNat)
 |.shl=>(db (decide (0<=y))).bind λ_=>K (.int k) (k.wrap (x*2^(min y.toNat k.bits)))|.shr=>(db (decide (0<=y))).bind λ_=>K (.int k) (x.fdiv (2^(min y.toNat k.bits)))
 |.eql=>K .bool (x==y)|.neq=>K .bool (!(x==y))
 |.lss=>K .bool (decide (x<y))|.leq=>K .bool (decide (x<=y))
 |.gtr=>K .bool (decide (y<x))|.geq=>K .bool (decide (y<=x))
def Ts(op:BinOp)(x y:bE)(K:(t:Ty)->den U.C t->Option α):Option α:=
 match op with
 |.add=>(db (decide (x.length+y.length<=maxLen))).bind λ_=>K .str (x++y)|.eql=>K .bool (x==y)
 |.neq=>K .bool (!(x==y))|.lss=>K .bool (Op.bytesLess x y)
 |.leq=>K .bool (Op.bytesLess x y||x==y)|.gtr=>K .bool (!(Op.bytesLess x y||x==y))
 |.geq=>K .bool (!Op.bytesLess x y)|_=>none
def rL{C:Nat->Type}(f:(t:Ty)->den C t->den C t->Option Bool):(ts:List Ty)->HL C ts->HL C ts->Option Bool
 |[],_,_=>some true|t::ts,x,y=>match f t (xP t ts x) (xP t ts y),rL f ts (wZ t ts x) (wZ t ts y)with
  |some a,some b=>some (a&&b)|_,_=>none
@[reducible] def gK(x y:Int):Bool:=x==y
@[reducible] def zx(x y:Bool):Bool:=x==y
@[reducible] def eqStr(x y:bE):Bool:=x==y
def ZM{C:Nat->Type}:(t:Ty)->den C t->den C t->Option Bool
 |.int _,x,y=>some (gK x y)|.bool,x,y=>some (zx x y)
 |.str,x,y=>some (eqStr x y)|_,_,_=>none
def H4:Operand->Bool
 |.const (.slice none 0 0)=>true|_=>false
def xQ{C:Nat->Type}:R C->Bool
 |.const (.pointer none)=>true|_=>false
def Df{C:Nat->Type}:R C->Bool
 |.const (.map none)=>true|_=>false
def aa4(o:Oper)(op:BinOp)(t:Ty)(x y:R U.C)(ty:Option Ty)(K:(t:Ty)->den U.C t->Option α):Option α:=
 match t with
 |.int k=>match fV (.int k) x with
  |none=>none|some a=>match y with
   |.val (.int k') b=>bif decide (k'=k)||lL op then Kc op k a b K else none|.const (.int k' b)=>bif decide (k'=k)||lL op then Kc op k a b K else none
   |_=>none
 |.str=>match fV .str x,fV .str y with
  |some a,some b=>Ts op a b K|_,_=>none
 |.bool=>match fV .bool x,fV .bool y with
  |some a,some b=>match op with
   |.eql=>K .bool (zx a b)|.neq=>K .bool (!(zx a b))
   |_=>none
  |_,_=>none
 |.ptr k=>match fV (.ptr k) x,xQ y with
  |some a,true=>match op with
   |.eql=>K .bool (Option.isNone (α:=Nat) a)|.neq=>K .bool (!Option.isNone (α:=Nat) a)
   |_=>none
  |_,_=>none
 |.mp k=>match fV (.mp k) x,Df y with
  |some a,true=>match op with
   |.eql=>K .bool (Option.isNone (α:=Nat) a)|.neq=>K .bool (!Option.isNone (α:=Nat) a)
   |_=>none
  |_,_=>none
 |.ref k=>match fV (.ref k) x,xQ y with
  |some a,true=>match op with
   |.eql=>K .bool (Option.isNone (α:=den U.C k) a)|.neq=>K .bool (!Option.isNone (α:=den U.C k) a)
   |_=>none
  |_,_=>none
 |.struct n=>match fV (.struct n) x,fV (.struct n) y with
  |some a,some b=>match rL ZM (U.fields n) (U.un n a) (U.un n b)with
   |some e=>match op with
    |.eql=>K .bool e|.neq=>K .bool (!e)
    |_=>none
   |none=>none
  |_,_=>none
 |_=>none
def qh(s:S U.C)(dflt:Option Int):Option Operand->Option (Option Int)
 |none=>some dflt|some x=>match s.ev x with
  |.val (.int _) m=>some (some m)|.const (.int _ m)=>some (some m)
  |_=>none
def zy{β:Type}(xs:List β)(lo hi:Option Int)(K:List β->Option α):Option α:=
 match lo,hi with
 |none,none=>K xs|some l,none=>(db (decide (0<=l)&&decide (l.toNat<=xs.length))).bind λ_=>K (xs.drop l.toNat)
 |none,some h=>(db (decide (0<=h)&&decide (h.toNat<=xs.length))).bind λ_=>K (xs.take h.toNat)|some l,some h=>(db (decide (0<=l)&&(decide (0<=h)&&(decide (l.toNat<=h.toNat)&&decide (h.toNat<=xs.length))))).bind λ_=>K ((xs.take h.toNat).drop l.toNat)
def Ft{C:Nat->Type}:R C->Option Int
 |.val (.int _) m=>some m|.const (.int _ m)=>some m
 |_=>none
def AY{C:Nat->Type}:R C->Option Bool
 |.val .bool b=>some b|.const (.bool b)=>some b
 |_=>none
def OG(t:Ty)(te:Ty)(x:den U.C te)(k:Nat):Option (den U.C t):=
 bif Nat.beq k 0&&decide (te=t)then eV te t x else
 match lS U D t (qO k (oz U D te x))with
 |some (v,_)=>some v|none=>none
def setAt(t:Ty)(te:Ty)(x:den U.C te)(k:Nat)(v:den U.C t):Option (den U.C te):=
 bif Nat.beq k 0&&decide (t=te)then eV t te v else
 bif aL te&&Nat.ble (k+bj U D t) (bj U D te)then match lS U D te (vR k (oz U D t v) (oz U D te x))with
 |some (y,_)=>some y|none=>none
 else none
def H5(t:Ty)(te:Ty)(x:den U.C te)(k:Nat):Option (R U.C):=
 bif aL t then match OG t te x k with
  |some v=>some (.val t v)|none=>none
 else(qO k (oz U D te x)).head?
def Q6(U:cm)(t:Ty)(te:Ty)(k:Nat):Option Ty:=bif aL t then some t else match(qO k (im U D te)).head? with
 |some t'=>bif aL t'||!fg t' then none else some t'|none=>none
def Dg(s:S U.C)(t:Ty)(p:R U.C)(K:R U.C->Option α):Option α:=
 match p with
 |.loc d k=>match s.box d with
  |some (.cells _ rs)=>match Kb U t k rs with
   |some r=>K r|none=>none
  |_=>none
 |.gl d i k mn te x=>match s.box d with
  |some (.aT Fu _ xs)=>bif Nat.beq mn (s.mn d)then match H5 t te x k with
    |some v=>K v|none=>none
   else(xs[i]?).bind λy=>match H5 t Fu y k with
    |some v=>K v|none=>none
  |_=>none
 |.dn te x k=>match H5 t te x k with
  |some v=>K v|none=>none
 |.val (.ref te) p=>Option.bind (α:=den U.C te) p λx=>match H5 t te x 0 with
  |some v=>K v|none=>none
 |.jZ k i off=>H6 U s t k i off K|.val (.ptr k) p=>Option.bind (α:=Nat) p λi=>H6 U s t k i 0 K
 |.jv k i j off=>match U.ak k with
  |.aT te e=>match bif decide (X.ty e=some te)then H0 U k te e s else none with
   |some l=>(fk l i).bind λxs=>Option.bind (α:=den U.C te) (xs[j]?) λx=>match H5 t te x off with
    |some v=>K v|none=>none
   |none=>none
  |_=>none
 |_=>none
 where H6 (U:cm) (s:S U.C) (t:Ty) (k i off:Nat) (K:R U.C->Option α):Option α:=match U.ak k with
 |.obj te=>match Q5 U k te s with
  |some l=>Option.bind (α:=den U.C te) (l[i]?) λx=>match H5 t te x off with
   |some v=>K v|none=>none
  |none=>none
 |_=>none
def OH(s:S U.C)(t:Ty):R U.C->Option (R U.C)
 |.whole d=>match s.box d with
  |some (.aT _ _ _)=>some (.whole d)|_=>none
 |.loc d k=>match s.box d with
  |some (.cells _ _)=>some (.loc d k)|_=>none
 |.fn f caps=>some (.fn f caps)|.full t' xs=>bif decide (t=.list t')then some (.full t' xs)else none
 |.const v=>bif eG v then match t with
   |.list t'=>bif fg t' then some (.full t' [])else none|_=>none
  else bif fg t then match gV t v with
   |some x=>some (.val t x)|none=>none
   else none
 |.val t' x=>match eV t' t x with
  |some x=>bif fg t then some (.val t x)else none|none=>none
 |_=>none
def H7(fz:Bool)(s:S U.C)(t:Ty)(p v:R U.C)(K:S U.C->Option α):Option α:=
 match p with
 |.loc d k=>match s.box d with
  |some (.cells u rs)=>bif aL t then match fV t v with
    |some x=>bif Nat.ble (k+bj U D t) rs.length then K (s.gR d (.cells u (vR k (oz U D t x) rs)))else none|none=>match v with
     |.agg m vs=>bif decide (t=.struct m)&&(Nat.beq vs.length (bj U D t)&&Nat.ble (k+bj U D t) rs.length)then K (s.gR d (.cells u (vR k vs rs)))else none|_=>none
   else match Q6 U t u k with
    |some t'=>match OH s t' v with
     |some r=>bif Nat.blt k rs.length then K (s.gR d (.cells u (vR k [r] rs)))else none|none=>none
    |none=>none
  |_=>none
 |.gl d i k mn te x=>match Q6 U t te k with
  |some t'=>S.val fz s v t' λs v=>match s.box d with
   |some (.aT Fu e xs)=>bif Nat.beq mn (s.mn d)then match eV te Fu x with
     |some x=>match setAt t' Fu x k v with
      |some y=>K (s.gR d (.aT Fu e (xs.set i y)))|none=>none
     |none=>none
    else(xs[i]?).bind λx=>match setAt t' Fu x k v with
     |some y=>K (s.gR d (.aT Fu e (xs.set i y)))|none=>none
   |_=>none
  |none=>none
 |.jZ k i off=>Ce fz s t k i off v K|.val (.ptr k) p=>Option.bind (α:=Nat) p λi=>Ce fz s t k i 0 v K
 |.jv k i j off=>match U.ak k with
  |.aT te e=>match bif decide (X.ty e=some te)then Q6 U t te off else none with
   |some t'=>S.val fz s v t' λs v=>match H0 U k te e s with
    |some l=>(fk l i).bind λxs=>Option.bind (α:=den U.C te) (xs[j]?) λx=>match setAt t' te x off v with
     |some y=>match Cd U k te e s (l.set i (some (xs.set j y)))with
      |some h'=>s.cP h' K|none=>none
     |none=>none
    |none=>none
   |none=>none
  |_=>none
 |_=>none
 where Ce (fz:Bool) (s:S U.C) (t:Ty) (k i off:Nat) (v:R U.C) (K:S U.C->Option α):Option α:=match U.ak k with
 |.obj te=>match Q6 U t te off with
  |some t'=>S.val fz s v t' λs v=>match Q5 U k te s with
   |some l=>Option.bind (α:=den U.C te) (l[i]?) λx=>match setAt t' te x off v with
    |some y=>match HZ U k te s (l.set i y)with
     |some h'=>s.cP h' K|none=>none
    |none=>none
   |none=>none
  |none=>none
 |_=>none
def vS(s:S U.C)(t:Ty)(f:Nat)(p:R U.C)(K:R U.C->Option α):Option α:=
 match fieldAt U t f with
 |some (off,_)=>match p with
  |.loc d k=>match s.box d with
   |some (.cells _ _)=>K (.loc d (k+off))|_=>none
  |.gl d i k mn te x=>match s.box d with
   |some (.aT _ _ _)=>K (.gl d i (k+off) mn te x)|_=>none
  |.dn te x k=>K (.dn te x (k+off))|.val (.ref te) p=>Option.bind (α:=den U.C te) p λx=>K (.dn te x off)
  |.jZ k i o=>K (.jZ k i (o+off))|.val (.ptr k) p=>Option.bind (α:=Nat) p λi=>K (.jZ k i off)
  |.jv k i j o=>K (.jv k i j (o+off))|_=>none
 |none=>none
def vT(s:S U.C)(t:Ty)(el:TypeId)(x:R U.C)(i:Int)(K:R U.C->Option α):Option α:=
 match x with
 |.val (.list te) xs=>bif decide (te=t)then Option.bind (α:=den U.C te) (aA (α:=den U.C te) xs i) λz=>K (.dn te z 0)else none|.full te xs=>bif decide (te=t)then(aA xs i).bind λz=>K (.dn te z 0)else none
 |.whole d=>match s.box d with
  |some (.aT te e xs)=>bif decide (te=t)&&Nat.beq e el then(aA xs i).bind λz=>K (.gl d i.toNat 0 (s.mn d) te z)else none|_=>none
 |.val (.hs k) p=>match U.ak k with
  |.aT te e=>bif decide (te=t)&&Nat.beq e el then Option.bind (α:=Nat×Nat) p λq=>(db (decide (0<=i)&&decide (i<(q.2:Int)))).bind λ_=>K (.jv k q.1 i.toNat 0)else none|_=>none
 |_=>none
def Tt(s:S U.C)(te:Ty)(el:TypeId):R U.C->Option (List (den U.C te))
 |.val t' xs=>eV t' (.list te) xs|.full t' xs=>eV (.list t') (.list te) xs
 |.const v=>bif eG v then some []else none|.whole d=>match s.box d with
  |some (.aT t' e' xs)=>bif Nat.beq e' el then eV (.list t') (.list te) xs else none|_=>none
 |.sub d off n=>match s.box d with
  |some (.aT t' e' xs)=>bif Nat.beq e' el then match eV (.list t') (.list te) xs with
    |some xs=>some (List.take n (List.drop off xs))|none=>none
   else none
  |_=>none
 |_=>none
def Xd(s:S U.C)(te:Ty)(el:TypeId)(r:R U.C)(K:List (den U.C te)->Option α):Option α:=
 match r with
 |.val (.hs k) p=>match U.ak k with
  |.aT _ e=>bif Nat.beq e el then match H0 U k te e s with
   |some l=>(jw l p).bind K|none=>none
   else none
  |_=>none
 |r=>match Tt s te el r with
  |some ys=>K ys|none=>none
def aa5(s:S U.C):R U.C->Option Nat
 |.val (.list t) xs=>some (List.length (α:=den U.C t) xs)|.val (.hs _) p=>some (ZL p)
 |.full _ xs=>some xs.length|.const v=>match v with
  |.slice none 0 0=>some 0|_=>none
 |.whole d=>match s.box d with
  |some (.aT _ _ xs)=>some xs.length|_=>none
 |_=>none
def fits(b n:Nat)(m:Nat):Bool:=decide (n<=maxLen)&&decide (n*b<=m)
def Gh{C:Nat->Type}(d:Nat):R C->Bool
 |.whole d'=>Nat.beq d' d|.sub d' _ _=>Nat.beq d' d
 |.val (.hs _) _=>true|_=>false
def OI(fz:Bool)(s:S U.C)(dst:Option Nat)(e:TypeId)(te:Ty)(ox:Operand)(y:R U.C)(K:S U.C->Option α):Option α:=
 match dst with
 |some d=>Xd s te e y λys=>match s.ev ox with
  |.whole d'=>match s.box d' with
   |some (.aT t' e' xs)=>match eV (.list t') (.list te) xs,Nat.beq e' e with
    |some xs,true=>(db (fits (X.bytes e) (List.length (α:=den U.C te) xs+ys.length) 140737488355328)).bind λ_=>(s.drop d').new d (.aT te e (List.append (α:=den U.C te) xs ys)) λs=>K (s.put dst (.whole d))|_,_=>none
   |_=>none
  |.val (.hs k) p=>bif Gh d y then none else match ox,H0 U k te e s with
   |.tmp t,some l=>(jw l p).bind λxs=>(db (fits (X.bytes e) (xs.length+ys.length) 140737488355328)).bind λ_=>match Cd U k te e s (nZ l p)with
    |some h'=>(s.put (some t) .none).cP h' λs=>s.new d (.aT te e (xs++ys)) λs=>K (s.put dst (.whole d))|none=>none
   |_,_=>none
  |.full t' xs=>match eV (.list t') (.list te) xs with
   |some xs=>(db ((List.isEmpty (α:=den U.C te) xs||!ys.isEmpty)&&fits (X.bytes e) (List.length (α:=den U.C te) xs+ys.length) 140737488355328)).bind λ_=>s.new d (.aT te e (List.append (α:=den U.C te) xs ys)) λs=>K (s.put dst (.whole d))|none=>none
  |.const v=>bif eG v then(db (fits (X.bytes e) ys.length 140737488355328)).bind λ_=>s.new d (.aT te e ys) λs=>K (s.put dst (.whole d))else none|_=>none
 |none=>none
def vU(s:S U.C):List Operand->List (R U.C)
 |[]=>[]|x::l=>s.ev x::vU s l
def Kd{C:Nat->Type}:(ts us:List Ty)->HL C ts->HL C us->HL C (ts++us)
 |[],_,_,y=>y|t::ts,us,x,y=>il t (ts++us) (xP t ts x) (Kd ts us (wZ t ts x) y)
def Ke:Nat->Ty->List Ty
 |0,_=>[]|1,t=>[t]
 |n+2,.pair t u=>t::Ke (n+1) u|_+2,_=>[]
def Dh{C:Nat->Type}:(ts:List Ty)->List (R C)->Option (HL C ts)
 |[],[]=>some ()|t::ts,r::rs=>match fV t r,Dh ts rs with
  |some x,some xs=>some (il t ts x xs)|_,_=>none
 |_,_=>none
def cutAt{β:Type}:Nat->List β->List β×List β
 |0,l=>([],l)|n+1,x::l=>let p:=cutAt n l;(x::p.1,p.2)
 |_+1,[]=>([],[])
def OJ{C:Nat->Type}{a b:Ty}(h:b=a)(x:den C a):den C b:=h▸x
def OK{C:Nat->Type}{ts us:List Ty}(h:us=ts)(x:HL C ts):HL C us:=h▸x
def ZN{C:Nat->Type}{a b:Ty}(h:a=b)(x:Option (den C a)):Option (den C b):=h▸x
def kK(a b:Ty)(caps:List (R U.C)):List (ca U)->Option (den U.C a->Option (den U.C b))
 |[]=>none|⟨ps,rs,none,.pure run⟩::l=>
   let qs:=Ke (ps.length-caps.length) a;let us:=(cutAt qs.length ps).2;match Dh us caps with
   |some y=>if h1:zr qs=a then if h2:zr (rs.map RK.ty)=b then if h3:ps=qs++us then bif rs.all (λr=>!r.eU)&&qs.all fg then some λx=>ZN h2 (run (OK h3 (Kd qs us (OJ h1 x) y)))else kK a b caps l else kK a b caps l else kK a b caps l else kK a b caps l|none=>kK a b caps l
 |_::l=>kK a b caps l
def ZO{C:Nat->Type}{a b:Ty}{σ:Type}(h:a=b)(x:Option (den C a×σ)):Option (den C b×σ):=h▸x
def xR(a b:Ty)(caps:List (R U.C)):List (ca U)->Option (den U.C a->U.C 0->Option (den U.C b×U.C 0))
 |[]=>none|⟨ps,rs,none,.st run⟩::l=>
   let qs:=Ke (ps.length-caps.length) a;let us:=(cutAt qs.length ps).2;match Dh us caps with
   |some y=>if h1:zr qs=a then if h2:zr (rs.map RK.ty)=b then if h3:ps=qs++us then bif rs.all (λr=>!r.eU)&&qs.all fg then some λx h=>ZO h2 (run (OK h3 (Kd qs us (OJ h1 x) y)) h)else xR a b caps l else xR a b caps l else xR a b caps l else xR a b caps l|none=>xR a b caps l
 |_::l=>xR a b caps l
def M4{β γ σ:Type}(φ:β->Option γ)(x:β)(h:σ):Option (γ×σ):=(φ x).bind λy=>some (y,h)
def Tu(a b:Ty):R U.C->Option (den U.C a->Option (den U.C b))
 |.val t φ=>eV t (.fn a b) φ|.fn f caps=>kK a b caps (X.mA f)
 |_=>none
def OL(a b:Ty):R U.C->Option (den U.C a->U.C 0->Option (den U.C b×U.C 0))
 |.val (.fn a' b') φ=>match eV (.fn a' b') (.fn a b) φ with
  |some φ=>some (M4 φ)|none=>none
 |.val t φ=>eV t (.rJ a b) φ|.fn f caps=>match kK a b caps (X.mA f)with
  |some φ=>some (M4 φ)|none=>xR a b caps (X.mA f)
 |_=>none
def S.arg (fz:Bool) (s:S U.C) (r:R U.C) (t:Ty) (k:S U.C->den U.C t->Option α):Option α:=
 match t,k with
 |.fn a b,k=>match Tu X a b r with
  |some φ=>k s φ|none=>none
 |.rJ a b,k=>match OL X a b r with
  |some φ=>k s φ|none=>none
 |t,k=>s.val fz r t k
def qP(fz:Bool):(s:S U.C)->(ts:List Ty)->List Operand->List (R U.C)->(S U.C->HL U.C ts->Option α)->Option α
 |s,[],[],[],K=>K s ()|s,t::ts,x::l,caps,K=>S.arg X fz s (s.ev x) t λs v=>qP fz s ts l caps λs vs=>K s (il t ts v vs)
 |s,t::ts,[],r::caps,K=>match fV t r with
  |some v=>qP fz s ts [] caps λs vs=>K s (il t ts v vs)|none=>none
 |_,_,_,_,_=>none
def Di(fz:Bool):(s:S U.C)->(a:Ty)->List Operand->(S U.C->den U.C a->Option α)->Option α
 |s,.pair t u,x::y::l,K=>bif fg t then s.val fz (s.ev x) t λs v=>Di fz s u (y::l) λs vs=>K s (v,vs)else none|s,t,[x],K=>bif fg t then s.val fz (s.ev x) t K else none
 |_,_,_,_=>none
def Tv(s:S U.C)(t:Ty)(r:R U.C)(k:den U.C t->Option α):Option α:=
 match r with
 |.whole d=>match s.box d with
  |some (.aT t' _ xs)=>match eV (.list t') t xs with
   |some v=>k v|none=>none
  |_=>none
 |.val (.hs m) p=>match t,k with
  |.list t',k=>match U.ak m with
   |.aT _ e=>match bif decide (X.ty e=some t')then H0 U m t' e s else none with
    |some l=>(jw l p).bind k|none=>none
   |_=>none
  |t,k=>match eV (.hs m) t p with
   |some v=>k v|none=>none
 |r=>match fV t r with
  |some v=>k v|none=>none
def Tw(s:S U.C)(t:Ty)(r:R U.C)(k:den U.C t->Option α):Option α:=
 match t,k with
 |.fn a b,k=>match Tu X a b r with
  |some v=>k v|none=>none
 |.rJ _ _,_=>none|t,k=>Tv X s t r k
def zz(s:S U.C):(ts:List Ty)->List Operand->(HL U.C ts->Option α)->Option α
 |[],[],K=>K ()|t::ts,x::l,K=>Tw X s t (s.ev x) λv=>zz s ts l λvs=>K (il t ts v vs)
 |_,_,_=>none
def zA:Ty->Bool
 |.int _|.bool|.str=>true|_=>false
def Xe(U:cm)(t:Ty):Bool:=(im U D t).all zA
def aa6(U:cm):RK->Bool
 |.v t=>zA t|.own t _=>Xe U t
def Kf{C:Nat->Type}(s:S C):Nat->Bool
 |0=>true|n+1=>s.m n&&Kf s n
def gZ(d j:Nat):Nat:=1000*(d+1)+j
def M5(d:Nat):(j:Nat)->(rs:List RK)->HL U.C (rs.map RK.ty)->S U.C->(S U.C->List (R U.C)->Option α)->Option α
 |_,[],_,s,K=>K s []|j,.v t::rs,x,s,K=>M5 d (j+1) rs (wZ t (rs.map RK.ty) x) s λs l=>K s (.val t (xP t (rs.map RK.ty) x)::l)
 |j,.own t e::rs,x,s,K=>s.new (gZ d j) (.aT t e (xP (.list t) (rs.map RK.ty) x)) λs=>M5 d (j+1) rs (wZ (.list t) (rs.map RK.ty) x) s λs l=>K s (.whole (gZ d j)::l)
def tA(s:S U.C)(dst:Option Nat)(rs:List RK)(y:HL U.C (rs.map RK.ty))(K:S U.C->Option α):Option α:=
 match dst with
 |none=>K s|some d=>match rs,y with
  |[.v t],y=>K (s.put (some d) (.val t y))|[.own t e],y=>s.new d (.aT t e y) λs=>K (s.put (some d) (.whole d))
  |rs,y=>bif Nat.ble rs.length 8 then M5 d 0 rs y s λs l=>K (s.put (some d) (.fb l))else none
def S.H8 {C:Nat->Type} (s:S C) (h:C 0):S C:={s with h:=h,hv:=s.tick,tick:=s.tick+1}
def OM(s:S U.C):List Ty->List Operand->Bool
 |t::ts,x::l=>(match t with
  |.fn a b=>(Tu X a b (s.ev x)).isSome|.rJ a b=>(OL X a b (s.ev x)).isSome
  |_=>true)&&OM s ts l
 |_,_=>true
def tB(fz:Bool)(s:S U.C)(dst:Option Nat)(c:ca U)(caps:List (R U.C))(args:List Operand)(K:S U.C->Option α):Option α:=
 match c with
 |⟨ps,rs,cG,.pure run⟩=>bif caps.isEmpty&&(rs.all (aa6 U)&&cG.isNone)then zz X s ps args λx=>(run x).bind λr=>vd cG r (λq=>kx q s) λy=>tA s dst rs y K
  else qP X fz s ps args caps λs x=>(run x).bind λr=>vd cG r (λq=>kx q s) λy=>tA s dst rs y K
 |⟨ps,rs,cG,.rd run⟩=>bif X.wr then bif Nat.blt 0 U.nk&&Kf s U.nk then qP X fz s ps args caps λs x=>(run x s.h).bind λr=>vd cG r (λq=>kx q s) λy=>tA s dst rs y K else none else none|⟨ps,rs,cG,.st run⟩=>bif X.wr then bif Nat.blt 0 U.nk&&Kf s U.nk then qP X fz s ps args caps λs x=>(run x s.h).bind λr=>vd cG r.1 (λq=>kx q (s.H8 r.2)) λy=>tA (s.H8 r.2) dst rs y K else none else none
def Dj(fz:Bool)(s:S U.C)(dst:Option Nat)(caps:List (R U.C))(args:List Operand)(K:S U.C->Option α):List (ca U)->Option α
 |[]=>none|[c]=>tB X kx fz s dst c caps args K
 |c::l=>bif OM X s c.ps args then tB X kx fz s dst c caps args K else Dj fz s dst caps args K l
def aeg(fz:Bool)(s:S U.C)(dst:Option Nat)(f:FuncId)(caps:List (R U.C))(args:List Operand)(K:S U.C->Option α):Option α:=Dj X kx fz s dst caps args K (X.mA f)
def Dk:(s:S U.C)->(ts:List Ty)->List (R U.C)->List Operand->(S U.C->HL U.C ts->Option α)->Option α
 |s,ts,[],l,K=>qP X true s ts l [] K|s,t::ts,r::fs,l,K=>match fV t r with
  |some v=>Dk s ts fs l λs vs=>K s (il t ts v vs)|none=>none
 |_,[],_::_,_,_=>none
def Dl(s:S U.C)(dst:Option Nat)(c:ca U)(first:List (R U.C))(args:List Operand)(K:S U.C->Option α):Option α:=
 match c with
 |⟨ps,rs,cG,.pure run⟩=>Dk X s ps first args λs x=>(run x).bind λr=>vd cG r (λq=>kx q s) λy=>tA s dst rs y K
 |⟨ps,rs,cG,.rd run⟩=>bif X.wr then bif Nat.blt 0 U.nk&&Kf s U.nk then Dk X s ps first args λs x=>(run x s.h).bind λr=>vd cG r (λq=>kx q s) λy=>tA s dst rs y K else none else none
 |⟨ps,rs,cG,.st run⟩=>bif X.wr then bif Nat.blt 0 U.nk&&Kf s U.nk then Dk X s ps first args λs x=>(run x s.h).bind λr=>vd cG r.1 (λq=>kx q (s.H8 r.2)) λy=>tA (s.H8 r.2) dst rs y K else none else none
def Tx(b:Ty)(y:den U.C b):R U.C:=match b,y with
 |.pair t u,y=>bif fg t&&fg u then .fb [.val t y.1,.val u y.2]else .none|b,y=>bif fg b then .val b y else .none
def xFn(fz:Bool)(s:S U.C)(dst:Option Nat)(a b:Ty)(φ:den U.C a->Option (den U.C b))(args:List Operand)(K:S U.C->Option α):Option α:=Di fz s a args λs x=>(φ x).bind λy=>K (s.put dst (Tx b y))
def aeh(fz:Bool)(s:S U.C)(dst:Option Nat)(a b:Ty)(φ:den U.C a->U.C 0->Option (den U.C b×U.C 0))(args:List Operand)(K:S U.C->Option α):Option α:=bif Nat.blt 0 U.nk&&Kf s U.nk then Di fz s a args λs x=>(φ x s.h).bind λr=>K ((s.H8 r.2).put dst (Tx b r.1))else none
def iN{C:Nat->Type}:(t:Ty)->den C t->den C t->Bool
 |.int _,x,y=>gK x y|.bool,x,y=>zx x y
 |.str,x,y=>eqStr x y|_,_,_=>false
def aZ{β γ:Type}(eq:β->β->Bool):List (β×γ)->β->Option γ
 |[],_=>none|(a,v)::l,k=>bif eq k a then some v else aZ eq l k
def jy{β γ:Type}(eq:β->β->Bool):List (β×γ)->β->γ->List (β×γ)
 |[],k,v=>[(k,v)]|(a,w)::l,k,v=>bif eq k a then(k,v)::l else(a,w)::jy eq l k v
def dW{β:Type}(l:List (List β))(p:Option Nat):Option (List β):=match p with
 |none=>some []|some i=>l[i]?
def Gi(U:cm)(t:Ty):Option (den U.C t):=match(pk U D t).bind (lS U D t)with
 |some (z,_)=>some z|none=>none
def ON(s:S U.C)(m':Nat)(x k:R U.C)(ok:Bool)(K:R U.C->Option α):Option α:=
 match x with
 |.val (.mp m) p=>bif Nat.beq m' m then match U.ak m with
  |.map kt vt=>match maps U m kt vt s,fV kt k,Gi U vt with
   |some l,some key,some z=>(dW l p).bind λes=>bif ok then K (.fb [.val vt ((aZ (iN kt) es key).getD z),.val .bool (aZ (iN kt) es key).isSome])else K (.val vt ((aZ (iN kt) es key).getD z))|_,_,_=>none
  |_=>none
  else none
 |_=>none
def Cg(fz:Bool)(s:S U.C)(m':Nat)(x k v:R U.C)(K:S U.C->Option α):Option α:=
 match x with
 |.val (.mp m) p=>bif Nat.beq m' m then match U.ak m with
  |.map kt vt=>match fV kt k with
   |some key=>S.val fz s v vt λs v=>match maps U m kt vt s with
    |some l=>Option.bind (α:=Nat) p λi=>(l[i]?).bind λes=>match H2 U m kt vt s (l.set i (jy (iN kt) es key v))with
     |some h'=>s.cP h' K|none=>none
    |none=>none
   |none=>none
  |_=>none
  else none
 |_=>none
def Xf(U:cm)(t:Ty):Bool:=(im U D t).all λ|.hs _=>false|_=>true
def Xg(s:S U.C)(dst:Option Nat)(k:Nat)(t:Ty)(v:den U.C t)(K:S U.C->Option α):Option α:=
 match Q5 U k t s with
 |some l=>match HZ U k t s (l++[v])with
  |some h'=>s.cP h' λs=>K (s.put dst (.val (.ptr k) (some l.length)))|none=>none
 |none=>none
def Dm(fz:Bool)(fs:List Ty):S U.C->List (Nat×Operand)->List (R U.C)->(S U.C->List (R U.C)->Option α)->Option α
 |s,[],cs,K=>K s cs|s,(i,x)::l,cs,K=>match qN U 0 fs i with
  |some (off,t)=>S.val fz s (s.ev x) t λs v=>Dm fz fs s l (vR off (oz U D t v) cs) K|none=>none
def Dn(s:S U.C)(te:Ty):List (Nat×Operand)->Nat->Option (List (den U.C te))
 |[],_=>some []|(i,x)::l,n=>bif Nat.beq i n then match fV te (s.ev x),Dn s te l (n+1)with
   |some v,some vs=>some (v::vs)|_,_=>none
  else none
def nL{C:Nat->Type}(d tick:Nat)(t:Ty)(x:den C t):List (Nat×Nat×R C)->List (Nat×Nat×R C)
 |[]=>[]|(q,st,.loc d' k)::l=>bif Nat.beq d' d then(q,tick,.dn t x k)::nL d tick t x l else(q,st,.loc d' k)::nL d tick t x l
 |e::l=>e::nL d tick t x l
def S.J1 (s:S U.C) (d:Nat) (K:S U.C->Option α):Option α:=
 match s.box d with
 |some (.cells t rs)=>match lS U D t rs with
  |some (x,_)=>bif oy d (bk s.b d)then K {s with r:=nL d s.tick t x s.r,b:=bk s.b d,tick:=s.tick+1}else none|none=>none
 |_=>none
def gives(fz:Bool):S U.C->List Operand->(S U.C->Option α)->Option α
 |s,[],K=>K s|s,x::l,K=>match s.ev x,fz with
  |.loc d _,true=>s.J1 d λs=>gives fz s l K|_,_=>gives fz s l K
def aei{C:Nat->Type}:R C->Bool
 |.val _ _|.dn _ _ _|.fn _ _|.sC _=>true|_=>false
def sl0:Option Operand->Option Operand->Operand->Bool
 |none,some (.const (.int _ 0)),.const (.int _ 0)=>true|_,_,_=>false
def pT:List (Nat×Nat)->Option Nat->Option Nat
 |(d,k)::l,some d'=>bif Nat.beq d d' then some k else pT l (some d')|_,_=>none
def Xh(fz:Bool)(s:S U.C)(dst:Option Nat)(e:TypeId)(d':Nat)(t:Ty)(l h:Option Int)(K:S U.C->Option α):Option α:=
 match fz,dst,s.box d',l,h with
 |true,some d,some (.aT t' el xs),none,some m=>bif decide (t'=t)&&decide (X.elem e=some el)then(db (decide (0<=m)&&decide (m.toNat<=xs.length))).bind λ_=>(s.drop d').new d (.aT t' el (xs.take m.toNat)) λs=>K (s.put (some d) (.whole d))else none|_,_,_,_,_=>none
def aej(s:S U.C)(dst:Option Nat)(e:TypeId)(d':Nat)(t:Ty)(l:Int)(h:Option Int)(K:S U.C->Option α):Option α:=
 match s.box d' with
 |some (.aT t' el xs)=>bif decide (t'=t)&&decide (X.elem e=some el)then match h with
   |none=>(db (decide (0<=l)&&decide (l.toNat<=xs.length))).bind λ_=>K (s.put dst (.sub d' l.toNat (xs.length-l.toNat)))|some h=>(db (decide (0<=l)&&(decide (0<=h)&&(decide (l.toNat<=h.toNat)&&decide (h.toNat<=xs.length))))).bind λ_=>K (s.put dst (.sub d' l.toNat (h.toNat-l.toNat)))
  else none
 |_=>none
def ZP{C:Nat->Type}:R C->Bool
 |.val _ _=>true|_=>false
def Q7{C:Nat->Type}:R C->Bool
 |.fn _ _=>true|.nz _ _=>true
 |_=>false
def AZ:List (Nat×Operand)->Nat->Bool
 |[],_=>true|(i,_)::l,n=>Nat.beq i n&&AZ l (n+1)
def fy:List (Nat×Operand)->List Operand
 |[]=>[]|(_,x)::l=>x::fy l
def OO{C:Nat->Type}:R C->R C
 |.full t []=>.emp t|r=>r
def ZQ{C:Nat->Type}:R C->Bool
 |.val t _=>!aL t|.emp _=>true
 |_=>false
def Dp{C:Nat->Type}:R C->R C
 |.emp t=>.full t []|r=>r
def aa7(fz:Bool)(s:S U.C)(dst:Option Nat)(e:TypeId)(len:Nat)(parts:List (Nat×Operand))(K:S U.C->Option α):Option α:=
 match dst with
 |some d=>bif fz&&(X.M3 e&&(Nat.beq parts.length len&&(AZ parts 0&&((vU s (fy parts)).all Q7&&(decide (len<=65536)&&(oy d (bk s.b d)&&(vU s (fy parts)).all λr=>!r.mentions d))))))then K (({s with r:=lQ d s.tick s.r,b:=bk s.b d,tick:=s.tick+1}:S U.C).put dst (.vc (vU s (fy parts))))else none|none=>none
def M6(s:S U.C)(j:Nat):R U.C->Option (R U.C)
 |.loc d k=>match s.box d with
  |some (.cells _ _)=>some (.loc d (k+j))|_=>none
 |.gl d i k mn te x=>match s.box d with
  |some (.aT _ _ _)=>some (.gl d i (k+j) mn te x)|_=>none
 |.dn te x k=>some (.dn te x (k+j))|.jZ k i off=>some (.jZ k i (off+j))
 |.jv k i q off=>some (.jv k i q (off+j))|_=>none
def H9(s:S U.C)(p:R U.C)(m:Int):Nat->Nat->(R U.C->Option α)->Option α
 |0,_,_=>none|n+1,j,K=>cond (gK m (j:Int)) (match M6 s j p with
  |some r=>K r|none=>none) (H9 s p m n (j+1) K)
def Kg(n:Nat):R U.C->List (R U.C)
 |.agg n' rs=>bif Nat.beq n' n&&Nat.beq rs.length (bj U D (.struct n))then rs else []|r=>match fV (.struct n) r with
  |some v=>oz U D (.struct n) v|none=>[]
def Ia(m:Int):List (R U.C)->Nat->(R U.C->Option α)->Option α
 |[],_,_=>none|r::rs,j,K=>cond (gK m (j:Int)) (K r) (Ia m rs (j+1) K)
def OP(s:S U.C)(t:Ty)(p:R U.C):Option (List (R U.C)):=
 match p with
 |.loc d k=>match s.box d with
  |some (.cells _ rs)=>bif Nat.ble (k+bj U D t) rs.length&&((qO k rs).take (bj U D t)).all Q7 then some ((qO k rs).take (bj U D t))else none|_=>none
 |_=>none
def OQ(m:Int):List (R U.C)->Nat->(R U.C->Option α)->Option α
 |[],_,_=>none|r::rs,j,K=>cond (gK m (j:Int)) (K (.sC r)) (OQ m rs (j+1) K)
def Gj(fz:Bool):List (R U.C)->S U.C->(S U.C->Option α)->Option α
 |[],s,K=>K s|.whole d::rs,s,K=>match s.box d with
  |some (.aT t _ xs)=>bif fz then Gj fz rs (s.freeze d t xs) K else none|_=>none
 |_::rs,s,K=>Gj fz rs s K
def Tz(fz:Bool)(s:S U.C)(t:Ty)(p:R U.C)(K:S U.C->Option α):Option α:=
 match p with
 |.loc d k=>match s.box d with
  |some (.cells _ rs)=>bif aL t then Gj fz ((qO k rs).take (bj U D t)) s K else K s|_=>none
 |_=>K s
variable(esc:List (Nat×Nat))
noncomputable def iJ (fz:Bool) (o:Oper) (s:S U.C) (K:S U.C->Option α):Option α:=
 match o.op with
 |.move x=>K (s.put o.dst (s.ev x))|.assign x=>match s.ev x,fz,o.dst with
  |.whole d',true,some d=>match s.box d' with
   |some (.aT t e xs)=>bif Nat.beq d' d then K (s.put o.dst (.whole d))else(s.drop d').new d (.aT t e xs) λs=>K (s.put o.dst (.whole d))|_=>none
  |r,_,_=>K (s.put o.dst r)
 |.pick c a b=>match AY (s.ev c),X.ty o.type with
  |some q,some t=>match fV t (s.ev a),fV t (s.ev b)with
   |some va,some vb=>K (s.put o.dst (.val t (cond q va vb)))|_,_=>cond q (K (s.put o.dst (s.ev a))) (K (s.put o.dst (s.ev b)))
  |_,_=>none
 |.alloc e=>match pT esc o.dst with
  |some k=>match U.ak k with
   |.obj t=>match Gi U t,X.ty e with
    |some z,some t'=>bif decide (t'=t)then Xg s o.dst k t z K else none|_,_=>none
   |_=>none
  |none=>match o.dst,X.ty e,(X.ty e).bind (pk U D)with
  |some d,some t,some cs=>bif fz||(s.box d).isNone then s.new d (.cells t cs) λs=>K (s.put o.dst (.loc d 0))else none|some d,some t,none=>bif (X.mq e).isSome&&(fz||(s.box d).isNone)then s.new d (.cells t (List.replicate (bj U D t) .none)) λs=>K (s.put o.dst (.loc d 0))else none
  |_,_,_=>none
 |.box e x=>match pT esc o.dst with
  |some k=>match U.ak k with
   |.obj t=>S.val fz s (s.ev x) t λs v=>Xg s o.dst k t v K|_=>none
  |none=>match o.dst,X.ty e with
  |some d,some t=>bif fz||(s.box d).isNone then
    bif aL t then match fV t (s.ev x)with
     |some v=>s.new d (.cells t (oz U D t v)) λs=>K (s.put o.dst (.loc d 0))|none=>none
    else match OH s t (s.ev x)with
     |some r=>s.new d (.cells t [r]) λs=>K (s.put o.dst (.loc d 0))|none=>none
   else none
  |_,_=>none
 |.build e parts=>match X.ty e with
  |some (.struct n)=>bif (X.mq e).isSome&&(Nat.beq parts.toList.length (U.fields n).length&&(AZ parts.toList 0&&(vU s (fy parts.toList)).all Q7))then K (s.put o.dst (.agg n (vU s (fy parts.toList))))else match pk U D (.struct n)with
   |some cs=>match pT esc o.dst with
    |some _=>Dm fz (U.fields n) s parts.toList (cs.map OO) λs cs=>bif cs.all ZQ then K (s.put o.dst (.agg n cs))else none|none=>Dm fz (U.fields n) s parts.toList cs λs cs=>match lS U D (.struct n) cs with
     |some (v,_)=>K (s.put o.dst (.val (.struct n) v))|none=>none
   |none=>none
  |_=>none
 |.buildSlice e len parts=>match o.dst,X.ty e,X.elem e with
  |some d,some (.list te),some el=>Gj fz (parts.toList.map λp=>s.ev p.2) s λs=>match Dn s te parts.toList 0 with
   |some xs=>bif Nat.beq parts.toList.length len&&decide (len<=65536)then s.new d (.aT te el xs) λs=>K (s.put o.dst (.whole d))else none|none=>none
  |_,none,_=>aa7 X fz s o.dst e len parts.toList K|_,_,_=>none
 |.load e p=>match X.ty e with
  |some t=>match(bif (X.mq e).isSome then OP s t (s.ev p)else none),t with
   |some rs,.struct n=>K (s.put o.dst (.agg n rs))|_,t=>Tz fz s t (s.ev p) λs=>Dg X s t (s.ev p) λr=>K (s.put o.dst (Dp r))
  |none=>match s.ev p with
   |.sC r=>bif X.Tr e then K (s.put o.dst r)else none|_=>none
 |.store e p v=>match X.ty e,o.dst with
  |some t,none=>H7 X fz s t (s.ev p) (s.ev v) K|_,_=>none
 |.nilCheck p=>match s.ev p with
  |.val (.ptr k) p=>Option.bind (α:=Nat) p λi=>K (s.put o.dst (.jZ k i 0))|.val (.ref t) p=>Option.bind (α:=den U.C t) p λx=>K (s.put o.dst (.dn t x 0))
  |.loc d k=>match s.box d with
   |some (.cells _ _)=>K (s.put o.dst (.loc d k))|_=>none
  |.dn t x k=>K (s.put o.dst (.dn t x k))|.jZ k i off=>K (s.put o.dst (.jZ k i off))
  |.jv k i j off=>K (s.put o.dst (.jv k i j off))|_=>none
 |.makeMap _ none=>match pT esc o.dst with
  |some k=>match U.ak k with
   |.map kt vt=>match maps U k kt vt s with
    |some l=>match H2 U k kt vt s (l++[[]])with
     |some h'=>s.cP h' λs=>K (s.put o.dst (.val (.mp k) (some l.length)))|none=>none
    |none=>none
   |_=>none
  |_=>none
 |.lookup e x i ok=>match X.ty e with
  |some (.mp m)=>ON s m (s.ev x) (s.ev i) ok λr=>K (s.put o.dst r)|_=>none
 |.mapUpdate e m k v=>match X.ty e,o.dst with
  |some (.mp m'),none=>bif X.wr then Cg fz s m' (s.ev m) (s.ev k) (s.ev v) K else none|_,_=>none
 |.insert e m k v=>match X.ty e,o.dst with
  |some (.mp m'),none=>bif X.wr then Cg fz s m' (s.ev m) (s.ev k) (s.ev v) K else none|_,_=>none
 |.binOp op e x y e'=>match X.ty e with
  |some (.list t)=>match fV (.list t) (s.ev x),H4 y,op with
   |some a,true,.eql=>bif !fz then none else cond (List.isEmpty (α:=den U.C t) a) (both (K (s.put o.dst (.val .bool true))) (K (s.put o.dst (.val .bool false)))) (K (s.put o.dst (.val .bool false)))|some a,true,.neq=>bif !fz then none else cond (List.isEmpty (α:=den U.C t) a) (both (K (s.put o.dst (.val .bool false))) (K (s.put o.dst (.val .bool true)))) (K (s.put o.dst (.val .bool true)))
   |_,_,_=>none
  |some t=>bif (X.mq e).isNone then aa4 o op t (s.ev x) (s.ev y) (X.ty e') λt v=>K (s.put o.dst (.val t v))else none|none=>none
 |.unOp .not _ x=>match AY (s.ev x)with
  |some b=>K (s.put o.dst (.val .bool (!b)))|none=>none
 |.unOp .neg e x=>match X.ty e with
  |some (.int k)=>match fV (.int k) (s.ev x)with
   |some n=>K (s.put o.dst (.val (.int k) (k.wrap (0-n))))|none=>none
  |_=>none
 |.convert e e' x=>match X.ty e,X.ty e' with
  |some (.int _),some (.int k)=>match Ft (s.ev x)with
   |some n=>K (s.put o.dst (.val (.int k) (k.wrap n)))|none=>none
  |some .str,some (.list (.int .u8))=>match fV .str (s.ev x)with
   |some v=>(db (decide (List.length (α:=UInt8) v<=maxLen))).bind λ_=>K (s.put o.dst (.val (.list (.int .u8)) (List.map (λc:UInt8=>(c.toNat:Int)) v)))|none=>none
  |_,_=>none
 |.fieldAddr e p f=>match X.ty e with
  |some t=>bif (X.mq e).isNone then vS s t f (s.ev p) λr=>K (s.put o.dst r)else none|none=>none
 |.field e x f=>match(bif (X.mq e).isNone then X.ty e else none)with
  |some (.struct n)=>match fV (.struct n) (s.ev x),fieldAt U (.struct n) f with
   |some v,some (off,t)=>match OG t (.struct n) v off with
    |some v=>K (s.put o.dst (.val t v))|none=>none
   |_,_=>none
  |_=>none
 |.indexAddr e x i=>match Ft (s.ev i),X.ty e,X.elem e with
  |some m,some (.list t),some el=>vT s t el (s.ev x) m λr=>K (s.put o.dst r)|some m,some (.struct n),_=>bif (X.mq e).isSome then H9 s (s.ev x) m (U.fields n).length 0 λr=>K (s.put o.dst r)else none
  |some m,none,_=>match s.ev x with
   |.vc rs=>bif X.M3 e then OQ m rs 0 λr=>K (s.put o.dst r)else none|_=>none
  |_,_,_=>none
 |.index e x i=>match X.mq e with
  |some _=>match X.ty e,Ft (s.ev i)with
   |some (.struct n),some m=>Ia m (Kg n (s.ev x)) 0 λr=>K (s.put o.dst (Dp r))|_,_=>none
  |none=>match X.ty e,fV .str (s.ev x),Ft (s.ev i)with
   |some .str,some v,some m=>(aA (α:=UInt8) v m).bind λc=>K (s.put o.dst (.val (.int .u8) (c.toNat:Int)))|_,_,_=>none
 |.slice e x lo hi none=>match qh s none lo,qh s none hi with
  |some l,some h=>match s.ev x,X.ty e with
   |.val (.list te) xs,some (.list t)=>bif decide (te=t)then zy (β:=den U.C te) xs l h λys=>K (s.put o.dst (.val (.list te) ys))else none|.full te xs,some (.list t)=>bif decide (te=t)then zy xs l h λys=>K (s.put o.dst (.val (.list te) ys))else none
   |.whole d',some (.list t)=>match l with
    |some l=>aej X s o.dst e d' t l h K|none=>Xh X fz s o.dst e d' t none h K
   |x,some .str=>match fV .str x with
    |some v=>zy (β:=UInt8) v l h λys=>K (s.put o.dst (.val .str ys))|none=>none
   |_,_=>none
  |_,_=>none
 |.slice e x lo hi (some mx)=>bif sl0 lo hi mx then match s.ev x,X.ty e with
  |.val (.list te) _,some (.list t)=>bif decide (te=t)then K (s.put o.dst (.full te []))else none|_,_=>none
  else none
 |.makeSlice e m m'=>match o.dst,X.ty e,X.elem e,Ft (s.ev m),(match m,m' with|.tmp a,.tmp b=>Nat.beq a b|.const (.int _ a),.const (.int _ b)=>decide (a=b)|_,_=>false)with
  |some d,some (.list te),some el,some n,true=>match Gi U te with
   |some z=>(db (Xf U te&&decide (0<=n)&&fits (X.bytes el) n.toNat 281474976710656)).bind λ_=>s.new d (.aT te el (List.replicate n.toNat z)) λs=>K (s.put o.dst (.whole d))|none=>none
  |_,_,_,_,_=>none
 |.extract x i=>match s.ev x with
  |.fb rs=>match rs[i]? with
   |some r=>K (s.put o.dst r)|none=>none
  |_=>none
 |.makeFunc (.func f) first caps=>bif !first.toList.isEmpty&&(caps.toList.isEmpty&&(vU s first.toList).all ZP)then K (s.put o.dst (.nz f (vU s first.toList)))else bif first.toList.isEmpty then gives fz s caps.toList λs=>bif (vU s caps.toList).all aei then K (s.put o.dst (.fn f (vU s caps.toList)))else none else none
 |.call {callee:=.builtin b,args,argTypes}=>match b,args.toList,argTypes.toList with
  |.len,[x],[lt]=>match X.ty lt with
   |some (.mp m')=>match s.ev x with
    |.val (.mp m) p=>bif Nat.beq m' m then match U.ak m with
     |.map kt vt=>match maps U m kt vt s with
      |some l=>(dW l p).bind λes=>K (s.put o.dst (.val (.int .i64) (es.length:Int)))|none=>none
     |_=>none
     else none
    |_=>none
   |some .str=>match fV .str (s.ev x)with
    |some v=>K (s.put o.dst (.val (.int .i64) ((List.length (α:=UInt8) v:Nat):Int)))|none=>none
   |some (.list _)=>match aa5 s (s.ev x)with
    |some n=>K (s.put o.dst (.val (.int .i64) (n:Int)))|none=>none
   |none=>match s.ev x with
    |.vc rs=>bif X.M3 lt then K (s.put o.dst (.val (.int .i64) (rs.length:Int)))else none|_=>none
   |_=>none
  |.append,[x,y],[e,u]=>match X.ty e,X.elem e,X.ty u with
   |some (.list te),some el,some (.list _)=>OI X fz s o.dst el te x (s.ev y) K|_,_,_=>none
  |.copy,[x,y],[e,_]=>match s.ev x,X.ty e,X.elem e with
   |.whole d,some (.list te),some el=>Xd s te el (s.ev y) λys=>match s.box d with
    |some (.aT t' e' xs)=>match eV (.list t') (.list te) xs,Nat.beq e' el with
     |some xs,true=>K ((s.gR d (.aT te e' (List.take (min ys.length (List.length (α:=den U.C te) xs)) ys++List.drop (min ys.length (List.length (α:=den U.C te) xs)) xs))).put o.dst (.val (.int .i64) ((min ys.length (List.length (α:=den U.C te) xs):Nat):Int)))|_,_=>none
    |_=>none
   |_,_,_=>none
  |_,_,_=>none
 |.call {callee:=.value x,args,..}=>match s.ev x with
  |.fn f caps=>aeg X kx fz s o.dst f caps args.toList K|.nz f first=>bif fz then match X.mA f with
   |c::_=>Dl X kx s o.dst c first args.toList K
   |[]=>none
   else none
  |.val (.fn a b) φ=>xFn fz s o.dst a b φ args.toList K|.val (.rJ a b) φ=>bif X.wr then aeh fz s o.dst a b φ args.toList K else none
  |_=>none
 |.makeInterface e x=>match X.ty e with
  |some t=>match fV t (s.ev x)with
   |some v=>K (s.put o.dst (.mI e t v))|none=>none
  |none=>none
 |.panic x=>match s.ev x with
  |.mI e t v=>kx ⟨e,t,v⟩ s|_=>none
 |_=>none
def qQ{C:Nat->Type}:R C:=.fb []
def TA(esc:List (Nat×Nat))(dst:Option Nat):Bool:=match pT esc dst with
 |some k=>Nat.beq k 998|none=>false
def ZR:Option Nat->List Operand
 |some d=>[.tmp d]|none=>[]
noncomputable def Kh (o:Oper) (s:S U.C) (K:S U.C->Option α):Option α:=bif TA esc o.dst then iJ X kx [] true o s (λs=>gives true s (ZR o.dst) K)else iJ X kx esc true o s K
noncomputable def oM (ops:Array Oper):List Oper->S U.C->(S U.C->Option α)->Option α
 |[],s,K=>K s|o::l,s,K=>match o.guard with
  |none=>Kh X kx esc o s λs=>oM ops l s K|some (j,want)=>match(ops[j]?).bind (·.dst)with
   |none=>none|some t=>match s.look t with
    |.val .bool b=>
     cond b (let s:=s.put (some t) (.val .bool true);bif want then Kh X kx esc o s λs=>oM ops l s K else oM ops l (s.put o.dst qQ) K)
      (let s:=s.put (some t) (.val .bool false);bif want then oM ops l (s.put o.dst qQ) K else Kh X kx esc o s λs=>oM ops l s K)
    |.const (.bool b)=>bif Bool.xor b want then oM ops l (s.put o.dst qQ) K else Kh X kx esc o s λs=>oM ops l s K|.fb []=>oM ops l (s.put o.dst qQ) K
    |_=>none
end
section
variable(X:Ctx U)(esc:List (Nat×Nat))
mutual
def R.ids {C:Nat->Type}:R C->List Nat
 |.loc d _=>[d]|.whole d=>[d]
 |.gl d _ _ _ _ _=>[d]|.fb rs=>Fv rs
 |.fn _ rs=>Fv rs|.sub d _ _=>[d]
 |.vc rs=>Fv rs|.sC r=>r.ids
 |.agg _ rs=>Fv rs|.nz _ rs=>Fv rs
 |_=>[]
def Fv{C:Nat->Type}:List (R C)->List Nat
 |[]=>[]|r::rs=>r.ids++Fv rs
end
def B.ids {C:Nat->Type}:B C->List Nat
 |.cells _ rs=>Fv rs|.aT _ _ _=>[]
def reach{C:Nat->Type}(s:S C):Nat->List Nat->List Nat
 |0,l=>l|n+1,l=>l++reach s n (l.flatMap λd=>match s.box d with|some b=>b.ids|none=>[])
def jz(ops:Array Oper)(o:Oper):List Nat:=(o.op.operands.toList.filterMap λ|.tmp t=>some t|_=>none)++(match o.guard with|some (j,_)=>((ops[j]?).bind (·.dst)).toList|none=>[])
def aa8{C:Nat->Type}:R C->List Nat
 |.val (.ptr k) _=>[k]|.val (.hs k) _=>[k]
 |.val (.mp k) _=>[k]|.jZ k _ _=>[k]
 |.jv k _ _ _=>[k]|_=>[]
def aa9(U:cm)(k:Nat):List Nat:=
 let f:=λt=>(im U D t).flatMap λ|.hs m=>[m]|_=>[]
 match U.ak k with
 |.obj t=>f t|.aT t _=>f t
 |.map _ t=>f t
def TB:Nat->List Nat
 |0=>[]|n+1=>n::TB n
def aba{C:Nat->Type}{U:cm}(X:Ctx U):R C->Bool
 |.fn f _=>(X.mA f).any λc=>match c.run with|.pure _=>false|_=>true
 |.val (.rJ _ _) _=>true|_=>false
def Xi(s:S U.C)(o:Oper):List Nat:=
 let rs:=o.op.operands.toList.map s.ev;let l:=rs.flatMap aa8++(pT esc o.dst).toList;match o.op with
 |.call {callee:=.value x,..}=>bif aba X (s.ev x)then TB U.nk else []|.move _|.assign _|.pick ..|.fieldAddr ..|.binOp ..|.unOp ..|.extract ..|.nilCheck _=>[]
 |_=>l++l.flatMap (aa9 U)
def kB{C:Nat->Type}:R C->Bool
 |.whole _=>true|_=>false
def turns{C:Nat->Type}{U:cm}(X:Ctx U)(s:S C):Op->Bool
 |.move _|.pick ..|.load ..|.fieldAddr ..|.indexAddr ..|.binOp ..|.unOp ..|.extract ..|.nilCheck _|.lookup ..|.field ..|.index ..|.slice ..|.convert ..|.makeInterface ..=>false|.build _ parts=>parts.toList.any λp=>kB (s.ev p.2)
 |.assign x=>match s.ev x with
  |.whole _=>true|_=>false
 |.call {callee:=.builtin .len,..}=>false|.call {callee:=.value x,args,..}=>args.toList.any (λa=>kB (s.ev a))||match s.ev x with
  |.fn f _=>(X.mA f).any λc=>(match c.run with|.pure _=>false|_=>true)||c.rs.any RK.eU
  |.val (.rJ _ _) _=>true|_=>false
 |_=>true
def dS(o:Oper):List Nat:=match o.dst with
 |some d=>match o.op with
  |.call {callee:=.value _,..}=>d::(TB 8).map (gZ d)|.move _|.pick ..|.load ..|.fieldAddr ..|.indexAddr ..|.binOp ..|.unOp ..|.extract ..|.nilCheck _|.lookup ..|.field ..|.index ..|.slice ..|.convert ..|.build ..|.makeInterface ..=>[]
  |_=>[d]
 |none=>[]
def zB:List Oper->List Nat
 |[]=>[]|o::l=>dS o++zB l
def iy(o:Oper):List Nat:=match o.op with
 |.call {callee:=.builtin .append,args,..}=>match args.toList with
  |[.tmp t,_]=>[t]|_=>[]
 |_=>[]
structure Fp where
 i:Nat
 bs:List Nat
 ks:List Nat
 w:Bool
def S.only {C:Nat->Type} (s:S C) (rs bs ks:List Nat):S C:={r:=vV s.r rs,b:=vV s.b bs,tick:=s.tick,h:=s.h,hv:=s.hv,m:=λk=>s.m k&&iM k ks}
 where vV {β:Type} (l:List (Nat×Nat×β)):List Nat->List (Nat×Nat×β)
 |[]=>[]|t::ts=>match ao l t with
  |some (a,x)=>(t,a,x)::vV l ts|none=>vV l ts
def uy{β:Type}(l:List (Nat×Nat×β)):List Nat->List (Nat×Nat×β)
 |[]=>l|d::ds=>uy (bk l d) ds
def tC(U:cm)(h h1:U.C 0):List Nat->U.C 0
 |[]=>h|k::ks=>tC U (U.set k h (U.get k h1)) h1 ks
def lT{C:Nat->Type}(tick:Nat):List Nat->List (Nat×Nat×R C)->List (Nat×Nat×R C)
 |[],l=>l|t::ts,l=>(t,tick,.none)::lT tick ts l
def S.merge {U:cm} (s s1:S U.C) (dst:Option Nat) (lost:List Nat) (f:Fp):S U.C:=
 {r:=match dst with
   |some d=>(d,s1.tick,s1.look d)::lT s1.tick lost s.r|none=>lT s1.tick lost s.r
  b:=bif f.w then s1.b++uy s.b f.bs else s.b,tick:=s1.tick+1
  h:=bif f.w&&Nat.ble s.tick s1.hv then tC U s.h s1.h f.ks else s.h,hv:=bif f.w&&Nat.ble s.tick s1.hv then s1.hv else s.hv,m:=s.m}
def TC{C:Nat->Type}:List Nat->S C->Option (S C)
 |[],s=>some s|d::ds,s=>bif oy d (bk s.b d)then TC ds {s with r:=lQ d s.tick s.r,b:=bk s.b d,tick:=s.tick+1}else none
def meets:List Nat->List Nat->Bool
 |[],_=>false|d::l,l'=>iM d l'||meets l l'
def xS(bf:Nat)(f:Fp):List Fp->Bool
 |[]=>true|g::l=>(Nat.testBit bf g.i||!((f.w||g.w)&&(meets f.bs g.bs||meets f.ks g.ks)))&&xS bf f l
def OR{C:Nat->Type}:R C->Bool
 |.val t _=>fg t|.fn _ caps=>caps.all λ|.val t _=>fg t|.dn _ _ _=>true|_=>false
 |.fb rs=>rs.all λ|.val t _=>fg t|.whole _=>true|_=>false
 |.vc _=>false|.sC _=>false
 |.nz _ _=>false|.agg _ rs=>rs.all λ|.val t _=>fg t|.emp _=>true|_=>false
 |_=>true
def R.TD {C:Nat->Type} (bs:List Nat) (tick:Nat) (r:R C):Bool:=r.ids.all (λd=>iM d bs)&&match r with
 |.gl _ _ _ mn _ _=>Nat.blt mn tick|_=>true
def abb{C:Nat->Type}(s:S C)(bs:List Nat):Option Nat->Bool
 |some d=>OR (s.look d)&&R.TD bs s.tick (s.look d)|none=>true
mutual
def dF{C:Nat->Type}(tick:Nat):R C->Bool
 |.gl _ _ _ mn _ _=>Nat.blt mn tick|.fb rs=>mS tick rs
 |.fn _ rs=>mS tick rs|.vc rs=>mS tick rs
 |.sC r=>dF tick r|.agg _ rs=>mS tick rs
 |.nz _ rs=>mS tick rs|_=>true
def mS{C:Nat->Type}(tick:Nat):List (R C)->Bool
 |[]=>true|r::rs=>dF tick r&&mS tick rs
end
def B.E6 {C:Nat->Type} (tick:Nat):B C->Bool
 |.cells _ rs=>mS tick rs|.aT _ _ _=>true
def Xj{β:Type}(l:List (Nat×Nat×β))(d:Nat):Bool:=match ao l d with
 |some _=>true|none=>false
def Xk{C:Nat->Type}(f:Fp)(ds:List Nat)(bx:List (Nat×Nat×B C))(tick:Nat):List (Nat×Nat×B C)->Bool
 |[]=>true|(d,st,x)::l=>iM d f.bs&&(Nat.blt st tick&&(x.ids.all (λe=>iM e f.bs)&&(x.E6 tick&&((iM d ds||Xj bx d)&&Xk f ds bx tick l))))
def Ib{C:Nat->Type}(tick:Nat)(bx bx1:List (Nat×Nat×B C)):List Nat->Bool
 |[]=>true|d::l=>(match ao bx1 d with|some (st,_)=>Nat.blt st tick|none=>!Xj bx d)&&Ib tick bx bx1 l
def Dq(ds:List Nat):List Fp->Bool
 |[]=>true|g::l=>!meets ds g.bs&&Dq ds l
def zC{U:cm}(X:Ctx U)(f:Fp)(o:Oper)(p s1:S U.C):Bool:=abb s1 f.bs o.dst&&((f.w||!turns X p o.op)&&bif f.w then Xk f (dS o) p.b s1.tick s1.b else Ib p.tick p.b s1.b f.bs)
def S.zD {U:cm} (X:Ctx U) (esc:List (Nat×Nat)) (ops:Array Oper) (i:Nat) (o:Oper) (s:S U.C):Fp:={i:=i,bs:=reach s 2 ((jz ops o).flatMap λt=>(s.look t).ids)++dS o,ks:=Xi X esc s o,w:=turns X s o.op}
noncomputable def A0 (ops:Array Oper) (bf:Array Nat):List Oper->Nat->List Fp->S U.C->(S U.C->Option α)->Option α
 |[],_,_,s,K=>K s|o::l,i,fs,s,K=>
  let run:=λs:S U.C=>
   let f:Fp:=S.zD X esc ops i o s
   bif xS (bf.getD i 0) f fs&&Dq (dS o) fs then iJ X (λ_ _=>none) esc false o (s.only (jz ops o) f.bs f.ks) λs1=>bif zC X f o (s.only (jz ops o) f.bs f.ks) s1 then A0 ops bf l (i+1) (f::fs) (s.merge s1 o.dst (iy o) f) K else none else none
  let skip:=λs:S U.C=>A0 ops bf l (i+1) ({i:=i,bs:=[],ks:=[],w:=false}::fs) (s.put o.dst qQ) K;match o.guard with
  |none=>run s|some (j,want)=>match(ops[j]?).bind (·.dst)with
   |none=>none|some t=>match s.look t with
    |.val .bool b=>
     cond b (let s:=s.put (some t) (.val .bool true);bif want then run s else skip s)
      (let s:=s.put (some t) (.val .bool false);bif want then skip s else run s)
    |.const (.bool b)=>bif Bool.xor b want then skip s else run s|.fb []=>skip s
    |_=>none
def Dr(ops:Array Oper):Bool:=
 let b:=Region.before ops
 (List.range ops.size).all λk=>match ops[k]? with
  |some ok=>(ok.after.all λe=>!Region.binds .any e||decide (e.on<k))&&(match ok.op with|.select ..=>false|_=>true)&&
   ((List.range ops.size).all λi=>match ops[i]? with
     |some oi=>Nat.beq i k||(iy ok).all λt=>!iM t (oi.looksAt ops)|none=>true)&&
   (List.range k).all λi=>match ops[i]? with
    |some oi=>(b.getD k 0).testBit i||oi.apart ops ok|none=>true
  |none=>true
noncomputable def Ic (ops:Array Oper) (s:S U.C) (K:S U.C->Option α):Option α:=
 bif Dr ops then match TC (zB ops.toList) s with
  |some s=>A0 X esc ops (Region.before ops) ops.toList 0 [] s K|none=>none
 else none
end
inductive Ex where
 |normal
 |exit (id:Nat)
 |ret
inductive RS where
 |val (t:Ty)
 |full (t:Ty)
 |loc (d k:Nat)
 |whole (d:Nat)
 |own (d:Nat) (t:Ty) (e:TypeId)
 |dn (t:Ty) (k:Nat)
inductive BS where
 |cells (t:Ty) (rs:List RS)
 |aT (t:Ty) (e:TypeId)
structure Sh where
 h:Bool:=false
 dN:List Nat
 cr:List (Nat×RS)
 ve:List Nat
 boxes:List (Nat×BS)
inductive Hint where
 |leaf
 |seq (j:Option Sh) (a b:Hint)
 |cond (a b:Hint)
 |block (a:Hint)
 |loop (j:Sh) (a:Hint)
 |M7 (a:Hint)
 |scope (a:Hint)
 |Ie (j:Sh) (a:Hint)
def RS.ty:RS->Option Ty
 |.val t=>some t|.full t=>some (.list t)
 |.own _ t _=>some (.list t)|.dn t _=>some t
 |_=>none
def Ki:Option Ty->List Ty->List Ty
 |some t,ts=>t::ts|none,ts=>ts
def vW:List (Nat×RS)->List Ty->List Ty
 |[],ts=>ts|(_,r)::l,ts=>Ki r.ty (vW l ts)
def rM:List RS->List Ty->List Ty
 |[],ts=>ts|r::l,ts=>Ki r.ty (rM l ts)
def lU:List (Nat×BS)->List Ty
 |[]=>[]|(_,.cells _ rs)::l=>rM rs (lU l)
 |(_,.aT t _)::l=>.list t::lU l
def Sh.tys (j:Sh):List Ty:=vW j.cr (lU j.boxes)
section
variable{C:Nat->Type}
def RS.save (s:S C):(r:RS)->R C->(ts:List Ty)->HL C ts->Option (HL C (Ki r.ty ts))
 |.val t,x,ts,y=>match fV t x with
  |some v=>some (il t ts v y)|none=>none
 |.full t,x,ts,y=>match x with
  |.full t' xs=>match eV (.list t') (.list t) xs with
   |some v=>some (il (.list t) ts v y)|none=>none
  |_=>none
 |.loc d k,x,ts,y=>match x with
  |.loc d' k'=>bif Nat.beq d d'&&Nat.beq k k' then some y else none|_=>none
 |.whole d,x,ts,y=>match x with
  |.whole d'=>bif Nat.beq d d' then some y else none|_=>none
 |.own d t e,x,ts,y=>match x with
  |.whole d'=>match s.box d' with
   |some (.aT t' e' xs)=>bif decide (e'=e)then match eV (.list t') (.list t) xs with
     |some v=>some (il (.list t) ts v y)|none=>none
    else none
   |_=>none
  |.full t' xs=>bif decide (t'=t)then match xs with
    |[]=>some (il (.list t) ts [] y)|_=>none
   else none
  |.const v=>bif eG v then some (il (.list t) ts [] y)else none|.emp t'=>bif decide (t'=t)then some (il (.list t) ts [] y)else none
  |_=>none
 |.dn t k,x,ts,y=>match x with
  |.dn t' z k'=>bif Nat.beq k k' then match eV t' t z with
    |some v=>some (il t ts v y)|none=>none
   else none
  |_=>none
def oU(s:S C):(l:List RS)->(ts:List Ty)->List (R C)->HL C ts->Option (HL C (rM l ts))
 |[],ts,[],x=>some x|r::l,ts,c::rs,x=>match oU s l ts rs x with
  |some y=>r.save s c (rM l ts) y|none=>none
 |_,_,_,_=>none
def oV(s:S C):(l:List (Nat×BS))->Option (HL C (lU l))
 |[]=>some ()|(d,.cells t cs)::l=>match s.box d,oV s l with
  |some (.cells t' rs),some x=>bif decide (t=t')then oU s cs (lU l) rs x else none|_,_=>none
 |(d,.aT t e)::l=>match s.box d,oV s l with
  |some (.aT t' e' xs),some x=>bif decide (e=e')then match eV (.list t') (.list t) xs with
    |some v=>some (il (.list t) (lU l) v x)|none=>none
   else none
  |_,_=>none
def xT(s:S C):(l:List (Nat×RS))->(ts:List Ty)->HL C ts->Option (HL C (vW l ts))
 |[],_,x=>some x|(q,r)::l,ts,x=>match xT s l ts x with
  |some y=>r.save s (s.look q) (vW l ts) y|none=>none
def RS.src (x:R C):RS->List Nat
 |.own _ _ _=>match x with
  |.whole d=>[d]|_=>[]
 |_=>[]
def OS(s:S C):List (Nat×RS)->List Nat
 |[]=>[]|(q,r)::l=>r.src (s.look q)++OS s l
def Gk:List RS->List (R C)->List Nat
 |r::l,c::rs=>r.src c++Gk l rs|_,_=>[]
def Gl(s:S C):List (Nat×BS)->List Nat
 |[]=>[]|(d,.cells _ cs)::l=>d::((match s.box d with
  |some (.cells _ rs)=>Gk cs rs|_=>[])++Gl s l)
 |(d,.aT _ _)::l=>d::Gl s l
def RS.owns:RS->List Nat
 |.own d _ _=>[d]|_=>[]
def vf:List (Nat×RS)->List Nat
 |[]=>[]|(_,r)::l=>r.owns++vf l
def A4:List RS->List Nat
 |[]=>[]|r::l=>r.owns++A4 l
def Ds:List (Nat×BS)->List Nat
 |[]=>[]|(_,.cells _ cs)::l=>A4 cs++Ds l
 |(_,.aT _ _)::l=>Ds l
def A5:List (Nat×BS)->List Nat
 |[]=>[]|(d,.cells _ cs)::l=>d::(A4 cs++A5 l)
 |(d,.aT _ _)::l=>d::A5 l
def RS.TE (ow:List Nat):RS->Bool
 |.whole d=>!iM d ow|_=>true
def Kj(ow:List Nat):List (Nat×BS)->Bool
 |[]=>true|(_,.cells _ cs)::l=>cs.all (RS.TE ow)&&Kj ow l
 |(_,.aT _ _)::l=>Kj ow l
def R.still {C:Nat->Type} (ow:List Nat):R C->Bool
 |.gl _ _ _ _ _ _=>false|.fb _=>false
 |.sub _ _ _=>false|.vc _=>false
 |.sC _=>false|.agg _ _=>false
 |.nz _ _=>false|.whole d=>!iM d ow
 |.fn _ caps=>caps.all λ|.val _ _=>true|.dn _ _ _=>true|_=>false
 |_=>true
def B.still {C:Nat->Type} (ow:List Nat):B C->Bool
 |.cells _ rs=>rs.all (R.still ow)|.aT _ _ _=>true
def Dt:List Nat->Bool
 |[]=>true|d::l=>!iM d l&&Dt l
def Du{β:Type}(p:β->Bool)(s0 s:List (Nat×Nat×β)):List Nat->Bool
 |[]=>true|t::l=>match ao s0 t,ao s t with
  |some (a,x),some (b,_)=>Nat.beq a b&&p x&&Du p s0 s l|_,_=>false
def HT(C:Nat->Type):Bool->Type
 |true=>C 0|false=>Unit
def aek(b:Bool)(s0 s:S C):Option (HT C b):=match b with
 |true=>some s.h|false=>bif Nat.beq s0.hv s.hv&&Nat.blt s0.hv s0.tick then some ()else none
def M8(b:Bool)(s0:S C)(x:HT C b):C 0:=match b,x with
 |true,h=>h|false,_=>s0.h
def Dv(b:Bool)(s0:S C):Nat:=match b with
 |true=>s0.tick|false=>s0.hv
def RS.vg {U:cm} (X:Ctx U):RS->Bool
 |.own _ t e=>decide (X.ty e=some t)|_=>true
def Dw{U:cm}(X:Ctx U):List (Nat×BS)->Bool
 |[]=>true|(_,.cells _ cs)::l=>cs.all (RS.vg X)&&Dw X l
 |(_,.aT _ _)::l=>Dw X l
def Sh.vg {U:cm} (X:Ctx U) (j:Sh):Bool:=j.cr.all (λe=>e.2.vg X)&&Dw X j.boxes
def Sh.owns (j:Sh):List Nat:=vf j.cr++Ds j.boxes
def Sh.save (j:Sh) (s0 s:S C):Option (HL C j.tys×HT C j.h):=
 bif Du (R.still j.owns) s0.r s.r j.dN&&(Du (B.still j.owns) s0.b s.b j.ve&&(Dt (OS s j.cr++(Gl s j.boxes++j.ve))&&(Dt (vf j.cr++(A5 j.boxes++j.ve))&&(j.cr.all (λe=>e.2.TE j.owns)&&Kj j.owns j.boxes))))then match oV s j.boxes with
  |some x=>match xT s j.cr (lU j.boxes) x,aek j.h s0 s with
   |some y,some z=>some (y,z)|_,_=>none
  |none=>none
 else none
def RS.load (tick:Nat):(r:RS)->(ts:List Ty)->HL C (Ki r.ty ts)->(R C×List (Nat×Nat×B C))×HL C ts
 |.val t,ts,x=>((.val t (xP t ts x),[]),wZ t ts x)|.full t,ts,x=>((.full t (xP (.list t) ts x),[]),wZ (.list t) ts x)
 |.loc d k,ts,x=>((.loc d k,[]),x)|.whole d,ts,x=>((.whole d,[]),x)
 |.own d t e,ts,x=>((.whole d,[(d,tick,.aT t e (xP (.list t) ts x))]),wZ (.list t) ts x)|.dn t k,ts,x=>((.dn t (xP t ts x) k,[]),wZ t ts x)
def loadCells(tick:Nat):(l:List RS)->(ts:List Ty)->HL C (rM l ts)->(List (R C)×List (Nat×Nat×B C))×HL C ts
 |[],ts,x=>(([],[]),x)|r::l,ts,x=>let p:=r.load tick (rM l ts) x;let q:=loadCells tick l ts p.2;((p.1.1::q.1.1,p.1.2++q.1.2),q.2)
def oW(tick:Nat):(l:List (Nat×BS))->HL C (lU l)->List (Nat×Nat×B C)
 |[],_=>[]|(d,.cells t cs)::l,x=>let p:=loadCells tick cs (lU l) x;(d,tick,.cells t p.1.1)::(p.1.2++oW tick l p.2)
 |(d,.aT t e)::l,x=>(d,tick,.aT t e (xP (.list t) (lU l) x))::oW tick l (wZ (.list t) (lU l) x)
def qR(tick:Nat):(l:List (Nat×RS))->(ts:List Ty)->HL C (vW l ts)->(List (Nat×Nat×R C)×List (Nat×Nat×B C))×HL C ts
 |[],_,x=>(([],[]),x)|(t,r)::l,ts,x=>let p:=r.load tick (vW l ts) x;let q:=qR tick l ts p.2;(((t,tick,p.1.1)::q.1.1,p.1.2++q.1.2),q.2)
def qS{β:Type}(s0:List (Nat×Nat×β)):List Nat->List (Nat×Nat×β)
 |[]=>[]|t::l=>match ao s0 t with
  |some (a,x)=>(t,a,x)::qS s0 l|none=>qS s0 l
def Sh.load (j:Sh) (s0:S C) (x:HL C j.tys×HT C j.h):S C:=
 let p:=qR s0.tick j.cr (lU j.boxes) x.1
 {r:=p.1.1++qS s0.r j.dN,b:=p.1.2++(oW s0.tick j.boxes p.2++qS s0.b j.ve),tick:=s0.tick+1,h:=M8 j.h s0 x.2,hv:=Dv j.h s0,m:=s0.m}
end
section
variable(X:Ctx U)(kx:tz U->S U.C->Option α)(esc:List (Nat×Nat))
noncomputable def exec:Code->Hint->S U.C->(Ex->S U.C->Option α)->Option α
 |.skip,_,s,k=>k .normal s|.label _,_,s,k=>k .normal s
 |.region _ ops draw,_,s,k=>bif draw then Ic X esc ops s λs=>k .normal s
  else oM X kx esc ops ops.toList s λs=>k .normal s
 |.seq a b,h,s,k=>match h with
  |.seq (some j) ha hb=>bif !j.vg X then none else aM (λx=>exec b hb (j.load s x) k) λJ=>exec a ha s λe s'=>match e with
   |.normal=>match j.save s s' with
    |some x=>J x|none=>none
   |e=>k e s'
  |.seq none ha hb=>exec a ha s λe s'=>match e with
   |.normal=>exec b hb s' k|e=>k e s'
  |_=>exec a .leaf s λe s'=>match e with
   |.normal=>exec b .leaf s' k|e=>k e s'
 |.cond c a b,h,s,k=>match AY (s.ev c),h with
  |some q,.cond ha hb=>cond q (exec a ha s k) (exec b hb s k)|some q,_=>cond q (exec a .leaf s k) (exec b .leaf s k)
  |none,_=>none
 |.block id a,h,s,k=>exec a (match h with|.block ha=>ha|_=>.leaf) s λe s'=>match e with
  |.exit Jv=>bif Nat.beq Jv id then k .normal s' else k (.exit Jv) s'|e=>k e s'
 |.loop a,h,s,k=>match h with
  |.loop j ha=>bif !j.vg X then none else match j.save s s with
   |some x0=>aE (λrec x=>exec a ha (j.load s x) λe s'=>match e with
    |.normal=>match j.save s s' with
     |some x=>rec x|none=>none
    |e=>k e s') X.N x0
   |none=>none
  |.M7 ha=>aE (λrec s=>exec a ha s λe s'=>match e with
    |.normal=>rec s'|e=>k e s') 64 s
  |_=>none
 |.exit id,_,s,k=>k (.exit id) s|.scope a,h,s,k=>exec a (match h with|.scope ha=>ha|_=>.leaf) s k
 |.ret,_,s,k=>k .ret s|_,_,_,_=>none
end
def OT{U:cm}{α:Type}(ty:Ty)(s:S U.C)(r:R U.C)(K:S U.C->Option α):Option α:=match ty,r with
 |.ref _,.loc d _=>s.J1 d K|_,_=>K s
def cO(X:Ctx U):Bool->(l:List ResultVar)->(rs:List RK)->S U.C->(S U.C->HL U.C (rs.map RK.ty)->Option α)->Option α
 |_,[],[],s,K=>K s ()|fr,.tmp t::l,.v ty::rs,s,K=>bif fg ty then(bif fr then OT ty s (s.look t) λs=>s.val true (s.look t) ty λs v=>cO X fr l rs s λs vs=>K s (il ty (rs.map RK.ty) v vs)
   else match fV ty (s.look t)with
    |some v=>cO X fr l rs s λs vs=>K s (il ty (rs.map RK.ty) v vs)|none=>none)else none
 |fr,.tmp t::l,.own ty e::rs,s,K=>bif fr&&decide (X.ty e=some ty)then match(match s.look t with
   |.whole d=>(match s.box d with|some (.aT t' e' xs)=>(bif decide (e=e')then eV (.list t') (.list ty) xs else none)|_=>none)
   |.const v=>(bif eG v then some []else none)|.full t' xs=>(bif decide (t'=ty)then(match xs with|[]=>some []|_=>none)else none)
   |_=>none:Option (den U.C (.list ty)))with
  |some xs=>cO X false l rs s λs vs=>K s (il (.list ty) (rs.map RK.ty) xs vs)|none=>none
  else none
 |fr,.cell a te::l,.v ty::rs,s,K=>bif decide (X.ty te=some ty)then match s.look a with
  |.loc d k=>match s.box d with
   |some (.cells _ cs)=>match(Kb U ty k cs).bind (fV ty)with
    |some v=>cO X false l rs s λs vs=>K s (il ty (rs.map RK.ty) v vs)|none=>none
   |_=>none
  |_=>none
  else none
 |_,_,_,_,_=>none
def ael{C:Nat->Type}:(t:Ty)->den C t->R C
 |.cell t,x=>.dn t x 0|.mz a b,φ=>.sC (.val (.rJ a b) φ)
 |t,x=>.val t x
def oA(ps:List Ty):(i:Nat)->HL U.C ps->List (Nat×Nat×R U.C):=match ps with
 |[]=>λ_ _=>[]|t::ts=>λi x=>(i,0,ael t (xP t ts x))::oA ts (i+1) (wZ t ts x)
noncomputable def Gm (X:Ctx U) (ps:List Ty) (rs:List RK) (p:Option (TypeId×Ty)) (esc:List (Nat×Nat)) (M9:List ResultVar) (c:Code) (hint:Hint) (x:HL U.C ps) (h:U.C 0):Option (iG U p (HL U.C (rs.map RK.ty))):=
 exec X (λq s=>Fs p q) esc c hint {r:=oA ps 0 x,b:=[],tick:=1,h:=h,m:=λ_=>false} λe s=>match e with
  |.exit _=>none|_=>cO X true M9 rs s λs y=>some (zw p y)
def A6{β σ:Type}(h:σ):Option β->Option (β×σ)
 |some x=>some (x,h)|none=>none
noncomputable def Dx (X:Ctx U) (ps:List Ty) (rs:List RK) (p:Option (TypeId×Ty)) (esc:List (Nat×Nat)) (M9:List ResultVar) (c:Code) (hint:Hint) (x:HL U.C ps) (h:U.C 0):Option (iG U p (HL U.C (rs.map RK.ty))×U.C 0):=
 exec X (λq s=>A6 s.h (Fs p q)) esc c hint {r:=oA ps 0 x,b:=[],tick:=1,h:=h} λe s=>match e with
  |.exit _=>none|_=>cO X true M9 rs s λs y=>some (zw p y,s.h)
end
variable{t a:Ty}
def dk(k i:Nat):Nat:=k+1000*i
theorem Xl(hk:k<1000)(fM:k'<1000)(h:dk k i=dk k' i'):k=k'/\i=i':=by unfold dk at h;omega
structure da(C:Nat->Type)where
 cl:(n:Nat)->C n->List AV
 hz:Nat->Nat
section
variable{C:Nat->Type}(T:da C)
def jA(p:Option (Nat×Nat))(k:Nat):AV:=match p with
 |none=>.emp|some q=>.view (dk k q.1) (T.hz k) q.2
def vX(p:Option Nat)(k:Nat):AV:=match p with
 |none=>.fl (.pointer none)|some i=>.ptr (dk k i) 0
def Dy(p:Option Nat)(k:Nat):AV:=match p with
 |none=>.fl (.map none)|some i=>.mp (dk k i)
def Ig{β:Type}(f:β->AV)(p:Option β):AV:=match p with
 |none=>.fl (.pointer none)|some x=>.ref (f x).cells
def OU:Ty->AV->List AV
 |.pair _ u,.ref [a,b]=>a::OU u b|_,a=>[a]
def enc:(t:Ty)->den C t->AV
 |.int k,n=>.fl (.int k n)|.bool,b=>.fl (.bool b)
 |.str,s=>.fl (bs s)|.unit,_=>.fl undef
 |.list t,xs=>.sl (List.map (enc t) xs)|.struct n,x=>.agg (T.cl n x)
 |.ref t,p=>Ig (enc t) p|.cell t,x=>.ref (enc t x).cells
 |.pair t u,x=>.ref [enc t x.1,enc u x.2]|.fn _ _,_=>.fl undef
 |.rJ _ _,_=>.fl undef|.ptr k,p=>vX p k
 |.hs k,p=>jA T p k|.mp k,p=>Dy p k
 |.mz _ _,_=>.fl undef|.J9 f t,x=>.fn f (OU t (enc t x))
 |.zq k off,i=>.ptr (dk k i) off
def lx:(ts:List Ty)->HL C ts->List AV
 |[],_=>[]|t::ts,x=>(enc T t (xP t ts x)).cells++lx ts (wZ t ts x)
end
def eW(U:cm):Nat->Ty->Bool
 |0,.struct _=>false|k+1,.struct n=>(U.fields n).all (eW U k)
 |_,_=>true
structure Lawful(U:cm)(T:da U.C):Prop where
 Ih:∀n x,U.un n (U.make n x)=x
 cells:∀n x,T.cl n x=lx T (U.fields n) (U.un n x)
 ok:∀n,(U.fields n).all fg=true
 deep:∀n,eW U D (.struct n)=true
 hz:∀k t e,U.ak k=.aT t e->T.hz k=bj U D t
 Ch:∀k h l,k<U.nk->U.get k (U.set k h l)=l
 nk:U.nk<=1000
 Ii:∀k h h',U.nk<=k->U.get k h=U.get k h'
 uz:∀k k' h l,k'≠k->U.get k' (U.set k h l)=U.get k' h
theorem iO{U:cm}{T:da U.C}(L:Lawful U T)(hk:k<U.nk)(fM:k'<U.nk)(h:dk k i=dk k' i'):k=k'/\i=i':=Xl (gC hk L.nk) (gC fM L.nk) h
section
variable{C:Nat->Type}
@[simp] theorem eM(t:Ty)(ts:List Ty)(x:den C t)(xs:HL C ts):xP t ts (il t ts x xs)=x:=by cases ts<;>rfl
@[simp] theorem eO(t:Ty)(ts:List Ty)(x:den C t)(xs:HL C ts):wZ t ts (il t ts x xs)=xs:=by cases ts<;>rfl
theorem Na(x:den C a):eV a a x=some x:=by simp[eV]
theorem bH{b:Ty}{x:den C a}{y:den C b}(h:eV a b x=some y):∃e:a=b,y=e▸x:=by
 unfold eV at h;split at h
 ·rename_i e;exact ⟨e,by simpa using h.symm⟩
 ·cases h
end
section
variable{U:cm}{T:da U.C}(L:Lawful U T)
theorem qT{T:da C}{x:den C t}(h:aL t=false):(enc T t x).isAgg=false:=by
 cases t<;>first|rfl|(simp[aL]at h;done)|skip
 all_goals
  change Option _ at x;cases x<;>rfl
theorem jN{T:da C}{x:den C t}(h:aL t=false):(enc T t x).cells=[enc T t x]:=by have:=qT (T:=T) (x:=x) h;generalize enc T t x=v at*;cases v<;>first|rfl|(simp[AV.isAgg]at this)
include L in
theorem Nc:∀{k:Nat}{t:Ty}(x:den U.C t),eW U k t=true->(enc T t x).wf/\(enc T t x).cells.length=bj U k t
 |k,t,x,h=>by
  by_cases hs:aL t=true
  ·cases t with
   |struct n=>
    cases k with
    |zero=>simp[eW]at h|succ k=>
     simp only[eW,cJ]at h;have key:∀(ts:List Ty)(y:HL U.C ts),(∀t∈ts,eW U k t=true)->(∀c∈lx T ts y,c.isAgg=false)/\(lx T ts y).length=iF (bj U k) ts:=by
      intro ts;induction ts with
      |nil=>intro y _;simp[lx,iF]|cons t ts ih=>
       intro y h;obtain⟨h1,h2⟩:=Nc (k:=k) (xP t ts y) (h t (by simp));obtain⟨h3,h4⟩:=ih (wZ t ts y) λt ht=>h t (by simp[ht]);simp only[lx,iF,kR,h2,h4];refine⟨λc hc=>?_,trivial⟩;rcases dt.1 hc with hc|hc
       ·exact h1 c hc
       ·exact h3 c hc
     have:=key _ (U.un n x) h;simp only[enc,AV.cells,AV.wf,bj];rw[L.cells];exact this
   |_=>simp[aL]at hs
  ·have hs:aL t=false:=by simpa using hs
   have h1:=jN (T:=T) (x:=x) hs;have h2:=qT (T:=T) (x:=x) hs;refine⟨λc hc=>?_,?_⟩
   ·rw[h1]at hc;simp at hc;subst hc;exact h2
   ·rw[h1];cases t<;>first|(simp[aL]at hs;done)|(cases k<;>rfl)
include L in
theorem iz(t:Ty):eW U D t=true:=by cases t<;>first|exact L.deep _|rfl
include L in
theorem dP(x:den U.C t):(enc T t x).cells.length=bj U D t:=(Nc L x (iz L t)).2
include L in
theorem uA(x:den U.C t):(enc T t x).wf:=(Nc L x (iz L t)).1
end
theorem tD{a b:Nat}(h:¬a=b):Nat.beq a b=false:=by
 cases hb:Nat.beq a b with
 |false=>rfl|true=>exact absurd (bM hb) h
section
variable{β:Type}
theorem aI(d st:Nat)(x:β)(l:List (Nat×Nat×β))(t:Nat):ao ((d,st,x)::l) t=if d=t then some (st,x)else ao l t:=by
 simp only[ao];by_cases h:d=t
 ·subst h;simp
 ·simp[tD h,h]
theorem aF(l:List (Nat×Nat×β))(d t:Nat):ao (bk l d) t=if d=t then none else ao l t:=by
 induction l with
 |nil=>simp[bk,ao]|cons e l ih=>
  obtain⟨d',st,x⟩:=e;simp only[bk];by_cases h:d'=d
  ·subst h;simp only[rN,ba,ih];by_cases h2:d'=t
   ·simp[h2]
   ·simp[aI,h2]
  ·simp only[tD h,bc,aI,ih];by_cases h2:d'=t
   ·subst h2;simp[c5 h]
   ·simp[h2]
theorem xU(l1 l2:List (Nat×Nat×β))(t:Nat):ao (l1++l2) t=(ao l1 t).or (ao l2 t):=by
 induction l1 with
 |nil=>rfl|cons e l ih=>obtain⟨d',st,x⟩:=e;simp only[ou,aI,ih];split<;>rfl
theorem fW{l:List (Nat×Nat×β)}{t:Nat}{x:β}(h:ao l t=some (st,x)):(t,st,x)∈l:=by
 induction l with
 |nil=>cases h
 |cons e l ih=>
  obtain⟨d',jh,x'⟩:=e;rw[aI]at h;split at h
  ·rename_i e;subst e;simp only[ah,aS]at h;obtain ⟨rfl,rfl⟩:=h;simp
  ·exact tF _ (ih h)
end
section
variable{C:Nat->Type}
theorem kW(d tk:Nat)(l:List (Nat×Nat×R C))(t:Nat):ao (lQ d tk l) t=(ao l t).map λe=>if e.2.mentions d=true then(tk,.none)else e:=by
 induction l with
 |nil=>rfl|cons e l ih=>
  obtain⟨d',st,x⟩:=e;simp only[lQ];cases h:x.mentions d<;>simp only[ba,bc,aI,ih]
  ·by_cases h2:d'=t<;>simp[h2,h]
  ·by_cases h2:d'=t<;>simp[h2,h]
theorem vY{l:List (Nat×Nat×B C)}(h:oy d l=true){t:Nat}{x:B C}(hx:ao l t=some (st,x)):x.mentions d=false:=by
 have hm:=fW hx;clear hx;induction l with
 |nil=>cases hm
 |cons e l ih=>
  obtain⟨d',jh,x'⟩:=e;simp only[oy,aD,hO]at h;rcases c6.1 hm with e|e
  ·simp only[aS]at e;obtain ⟨rfl,rfl,rfl⟩:=e;exact h.1
  ·exact ih h.2 e
theorem eo{d:Nat}:∀{rs:List (R C)},cF d rs=false↔∀r∈rs,r.mentions d=false
 |[]=>by simp[cF]|r::rs=>by simp[cF,eo (rs:=rs)]
end
section
variable(P:Program)(E:Env){U:cm}(T:da U.C)(X:Ctx U)
def Ij:(a:Ty)->den U.C a->List AV->Prop
 |.unit,_,aX=>aX=[]|.pair t u,x,aX=>fg t=true/\∃r,aX=enc T t x.1::r/\Ij u x.2 r
 |t,x,aX=>fg t=true/\aX=[enc T t x]
def km:(b:Ty)->den U.C b->List RV
 |.unit,_=>[]|.pair t u,y=>.v (enc T t y.1)::km u y.2
 |t,y=>[.v (enc T t y)]
def Dz:(k:AK)->zu U.C k->Option Ob
 |.obj t,x=>some (.cells (enc T t x).cells)|.aT t e,x=>match(x:Option (List (den U.C t)))with
  |some xs=>some (.aT e (xs.map (enc T t)))|none=>none
 |.map a b,es=>some (.map (List.map (λp:den U.C a×den U.C b=>(enc T a p.1,enc T b p.2)) es))
theorem vZ(k:AK)(x:zu U.C k):nA (Dz T k x)=Dz T k x:=by
 cases k with
 |aT t e=>
  have:∀y:Option (List (den U.C t)),nA (Dz T (.aT t e) y)=Dz T (.aT t e) y:=λy=>by cases y<;>rfl
  exact this x
 |_=>rfl
def fa(m:Nat->Bool)(h:U.C 0)(a:Nat->Option Ob)(u:Nat->Bool):Prop:=
 ∀k,k<U.nk->m k=true->∀i,match(U.get k h)[i]? with
  |some x=>nA (a (dk k i))=Dz T (U.ak k) x|none=>a (dk k i)=none/\u (dk k i)=false
def full:Nat->Bool:=λ_=>true
def mT:(t:Ty)->den U.C t->AV->Prop
 |.fn a b,φ,av=>∃f caps,av=.fn f caps/\∀x y,φ x=some y->∀aX,Ij T a x aX->oI P E f (aX++caps) (.ret (km T b y))|.rJ a b,φ,av=>∃f caps,av=.fn f caps/\∀x h y h',φ x h=some (y,h')->∀aX,Ij T a x aX->∀A V,fa T full h A V->∃A' V',fa T full h' A' V'/\nE P E f (aX++caps) A V (.ret (km T b y)) A' V'
 |.cell t,x,av=>fg t=true/\av=enc T (.cell t) x|.mz a b,φ,av=>∃f caps,av=.ref [.fn f caps]/\∀x h y h',φ x h=some (y,h')->∀aX,Ij T a x aX->∀A V,fa T full h A V->∃A' V',fa T full h' A' V'/\nE P E f (aX++caps) A V (.ret (km T b y)) A' V'
 |t,x,av=>fg t=true/\av=enc T t x
inductive bn(bx:List (Nat×Nat×B U.C))(g:Nat->Nat)(tick:Nat):R U.C->br->Prop
 |none (q:br):bn bx g tick .none q
 |val (t:Ty) (x:den U.C t) (q:br) (av:AV) (hq:bh q=some av) (h:mT P E T t x av):bn bx g tick (.val t x) q
 |const (v:Value) (h:xd v=true):bn bx g tick (.const v) (cf v)
 |full (t:Ty) (xs:List (den U.C t)) (h:fg t=true):bn bx g tick (.full t xs) (.full (xs.map (enc T t)))
 |loc (d k:Nat) (q:br) (h:∀st u rs,ao bx d=some (st,.cells u rs)->q=.loc d (g d) 0 0 k):bn bx g tick (.loc d k) q
 |whole (d:Nat) (q:br) (h:∀st t e xs,ao bx d=some (st,.aT t e xs)->q=.view d (g d) 0 xs.length):bn bx g tick (.whole d) q
 |gl (d i k mn:Nat) (t:Ty) (x:den U.C t) (q:br) (hv:mn<tick) (h:∀st t' e xs,ao bx d=some (st,.aT t' e xs)->q=.loc d (g d) (bj U D t') i k/\i<xs.length/\(st=mn->(⟨t',xs[i]?⟩:(u:Ty)×Option (den U.C u))=⟨t,some x⟩)):bn bx g tick (.gl d i k mn t x) q
 |dn (t:Ty) (x:den U.C t) (k:Nat) (h:fg t=true):bn bx g tick (.dn t x k) (.val (.ref ((enc T t x).cells.drop k)))
 |fb (rs:List (R U.C)) (qs:List br) (h:rs.length=qs.length) (h2:∀(i:Nat)(r:R U.C)(q:br),rs[i]?=some r->qs[i]?=some q->bn bx g tick r q):bn bx g tick (.fb rs) (.fb qs)
 |fn (f:FuncId) (caps:List (R U.C)) (aX:List AV) (h:caps.length=aX.length) (h2:∀(i:Nat)(r:R U.C)(av:AV),caps[i]?=some r->aX[i]?=some av->bn bx g tick r (.val av)):bn bx g tick (.fn f caps) (.val (.fn f aX))
 |mI (tid:TypeId) (t:Ty) (x:den U.C t) (h:fg t=true):bn bx g tick (.mI tid t x) (.val (.mI tid (enc T t x)))
 |jZ (k i off:Nat):bn bx g tick (.jZ k i off) (.val (.ptr (dk k i) off))
 |jv (k i j off:Nat):bn bx g tick (.jv k i j off) (.val (.ptr (dk k i) (j*T.hz k+off)))
 |sub (d off m:Nat) (q:br) (h:∀st t e xs,ao bx d=some (st,.aT t e xs)->q=.view d (g d) off m/\off+m<=xs.length):bn bx g tick (.sub d off m) q
 |vc (rs:List (R U.C)) (aX:List AV) (h:rs.length=aX.length) (h2:∀(i:Nat)(r:R U.C)(av:AV),rs[i]?=some r->aX[i]?=some av->bn bx g tick r (.val av)) (h3:∀(i:Nat)(av:AV),aX[i]?=some av->av.isAgg=false):bn bx g tick (.vc rs) (.val (.sl aX))
 |sC (r:R U.C) (av:AV) (h:bn bx g tick r (.val av)):bn bx g tick (.sC r) (.val (.ref [av]))
 |emp (t:Ty) (h:fg t=true):bn bx g tick (.emp t) (.val .emp)
 |agg (n:Nat) (rs:List (R U.C)) (aX:List AV) (h:rs.length=aX.length) (h2:∀(i:Nat)(r:R U.C)(av:AV),rs[i]?=some r->aX[i]?=some av->bn bx g tick r (.val av)) (h3:∀(i:Nat)(av:AV),aX[i]?=some av->av.isAgg=false):bn bx g tick (.agg n rs) (.val (.agg aX))
 |it:bn bx g tick .it (.val (.fl (.pointer (some ⟨E.it,0,none⟩))))
 |nz (f:FuncId) (rs:List (R U.C)) (aX:List AV) (h:rs.length=aX.length) (h2:∀(i:Nat)(r:R U.C)(av:AV),rs[i]?=some r->aX[i]?=some av->bn bx g tick r (.val av)):bn bx g tick (.nz f rs) (.val (.nz f aX))
def pI(bx:List (Nat×Nat×B U.C))(g:Nat->Nat)(tick:Nat):Option (Nat×B U.C)->Option Bx->Prop
 |none,_=>True|some (_,.cells u rs),q=>fg u=true/\bj U D u=rs.length/\∃cs,q=some (.cells cs)/\rs.length=cs.length/\∀(i:Nat)(r:R U.C)(c:br),rs[i]?=some r->cs[i]?=some c->bn P E T bx g tick r c
 |some (_,.aT t e xs),q=>X.ty e=some t/\q=some (.aT e (xs.map (enc T t)))
structure aN(s:S U.C)(q:St):Prop where
 cr:∀t,bn P E T s.b q.g s.tick (s.look t) (q.r t)
 boxes:∀d,pI P E T X s.b q.g s.tick (ao s.b d) (q.b d)
 Ci:∀t st x,ao s.r t=some (st,x)->st<s.tick
 Fw:∀d st x,ao s.b d=some (st,x)->st<s.tick
 heap:fa T s.m s.h q.a q.u
 df:q.df=E.df
def kX{C:Nat->Type}(bx bx':List (Nat×Nat×B C))(g g':Nat->Nat)(tick d:Nat):Prop:=(ao bx' d=ao bx d/\g' d=g d)∨ao bx' d=none∨(g' d=g d/\∃st u rs jh u' yR,ao bx d=some (st,.cells u rs)/\ao bx' d=some (jh,.cells u' yR))∨(g' d=g d/\∃st t e xs jh e' om,ao bx d=some (st,.aT t e xs)/\ao bx' d=some (jh,.aT t e' om)/\om.length=xs.length/\tick<=jh)
end
section
variable{P:Program}{E:Env}{U:cm}{T:da U.C}{X:Ctx U}{bx bx':List (Nat×Nat×B U.C)}{g g':Nat->Nat}{tick tick':Nat}
theorem bn.mono {r:R U.C} {q:br} (h:bn P E T bx g tick r q) (hk:∀d,r.mentions d=true->kX bx bx' g g' tick d) (ht:tick<=tick'):bn P E T bx' g' tick' r q:=by
 induction h with
 |none q=>exact .none q|val t x q av hq h=>exact .val t x q av hq h
 |const v h=>exact .const v h|full t xs h=>exact .full t xs h
 |loc d k q h=>
  refine .loc d k q λst u rs hb=>?_;rcases hk d (by simp[R.mentions])with⟨h1,h2⟩|h1|⟨h2,TF,u0,rs0,_,_,_,h3,h4⟩|⟨h2,TF,t,e,xs,jh,e',om,h3,h4,_⟩
  ·rw[h2];exact h st u rs (h1▸hb)
  ·rw[h1]at hb;cases hb
  ·rw[h2];exact h _ _ _ h3
  ·rw[h4]at hb;simp at hb
 |whole d q h=>
  refine .whole d q λst t e xs hb=>?_;rcases hk d (by simp[R.mentions])with⟨h1,h2⟩|h1|⟨h2,TF,u0,rs0,_,_,_,h3,h4⟩|⟨h2,TF,t0,e0,zE,jh,e',om,h3,h4,h5,_⟩
  ·rw[h2];exact h st t e xs (h1▸hb)
  ·rw[h1]at hb;cases hb
  ·rw[h4]at hb;simp at hb
  ·rw[h4]at hb;simp only[ah,aS,B.aT.injEq]at hb;obtain⟨_,rfl,_,hb⟩:=hb;cases hb;rw[h2,h5];exact h _ _ _ _ h3
 |gl d i k mn t x q hv h=>
  refine .gl d i k mn t x q (by omega) λst t' e xs hb=>?_;rcases hk d (by simp[R.mentions])with⟨h1,h2⟩|h1|⟨h2,TF,u0,rs0,_,_,_,h3,h4⟩|⟨h2,TF,t0,e0,zE,jh,e',om,h3,h4,h5,h6⟩
  ·rw[h2];exact h st t' e xs (h1▸hb)
  ·rw[h1]at hb;cases hb
  ·rw[h4]at hb;simp at hb
  ·rw[h4]at hb;simp only[ah,aS,B.aT.injEq]at hb;obtain⟨rfl,rfl,_,hb⟩:=hb;cases hb;obtain⟨q1,q2,_⟩:=h _ _ _ _ h3;rw[h2];exact⟨q1,by omega,λe=>by omega⟩
 |dn t x k h=>exact .dn t x k h|fb rs qs h h2 ih=>
  refine .fb rs qs h λi r q hr hq=>ih i r q hr hq λd hd=>hk d ?_;simp only[R.mentions];cases hm:cF d rs with
  |true=>rfl|false=>rw[eo.1 hm r (bC hr)]at hd;cases hd
 |fn f caps aX h h2 ih=>
  refine .fn f caps aX h λi r q hr hq=>ih i r q hr hq λd hd=>hk d ?_;simp only[R.mentions];cases hm:cF d caps with
  |true=>rfl|false=>rw[eo.1 hm r (bC hr)]at hd;cases hd
 |mI tid t x h=>exact .mI tid t x h|jZ k i off=>exact .jZ k i off
 |jv k i j off=>exact .jv k i j off|sub d off m q h=>
  refine .sub d off m q λst t e xs hb=>?_;rcases hk d (by simp[R.mentions])with⟨h1,h2⟩|h1|⟨h2,TF,u0,rs0,_,_,_,h3,h4⟩|⟨h2,TF,t0,e0,zE,jh,e',om,h3,h4,h5,_⟩
  ·rw[h2];exact h st t e xs (h1▸hb)
  ·rw[h1]at hb;cases hb
  ·rw[h4]at hb;simp at hb
  ·rw[h4]at hb;simp only[ah,aS,B.aT.injEq]at hb;obtain⟨_,rfl,_,hb⟩:=hb;cases hb;rw[h2,h5];exact h _ _ _ _ h3
 |vc rs aX h h2 h3 ih=>
  refine .vc rs aX h (λi r q hr hq=>ih i r q hr hq λd hd=>hk d ?_) h3;simp only[R.mentions];cases hm:cF d rs with
  |true=>rfl|false=>rw[eo.1 hm r (bC hr)]at hd;cases hd
 |sC r av h ih=>exact .sC r av (ih λd hd=>hk d (by simpa[R.mentions]using hd))|emp t h=>exact .emp t h
 |it=>exact .it|nz f rs aX h h2 ih=>
  refine .nz f rs aX h λi r q hr hq=>ih i r q hr hq λd hd=>hk d ?_;simp only[R.mentions];cases hm:cF d rs with
  |true=>rfl|false=>rw[eo.1 hm r (bC hr)]at hd;cases hd
 |agg n rs aX h h2 h3 ih=>
  refine .agg n rs aX h (λi r q hr hq=>ih i r q hr hq λd hd=>hk d ?_) h3;simp only[R.mentions];cases hm:cF d rs with
  |true=>rfl|false=>rw[eo.1 hm r (bC hr)]at hd;cases hd
theorem kX.refl (d:Nat):kX bx bx g g tick d:=.inl ⟨rfl,rfl⟩
theorem bn.later {r:R U.C} {q:br} (h:bn P E T bx g tick r q) (ht:tick<=tick'):bn P E T bx g tick' r q:=h.mono (λd _=>.refl d) ht
theorem pI.mono {o:Option (Nat×B U.C)} {q:Option Bx} (h:pI P E T X bx g tick o q) (hk:∀st x,o=some (st,x)->∀d,x.mentions d=true->kX bx bx' g g' tick d) (ht:tick<=tick'):pI P E T X bx' g' tick' o q:=by
 rcases o with _|⟨st,x⟩
 ·trivial
 ·cases x with
  |cells u rs=>
   obtain⟨h1,h2,cs,h3,h4,h5⟩:=h;refine⟨h1,h2,cs,h3,h4,λi r c hr hc=>(h5 i r c hr hc).mono (λd hd=>hk st _ rfl d ?_) ht⟩;simp only[B.mentions];cases hm:cF d rs with
   |true=>rfl|false=>rw[eo.1 hm r (bC hr)]at hd;cases hd
  |aT t e xs=>exact h
theorem aN.put {s:S U.C} {q:St} (h:aN P E T X s q) (dst:Option Nat) {r:R U.C} {u:br} (hr:bn P E T s.b q.g s.tick r u):aN P E T X (s.put dst r) (q.put dst u):=by
 cases dst with
 |none=>exact h|some d=>
  refine⟨λt=>?_,λd'=>(h.boxes d').mono (λ_ _ _ d _=>.refl d) (cL _),λt st x hx=>?_,λd' st x hx=>Ik (h.Fw d' st x hx),h.heap,h.df⟩
  ·simp only[S.put,S.look,aI,St.qw,bF];by_cases e:d=t
   ·subst e;simp only[bp];exact hr.later (cL _)
   ·simp only[e,bY,c5 e];exact(h.cr t).later (cL _)
  ·simp only[S.put,aI]at hx⊢;split at hx
   ·simp only[ah,aS]at hx;omega
   ·have:=h.Ci t st x hx;omega
theorem aN.ev {s:S U.C} {q:St} (h:aN P E T X s q) (x:Operand) (hx:bI x=true):bn P E T s.b q.g s.tick (s.ev x) (q.ev x):=by
 cases x with
 |tmp t=>exact h.cr t|const v=>exact .const v hx
 |global g=>exact .none _|func f=>exact .fn f [] [] rfl (λi r av hr=>by simp at hr)
theorem c7{s:S C}{b:B C}(hb:s.box d=some b):ao s.b d=some (s.mn d,b):=by
 unfold S.box at hb;unfold S.mn;split at hb
 ·rename_i st x hx;rw[hx];simpa using hb
 ·cases hb
theorem aN.drop {s:S U.C} {q:St} (h:aN P E T X s q) (d:Nat):aN P E T X (s.drop d) {q with b:=bF q.b d none}:=by
 have hk:∀d',kX s.b (bk s.b d) q.g q.g s.tick d':=λd'=>by
  by_cases e:d=d'
  ·right;left;rw[aF,ap e]
  ·left;rw[aF,ai e];exact ⟨rfl,rfl⟩
 refine⟨λt=>(h.cr t).mono (λd' _=>hk d') (aP _),λd'=>?_,h.Ci,λd' st x hx=>?_,h.heap,h.df⟩
 ·simp only[S.drop,aF,bF];by_cases e:d=d'
  ·subst e;simp[pI]
  ·simp only[e,bY,c5 e];exact(h.boxes d').mono (λ_ _ _ d _=>hk d) (aP _)
 ·simp only[S.drop,aF]at hx;split at hx
  ·cases hx
  ·exact h.Fw d' st x hx
theorem aN.Nf {s:S U.C} {q:St} (h:aN P E T X s q) {b:B U.C} (hf:oy d s.b=true) {x:Bx}
  (hb:pI P E T X ((d,s.tick,b)::bk s.b d) (bF q.g d (q.g d+1)) (s.tick+1) (some (s.tick,b)) (some x)):
  aN P E T X {s with r:=lQ d s.tick s.r,b:=(d,s.tick,b)::bk s.b d,tick:=s.tick+1} {q with b:=bF q.b d (some x),g:=bF q.g d (q.g d+1)}:=by
 have hk:∀d',d'≠d->kX s.b ((d,s.tick,b)::bk s.b d) q.g (bF q.g d (q.g d+1)) s.tick d':=λd' e=>by left;rw[aI,ai (c5 e),aF,ai (c5 e),ay _ _ e];exact ⟨rfl,rfl⟩
 refine⟨λt=>?_,λd'=>?_,λt st y hy=>?_,λd' st y hy=>?_,h.heap,h.df⟩
 ·simp only[S.look,kW];have h1:=h.cr t;unfold S.look at h1;cases hl:ao s.r t with
  |none=>simp only[hl,jW]at h1⊢;exact .none _|some e=>
   obtain⟨st,y⟩:=e;simp only[hl,bQ]at h1⊢;cases hm:y.mentions d with
   |true=>simp only[bp];exact .none _|false=>simp only[gB,bY];exact h1.mono (λd' hd=>hk d' λe=>by subst e;rw[hm]at hd;cases hd) (cL _)
 ·simp only[aI,aF,bF];by_cases e:d=d'
  ·subst e;simp only[bp];exact hb
  ·simp only[e,bY,c5 e];refine(h.boxes d').mono (λst y hy d2 hd=>hk d2 λe2=>?_) (cL _);subst e2;rw[vY hf hy]at hd;cases hd
 ·simp only[kW,ck]at hy;obtain⟨⟨jh,y'⟩,h1,h2⟩:=hy;have:=h.Ci t jh y' h1;simp only at h2⊢;split at h2
  ·simp only[aS]at h2;omega
  ·simp only[aS]at h2;omega
 ·simp only[aI,aF]at hy;split at hy
  ·simp only[ah,aS]at hy;show st<s.tick+1;omega
  ·have:=h.Fw d' st y hy;show st<s.tick+1;omega
theorem aN.Xm {s:S U.C} {q:St} (h:aN P E T X s q) {b:B U.C} (hf:oy d s.b=true) {x:Bx} {q1:St} (hr:∀t,s.look t≠.none->q1.r t=q.r t) (hbb:∀d',d'≠d->q1.b d'=q.b d') (OV:q1.b d=some x) (hgg:∀d',d'≠d->q1.g d'=q.g d') (ha:q1.a=q.a) (hu:q1.u=q.u) (E5:q1.df=q.df)
  (hb:pI P E T X ((d,s.tick,b)::bk s.b d) q1.g (s.tick+1) (some (s.tick,b)) (some x)):
  aN P E T X {s with r:=lQ d s.tick s.r,b:=(d,s.tick,b)::bk s.b d,tick:=s.tick+1} q1:=by
 have hk:∀d',d'≠d->kX s.b ((d,s.tick,b)::bk s.b d) q.g q1.g s.tick d':=λd' e=>by left;rw[aI,ai (c5 e),aF,ai (c5 e),hgg _ e];exact ⟨rfl,rfl⟩
 refine⟨λt=>?_,λd'=>?_,λt st y hy=>?_,λd' st y hy=>?_,by rw[ha,hu];exact h.heap,by rw[E5];exact h.df⟩
 ·have h1:=h.cr t;have h2:=hr t;simp only[S.look,kW]at h1 h2⊢;cases hl:ao s.r t with
  |none=>simp only[hl,jW]at h1⊢;exact .none _|some e=>
   obtain⟨st,y⟩:=e;simp only[hl,bQ]at h1 h2⊢;cases hm:y.mentions d with
   |true=>simp only[bp];exact .none _|false=>
    simp only[gB,bY];by_cases hy:y=.none
    ·subst hy;exact .none _
    ·rw[h2 hy];exact h1.mono (λd' hd=>hk d' λe=>by subst e;rw[hm]at hd;cases hd) (cL _)
 ·simp only[aI,aF];by_cases e:d=d'
  ·subst e;simp only[bp,OV];exact hb
  ·simp only[e,bY,hbb _ (c5 e)];refine(h.boxes d').mono (λst y hy d2 hd=>hk d2 λe2=>?_) (cL _);subst e2;rw[vY hf hy]at hd;cases hd
 ·simp only[kW,ck]at hy;obtain⟨⟨jh,y'⟩,h1,h2⟩:=hy;have:=h.Ci t jh y' h1;simp only at h2⊢;split at h2
  ·simp only[aS]at h2;omega
  ·simp only[aS]at h2;omega
 ·simp only[aI,aF]at hy;split at hy
  ·simp only[ah,aS]at hy;show st<s.tick+1;omega
  ·have:=h.Fw d' st y hy;show st<s.tick+1;omega
theorem nM{α:Type}{s:S C}{b:B C}{k:S C->Option α}{out:α}(h:s.new d b k=some out):
  (oy d s.b=true/\b.mentions d=false)/\k {s with r:=lQ d s.tick s.r,b:=(d,s.tick,b)::bk s.b d,tick:=s.tick+1}=some out:=by
 unfold S.new at h;cases hf:(oy d s.b&&!b.mentions d)with
 |false=>rw[hf]at h;cases h
 |true=>rw[hf]at h;simp only[aD,hO]at hf;exact⟨hf,h⟩
def ZS{C:Nat->Type}:B C->B C->Prop
 |.cells _ _,.cells _ _=>True|.aT t _ xs,.aT t' _ om=>∃e:t'=t,(e▸om).length=xs.length
 |_,_=>False
theorem aN.gR {s:S U.C} {q:St} (h:aN P E T X s q) {b b':B U.C} (hd:s.box d=some b) {x:Bx}
  (hs:ZS b b')
  (hb:pI P E T X ((d,s.tick,b')::bk s.b d) q.g (s.tick+1) (some (s.tick,b')) (some x)):
  aN P E T X (s.gR d b') {q with b:=bF q.b d (some x)}:=by
 have hl:=c7 hd;have hk:∀d',kX s.b ((d,s.tick,b')::bk s.b d) q.g q.g s.tick d':=λd'=>by
  by_cases e:d=d'
  ·subst e;right;right;rw[aI,ap rfl];cases b with
   |cells u rs=>
    cases b' with
    |cells u' yR=>left;exact ⟨rfl,_,_,_,_,_,_,hl,rfl⟩|aT _ _ _=>exact hs.elim
   |aT t e xs=>
    cases b' with
    |cells u' yR=>exact hs.elim|aT t' e' om=>obtain⟨rfl,h1⟩:=hs;right;exact ⟨rfl,_,_,_,_,_,_,_,hl,rfl,h1,aP _⟩
  ·left;rw[aI,ai e,aF,ai e];exact ⟨rfl,rfl⟩
 refine⟨λt=>(h.cr t).mono (λd' _=>hk d') (cL _),λd'=>?_,λt st y hy=>Ik (h.Ci t st y hy),λd' st y hy=>?_,h.heap,h.df⟩
 ·simp only[S.gR,aI,aF,bF];by_cases e:d=d'
  ·subst e;simp only[bp];exact hb
  ·simp only[e,bY,c5 e];exact(h.boxes d').mono (λ_ _ _ d2 _=>hk d2) (cL _)
 ·simp only[S.gR,aI,aF]at hy⊢;split at hy
  ·simp only[ah,aS]at hy;omega
  ·have:=h.Fw d' st y hy;omega
end
structure bu{C:Nat->Type}(s s':S C):Prop where
 m:s'.m=s.m
 tick:s.tick<=s'.tick
 r:∀t st x,ao s'.r t=some (st,x)->st<s.tick->ao s.r t=some (st,x)
 b:∀d st x,ao s'.b d=some (st,x)->st<s.tick->ao s.b d=some (st,x)
 h:s'.hv<s.tick->s'.hv=s.hv/\s'.h=s.h
section
variable{C:Nat->Type}{s s' s'':S C}
theorem bu.refl (s:S C):bu s s:=⟨rfl,aP _,λ_ _ _ h _=>h,λ_ _ _ h _=>h,λ_=>⟨rfl,rfl⟩⟩
theorem bu.trans (h1:bu s s') (h2:bu s' s''):bu s s'':=⟨h2.m.trans h1.m,dI h1.tick h2.tick,λt st x h hs=>h1.r t st x (h2.r t st x h (gC hs h1.tick)) hs,λd st x h hs=>h1.b d st x (h2.b d st x h (gC hs h1.tick)) hs,λh=>by obtain⟨e1,e2⟩:=h2.h (gC h h1.tick);obtain⟨e3,e4⟩:=h1.h (by rw[<-e1];exact h);exact⟨e1.trans e3,e2.trans e4⟩⟩
theorem bd(dst:Option Nat)(r:R C):bu s (s.put dst r):=by
 cases dst with
 |none=>exact .refl s|some d=>
  refine⟨rfl,cL _,λt st x h hs=>?_,λ_ _ _ h _=>h,λ_=>⟨rfl,rfl⟩⟩;simp only[S.put,aI]at h;split at h
  ·simp only[ah,aS]at h;omega
  ·exact h
theorem kY(d:Nat)(x:B C):bu s {s with r:=lQ d s.tick s.r,b:=(d,s.tick,x)::bk s.b d,tick:=s.tick+1}:=by
 refine⟨rfl,cL _,λt st y h hs=>?_,λd' st y h hs=>?_,λ_=>⟨rfl,rfl⟩⟩
 ·simp only[kW,ck]at h;obtain⟨⟨jh,y'⟩,h1,h2⟩:=h;simp only at h2;split at h2
  ·simp only[aS]at h2;omega
  ·simp only[aS]at h2;rw[h1,h2.1,h2.2]
 ·simp only[aI,aF]at h;split at h
  ·simp only[ah,aS]at h;omega
  ·exact h
theorem jO(d:Nat)(x:B C):bu s (s.gR d x):=by
 refine⟨rfl,cL _,λt st y h hs=>h,λd' st y h hs=>?_,λ_=>⟨rfl,rfl⟩⟩;simp only[S.gR,aI,aF]at h;split at h
 ·simp only[ah,aS]at h;omega
 ·exact h
theorem jP{β:Type}{l:List (Nat×Nat×β)}{t:Nat}{x:Nat×β}(h:ao (bk l d) t=some x):ao l t=some x:=by
 rw[aF]at h;split at h
 ·cases h
 ·exact h
theorem v8(d:Nat):bu s (s.drop d):=⟨rfl,aP _,λ_ _ _ h _=>h,λ_ _ _ h _=>jP h,λ_=>⟨rfl,rfl⟩⟩
theorem rO(h':C 0):bu s {s with h:=h',hv:=s.tick,tick:=s.tick+1}:=⟨rfl,cL _,λ_ _ _ h _=>h,λ_ _ _ h _=>h,λh=>absurd h (Nat.lt_irrefl _)⟩
theorem wa(h':C 0):bu s (s.H8 h'):=rO h'
theorem Il(d:Nat)(h':C 0):bu s (s.HY d h'):=⟨rfl,cL _,λ_ _ _ h _=>h,λ_ _ _ h _=>jP h,λh=>absurd h (Nat.lt_irrefl _)⟩
end
end Go.X
