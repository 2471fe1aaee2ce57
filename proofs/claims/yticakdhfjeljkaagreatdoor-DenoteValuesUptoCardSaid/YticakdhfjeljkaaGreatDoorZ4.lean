import Derived.Test.YticakdhfjeljkaaGreatDoorZ3
set_option linter.all false
open Option renaming some->O,none->Y
open Bool renaming true->W,false->F
namespace Go.X
open Go Go.Ev
variable{k d i tick hv off k' i' st tk t0:Nat}{e el:an}{u:cH}{g:Nat->Nat}{C:Nat->Type}{β γ:Type}{q' q'':St}{A:Nat->V Ob}{Vloc m:Nat->aa}{qs:Z cH}{av:AV}{y:ah}{op:iS}{be:Nat->V Nat}{c:Nat->Nat->V AV}{Xp:AV->St->Prop}
section
inductive Ty where
 |int (k:IntKind)
 |bool
 |str
 |unit
 |bk (t:Ty)
 |struct (n:Nat)
 |ref (t:Ty)
 |cell (t:Ty)
 |iz (a b:Ty)
 |fn (a b:Ty)
 |lP (a b:Ty)
 |ptr (k:Nat)
 |hs (k:Nat)
 |mp (k:Nat)
 |iC (a b:Ty)
 |NY (f:Nat) (t:Ty)
 |An (k off:Nat)
 deriving DecidableEq,Inhabited
abbrev bP:=Z bc
@[reducible] def bL(C:Nat->Type):Ty->Type
  |.int _=>Int|.bool=>aa
  |.str=>bP|.unit=>ab
  |.bk t=>Z (bL C t)|.struct n=>C n
  |.ref t=>V (bL C t)|.cell t=>bL C t
  |.iz a b=>bL C a×bL C b|.fn a b=>bL C a->V (bL C b)
  |.lP a b=>bL C a->C 0->V (bL C b×C 0)|.ptr _=>V Nat
  |.hs _=>V (Nat×Nat)|.mp _=>V Nat
  |.iC a b=>bL C a->C 0->V (bL C b×C 0)|.NY _ t=>bL C t
  |.An _ _=>Nat
def xS:Z Ty->Ty
 |[]=>.unit|[t]=>t
 |t::u::ts=>.iz t (xS (u::ts))
abbrev HL(C:Nat->Type)(ts:Z Ty):Type:=bL C (xS ts)
def iE{C:Nat->Type}(t:Ty):(ts:Z Ty)->bL C t->HL C ts->HL C (t::ts)
 |[],x,_=>x|_::_,x,xs=>(x,xs)
def xp{C:Nat->Type}(t:Ty):(ts:Z Ty)->HL C (t::ts)->bL C t
 |[],x=>x|_::_,x=>x.1
def xK{C:Nat->Type}(t:Ty):(ts:Z Ty)->HL C (t::ts)->HL C ts
 |[],_=>()|_::_,x=>x.2
def er{C:Nat->Type}(a b:Ty)(x:bL C a):V (bL C b):=if h:a=b then O (h▸x)else Y
inductive AK where
 |h7 (t:Ty)
 |br (t:Ty) (e:TypeId)
 |map (k v:Ty)
 deriving DecidableEq,Inhabited
@[reducible] def xT(C:Nat->Type):AK->Type
  |.h7 t=>bL C t|.br t _=>V (Z (bL C t))
  |.map k v=>Z (bL C k×bL C v)
structure cp where
 C:Nat->Type
 dO:Nat->List Ty
 un:(n:Nat)->C n->HL C (dO n)
 make:(n:Nat)->HL C (dO n)->C n
 ak:Nat->AK
 get:(k:Nat)->C 0->List (xT C (ak k))
 set:(k:Nat)->C 0->List (xT C (ak k))->C 0
 nk:Nat
 em:Nat->Bool:=λ_=>F
mutual
def fD:Ty->aa
 |.int _|.bool|.str|.struct _=>W|.bk t=>fD t
 |.ref t=>fD t|.ptr _|.hs _|.mp _=>W
 |.NY _ t=>Rr t|.An _ _=>W
 |_=>F
def Rr:Ty->aa
 |.iz t u=>Rr t&&Rr u|.cell t=>fD t
 |_=>F
end
def aQ{σ α:Type}(f:(σ->V α)->σ->V α):Nat->σ->V α
 |0,_=>Y|n+1,x=>f (aQ f n) x
def Hb{β γ:Type}:Z (Nat×Nat×β)->(Z (Nat×Nat×β)->γ)->γ
 |[],k=>k []|(t,a,x)::l,k=>Hb l λb=>k ((t,a,x)::b)
def Ff{β γ:Type}:∀(l:Z (Nat×Nat×β))(k:Z (Nat×Nat×β)->γ),Hb l k=k l
 |[],k=>rfl|(t,a,x)::l,k=>Ff l _
def cw{σ α:Type}(h:σ)(k:σ->V α):V α:=k h
noncomputable def both {α:Type} (a b:V α):V α:=open Classical in if a=b then a else Y
def aG{σ α:Type}(J:σ->V α)(a:(σ->V α)->V α):V α:=a J
section
variable(C:Nat->Type)
inductive R where
 |none
 |val (t:Ty) (x:bL C t)
 |const (v:Value)
 |bF (t:Ty) (xs:List (bL C t))
 |dT (d k:Nat)
 |whole (d:Nat)
 |gq (d i k NZ:Nat) (t:Ty) (x:bL C t)
 |dF (t:Ty) (x:bL C t) (k:Nat)
 |gw (rs:List R)
 |fn (f:FuncId) (caps:List R)
 |mR (VI:TypeId) (t:Ty) (x:bL C t)
 |jy (k:Nat) (i off:Nat)
 |kq (k:Nat) (i j off:Nat)
 |sub (d off n:Nat)
 |sN (rs:List R)
 |nF (r:R)
 |hk (t:Ty)
 |agg (n:Nat) (rs:List R)
 |mc (f:FuncId) (first:List R)
 |it (k:Nat)
inductive B where
 |cells (t:Ty) (rs:List (R C))
 |br (t:Ty) (e:TypeId) (xs:List (bL C t))
structure S where
 r:List (Nat×Nat×R C)
 b:List (Nat×Nat×B C)
 tick:Nat
 h:C 0
 hv:Nat:=0
 m:Nat->Bool:=λ_=>W
end
variable{U:cp}{α:Type}
def aF{β:Type}:Z (Nat×Nat×β)->Nat->V (Nat×β)
 |[],_=>Y|(d,st,x)::l,t=>bif Nat.beq d t then O (st,x)else aF l t
def ik(d:Nat):Z Nat->aa
 |[]=>F|e::l=>Nat.beq d e||ik d l
def bu{β:Type}:Z (Nat×Nat×β)->Nat->Z (Nat×Nat×β)
 |[],_=>[]|(d,st,x)::l,t=>bif Nat.beq d t then bu l t else(d,st,x)::bu l t
def S.bG {C:Nat->Type} (s:S C) (t:Nat):R C:=match aF s.r t with
 |some (_,x)=>x|none=>.none
def S.box {C:Nat->Type} (s:S C) (d:Nat):V (B C):=match aF s.b d with
 |some (_,x)=>O x|none=>Y
def S.NZ {C:Nat->Type} (s:S C) (d:Nat):Nat:=match aF s.b d with
 |some (v,_)=>v|none=>0
def S.ev {C:Nat->Type} (s:S C):ah->R C
 |.tmp t=>s.bG t|.const v=>.const v
 |.global _=>.none|.func f=>.fn f []
def S.put {C:Nat->Type} (s:S C) (dst:V Nat) (x:R C):S C:=match dst with
 |some d=>{s with r:=(d,s.tick,x)::s.r,tick:=s.tick+1}|none=>s
mutual
def R.bb {C:Nat->Type} (d:Nat):R C->aa
 |.dT d' _=>Nat.beq d' d|.whole d'=>Nat.beq d' d
 |.gq d' _ _ _ _ _=>Nat.beq d' d|.gw rs=>cZ d rs
 |.fn _ rs=>cZ d rs|.sub d' _ _=>Nat.beq d' d
 |.sN rs=>cZ d rs|.nF r=>r.bb d
 |.agg _ rs=>cZ d rs|.mc _ rs=>cZ d rs
 |_=>F
def cZ{C:Nat->Type}(d:Nat):Z (R C)->aa
 |[]=>F|r::rs=>r.bb d||cZ d rs
end
def B.bb {C:Nat->Type} (d:Nat):B C->aa
 |.cells _ rs=>cZ d rs|.br _ _ _=>F
def jY{C:Nat->Type}(d tick:Nat):Z (Nat×Nat×R C)->Z (Nat×Nat×R C)
 |[]=>[]|(t,st,x)::l=>bif x.bb d then(t,tick,.none)::jY d tick l else(t,st,x)::jY d tick l
def ns{C:Nat->Type}(d:Nat):Z (Nat×Nat×B C)->aa
 |[]=>W|(_,_,x)::l=>!x.bb d&&ns d l
def S.drop {C:Nat->Type} (s:S C) (d:Nat):S C:={s with b:=bu s.b d}
def S.new {C:Nat->Type} (s:S C) (d:Nat) (x:B C) (k:S C->V α):V α:=bif ns d s.b&&!x.bb d then k {s with r:=jY d s.tick s.r,b:=(d,s.tick,x)::bu s.b d,tick:=s.tick+1}else Y
def S.hg {C:Nat->Type} (s:S C) (d:Nat) (x:B C):S C:={s with b:=(d,s.tick,x)::bu s.b d,tick:=s.tick+1}
def BU{C:Nat->Type}(d tick:Nat)(v:R C):Z (Nat×Nat×R C)->Z (Nat×Nat×R C)
 |[]=>[]|(q,st,.whole d')::l=>bif Nat.beq d' d then(q,tick,v)::BU d tick v l else(q,st,.whole d')::BU d tick v l
 |e::l=>e::BU d tick v l
def L9{C:Nat->Type}(d:Nat)(v:R C):Z (R C)->Z (R C)
 |[]=>[]|.whole d'::l=>(bif Nat.beq d' d then v else .whole d')::L9 d v l
 |e::l=>e::L9 d v l
def qF{C:Nat->Type}(d tick:Nat)(v:R C):Z (Nat×Nat×B C)->Z (Nat×Nat×B C)
 |[]=>[]|(q,st,.cells u rs)::l=>bif cZ d rs then(q,tick,.cells u (L9 d v rs))::qF d tick v l else(q,st,.cells u rs)::qF d tick v l
 |e::l=>e::qF d tick v l
def S.BV {C:Nat->Type} (s:S C) (d:Nat) (t:Ty) (xs:Z (bL C t)):S C:={s with r:=BU d s.tick (.val (.bk t) xs) s.r,b:=qF d s.tick (.val (.bk t) xs) (bu s.b d),tick:=s.tick+1}
def S.Jn {C:Nat->Type} (s:S C) (d k:Nat) (v:V (Nat×Nat)) (h:C 0):S C:={r:=BU d s.tick (.val (.hs k) v) s.r,b:=qF d s.tick (.val (.hs k) v) (bu s.b d),tick:=s.tick+1,h:=h,hv:=s.tick,m:=s.m}
def S.BW {C:Nat->Type} (s:S C) (d:Nat) (h:C 0):S C:={r:=s.r,b:=bu s.b d,tick:=s.tick+1,h:=h,hv:=s.tick,m:=s.m}
def S.N6 {C:Nat->Type} (s:S C) (d:Nat):S C:={r:=s.r,b:=bu s.b d,tick:=s.tick+1,h:=s.h,hv:=s.hv,m:=s.m}
def S.cw {C:Nat->Type} {α:Type} (s:S C) (h:C 0) (k:S C->V α):V α:=Go.X.cw h λh=>k {s with h:=h,hv:=s.tick,tick:=s.tick+1}
section
variable(U:cp)
def Ma{C:Nat->Type}{a b:AK}(e:a=b)(x:Z (xT C a)):Z (xT C b):=e▸x
def uz(a:AK)(k:Nat)(h:U.C 0):V (Z (xT U.C a)):=if e:U.ak k=a then O (Ma e (U.get k h))else Y
def Ao(a:AK)(k:Nat)(h:U.C 0)(l:Z (xT U.C a)):V (U.C 0):=if e:U.ak k=a then O (U.set k h (Ma e.symm l))else Y
def PT(k:Nat)(t:Ty)(s:S U.C):V (Z (bL U.C t)):=bif s.m k&&Nat.blt k U.nk then uz U (.h7 t) k s.h else Y
def Hc(k:Nat)(t:Ty)(s:S U.C)(l:Z (bL U.C t)):V (U.C 0):=bif s.m k&&Nat.blt k U.nk then Ao U (.h7 t) k s.h l else Y
def Ew(k:Nat)(t:Ty)(e:an)(s:S U.C):V (Z (V (Z (bL U.C t)))):=bif s.m k&&Nat.blt k U.nk then uz U (.br t e) k s.h else Y
def wi(k:Nat)(t:Ty)(e:an)(s:S U.C)(l:Z (V (Z (bL U.C t)))):V (U.C 0):=bif s.m k&&Nat.blt k U.nk then Ao U (.br t e) k s.h l else Y
def maps(k:Nat)(a b:Ty)(s:S U.C):V (Z (Z (bL U.C a×bL U.C b))):=bif s.m k&&Nat.blt k U.nk then uz U (.map a b) k s.h else Y
def Hd(k:Nat)(a b:Ty)(s:S U.C)(l:Z (Z (bL U.C a×bL U.C b))):V (U.C 0):=bif s.m k&&Nat.blt k U.nk then Ao U (.map a b) k s.h l else Y
end
def e8{β:Type}(l:Z (V (Z β)))(i:Nat):V (Z β):=Option.bind (l[i]?) id
def gH{β:Type}(l:Z (V (Z β)))(p:V (Nat×Nat)):V (Z β):=match p with
 |none=>O []|some (i,n)=>(e8 l i).bind λxs=>bif Nat.ble n xs.length then O (List.take n xs)else Y
def abj(p:V (Nat×Nat)):Nat:=match p with
 |none=>0|some (_,n)=>n
def iK{β:Type}(l:Z (V (Z β)))(p:V (Nat×Nat)):Z (V (Z β)):=match p with
 |none=>l|some (i,_)=>l.set i Y
def fE:ag->aa
 |.slice Y 0 0=>W|_=>F
def kr{C:Nat->Type}:(t:Ty)->ag->V (bL C t)
 |.int k,.int k' n=>if k=k' then O n else Y|.bool,.bool b=>O b
 |.str,.string s=>O s.data.toList|.bk _,.slice Y 0 0=>O []
 |.ref _,.pointer Y=>O Y|.ptr _,.pointer Y=>O Y
 |.mp _,.map Y=>O Y|_,_=>Y
def rW{β:Type}(f:Ty->V (Z β)):Z Ty->V (Z β)
 |[]=>O []|t::ts=>match f t,rW f ts with
  |some x,O xs=>O (x++xs)|_,_=>Y
def mB(U:cp):Nat->Ty->V (Z (R U.C))
 |_,.int k=>O [.val (.int k) (0:Int)]|_,.bool=>O [.val .bool F]
 |_,.str=>O [.val .str ([]:bP)]|_,.bk t=>O [.bF t []]
 |_,.ref t=>O [.val (.ref t) Y]|_,.ptr k=>O [.val (.ptr k) Y]
 |_,.hs k=>O [.val (.hs k) Y]|_,.mp k=>bif Nat.blt k 1000 then O [.val (.mp k) Y]else Y
 |k+1,.struct n=>rW (mB U k) (U.dO n)|_,_=>Y
def sO{C:Nat->Type}(f:(t:Ty)->bL C t->Z (R C)):(ts:Z Ty)->HL C ts->Z (R C)
 |[],_=>[]|t::ts,x=>f t (xp t ts x)++sO f ts (xK t ts x)
def nt(U:cp):Nat->(t:Ty)->bL U.C t->Z (R U.C)
 |k+1,.struct n,x=>sO (nt U k) (U.dO n) (U.un n x)|_,t,x=>[.val t x]
def kE(f:Ty->Z Ty):Z Ty->Z Ty
 |[]=>[]|t::ts=>f t++kE f ts
def hp(U:cp):Nat->Ty->Z Ty
 |k+1,.struct n=>kE (hp U k) (U.dO n)|_,t=>[t]
def He{C:Nat->Type}(t:Ty):R C->V (bL C t)
 |.dF a x 0=>er (.cell a) t x|_=>Y
def rX{C:Nat->Type}:(us:Ty)->Z (R C)->V (bL C us)
 |.iz t u,r::l=>match He t r,rX u l with
  |some x,O y=>O (x,y)|_,_=>Y
 |t,[r]=>He t r|_,_=>Y
def ga{C:Nat->Type}(t:Ty):R C->V (bL C t)
 |.val c x=>er c t x|.const v=>bif fD t then kr t v else Y
 |.bF c xs=>er (.bk c) t xs|.dF c x 0=>match er (.cell c) t x with
  |some v=>O v|none=>er (C:=C) (.ref c) t (O x)
 |.nF (.val (.lP a b) φ)=>er (C:=C) (.iC a b) t φ|.jy k i off=>er (C:=C) (.An k off) t i
 |.fn f caps=>match t with
  |.NY d us=>bif Nat.beq f d&&Rr us then rX us caps else Y|_=>Y
 |_=>Y
def mC{C:Nat->Type}(f:(t:Ty)->Z (R C)->V (bL C t×Z (R C))):(ts:Z Ty)->Z (R C)->V (HL C ts×Z (R C))
 |[],l=>O ((),l)|t::ts,l=>match f t l with
  |some (x,a)=>match mC f ts a with
   |some (xs,b)=>O (iE t ts x xs,b)|none=>Y
  |none=>Y
def jL(U:cp):Nat->(t:Ty)->Z (R U.C)->V (bL U.C t×Z (R U.C))
 |k+1,.struct n,l=>match mC (jL U k) (U.dO n) l with
  |some (x,a)=>O (U.make n x,a)|none=>Y
 |_,t,r::l=>match ga t r with
  |some x=>O (x,l)|none=>Y
 |_,_,[]=>Y
def ki(f:Ty->Nat):Z Ty->Nat
 |[]=>0|t::ts=>f t+ki f ts
def bB(U:cp):Nat->Ty->Nat
 |k+1,.struct n=>ki (bB U k) (U.dO n)|_,_=>1
abbrev D:Nat:=6
def a7:Ty->aa
 |.struct _=>W|_=>F
def pU(U:cp):Nat->Z Ty->Nat->V (Nat×Ty)
 |_,[],_=>Y|o,t::_,0=>O (o,t)
 |o,t::ts,f+1=>pU U (o+bB U D t) ts f
def fieldAt(U:cp)(t:Ty)(f:Nat):V (Nat×Ty):=match t with
 |.struct n=>match pU U 0 (U.dO n) f with
  |some (o,t)=>bif Nat.blt 0 (bB U D t)then O (o,t)else Y|none=>Y
 |_=>Y
def pV{β:Type}:Nat->Z β->Z β
 |0,l=>l|n+1,_::l=>pV n l
 |_+1,[]=>[]
def Jo(U:cp)(t:Ty)(k:Nat)(rs:Z (R U.C)):V (R U.C):=
 bif a7 t then match jL U D t (pV k rs)with
  |some (x,_)=>O (.val t x)|none=>Y
 else(pV k rs).head?
def rY{β:Type}(k:Nat)(vs rs:Z β):Z β:=rs.take k++vs++pV vs.length (pV k rs)
inductive RK where
 |v (t:Ty)
 |bR (t:Ty) (e:TypeId)
def RK.ty:RK->Ty
 |.v t=>t|.bR t _=>.bk t
def RK.gl:RK->aa
 |.v _=>F|.bR _ _=>W
def jm(U:cp)(p:V (an×Ty))(β:Type):Type:=match p with
 |none=>β|some (_,t)=>Except (bL U.C t) β
structure o8(U:cp)where
 VI:TypeId
 t:Ty
 x:bL U.C t
def eG{ε β γ:Type}(r:Except ε β)(f:ε->γ)(g:β->γ):γ:=match r with
 |.error e=>f e|.ok y=>g y
def tM{β γ:Type}(p:V (an×Ty))(r:jm U p β)(f:o8 U->γ)(g:β->γ):γ:=match p,r with
 |none,r=>g r|some (a,t),r=>eG r (λe=>f ⟨a,t,e⟩) g
def xU{β:Type}(p:V (an×Ty))(y:β):jm U p β:=match p with
 |none=>y|some (_,t)=>Except.ok (ε:=bL U.C t) y
def Ap{β:Type}(p:V (an×Ty))(q:o8 U):V (jm U p β):=match p with
 |none=>Y|some (a,t)=>bif Nat.beq q.VI a then match er q.t t q.x with
   |some e=>O (Except.error (ε:=bL U.C t) e)|none=>Y
  else Y
inductive Vv(U:cp)(ps:List Ty)(rs:List RK)(ea:Option (TypeId×Ty))where
 |pure (f:HL U.C ps->Option (jm U ea (HL U.C (rs.map RK.ty))))
 |rd (f:HL U.C ps->U.C 0->Option (jm U ea (HL U.C (rs.map RK.ty))))
 |st (f:HL U.C ps->U.C 0->Option (jm U ea (HL U.C (rs.map RK.ty))×U.C 0))
structure bZ(U:cp)where
 ps:List Ty
 rs:List RK
 ea:Option (TypeId×Ty)
 run:Vv U ps rs ea
structure gy(U:cp)where
 ty:TypeId->Option Ty
 elem:TypeId->Option TypeId
 bytes:TypeId->Nat
 lB:FuncId->List (bZ U)
 N:Nat
 wr:Bool:=W
 Mb:TypeId->Bool:=λ_=>F
 Mc:TypeId->Bool:=λ_=>F
 k6:TypeId->Option TypeId:=λ_=>Y
 ry:TypeId->Bool:=λ_=>F
 Ze:List (Nat×Nat):=[]
 Zf:FuncId->Option (Nat×List (Option FuncId)):=λ_=>Y
section
variable(X:gy U)(kx:o8 U->S U.C->V α)
def S.val (c:aa) (s:S U.C) (r:R U.C) (t:Ty) (k:S U.C->bL U.C t->V α):V α:=
 match r with
 |.whole d=>match s.box d with
   |some (.br a e xs)=>match t,k with
    |.hs m,k=>match Ew U m a e s with
     |some l=>bif U.em m&&(Nat.blt m 2&&xs.isEmpty)then k (bif c then s.Jn d m (O (l.length,0)) s.h else s.BW d s.h) (O (l.length,0))else(dv (!xs.isEmpty)).bind λ_=>match wi U m a e s (l++[O xs])with
      |some b=>Go.X.cw b λb=>k (bif c then s.Jn d m (O (l.length,xs.length)) b else s.BW d b) (O (l.length,xs.length))|none=>Y
     |none=>Y
    |t,k=>bif c then match er (.bk a) t xs with
     |some v=>k (s.BV d a xs) v|none=>Y
     else match er (.bk a) t xs with
     |some v=>k (s.N6 d) v|none=>Y
   |_=>Y
 |r=>match ga t r with
  |some v=>k s v|none=>Y
def Jp(op:iS)(k:dd)(x y:Int)(K:(t:Ty)->bL U.C t->V α):V α:=
 match op with
 |.add=>K (.int k) (k.wrap (x+y))|.sub=>K (.int k) (k.wrap (x-y))
 |.mul=>K (.int k) (k.wrap (x*y))|.quo=>(dv (decide (y≠0))).bind λ_=>K (.int k) (k.wrap (x.tdiv y))
 |.rem=>(dv (decide (y≠0))).bind λ_=>K (.int k) (x.tmod y)|.and=>K (.int k) (k.wrap (BitVec.ofInt k.bits x&&&BitVec.ofInt k.bits y).toNat)
 |.or=>K (.int k) (k.wrap (BitVec.ofInt k.bits x|||BitVec.ofInt k.bits y).toNat)
 |.xor=>K (.int k) (k.wrap (BitVec.ofInt k.bits x^^^BitVec.ofInt k.bits y).toNat)|.andNot=>K (.int k) (k.wrap (BitVec.ofInt k.bits x&&&~~~BitVec.ofInt k.bits y).toNat)
 |.shl=>(dv (decide (0<=y))).bind λ_=>K (.int k) (k.wrap (x*2^(min y.toNat k.bits)))|.shr=>(dv (decide (0<=y))).bind λ_=>K (.int k) (x.fdiv (2^(min y.toNat k.bits)))
 |.eql=>K .bool (x==y)|.neq=>K .bool (!(x==y))
 |.lss=>K .bool (decide (x<y))|.leq=>K .bool (decide (x<=y))
 |.gtr=>K .bool (decide (y<x))|.geq=>K .bool (decide (y<=x))
def R7(op:iS)(x y:bP)(K:(t:Ty)->bL U.C t->V α):V α:=
 match op with
 |.add=>(dv (decide (x.length+y.length<=maxLen))).bind λ_=>K .str (x++y)|.eql=>K .bool (x==y)
 |.neq=>K .bool (!(x==y))|.lss=>K .bool (Op.bytesLess x y)
 |.leq=>K .bool (Op.bytesLess x y||x==y)|.gtr=>K .bool (!(Op.bytesLess x y||x==y))
 |.geq=>K .bool (!Op.bytesLess x y)|_=>Y
def qG{C:Nat->Type}(f:(t:Ty)->bL C t->bL C t->V aa):(ts:Z Ty)->HL C ts->HL C ts->V aa
 |[],_,_=>O W|t::ts,x,y=>match f t (xp t ts x) (xp t ts y),qG f ts (xK t ts x) (xK t ts y)with
  |some a,O b=>O (a&&b)|_,_=>Y
@[reducible] def dp(x y:Int):aa:=x==y
@[reducible] def xV(x y:aa):aa:=x==y
@[reducible] def dz(x y:bP):aa:=x==y
def Yf{C:Nat->Type}:(t:Ty)->bL C t->bL C t->V aa
 |.int _,x,y=>O (dp x y)|.bool,x,y=>O (xV x y)
 |.str,x,y=>O (dz x y)|_,_,_=>Y
def Hf:ah->aa
 |.const (.slice Y 0 0)=>W|_=>F
def wj{C:Nat->Type}:R C->aa
 |.const (.pointer Y)=>W|_=>F
def BX{C:Nat->Type}:R C->aa
 |.const (.map Y)=>W|_=>F
def Zg(o:aC)(op:iS)(t:Ty)(x y:R U.C)(ty:V Ty)(K:(t:Ty)->bL U.C t->V α):V α:=
 match t with
 |.int k=>match ga (.int k) x with
  |none=>Y|some a=>match y with
   |.val (.int k') b=>bif decide (k'=k)||kZ op then Jp op k a b K else Y|.const (.int k' b)=>bif decide (k'=k)||kZ op then Jp op k a b K else Y
   |_=>Y
 |.str=>match ga .str x,ga .str y with
  |some a,O b=>R7 op a b K|_,_=>Y
 |.bool=>match ga .bool x,ga .bool y with
  |some a,O b=>match op with
   |.eql=>K .bool (xV a b)|.neq=>K .bool (!(xV a b))
   |_=>Y
  |_,_=>Y
 |.ptr k=>match ga (.ptr k) x,wj y with
  |some a,W=>match op with
   |.eql=>K .bool (Option.isNone (α:=Nat) a)|.neq=>K .bool (!Option.isNone (α:=Nat) a)
   |_=>Y
  |_,_=>Y
 |.mp k=>match ga (.mp k) x,BX y with
  |some a,W=>match op with
   |.eql=>K .bool (Option.isNone (α:=Nat) a)|.neq=>K .bool (!Option.isNone (α:=Nat) a)
   |_=>Y
  |_,_=>Y
 |.ref k=>match ga (.ref k) x,wj y with
  |some a,W=>match op with
   |.eql=>K .bool (Option.isNone (α:=bL U.C k) a)|.neq=>K .bool (!Option.isNone (α:=bL U.C k) a)
   |_=>Y
  |_,_=>Y
 |.struct n=>match ga (.struct n) x,ga (.struct n) y with
  |some a,O b=>match qG Yf (U.dO n) (U.un n a) (U.un n b)with
   |some e=>match op with
    |.eql=>K .bool e|.neq=>K .bool (!e)
    |_=>Y
   |none=>Y
  |_,_=>Y
 |_=>Y
def ox(s:S U.C)(dflt:V Int):V ah->V (V Int)
 |none=>O dflt|some x=>match s.ev x with
  |.val (.int _) m=>O (O m)|.const (.int _ m)=>O (O m)
  |_=>Y
def xW{β:Type}(xs:Z β)(a hi:V Int)(K:Z β->V α):V α:=
 match a,hi with
 |none,Y=>K xs|some l,Y=>(dv (decide (0<=l)&&decide (l.toNat<=xs.length))).bind λ_=>K (xs.drop l.toNat)
 |none,O h=>(dv (decide (0<=h)&&decide (h.toNat<=xs.length))).bind λ_=>K (xs.take h.toNat)|some l,O h=>(dv (decide (0<=l)&&(decide (0<=h)&&(decide (l.toNat<=h.toNat)&&decide (h.toNat<=xs.length))))).bind λ_=>K ((xs.take h.toNat).drop l.toNat)
def BY{C:Nat->Type}:R C->V Int
 |.val (.int _) m=>O m|.const (.int _ m)=>O m
 |_=>Y
def zi{C:Nat->Type}:R C->V aa
 |.val .bool b=>O b|.const (.bool b)=>O b
 |_=>Y
def N7(t:Ty)(te:Ty)(x:bL U.C te)(k:Nat):V (bL U.C t):=
 bif Nat.beq k 0&&decide (te=t)then er te t x else
 match jL U D t (pV k (nt U D te x))with
 |some (v,_)=>O v|none=>Y
def BZ(t:Ty)(te:Ty)(x:bL U.C te)(k:Nat)(v:bL U.C t):V (bL U.C te):=
 bif Nat.beq k 0&&decide (t=te)then er t te v else
 bif a7 te&&Nat.ble (k+bB U D t) (bB U D te)then match jL U D te (rY k (nt U D t v) (nt U D te x))with
 |some (y,_)=>O y|none=>Y
 else Y
def Hg(t:Ty)(te:Ty)(x:bL U.C te)(k:Nat):V (R U.C):=
 bif a7 t then match N7 t te x k with
  |some v=>O (.val t v)|none=>Y
 else(pV k (nt U D te x)).head?
def PU(U:cp)(t:Ty)(te:Ty)(k:Nat):V Ty:=bif a7 t then O t else match(pV k (hp U D te)).head? with
 |some a=>bif a7 a||!fD a then Y else O a|none=>Y
def wk(s:S U.C)(t:Ty)(p:R U.C)(K:R U.C->V α):V α:=
 match p with
 |.dT d k=>match s.box d with
  |some (.cells _ rs)=>match Jo U t k rs with
   |some r=>K r|none=>Y
  |_=>Y
 |.gq d i k a te x=>match s.box d with
  |some (.br b _ xs)=>bif Nat.beq a (s.NZ d)then match Hg t te x k with
    |some v=>K v|none=>Y
   else(xs[i]?).bind λy=>match Hg t b y k with
    |some v=>K v|none=>Y
  |_=>Y
 |.dF te x k=>match Hg t te x k with
  |some v=>K v|none=>Y
 |.val (.ref te) p=>Option.bind (α:=bL U.C te) p λx=>match Hg t te x 0 with
  |some v=>K v|none=>Y
 |.jy k i off=>Hh U s t k i off K|.val (.ptr k) p=>Option.bind (α:=Nat) p λi=>Hh U s t k i 0 K
 |.kq k i j off=>match U.ak k with
  |.br te e=>match bif decide (X.ty e=O te)then Ew U k te e s else Y with
   |some l=>(e8 l i).bind λxs=>Option.bind (α:=bL U.C te) (xs[j]?) λx=>match Hg t te x off with
    |some v=>K v|none=>Y
   |none=>Y
  |_=>Y
 |_=>Y
 where Hh (U:cp) (s:S U.C) (t:Ty) (k i off:Nat) (K:R U.C->V α):V α:=match U.ak k with
 |.h7 te=>match PT U k te s with
  |some l=>Option.bind (α:=bL U.C te) (l[i]?) λx=>match Hg t te x off with
   |some v=>K v|none=>Y
  |none=>Y
 |_=>Y
def N8(s:S U.C)(t:Ty):R U.C->V (R U.C)
 |.whole d=>match s.box d with
  |some (.br _ _ _)=>O (.whole d)|_=>Y
 |.dT d k=>match s.box d with
  |some (.cells _ _)=>O (.dT d k)|_=>Y
 |.fn f caps=>O (.fn f caps)|.bF a xs=>bif decide (t=.bk a)then O (.bF a xs)else Y
 |.const v=>bif fE v then match t with
   |.bk a=>bif fD a then O (.bF a [])else Y|_=>Y
  else bif fD t then match kr t v with
   |some x=>O (.val t x)|none=>Y
   else Y
 |.val a x=>match er a t x with
  |some x=>bif fD t then O (.val t x)else Y|none=>Y
 |_=>Y
def Hi(b:aa)(s:S U.C)(t:Ty)(p v:R U.C)(K:S U.C->V α):V α:=
 match p with
 |.dT d k=>match s.box d with
  |some (.cells u rs)=>bif a7 t then match ga t v with
    |some x=>bif Nat.ble (k+bB U D t) rs.length then K (s.hg d (.cells u (rY k (nt U D t x) rs)))else Y|none=>match v with
     |.agg m vs=>bif decide (t=.struct m)&&(Nat.beq vs.length (bB U D t)&&Nat.ble (k+bB U D t) rs.length)then K (s.hg d (.cells u (rY k vs rs)))else Y|_=>Y
   else match PU U t u k with
    |some a=>match N8 s a v with
     |some r=>bif Nat.blt k rs.length then K (s.hg d (.cells u (rY k [r] rs)))else Y|none=>Y
    |none=>Y
  |_=>Y
 |.gq d i k g te x=>match PU U t te k with
  |some a=>S.val b s v a λs v=>match s.box d with
   |some (.br c e xs)=>bif Nat.beq g (s.NZ d)then match er te c x with
     |some x=>match BZ a c x k v with
      |some y=>K (s.hg d (.br c e (xs.set i y)))|none=>Y
     |none=>Y
    else(xs[i]?).bind λx=>match BZ a c x k v with
     |some y=>K (s.hg d (.br c e (xs.set i y)))|none=>Y
   |_=>Y
  |none=>Y
 |.jy k i off=>AB b s t k i off v K|.val (.ptr k) p=>Option.bind (α:=Nat) p λi=>AB b s t k i 0 v K
 |.kq k i j off=>match U.ak k with
  |.br te e=>match bif decide (X.ty e=O te)then PU U t te off else Y with
   |some a=>S.val b s v a λs v=>match Ew U k te e s with
    |some l=>(e8 l i).bind λxs=>Option.bind (α:=bL U.C te) (xs[j]?) λx=>match BZ a te x off v with
     |some y=>match wi U k te e s (l.set i (O (xs.set j y)))with
      |some f=>s.cw f K|none=>Y
     |none=>Y
    |none=>Y
   |none=>Y
  |_=>Y
 |_=>Y
 where AB (b:aa) (s:S U.C) (t:Ty) (k i off:Nat) (v:R U.C) (K:S U.C->V α):V α:=match U.ak k with
 |.h7 te=>match PU U t te off with
  |some a=>S.val b s v a λs v=>match PT U k te s with
   |some l=>Option.bind (α:=bL U.C te) (l[i]?) λx=>match BZ a te x off v with
    |some y=>match Hc U k te s (l.set i y)with
     |some f=>s.cw f K|none=>Y
    |none=>Y
   |none=>Y
  |none=>Y
 |_=>Y
def uA(s:S U.C)(t:Ty)(f:Nat)(p:R U.C)(K:R U.C->V α):V α:=
 match fieldAt U t f with
 |some (off,_)=>match p with
  |.dT d k=>match s.box d with
   |some (.cells _ _)=>K (.dT d (k+off))|_=>Y
  |.gq d i k a te x=>match s.box d with
   |some (.br _ _ _)=>K (.gq d i (k+off) a te x)|_=>Y
  |.dF te x k=>K (.dF te x (k+off))|.val (.ref te) p=>Option.bind (α:=bL U.C te) p λx=>K (.dF te x off)
  |.jy k i o=>K (.jy k i (o+off))|.val (.ptr k) p=>Option.bind (α:=Nat) p λi=>K (.jy k i off)
  |.kq k i j o=>K (.kq k i j (o+off))|_=>Y
 |none=>Y
def uB(s:S U.C)(t:Ty)(el:an)(x:R U.C)(i:Int)(K:R U.C->V α):V α:=
 match x with
 |.val (.bk te) xs=>bif decide (te=t)then Option.bind (α:=bL U.C te) (ax (α:=bL U.C te) xs i) λz=>K (.dF te z 0)else Y|.bF te xs=>bif decide (te=t)then(ax xs i).bind λz=>K (.dF te z 0)else Y
 |.whole d=>match s.box d with
  |some (.br te e xs)=>bif decide (te=t)&&Nat.beq e el then(ax xs i).bind λz=>K (.gq d i.toNat 0 (s.NZ d) te z)else Y|_=>Y
 |.val (.hs k) p=>match U.ak k with
  |.br te e=>bif decide (te=t)&&Nat.beq e el then Option.bind (α:=Nat×Nat) p λq=>(dv (decide (0<=i)&&decide (i<(q.2:Int)))).bind λ_=>K (.kq k q.1 i.toNat 0)else Y|_=>Y
 |_=>Y
def R8(s:S U.C)(te:Ty)(el:an):R U.C->V (Z (bL U.C te))
 |.val a xs=>er a (.bk te) xs|.bF a xs=>er (.bk a) (.bk te) xs
 |.const v=>bif fE v then O []else Y|.whole d=>match s.box d with
  |some (.br a e' xs)=>bif Nat.beq e' el then er (.bk a) (.bk te) xs else Y|_=>Y
 |.sub d off n=>match s.box d with
  |some (.br a e' xs)=>bif Nat.beq e' el then match er (.bk a) (.bk te) xs with
    |some xs=>O (List.take n (List.drop off xs))|none=>Y
   else Y
  |_=>Y
 |_=>Y
def VJ(s:S U.C)(te:Ty)(el:an)(r:R U.C)(K:Z (bL U.C te)->V α):V α:=
 match r with
 |.val (.hs k) p=>match U.ak k with
  |.br _ e=>bif Nat.beq e el then match Ew U k te e s with
   |some l=>(gH l p).bind K|none=>Y
   else Y
  |_=>Y
 |r=>match R8 s te el r with
  |some ys=>K ys|none=>Y
def Zh(s:S U.C):R U.C->V Nat
 |.val (.bk t) xs=>O (List.length (α:=bL U.C t) xs)|.val (.hs _) p=>O (abj p)
 |.bF _ xs=>O xs.length|.const v=>match v with
  |.slice Y 0 0=>O 0|_=>Y
 |.whole d=>match s.box d with
  |some (.br _ _ xs)=>O xs.length|_=>Y
 |_=>Y
def cF(b n:Nat)(m:Nat):aa:=decide (n<=maxLen)&&decide (n*b<=m)
def Fg{C:Nat->Type}(d:Nat):R C->aa
 |.whole d'=>Nat.beq d' d|.sub d' _ _=>Nat.beq d' d
 |.val (.hs _) _=>W|_=>F
def N9(f:aa)(s:S U.C)(dst:V Nat)(e:an)(te:Ty)(b:ah)(y:R U.C)(K:S U.C->V α):V α:=
 match dst with
 |some d=>VJ s te e y λys=>match s.ev b with
  |.whole d'=>match s.box d' with
   |some (.br a e' xs)=>match er (.bk a) (.bk te) xs,Nat.beq e' e with
    |some xs,W=>(dv (cF (X.bytes e) (List.length (α:=bL U.C te) xs+ys.length) 140737488355328)).bind λ_=>(s.drop d').new d (.br te e (List.append (α:=bL U.C te) xs ys)) λs=>K (s.put dst (.whole d))|_,_=>Y
   |_=>Y
  |.val (.hs k) p=>bif Fg d y||Nat.blt k 2 then Y else match b,Ew U k te e s with
   |.tmp t,O l=>(gH l p).bind λxs=>(dv (cF (X.bytes e) (xs.length+ys.length) 140737488355328)).bind λ_=>match wi U k te e s (iK l p)with
    |some c=>(s.put (O t) .none).cw c λs=>s.new d (.br te e (xs++ys)) λs=>K (s.put dst (.whole d))|none=>Y
   |_,_=>Y
  |.bF a xs=>match er (.bk a) (.bk te) xs with
   |some xs=>(dv ((List.isEmpty (α:=bL U.C te) xs||!ys.isEmpty)&&cF (X.bytes e) (List.length (α:=bL U.C te) xs+ys.length) 140737488355328)).bind λ_=>s.new d (.br te e (List.append (α:=bL U.C te) xs ys)) λs=>K (s.put dst (.whole d))|none=>Y
  |.const v=>bif fE v then(dv (cF (X.bytes e) ys.length 140737488355328)).bind λ_=>s.new d (.br te e ys) λs=>K (s.put dst (.whole d))else Y|_=>Y
 |none=>Y
def zj(s:S U.C):Z ah->Z (R U.C)
 |[]=>[]|x::l=>s.ev x::zj s l
def Jq{C:Nat->Type}:(ts us:Z Ty)->HL C ts->HL C us->HL C (ts++us)
 |[],_,_,y=>y|t::ts,us,x,y=>iE t (ts++us) (xp t ts x) (Jq ts us (xK t ts x) y)
def Jr:Nat->Ty->Z Ty
 |0,_=>[]|1,t=>[t]
 |n+2,.iz t u=>t::Jr (n+1) u|_+2,_=>[]
def B6{C:Nat->Type}:(ts:Z Ty)->Z (R C)->V (HL C ts)
 |[],[]=>O ()|t::ts,r::rs=>match ga t r,B6 ts rs with
  |some x,O xs=>O (iE t ts x xs)|_,_=>Y
 |_,_=>Y
def R9{β:Type}:Nat->Z β->Z β×Z β
 |0,l=>([],l)|n+1,x::l=>let p:=R9 n l;(x::p.1,p.2)
 |_+1,[]=>([],[])
def Oa{C:Nat->Type}{a b:Ty}(h:b=a)(x:bL C a):bL C b:=h▸x
def Oc{C:Nat->Type}{ts us:Z Ty}(h:us=ts)(x:HL C ts):HL C us:=h▸x
def Yg{C:Nat->Type}{a b:Ty}(h:a=b)(x:V (bL C a)):V (bL C b):=h▸x
def ku(a b:Ty)(caps:Z (R U.C)):Z (bZ U)->V (bL U.C a->V (bL U.C b))
 |[]=>Y|⟨ps,rs,Y,.pure c⟩::l=>
   let qs:=Jr (ps.length-caps.length) a;let us:=(R9 qs.length ps).2;match B6 us caps with
   |some y=>if d:xS qs=a then if e:xS (rs.map RK.ty)=b then if f:ps=qs++us then bif rs.all (λr=>!r.gl)&&qs.all fD then O λx=>Yg e (c (Oc f (Jq qs us (Oa d x) y)))else ku a b caps l else ku a b caps l else ku a b caps l else ku a b caps l|none=>ku a b caps l
 |_::l=>ku a b caps l
def Yh{C:Nat->Type}{a b:Ty}{σ:Type}(h:a=b)(x:V (bL C a×σ)):V (bL C b×σ):=h▸x
def wm(a b:Ty)(caps:Z (R U.C)):Z (bZ U)->V (bL U.C a->U.C 0->V (bL U.C b×U.C 0))
 |[]=>Y|⟨ps,rs,Y,.st c⟩::l=>
   let qs:=Jr (ps.length-caps.length) a;let us:=(R9 qs.length ps).2;match B6 us caps with
   |some y=>if d:xS qs=a then if e:xS (rs.map RK.ty)=b then if f:ps=qs++us then bif rs.all (λr=>!r.gl)&&qs.all fD then O λx h=>Yh e (c (Oc f (Jq qs us (Oa d x) y)) h)else wm a b caps l else wm a b caps l else wm a b caps l else wm a b caps l|none=>wm a b caps l
 |_::l=>wm a b caps l
def Md{β γ σ:Type}(φ:β->V γ)(x:β)(h:σ):V (γ×σ):=(φ x).bind λy=>O (y,h)
def Sa(a b:Ty):R U.C->V (bL U.C a->V (bL U.C b))
 |.val t φ=>er t (.fn a b) φ|.fn f caps=>ku a b caps (X.lB f)
 |_=>Y
def Od(a b:Ty):R U.C->V (bL U.C a->U.C 0->V (bL U.C b×U.C 0))
 |.val (.fn a' b') φ=>match er (.fn a' b') (.fn a b) φ with
  |some φ=>O (Md φ)|none=>Y
 |.val t φ=>er t (.lP a b) φ|.fn f caps=>match ku a b caps (X.lB f)with
  |some φ=>O (Md φ)|none=>wm a b caps (X.lB f)
 |_=>Y
def S.arg (c:aa) (s:S U.C) (r:R U.C) (t:Ty) (k:S U.C->bL U.C t->V α):V α:=
 match t,k with
 |.fn a b,k=>match Sa X a b r with
  |some φ=>k s φ|none=>Y
 |.lP a b,k=>match Od X a b r with
  |some φ=>k s φ|none=>Y
 |t,k=>s.val c r t k
def pW(a:aa):(s:S U.C)->(ts:Z Ty)->Z ah->Z (R U.C)->(S U.C->HL U.C ts->V α)->V α
 |s,[],[],[],K=>K s ()|s,t::ts,x::l,caps,K=>S.arg X a s (s.ev x) t λs v=>pW a s ts l caps λs vs=>K s (iE t ts v vs)
 |s,t::ts,[],r::caps,K=>match ga t r with
  |some v=>pW a s ts [] caps λs vs=>K s (iE t ts v vs)|none=>Y
 |_,_,_,_,_=>Y
def B7(b:aa):(s:S U.C)->(a:Ty)->Z ah->(S U.C->bL U.C a->V α)->V α
 |s,.iz t u,x::y::l,K=>bif fD t then s.val b (s.ev x) t λs v=>B7 b s u (y::l) λs vs=>K s (v,vs)else Y|s,t,[x],K=>bif fD t then s.val b (s.ev x) t K else Y
 |_,_,_,_=>Y
def Sb(s:S U.C)(t:Ty)(r:R U.C)(k:bL U.C t->V α):V α:=
 match r with
 |.whole d=>match s.box d with
  |some (.br a _ xs)=>match er (.bk a) t xs with
   |some v=>k v|none=>Y
  |_=>Y
 |.val (.hs m) p=>match t,k with
  |.bk a,k=>match U.ak m with
   |.br _ e=>match bif decide (X.ty e=O a)then Ew U m a e s else Y with
    |some l=>(gH l p).bind k|none=>Y
   |_=>Y
  |t,k=>match er (.hs m) t p with
   |some v=>k v|none=>Y
 |r=>match ga t r with
  |some v=>k v|none=>Y
def Sc(s:S U.C)(t:Ty)(r:R U.C)(k:bL U.C t->V α):V α:=
 match t,k with
 |.fn a b,k=>match Sa X a b r with
  |some v=>k v|none=>Y
 |.lP _ _,_=>Y|t,k=>Sb X s t r k
def xX(s:S U.C):(ts:Z Ty)->Z ah->(HL U.C ts->V α)->V α
 |[],[],K=>K ()|t::ts,x::l,K=>Sc X s t (s.ev x) λv=>xX s ts l λvs=>K (iE t ts v vs)
 |_,_,_=>Y
def xY:Ty->aa
 |.int _|.bool|.str=>W|_=>F
def VK(U:cp)(t:Ty):aa:=(hp U D t).all xY
def Zi(U:cp):RK->aa
 |.v t=>xY t|.bR t _=>VK U t
def Js{C:Nat->Type}(s:S C):Nat->aa
 |0=>W|n+1=>s.m n&&Js s n
def h6(d j:Nat):Nat:=1000*(d+1)+j
def Me(d:Nat):(j:Nat)->(rs:Z RK)->HL U.C (rs.map RK.ty)->S U.C->(S U.C->Z (R U.C)->V α)->V α
 |_,[],_,s,K=>K s []|j,.v t::rs,x,s,K=>Me d (j+1) rs (xK t (rs.map RK.ty) x) s λs l=>K s (.val t (xp t (rs.map RK.ty) x)::l)
 |j,.bR t e::rs,x,s,K=>s.new (h6 d j) (.br t e (xp (.bk t) (rs.map RK.ty) x)) λs=>Me d (j+1) rs (xK (.bk t) (rs.map RK.ty) x) s λs l=>K s (.whole (h6 d j)::l)
def rZ(s:S U.C)(dst:V Nat)(rs:Z RK)(y:HL U.C (rs.map RK.ty))(K:S U.C->V α):V α:=
 match dst with
 |none=>K s|some d=>match rs,y with
  |[.v t],y=>K (s.put (O d) (.val t y))|[.bR t e],y=>s.new d (.br t e y) λs=>K (s.put (O d) (.whole d))
  |rs,y=>bif Nat.ble rs.length 8 then Me d 0 rs y s λs l=>K (s.put (O d) (.gw l))else Y
def S.Hj {C:Nat->Type} (s:S C) (h:C 0):S C:={s with h:=h,hv:=s.tick,tick:=s.tick+1}
def Oe(s:S U.C):Z Ty->Z ah->aa
 |t::ts,x::l=>(match t with
  |.fn a b=>(Sa X a b (s.ev x)).isSome|.lP a b=>(Od X a b (s.ev x)).isSome
  |_=>W)&&Oe s ts l
 |_,_=>W
def r4(d:aa)(s:S U.C)(dst:V Nat)(c:bZ U)(caps:Z (R U.C))(args:Z ah)(K:S U.C->V α):V α:=
 match c with
 |⟨ps,rs,a,.pure b⟩=>bif caps.isEmpty&&(rs.all (Zi U)&&a.isNone)then xX X s ps args λx=>(b x).bind λr=>tM a r (λq=>kx q s) λy=>rZ s dst rs y K
  else pW X d s ps args caps λs x=>(b x).bind λr=>tM a r (λq=>kx q s) λy=>rZ s dst rs y K
 |⟨ps,rs,a,.rd b⟩=>bif X.wr then bif Nat.blt 0 U.nk&&Js s U.nk then pW X d s ps args caps λs x=>(b x s.h).bind λr=>tM a r (λq=>kx q s) λy=>rZ s dst rs y K else Y else Y|⟨ps,rs,a,.st b⟩=>bif X.wr then bif Nat.blt 0 U.nk&&Js s U.nk then pW X d s ps args caps λs x=>(b x s.h).bind λr=>tM a r.1 (λq=>kx q (s.Hj r.2)) λy=>rZ (s.Hj r.2) dst rs y K else Y else Y
def B8(a:aa)(s:S U.C)(dst:V Nat)(caps:Z (R U.C))(args:Z ah)(K:S U.C->V α):Z (bZ U)->V α
 |[]=>Y|[c]=>r4 X kx a s dst c caps args K
 |c::l=>bif Oe X s c.ps args then r4 X kx a s dst c caps args K else B8 a s dst caps args K l
def abk(a:aa)(s:S U.C)(dst:V Nat)(f:bH)(caps:Z (R U.C))(args:Z ah)(K:S U.C->V α):V α:=B8 X kx a s dst caps args K (X.lB f)
def B9:(s:S U.C)->(ts:Z Ty)->Z (R U.C)->Z ah->(S U.C->HL U.C ts->V α)->V α
 |s,ts,[],l,K=>pW X W s ts l [] K|s,t::ts,r::fs,l,K=>match ga t r with
  |some v=>B9 s ts fs l λs vs=>K s (iE t ts v vs)|none=>Y
 |_,[],_::_,_,_=>Y
def Ca(s:S U.C)(dst:V Nat)(c:bZ U)(first:Z (R U.C))(args:Z ah)(K:S U.C->V α):V α:=
 match c with
 |⟨ps,rs,a,.pure b⟩=>B9 X s ps first args λs x=>(b x).bind λr=>tM a r (λq=>kx q s) λy=>rZ s dst rs y K
 |⟨ps,rs,a,.rd b⟩=>bif X.wr then bif Nat.blt 0 U.nk&&Js s U.nk then B9 X s ps first args λs x=>(b x s.h).bind λr=>tM a r (λq=>kx q s) λy=>rZ s dst rs y K else Y else Y
 |⟨ps,rs,a,.st b⟩=>bif X.wr then bif Nat.blt 0 U.nk&&Js s U.nk then B9 X s ps first args λs x=>(b x s.h).bind λr=>tM a r.1 (λq=>kx q (s.Hj r.2)) λy=>rZ (s.Hj r.2) dst rs y K else Y else Y
def Sd(b:Ty)(y:bL U.C b):R U.C:=match b,y with
 |.iz t u,y=>bif fD t&&fD u then .gw [.val t y.1,.val u y.2]else .none|b,y=>bif fD b then .val b y else .none
def xFn(c:aa)(s:S U.C)(dst:V Nat)(a b:Ty)(φ:bL U.C a->V (bL U.C b))(args:Z ah)(K:S U.C->V α):V α:=B7 c s a args λs x=>(φ x).bind λy=>K (s.put dst (Sd b y))
def abl(c:aa)(s:S U.C)(dst:V Nat)(a b:Ty)(φ:bL U.C a->U.C 0->V (bL U.C b×U.C 0))(args:Z ah)(K:S U.C->V α):V α:=bif Nat.blt 0 U.nk&&Js s U.nk then B7 c s a args λs x=>(φ x s.h).bind λr=>K ((s.Hj r.2).put dst (Sd b r.1))else Y
def iV{C:Nat->Type}:(t:Ty)->bL C t->bL C t->aa
 |.int _,x,y=>dp x y|.bool,x,y=>xV x y
 |.str,x,y=>dz x y|_,_,_=>F
def bp{β γ:Type}(eq:β->β->aa):Z (β×γ)->β->V γ
 |[],_=>Y|(a,v)::l,k=>bif eq k a then O v else bp eq l k
def fV{β γ:Type}(eq:β->β->aa):Z (β×γ)->β->γ->Z (β×γ)
 |[],k,v=>[(k,v)]|(a,w)::l,k,v=>bif eq k a then(k,v)::l else(a,w)::fV eq l k v
def dX{β:Type}(l:Z (Z β))(p:V Nat):V (Z β):=match p with
 |none=>O []|some i=>l[i]?
def zk(U:cp)(t:Ty):V (bL U.C t):=match(mB U D t).bind (jL U D t)with
 |some (z,_)=>O z|none=>Y
def Of(s:S U.C)(d:Nat)(x k:R U.C)(e:aa)(K:R U.C->V α):V α:=
 match x with
 |.val (.mp m) p=>bif Nat.beq d m then match U.ak m with
  |.map a vt=>match maps U m a vt s,ga a k,zk U vt with
   |some l,O b,O z=>(dX l p).bind λc=>bif e then K (.gw [.val vt ((bp (iV a) c b).getD z),.val .bool (bp (iV a) c b).isSome])else K (.val vt ((bp (iV a) c b).getD z))|_,_,_=>Y
  |_=>Y
  else Y
 |_=>Y
def AD(b:aa)(s:S U.C)(c:Nat)(x k v:R U.C)(K:S U.C->V α):V α:=
 match x with
 |.val (.mp m) p=>bif Nat.beq c m then match U.ak m with
  |.map a vt=>match ga a k with
   |some d=>S.val b s v vt λs v=>match maps U m a vt s with
    |some l=>Option.bind (α:=Nat) p λi=>(l[i]?).bind λe=>match Hd U m a vt s (l.set i (fV (iV a) e d v))with
     |some f=>s.cw f K|none=>Y
    |none=>Y
   |none=>Y
  |_=>Y
  else Y
 |_=>Y
def Zj(U:cp)(t:Ty):aa:=(hp U D t).all λ|.hs _=>F|_=>W
def VL(s:S U.C)(dst:V Nat)(k:Nat)(t:Ty)(v:bL U.C t)(K:S U.C->V α):V α:=
 match PT U k t s with
 |some l=>match Hc U k t s (l++[v])with
  |some a=>s.cw a λs=>K (s.put dst (.val (.ptr k) (O l.length)))|none=>Y
 |none=>Y
def Cb(a:aa)(fs:Z Ty):S U.C->Z (Nat×ah)->Z (R U.C)->(S U.C->Z (R U.C)->V α)->V α
 |s,[],cs,K=>K s cs|s,(i,x)::l,cs,K=>match pU U 0 fs i with
  |some (off,t)=>S.val a s (s.ev x) t λs v=>Cb a fs s l (rY off (nt U D t v) cs) K|none=>Y
def Cc(s:S U.C)(te:Ty):Z (Nat×ah)->Nat->V (Z (bL U.C te))
 |[],_=>O []|(i,x)::l,n=>bif Nat.beq i n then match ga te (s.ev x),Cc s te l (n+1)with
   |some v,O vs=>O (v::vs)|_,_=>Y
  else Y
def mD{C:Nat->Type}(d tick:Nat)(t:Ty)(x:bL C t):Z (Nat×Nat×R C)->Z (Nat×Nat×R C)
 |[]=>[]|(q,st,.dT d' k)::l=>bif Nat.beq d' d then(q,tick,.dF t x k)::mD d tick t x l else(q,st,.dT d' k)::mD d tick t x l
 |e::l=>e::mD d tick t x l
def S.Jh (s:S U.C) (d:Nat) (K:S U.C->V α):V α:=
 match s.box d with
 |some (.cells t rs)=>match jL U D t rs with
  |some (x,_)=>bif ns d (bu s.b d)then K {s with r:=mD d s.tick t x s.r,b:=bu s.b d,tick:=s.tick+1}else Y|none=>Y
 |_=>Y
def Fh(a:aa):S U.C->Z ah->(S U.C->V α)->V α
 |s,[],K=>K s|s,x::l,K=>match s.ev x,a with
  |.dT d _,W=>s.Jh d λs=>Fh a s l K|_,_=>Fh a s l K
def abm{C:Nat->Type}:R C->aa
 |.val _ _|.dF _ _ _|.fn _ _|.nF _=>W|_=>F
def sl0:V ah->V ah->ah->aa
 |none,O (.const (.int _ 0)),.const (.int _ 0)=>W|_,_,_=>F
def oy:Z (Nat×Nat)->V Nat->V Nat
 |(d,k)::l,O d'=>bif Nat.beq d d' then O k else oy l (O d')|_,_=>Y
def VM(b:aa)(s:S U.C)(dst:V Nat)(e:an)(d':Nat)(t:Ty)(l h:V Int)(K:S U.C->V α):V α:=
 match b,dst,s.box d',l,h with
 |true,O d,O (.br a el xs),Y,O m=>bif decide (a=t)&&decide (X.elem e=O el)then(dv (decide (0<=m)&&decide (m.toNat<=xs.length))).bind λ_=>(s.drop d').new d (.br a el (xs.take m.toNat)) λs=>K (s.put (O d) (.whole d))else Y|_,_,_,_,_=>Y
def abn(s:S U.C)(dst:V Nat)(e:an)(d':Nat)(t:Ty)(l:Int)(h:V Int)(K:S U.C->V α):V α:=
 match s.box d' with
 |some (.br a el xs)=>bif decide (a=t)&&decide (X.elem e=O el)then match h with
   |none=>(dv (decide (0<=l)&&decide (l.toNat<=xs.length))).bind λ_=>K (s.put dst (.sub d' l.toNat (xs.length-l.toNat)))|some h=>(dv (decide (0<=l)&&(decide (0<=h)&&(decide (l.toNat<=h.toNat)&&decide (h.toNat<=xs.length))))).bind λ_=>K (s.put dst (.sub d' l.toNat (h.toNat-l.toNat)))
  else Y
 |_=>Y
def Yi{C:Nat->Type}:R C->aa
 |.val _ _=>W|_=>F
def VN{C:Nat->Type}:R C->aa
 |.fn _ _=>W|.mc _ _=>W
 |_=>F
def Yj{C:Nat->Type}:R C->aa
 |.fn _ _=>W|.const .nilFunc=>W
 |_=>F
def zl:Z (Nat×ah)->Nat->aa
 |[],_=>W|(i,_)::l,n=>Nat.beq i n&&zl l (n+1)
def ia:Z (Nat×ah)->Z ah
 |[]=>[]|(_,x)::l=>x::ia l
def Og{C:Nat->Type}:R C->R C
 |.bF t []=>.hk t|r=>r
def Yk{C:Nat->Type}:R C->aa
 |.val t _=>!a7 t|.hk _=>W
 |_=>F
def Cd{C:Nat->Type}:R C->R C
 |.hk t=>.bF t []|r=>r
def Zk(c:aa)(s:S U.C)(dst:V Nat)(e:an)(len:Nat)(a:Z (Nat×ah))(K:S U.C->V α):V α:=
 match dst with
 |some d=>bif c&&(X.Mb e&&(Nat.beq a.length len&&(zl a 0&&((zj s (ia a)).all VN&&(decide (len<=65536)&&(ns d (bu s.b d)&&(zj s (ia a)).all λr=>!r.bb d))))))then K (({s with r:=jY d s.tick s.r,b:=bu s.b d,tick:=s.tick+1}:S U.C).put dst (.sN (zj s (ia a))))else Y|none=>Y
def Mf(s:S U.C)(j:Nat):R U.C->V (R U.C)
 |.dT d k=>match s.box d with
  |some (.cells _ _)=>O (.dT d (k+j))|_=>Y
 |.gq d i k a te x=>match s.box d with
  |some (.br _ _ _)=>O (.gq d i (k+j) a te x)|_=>Y
 |.dF te x k=>O (.dF te x (k+j))|.jy k i off=>O (.jy k i (off+j))
 |.kq k i q off=>O (.kq k i q (off+j))|_=>Y
def Hk(s:S U.C)(p:R U.C)(m:Int):Nat->Nat->(R U.C->V α)->V α
 |0,_,_=>Y|n+1,j,K=>cond (dp m (j:Int)) (match Mf s j p with
  |some r=>K r|none=>Y) (Hk s p m n (j+1) K)
def Jt(n:Nat):R U.C->Z (R U.C)
 |.agg a rs=>bif Nat.beq a n&&Nat.beq rs.length (bB U D (.struct n))then rs else []|r=>match ga (.struct n) r with
  |some v=>nt U D (.struct n) v|none=>[]
def Hl(m:Int):Z (R U.C)->Nat->(R U.C->V α)->V α
 |[],_,_=>Y|r::rs,j,K=>cond (dp m (j:Int)) (K r) (Hl m rs (j+1) K)
def Oh(s:S U.C)(t:Ty)(p:R U.C):V (Z (R U.C)):=
 match p with
 |.dT d k=>match s.box d with
  |some (.cells _ rs)=>bif Nat.ble (k+bB U D t) rs.length&&((pV k rs).take (bB U D t)).all Yj then O ((pV k rs).take (bB U D t))else Y|_=>Y
 |_=>Y
def Oi(m:Int):Z (R U.C)->Nat->(R U.C->V α)->V α
 |[],_,_=>Y|r::rs,j,K=>cond (dp m (j:Int)) (K (.nF r)) (Oi m rs (j+1) K)
def Fi(a:aa):Z (R U.C)->S U.C->(S U.C->V α)->V α
 |[],s,K=>K s|.whole d::rs,s,K=>match s.box d with
  |some (.br t _ xs)=>bif a then Fi a rs (s.BV d t xs) K else Y|_=>Y
 |_::rs,s,K=>Fi a rs s K
def Se(a:aa)(s:S U.C)(t:Ty)(p:R U.C)(K:S U.C->V α):V α:=
 match p with
 |.dT d k=>match s.box d with
  |some (.cells _ rs)=>bif a7 t then Fi a ((pV k rs).take (bB U D t)) s K else K s|_=>Y
 |_=>K s
def abo:Ty->aa
 |.hs _=>W|_=>F
def VO:Ty->aa
 |.bk _=>W|_=>F
def Oj(l:Z (Nat×Nat))(e:an):ah->aa
 |.tmp t=>l.any λp=>Nat.beq p.1 e&&Nat.beq p.2 t|_=>F
def Zl(s:S U.C)(dst:V Nat)(r:R U.C)(K:S U.C->V α):V α:=
 match r,dst with
 |.val (.hs k) p,O d=>match U.ak k with
  |.br te e=>match bif decide (X.ty e=O te)then Ew U k te e s else Y with
   |some l=>(gH l p).bind λxs=>match wi U k te e s (iK l p)with
    |some a=>(s.put (O d) (.val (.bk te) xs)).cw a K|none=>Y
   |none=>Y
  |_=>Y
 |_,_=>Y
def aep{C:Nat->Type}:V bH->R C
 |some f=>.fn f []|none=>.const .nilFunc
variable(esc:Z (Nat×Nat))
noncomputable def iA (g:aa) (o:aC) (s:S U.C) (K:S U.C->V α):V α:=
 match o.op with
 |.move x=>K (s.put o.dst (s.ev x))|.assign x=>match s.ev x,g,o.dst with
  |.whole d',W,O d=>match s.box d' with
   |some (.br t e xs)=>bif Nat.beq d' d then K (s.put o.dst (.whole d))else(s.drop d').new d (.br t e xs) λs=>K (s.put o.dst (.whole d))|_=>Y
  |r,_,_=>K (s.put o.dst r)
 |.pick c a b=>match zi (s.ev c),X.ty o.type with
  |some q,O t=>match ga t (s.ev a),ga t (s.ev b)with
   |some H,O vb=>K (s.put o.dst (.val t (cond q H vb)))|_,_=>cond q (K (s.put o.dst (s.ev a))) (K (s.put o.dst (s.ev b)))
  |_,_=>Y
 |.alloc e=>match oy esc o.dst with
  |some k=>match U.ak k with
   |.h7 t=>match zk U t,X.ty e with
    |some z,O C=>bif decide (C=t)||(abo t&&VO C)then VL s o.dst k t z K else Y|_,_=>Y
   |_=>Y
  |none=>match o.dst,X.ty e,(X.ty e).bind (mB U D)with
  |some d,O t,O cs=>bif g||(s.box d).isNone then s.new d (.cells t cs) λs=>K (s.put o.dst (.dT d 0))else Y|some d,O t,Y=>bif (X.k6 e).isSome&&(g||(s.box d).isNone)then s.new d (.cells t (List.replicate (bB U D t) (bif X.ry e then .const .nilFunc else .none))) λs=>K (s.put o.dst (.dT d 0))else Y
  |_,_,_=>Y
 |.box e x=>match oy esc o.dst with
  |some k=>match U.ak k with
   |.h7 t=>S.val g s (s.ev x) t λs v=>VL s o.dst k t v K|_=>Y
  |none=>match o.dst,X.ty e with
  |some d,O t=>bif g||(s.box d).isNone then
    bif a7 t then match ga t (s.ev x)with
     |some v=>s.new d (.cells t (nt U D t v)) λs=>K (s.put o.dst (.dT d 0))|none=>Y
    else match N8 s t (s.ev x)with
     |some r=>s.new d (.cells t [r]) λs=>K (s.put o.dst (.dT d 0))|none=>Y
   else Y
  |_,_=>Y
 |.build e w=>match X.ty e with
  |some (.struct n)=>bif (X.k6 e).isSome&&(Nat.beq w.toList.length (U.dO n).length&&(zl w.toList 0&&(zj s (ia w.toList)).all VN))then K (s.put o.dst (.agg n (zj s (ia w.toList))))else match mB U D (.struct n)with
   |some cs=>match oy esc o.dst with
    |some _=>Cb g (U.dO n) s w.toList (cs.map Og) λs cs=>bif cs.all Yk then K (s.put o.dst (.agg n cs))else Y|none=>Cb g (U.dO n) s w.toList cs λs cs=>match jL U D (.struct n) cs with
     |some (v,_)=>K (s.put o.dst (.val (.struct n) v))|none=>Y
   |none=>Y
  |_=>Y
 |.buildSlice e len w=>match o.dst,X.ty e,X.elem e with
  |some d,O (.bk te),O el=>Fi g (w.toList.map λp=>s.ev p.2) s λs=>match Cc s te w.toList 0 with
   |some xs=>bif Nat.beq w.toList.length len&&decide (len<=65536)then s.new d (.br te el xs) λs=>K (s.put o.dst (.whole d))else Y|none=>Y
  |_,Y,_=>Zk X g s o.dst e len w.toList K|_,_,_=>Y
 |.load e p=>match X.ty e with
  |some t=>match(bif (X.k6 e).isSome then Oh s t (s.ev p)else Y),t with
   |some rs,.struct n=>K (s.put o.dst (.agg n rs))|_,t=>bif Oj X.Ze e p then wk X s t (s.ev p) λr=>Zl X s o.dst r K else Se g s t (s.ev p) λs=>wk X s t (s.ev p) λr=>K (s.put o.dst (Cd r))
  |none=>match s.ev p with
   |.nF r=>bif X.Mc e then K (s.put o.dst r)else Y|.dT d k=>match s.box d with
    |some (.cells _ rs)=>match rs[k]? with
     |some (.fn f [])=>bif X.Mc e then K (s.put o.dst (.fn f []))else Y|_=>Y
    |_=>Y
   |_=>Y
 |.store e p v=>match X.ty e,o.dst with
  |some t,Y=>Hi X g s t (s.ev p) (s.ev v) K|none,Y=>bif X.Mc e then match s.ev p,s.ev v with
   |.dT d k,.fn f []=>match s.box d with
    |some (.cells u rs)=>bif Nat.blt k rs.length then K (s.hg d (.cells u (rY k [.fn f []] rs)))else Y|_=>Y
   |_,_=>Y
   else Y
  |_,_=>Y
 |.nilCheck p=>match s.ev p with
  |.val (.ptr k) p=>Option.bind (α:=Nat) p λi=>K (s.put o.dst (.jy k i 0))|.val (.ref t) p=>Option.bind (α:=bL U.C t) p λx=>K (s.put o.dst (.dF t x 0))
  |.dT d k=>match s.box d with
   |some (.cells _ _)=>K (s.put o.dst (.dT d k))|_=>Y
  |.dF t x k=>K (s.put o.dst (.dF t x k))|.jy k i off=>K (s.put o.dst (.jy k i off))
  |.kq k i j off=>K (s.put o.dst (.kq k i j off))|_=>Y
 |.makeMap _ Y=>match oy esc o.dst with
  |some k=>match U.ak k with
   |.map E vt=>match maps U k E vt s with
    |some l=>match Hd U k E vt s (l++[[]])with
     |some I=>s.cw I λs=>K (s.put o.dst (.val (.mp k) (O l.length)))|none=>Y
    |none=>Y
   |_=>Y
  |_=>Y
 |.lookup e x i J=>match X.ty e with
  |some (.mp m)=>Of s m (s.ev x) (s.ev i) J λr=>K (s.put o.dst r)|_=>Y
 |.mapUpdate e m k v=>match X.ty e,o.dst with
  |some (.mp A),Y=>bif X.wr then AD g s A (s.ev m) (s.ev k) (s.ev v) K else Y|_,_=>Y
 |.insert e m k v=>match X.ty e,o.dst with
  |some (.mp A),Y=>bif X.wr then AD g s A (s.ev m) (s.ev k) (s.ev v) K else Y|_,_=>Y
 |.binOp op e x y e'=>match X.ty e with
  |some (.bk t)=>match ga (.bk t) (s.ev x),Hf y,op with
   |some a,W,.eql=>bif !g then Y else cond (List.isEmpty (α:=bL U.C t) a) (both (K (s.put o.dst (.val .bool W))) (K (s.put o.dst (.val .bool F)))) (K (s.put o.dst (.val .bool F)))|some a,W,.neq=>bif !g then Y else cond (List.isEmpty (α:=bL U.C t) a) (both (K (s.put o.dst (.val .bool F))) (K (s.put o.dst (.val .bool W)))) (K (s.put o.dst (.val .bool W)))
   |_,_,_=>Y
  |some t=>bif (X.k6 e).isNone then Zg o op t (s.ev x) (s.ev y) (X.ty e') λt v=>K (s.put o.dst (.val t v))else Y|none=>Y
 |.unOp .not _ x=>match zi (s.ev x)with
  |some b=>K (s.put o.dst (.val .bool (!b)))|none=>Y
 |.unOp .neg e x=>match X.ty e with
  |some (.int k)=>match ga (.int k) (s.ev x)with
   |some n=>K (s.put o.dst (.val (.int k) (k.wrap (0-n))))|none=>Y
  |_=>Y
 |.convert e e' x=>match X.ty e,X.ty e' with
  |some (.int _),O (.int k)=>match BY (s.ev x)with
   |some n=>K (s.put o.dst (.val (.int k) (k.wrap n)))|none=>Y
  |some .str,O (.bk (.int .u8))=>match ga .str (s.ev x)with
   |some v=>(dv (decide (List.length (α:=bc) v<=maxLen))).bind λ_=>K (s.put o.dst (.val (.bk (.int .u8)) (List.map (λc:bc=>(c.toNat:Int)) v)))|none=>Y
  |_,_=>Y
 |.fieldAddr e p f=>match X.ty e with
  |some t=>bif (X.k6 e).isNone then uA s t f (s.ev p) λr=>K (s.put o.dst r)else Y|none=>Y
 |.field e x f=>match(bif (X.k6 e).isNone then X.ty e else Y)with
  |some (.struct n)=>match ga (.struct n) (s.ev x),fieldAt U (.struct n) f with
   |some v,O (off,t)=>match N7 t (.struct n) v off with
    |some v=>K (s.put o.dst (.val t v))|none=>Y
   |_,_=>Y
  |_=>Y
 |.indexAddr e x i=>match BY (s.ev i),X.ty e,X.elem e with
  |some m,O (.bk t),O el=>uB s t el (s.ev x) m λr=>K (s.put o.dst r)|some m,O (.struct n),_=>bif (X.k6 e).isSome then Hk s (s.ev x) m (U.dO n).length 0 λr=>K (s.put o.dst r)else Y
  |some m,Y,_=>match s.ev x with
   |.sN rs=>bif X.Mb e then Oi m rs 0 λr=>K (s.put o.dst r)else Y|_=>Y
  |_,_,_=>Y
 |.index e x i=>match(bif X.ry e then Y else X.k6 e)with
  |some _=>match X.ty e,BY (s.ev i)with
   |some (.struct n),O m=>Hl m (Jt n (s.ev x)) 0 λr=>K (s.put o.dst (Cd r))|_,_=>Y
  |none=>match X.ty e,ga .str (s.ev x),BY (s.ev i)with
   |some .str,O v,O m=>(ax (α:=bc) v m).bind λc=>K (s.put o.dst (.val (.int .u8) (c.toNat:Int)))|_,_,_=>Y
 |.slice e x B hi Y=>match ox s Y B,ox s Y hi with
  |some l,O h=>match s.ev x,X.ty e with
   |.val (.bk te) xs,O (.bk t)=>bif decide (te=t)then xW (β:=bL U.C te) xs l h λys=>K (s.put o.dst (.val (.bk te) ys))else Y|.bF te xs,O (.bk t)=>bif decide (te=t)then xW xs l h λys=>K (s.put o.dst (.val (.bk te) ys))else Y
   |.whole d',O (.bk t)=>match l with
    |some l=>abn X s o.dst e d' t l h K|none=>VM X g s o.dst e d' t Y h K
   |.val (.hs k) p,O (.bk t)=>match B,h,U.ak k with
    |none,O m,.br te el=>bif decide (te=t)&&decide (X.elem e=O el)then Option.bind (α:=Nat×Nat) p λq=>(dv (decide (0<=m)&&decide (m.toNat<=q.2))).bind λ_=>K (s.put o.dst (.val (.hs k) (O (q.1,m.toNat))))else Y|_,_,_=>Y
   |x,O .str=>match ga .str x with
    |some v=>xW (β:=bc) v l h λys=>K (s.put o.dst (.val .str ys))|none=>Y
   |_,_=>Y
  |_,_=>Y
 |.slice e x B hi (O mx)=>bif sl0 B hi mx then match s.ev x,X.ty e with
  |.val (.bk te) _,O (.bk t)=>bif decide (te=t)then K (s.put o.dst (.bF te []))else Y|_,_=>Y
  else match B,ox s Y hi,BY (s.ev mx)with
  |none,O (O h),O m=>match s.ev x,X.ty e with
   |.val (.bk te) xs,O (.bk t)=>bif decide (te=t)then(dv (decide (0<=h)&&(decide (h=m)&&decide (h.toNat<=List.length (α:=bL U.C te) xs)))).bind λ_=>K (s.put o.dst (.bF te (List.take (α:=bL U.C te) h.toNat xs)))else Y|_,_=>Y
  |_,_,_=>Y
 |.makeSlice e m A=>match o.dst,X.ty e,X.elem e,BY (s.ev m),(match m,A with|.tmp a,.tmp b=>Nat.beq a b|.const (.int _ a),.const (.int _ b)=>decide (a=b)|_,_=>F)with
  |some d,O (.bk te),O el,O n,W=>match zk U te with
   |some z=>(dv (decide (0<=n)&&cF (X.bytes el) n.toNat 281474976710656)).bind λ_=>s.new d (.br te el (List.replicate n.toNat z)) λs=>K (s.put o.dst (.whole d))|none=>Y
  |_,_,_,_,_=>Y
 |.extract x i=>match s.ev x with
  |.gw rs=>match rs[i]? with
   |some r=>K (s.put o.dst r)|none=>Y
  |_=>Y
 |.makeFunc (.func f) first caps=>bif !first.toList.isEmpty&&(caps.toList.isEmpty&&(zj s first.toList).all Yi)then K (s.put o.dst (.mc f (zj s first.toList)))else bif first.toList.isEmpty then Fh g s caps.toList λs=>bif (zj s caps.toList).all abm then K (s.put o.dst (.fn f (zj s caps.toList)))else Y else Y
 |.call {callee:=.builtin b,args,argTypes}=>match b,args.toList,argTypes.toList with
  |.len,[x],[G]=>match X.ty G with
   |some (.mp A)=>match s.ev x with
    |.val (.mp m) p=>bif Nat.beq A m then match U.ak m with
     |.map E vt=>match maps U m E vt s with
      |some l=>(dX l p).bind λL=>K (s.put o.dst (.val (.int .i64) (L.length:Int)))|none=>Y
     |_=>Y
     else Y
    |_=>Y
   |some .str=>match ga .str (s.ev x)with
    |some v=>K (s.put o.dst (.val (.int .i64) ((List.length (α:=bc) v:Nat):Int)))|none=>Y
   |some (.bk _)=>match Zh s (s.ev x)with
    |some n=>K (s.put o.dst (.val (.int .i64) (n:Int)))|none=>Y
   |none=>match s.ev x with
    |.sN rs=>bif X.Mb G then K (s.put o.dst (.val (.int .i64) (rs.length:Int)))else Y|_=>Y
   |_=>Y
  |.append,[x,y],[e,u]=>match X.ty e,X.elem e,X.ty u with
   |some (.bk te),O el,O (.bk _)=>N9 X g s o.dst el te x (s.ev y) K|_,_,_=>Y
  |.max,[x,y],_=>match ga (.int .i64) (s.ev x),ga (.int .i64) (s.ev y)with
   |some a,O b=>K (s.put o.dst (.val (.int .i64) (bif decide ((a:Int)<b)then b else a:Int)))|_,_=>Y
  |.copy,[x,y],[e,_]=>match s.ev x,X.ty e,X.elem e with
   |.whole d,O (.bk te),O el=>VJ s te el (s.ev y) λys=>match s.box d with
    |some (.br C e' xs)=>match er (.bk C) (.bk te) xs,Nat.beq e' el with
     |some xs,W=>K ((s.hg d (.br te e' (List.take (min ys.length (List.length (α:=bL U.C te) xs)) ys++List.drop (min ys.length (List.length (α:=bL U.C te) xs)) xs))).put o.dst (.val (.int .i64) ((min ys.length (List.length (α:=bL U.C te) xs):Nat):Int)))|_,_=>Y
    |_=>Y
   |_,_,_=>Y
  |_,_,_=>Y
 |.call {callee:=.value x,args,..}=>match s.ev x with
  |.fn f caps=>match X.Zf f with
   |some (n,fs)=>bif caps.isEmpty&&args.toList.isEmpty then K (s.put o.dst (.agg n (fs.map aep)))else Y|none=>abk X kx g s o.dst f caps args.toList K
  |.mc f first=>bif g then match X.lB f with
   |c::_=>Ca X kx s o.dst c first args.toList K
   |[]=>Y
   else Y
  |.val (.fn a b) φ=>xFn g s o.dst a b φ args.toList K|.val (.lP a b) φ=>bif X.wr then abl g s o.dst a b φ args.toList K else Y
  |_=>Y
 |.makeInterface e x=>match X.ty e with
  |some t=>match ga t (s.ev x)with
   |some v=>K (s.put o.dst (.mR e t v))|none=>Y
  |none=>Y
 |.panic x=>match s.ev x with
  |.mR e t v=>kx ⟨e,t,v⟩ s|_=>Y
 |_=>Y
def pX{C:Nat->Type}:R C:=.gw []
def Sf(esc:Z (Nat×Nat))(dst:V Nat):aa:=match oy esc dst with
 |some k=>Nat.beq k 998||Nat.ble 2000 k|none=>F
def Yl(dst:V Nat)(s:S U.C)(K:S U.C->V α):V α:=match oy esc dst,dst with
 |some k,O d=>bif Nat.beq k 998 then Fh W s [.tmp d] K else S.val W s (s.ev (.tmp d)) (.hs (k-2000)) λs _=>K s|_,_=>Y
def Sg(o:aC)(s:S U.C):V (Nat×R U.C):=match o.op,o.dst,oy esc o.dst with
 |.box _ x,O d,O k=>bif Nat.beq k 997&&ns d s.b then match s.ev x with
  |.val (.lP a b) φ=>O (d,.val (.lP a b) φ)|_=>Y
  else Y
 |_,_,_=>Y
def S.Vz {C:Nat->Type} (s:S C) (d:Nat) (r:R C):S C:=S.put (C:=C) {s with r:=(d,s.tick,.none)::jY d s.tick s.r,b:=bu s.b d,tick:=s.tick+1} (O d) (.nF r)
noncomputable def Ju (o:aC) (s:S U.C) (K:S U.C->V α):V α:=
 match Sg esc o s with
 |some (d,r)=>K (s.Vz d r)|none=>bif Sf esc o.dst then iA X kx [] W o s (λs=>Yl esc o.dst s K)else iA X kx esc W o s K
noncomputable def mE (ops:Array aC):Z aC->S U.C->(S U.C->V α)->V α
 |[],s,K=>K s|o::l,s,K=>match o.guard with
  |none=>Ju X kx esc o s λs=>mE ops l s K|some (j,a)=>match(ops[j]?).bind (·.dst)with
   |none=>Y|some t=>match s.bG t with
    |.val .bool b=>
     cond b (let s:=s.put (O t) (.val .bool W);bif a then Ju X kx esc o s λs=>mE ops l s K else mE ops l (s.put o.dst pX) K)
      (let s:=s.put (O t) (.val .bool F);bif a then mE ops l (s.put o.dst pX) K else Ju X kx esc o s λs=>mE ops l s K)
    |.const (.bool b)=>bif Bool.xor b a then mE ops l (s.put o.dst pX) K else Ju X kx esc o s λs=>mE ops l s K|.gw []=>mE ops l (s.put o.dst pX) K
    |_=>Y
end
section
variable(X:gy U)(esc:Z (Nat×Nat))
mutual
def R.rj {C:Nat->Type}:R C->Z Nat
 |.dT d _=>[d]|.whole d=>[d]
 |.gq d _ _ _ _ _=>[d]|.gw rs=>Ey rs
 |.fn _ rs=>Ey rs|.sub d _ _=>[d]
 |.sN rs=>Ey rs|.nF r=>r.rj
 |.agg _ rs=>Ey rs|.mc _ rs=>Ey rs
 |_=>[]
def Ey{C:Nat->Type}:Z (R C)->Z Nat
 |[]=>[]|r::rs=>r.rj++Ey rs
end
def B.rj {C:Nat->Type}:B C->Z Nat
 |.cells _ rs=>Ey rs|.br _ _ _=>[]
def Ym{C:Nat->Type}(s:S C):Nat->Z Nat->Z Nat
 |0,l=>l|n+1,l=>l++Ym s n (l.flatMap λd=>match s.box d with|some b=>b.rj|none=>[])
def fW(ops:Array aC)(o:aC):Z Nat:=(o.op.operands.toList.filterMap λ|.tmp t=>O t|_=>Y)++(match o.guard with|some (j,_)=>((ops[j]?).bind (·.dst)).toList|none=>[])
def Zm{C:Nat->Type}:R C->Z Nat
 |.val (.ptr k) _=>[k]|.val (.hs k) _=>[k]
 |.val (.mp k) _=>[k]|.jy k _ _=>[k]
 |.kq k _ _ _=>[k]|_=>[]
def Zn{C:Nat->Type}:R C->Z Nat
 |.val (.hs k) _=>[k]|_=>[]
def Si(U:cp)(k:Nat):Z Nat:=
 let f:=λt=>(hp U D t).flatMap λ|.hs m=>[m]|_=>[]
 match U.ak k with
 |.h7 t=>f t|.br t _=>f t
 |.map _ t=>f t
def Sj:Nat->Z Nat
 |0=>[]|n+1=>n::Sj n
def Zo{C:Nat->Type}{U:cp}(X:gy U):R C->aa
 |.fn f _=>(X.lB f).any λc=>c.ea.isSome||match c.run with|.pure _=>F|_=>W
 |.val (.lP _ _) _=>W|_=>F
def Zp{U:cp}(X:gy U)(e:an):Z Nat:=match X.ty e with
 |some t=>(hp U D t).flatMap λ|.hs m=>[m]|_=>[]
 |none=>[]
def VP(s:S U.C)(o:aC):Z Nat:=
 let rs:=o.op.operands.toList.map s.ev;let l:=rs.flatMap Zm++(oy esc o.dst).toList;match o.op with
 |.call {callee:=.value x,..}=>bif Zo X (s.ev x)then Sj U.nk else rs.flatMap Zn|.move _|.assign _|.pick ..|.fieldAddr ..|.binOp ..|.unOp ..|.extract ..|.nilCheck _=>[]
 |.build e _=>(l++l.flatMap (Si U))++Zp X e|_=>l++l.flatMap (Si U)
def mm{C:Nat->Type}:R C->aa
 |.whole _=>W|_=>F
def fA{C:Nat->Type}{U:cp}(X:gy U)(s:S C):Op->aa
 |.move _|.pick ..|.fieldAddr ..|.indexAddr ..|.binOp ..|.unOp ..|.extract ..|.nilCheck _|.lookup ..|.field ..|.index ..|.slice ..|.convert ..|.makeInterface ..=>F|.load e p=>Oj X.Ze e p
 |.build _ b=>b.toList.any λp=>mm (s.ev p.2)|.assign x=>match s.ev x with
  |.whole _=>W|_=>F
 |.call {callee:=.builtin .len,..}=>F|.call {callee:=.value x,args,..}=>args.toList.any (λa=>mm (s.ev a))||match s.ev x with
  |.fn f _=>(X.lB f).any λc=>(match c.run with|.pure _=>F|_=>W)||c.rs.any RK.gl
  |.val (.lP _ _) _=>W|_=>F
 |_=>W
def eQ(o:aC):Z Nat:=match o.dst with
 |some d=>match o.op with
  |.call {callee:=.value _,..}=>d::(Sj 8).map (h6 d)|.move _|.pick ..|.load ..|.fieldAddr ..|.indexAddr ..|.binOp ..|.unOp ..|.extract ..|.nilCheck _|.lookup ..|.field ..|.index ..|.slice ..|.convert ..|.build ..|.makeInterface ..=>[]
  |_=>[d]
 |none=>[]
def xZ:Z aC->Z Nat
 |[]=>[]|o::l=>eQ o++xZ l
def ji(o:aC):Z Nat:=match o.op with
 |.call {callee:=.builtin .append,args,..}=>match args.toList with
  |[.tmp t,_]=>[t]|_=>[]
 |_=>[]
structure Fp where
 i:Nat
 bs:List Nat
 ks:List Nat
 w:Bool
def S.only {C:Nat->Type} (s:S C) (rs bs c:Z Nat):S C:={r:=uC s.r rs,b:=uC s.b bs,tick:=s.tick,h:=s.h,hv:=s.hv,m:=λk=>s.m k&&ik k c}
 where uC {β:Type} (l:Z (Nat×Nat×β)):Z Nat->Z (Nat×Nat×β)
 |[]=>[]|t::ts=>match aF l t with
  |some (a,x)=>(t,a,x)::uC l ts|none=>uC l ts
def sP{β:Type}(l:Z (Nat×Nat×β)):Z Nat->Z (Nat×Nat×β)
 |[]=>l|d::a=>sP (bu l d) a
def uD(U:cp)(h a:U.C 0):Z Nat->U.C 0
 |[]=>h|k::b=>uD U (U.set k h (U.get k a)) a b
def k7{C:Nat->Type}(tick:Nat):Z Nat->Z (Nat×Nat×R C)->Z (Nat×Nat×R C)
 |[],l=>l|t::ts,l=>(t,tick,.none)::k7 tick ts l
def S.Fj {C:Nat->Type} {γ:Type} (s:S C) (k:S C->γ):γ:=match s with
 |⟨r,b,tick,h,hv,m⟩=>Hb r λr=>Hb b λb=>k ⟨r,b,tick,h,hv,m⟩
def S.Ce (s:S C) (k:S C->γ):s.Fj k=k s:=by cases s;simp only[S.Fj,Ff]
def S.tN {U:cp} (s a:S U.C) (dst:V Nat) (c:Z Nat) (f:Fp):S U.C:=
 {r:=match dst with
   |some d=>(d,a.tick,a.bG d)::k7 a.tick c s.r|none=>k7 a.tick c s.r
  b:=bif f.w then a.b++sP s.b f.bs else s.b,tick:=a.tick+1
  h:=bif f.w&&Nat.ble s.tick a.hv then uD U s.h a.h f.ks else s.h,hv:=bif f.w&&Nat.ble s.tick a.hv then a.hv else s.hv,m:=s.m}
def Sk{C:Nat->Type}:Z Nat->S C->V (S C)
 |[],s=>O s|d::a,s=>bif ns d (bu s.b d)then Sk a {s with r:=jY d s.tick s.r,b:=bu s.b d,tick:=s.tick+1}else Y
def Cf:Z Nat->Z Nat->aa
 |[],_=>F|d::l,a=>ik d a||Cf l a
def wo(a:Nat)(f:Fp):Z Fp->aa
 |[]=>W|g::l=>(Nat.testBit a g.i||!((f.w||g.w)&&(Cf f.bs g.bs||Cf f.ks g.ks)))&&wo a f l
def Ol{C:Nat->Type}:R C->aa
 |.fn _ caps=>caps.all λ|.val _ _=>W|.dF _ _ _=>W|.nF (.val _ _)=>W|_=>F
 |.gw rs=>rs.all λ|.val t _=>fD t|.whole _=>W|_=>F
 |.sN _=>F|.nF (.val _ _)=>W
 |.nF _=>F|.mc _ _=>F
 |.agg _ rs=>rs.all λ|.val t _=>fD t|.hk _=>W|_=>F
 |_=>W
def R.Sl {C:Nat->Type} (bs:Z Nat) (tick:Nat) (r:R C):aa:=r.rj.all (λd=>ik d bs)&&match r with
 |.gq _ _ _ a _ _=>Nat.blt a tick|_=>W
def Zq{C:Nat->Type}(s:S C)(bs:Z Nat):V Nat->aa
 |some d=>Ol (s.bG d)&&R.Sl bs s.tick (s.bG d)|none=>W
mutual
def eB{C:Nat->Type}(tick:Nat):R C->aa
 |.gq _ _ _ a _ _=>Nat.blt a tick|.gw rs=>lQ tick rs
 |.fn _ rs=>lQ tick rs|.sN rs=>lQ tick rs
 |.nF r=>eB tick r|.agg _ rs=>lQ tick rs
 |.mc _ rs=>lQ tick rs|_=>W
def lQ{C:Nat->Type}(tick:Nat):Z (R C)->aa
 |[]=>W|r::rs=>eB tick r&&lQ tick rs
end
def B.Hm {C:Nat->Type} (tick:Nat):B C->aa
 |.cells _ rs=>lQ tick rs|.br _ _ _=>W
def VQ{β:Type}(l:Z (Nat×Nat×β))(d:Nat):aa:=match aF l d with
 |some _=>W|none=>F
def VR{C:Nat->Type}(f:Fp)(a:Z Nat)(bx:Z (Nat×Nat×B C))(tick:Nat):Z (Nat×Nat×B C)->aa
 |[]=>W|(d,st,x)::l=>ik d f.bs&&(Nat.blt st tick&&(x.rj.all (λe=>ik e f.bs)&&(x.Hm tick&&((ik d a||VQ bx d)&&VR f a bx tick l))))
def Hn{C:Nat->Type}(tick:Nat)(bx a:Z (Nat×Nat×B C)):Z Nat->aa
 |[]=>W|d::l=>(match aF a d with|some (st,_)=>Nat.blt st tick|none=>!VQ bx d)&&Hn tick bx a l
def Cg(a:Z Nat):Z Fp->aa
 |[]=>W|g::l=>!Cf a g.bs&&Cg a l
def x4{U:cp}(X:gy U)(f:Fp)(o:aC)(p a:S U.C):aa:=Zq a f.bs o.dst&&((f.w||!fA X p o.op)&&bif f.w then VR f (eQ o) p.b a.tick a.b else Hn p.tick p.b a.b f.bs)
def S.pY {U:cp} (X:gy U) (esc:Z (Nat×Nat)) (ops:Array aC) (i:Nat) (o:aC) (s:S U.C):Fp:={i:=i,bs:=Ym s 2 ((fW ops o).flatMap λt=>(s.bG t).rj)++eQ o,ks:=VP X esc s o,w:=fA X s o.op}
def S.Mg {C:Nat->Type} (s a:S C):S C:={r:=[],b:=[],tick:=a.tick,h:=a.h,hv:=a.tick,m:=s.m}
def Ch{C:Nat->Type}(s:S C)(a:Z Nat):Nat->aa
 |0=>W|n+1=>(!s.m n||ik n a)&&Ch s a n
def Jv(a:Array Nat)(i:Nat):V Nat->aa
 |some j=>(a.getD i 0).testBit j|none=>F
noncomputable def r6 (kx:o8 U->S U.C->V α) (ops:Array aC) (a:Array Nat):Z aC->V Nat->Nat->Z Fp->S U.C->(S U.C->V α)->V α
 |[],_,_,_,s,K=>K s|o::l,c,i,fs,s,K=>
  bif Jv a i c then r6 kx ops a l c (i+1) ({i:=i,bs:=[],ks:=[],w:=F}::fs) s K else
  let d:=λs:S U.C=>
   let f:Fp:=S.pY X esc ops i o s
   bif wo (a.getD i 0) f fs&&Cg (eQ o) fs then iA X (λp e=>bif c.isNone&&Ch s f.ks U.nk then r6 kx ops a l (O i) (i+1) ({f with w:=F}::fs) s (λ_=>kx p (s.Mg e))else Y) esc F o (s.only (fW ops o) f.bs f.ks) λe=>bif x4 X f o (s.only (fW ops o) f.bs f.ks) e then(s.tN e o.dst (ji o) f).Fj λs=>r6 kx ops a l c (i+1) (f::fs) s K else Y else Y
  let skip:=λs:S U.C=>r6 kx ops a l c (i+1) ({i:=i,bs:=[],ks:=[],w:=F}::fs) (s.put o.dst pX) K;match o.guard with
  |none=>d s|some (j,g)=>match(ops[j]?).bind (·.dst)with
   |none=>Y|some t=>match s.bG t with
    |.val .bool b=>
     cond b (let s:=s.put (O t) (.val .bool W);bif g then d s else skip s)
      (let s:=s.put (O t) (.val .bool F);bif g then skip s else d s)
    |.const (.bool b)=>bif Bool.xor b g then skip s else d s|.gw []=>skip s
    |_=>Y
def Ci(ops:Array aC):aa:=
 let b:=Region.before ops
 (List.range ops.size).all λk=>match ops[k]? with
  |some a=>(a.after.all λe=>!Region.binds .any e||decide (e.on<k))&&(match a.op with|.select ..=>F|_=>W)&&
   ((List.range ops.size).all λi=>match ops[i]? with
     |some c=>Nat.beq i k||(ji a).all λt=>!ik t (c.looksAt ops)|none=>W)&&
   (List.range k).all λi=>match ops[i]? with
    |some c=>(b.getD k 0).testBit i||c.apart ops a|none=>W
  |none=>W
noncomputable def Om (kx:o8 U->S U.C->V α) (ops:Array aC) (s:S U.C) (K:S U.C->V α):V α:=
 bif Ci ops then match Sk (xZ ops.toList) s with
  |some s=>r6 X esc kx ops (Region.before ops) ops.toList Y 0 [] s K|none=>Y
 else Y
end
inductive Ex where
 |normal
 |exit (id:Nat)
 |ret
inductive RS where
 |val (t:Ty)
 |bF (t:Ty)
 |dT (d k:Nat)
 |whole (d:Nat)
 |bR (d:Nat) (t:Ty) (e:TypeId)
 |dF (t:Ty) (k:Nat)
inductive BS where
 |cells (t:Ty) (rs:List RS)
 |br (t:Ty) (e:TypeId)
structure Sh where
 h:Bool:=F
 eP:List Nat
 ct:List (Nat×RS)
 tO:List Nat
 bD:List (Nat×BS)
inductive e9 where
 |leaf
 |seq (j:Option Sh) (a b:e9)
 |cond (a b:e9)
 |block (a:e9)
 |loop (j:Sh) (a:e9)
 |Mh (a:e9)
 |scope (a:e9)
 |Ho (j:Sh) (a:e9)
 |enm
 |alt (a b:e9)
def RS.ty:RS->V Ty
 |.val t=>O t|.bF t=>O (.bk t)
 |.bR _ t _=>O (.bk t)|.dF t _=>O t
 |_=>Y
def Jw:V Ty->Z Ty->Z Ty
 |some t,ts=>t::ts|none,ts=>ts
def uE:Z (Nat×RS)->Z Ty->Z Ty
 |[],ts=>ts|(_,r)::l,ts=>Jw r.ty (uE l ts)
def qH:Z RS->Z Ty->Z Ty
 |[],ts=>ts|r::l,ts=>Jw r.ty (qH l ts)
def k8:Z (Nat×BS)->Z Ty
 |[]=>[]|(_,.cells _ rs)::l=>qH rs (k8 l)
 |(_,.br t _)::l=>.bk t::k8 l
def Sh.Zr (j:Sh):Z Ty:=uE j.ct (k8 j.bD)
section
variable{C:Nat->Type}
def RS.pZ (s:S C):(r:RS)->R C->(ts:Z Ty)->HL C ts->V (HL C (Jw r.ty ts))
 |.val t,x,ts,y=>match ga t x with
  |some v=>O (iE t ts v y)|none=>Y
 |.bF t,x,ts,y=>match x with
  |.bF a xs=>match er (.bk a) (.bk t) xs with
   |some v=>O (iE (.bk t) ts v y)|none=>Y
  |_=>Y
 |.dT d k,x,ts,y=>match x with
  |.dT d' k'=>bif Nat.beq d d'&&Nat.beq k k' then O y else Y|_=>Y
 |.whole d,x,ts,y=>match x with
  |.whole d'=>bif Nat.beq d d' then O y else Y|_=>Y
 |.bR d t e,x,ts,y=>match x with
  |.whole d'=>match s.box d' with
   |some (.br a e' xs)=>bif decide (e'=e)then match er (.bk a) (.bk t) xs with
     |some v=>O (iE (.bk t) ts v y)|none=>Y
    else Y
   |_=>Y
  |.bF a xs=>bif decide (a=t)then match xs with
    |[]=>O (iE (.bk t) ts [] y)|_=>Y
   else Y
  |.const v=>bif fE v then O (iE (.bk t) ts [] y)else Y|.hk a=>bif decide (a=t)then O (iE (.bk t) ts [] y)else Y
  |_=>Y
 |.dF t k,x,ts,y=>match x with
  |.dF a z k'=>bif Nat.beq k k' then match er a t z with
    |some v=>O (iE t ts v y)|none=>Y
   else Y
  |_=>Y
def nQ(s:S C):(l:Z RS)->(ts:Z Ty)->Z (R C)->HL C ts->V (HL C (qH l ts))
 |[],ts,[],x=>O x|r::l,ts,c::rs,x=>match nQ s l ts rs x with
  |some y=>r.pZ s c (qH l ts) y|none=>Y
 |_,_,_,_=>Y
def nR(s:S C):(l:Z (Nat×BS))->V (HL C (k8 l))
 |[]=>O ()|(d,.cells t cs)::l=>match s.box d,nR s l with
  |some (.cells a rs),O x=>bif decide (t=a)then nQ s cs (k8 l) rs x else Y|_,_=>Y
 |(d,.br t e)::l=>match s.box d,nR s l with
  |some (.br a e' xs),O x=>bif decide (e=e')then match er (.bk a) (.bk t) xs with
    |some v=>O (iE (.bk t) (k8 l) v x)|none=>Y
   else Y
  |_,_=>Y
def wq(s:S C):(l:Z (Nat×RS))->(ts:Z Ty)->HL C ts->V (HL C (uE l ts))
 |[],_,x=>O x|(q,r)::l,ts,x=>match wq s l ts x with
  |some y=>r.pZ s (s.bG q) (uE l ts) y|none=>Y
def RS.src (x:R C):RS->Z Nat
 |.bR _ _ _=>match x with
  |.whole d=>[d]|_=>[]
 |_=>[]
def On(s:S C):Z (Nat×RS)->Z Nat
 |[]=>[]|(q,r)::l=>r.src (s.bG q)++On s l
def Fk:Z RS->Z (R C)->Z Nat
 |r::l,c::rs=>r.src c++Fk l rs|_,_=>[]
def Fl(s:S C):Z (Nat×BS)->Z Nat
 |[]=>[]|(d,.cells _ cs)::l=>d::((match s.box d with
  |some (.cells _ rs)=>Fk cs rs|_=>[])++Fl s l)
 |(d,.br _ _)::l=>d::Fl s l
def RS.p6:RS->Z Nat
 |.bR d _ _=>[d]|_=>[]
def tP:Z (Nat×RS)->Z Nat
 |[]=>[]|(_,r)::l=>r.p6++tP l
def zm:Z RS->Z Nat
 |[]=>[]|r::l=>r.p6++zm l
def Cj:Z (Nat×BS)->Z Nat
 |[]=>[]|(_,.cells _ cs)::l=>zm cs++Cj l
 |(_,.br _ _)::l=>Cj l
def zn:Z (Nat×BS)->Z Nat
 |[]=>[]|(d,.cells _ cs)::l=>d::(zm cs++zn l)
 |(d,.br _ _)::l=>d::zn l
def RS.Sm (ow:Z Nat):RS->aa
 |.whole d=>!ik d ow|_=>W
def Jx(ow:Z Nat):Z (Nat×BS)->aa
 |[]=>W|(_,.cells _ cs)::l=>cs.all (RS.Sm ow)&&Jx ow l
 |(_,.br _ _)::l=>Jx ow l
def R.still {C:Nat->Type} (ow:Z Nat):R C->aa
 |.gq _ _ _ _ _ _=>F|.gw _=>F
 |.sub _ _ _=>F|.sN _=>F
 |.nF (.val _ _)=>W|.nF _=>F
 |.agg _ _=>F|.mc _ _=>F
 |.whole d=>!ik d ow|.fn _ caps=>caps.all λ|.val _ _=>W|.dF _ _ _=>W|_=>F
 |_=>W
def B.still {C:Nat->Type} (ow:Z Nat):B C->aa
 |.cells _ rs=>rs.all (R.still ow)|.br _ _ _=>W
def Ck:Z Nat->aa
 |[]=>W|d::l=>!ik d l&&Ck l
def Cl{β:Type}(p:β->aa)(c s:Z (Nat×Nat×β)):Z Nat->aa
 |[]=>W|t::l=>match aF c t,aF s t with
  |some (a,x),O (b,_)=>Nat.beq a b&&p x&&Cl p c s l|_,_=>F
def HT(C:Nat->Type):aa->Type
 |true=>C 0|false=>ab
def abp(b:aa)(a s:S C):V (HT C b):=match b with
 |true=>O s.h|false=>bif Nat.beq a.hv s.hv&&Nat.blt a.hv a.tick then O ()else Y
def Mi(b:aa)(a:S C)(x:HT C b):C 0:=match b,x with
 |true,h=>h|false,_=>a.h
def Cm(b:aa)(a:S C):Nat:=match b with
 |true=>a.tick|false=>a.hv
def RS.tQ {U:cp} (X:gy U):RS->aa
 |.bR _ t e=>decide (X.ty e=O t)|_=>W
def Cn{U:cp}(X:gy U):Z (Nat×BS)->aa
 |[]=>W|(_,.cells _ cs)::l=>cs.all (RS.tQ X)&&Cn X l
 |(_,.br _ _)::l=>Cn X l
def Sh.tQ {U:cp} (X:gy U) (j:Sh):aa:=j.ct.all (λe=>e.2.tQ X)&&Cn X j.bD
def Sh.p6 (j:Sh):Z Nat:=tP j.ct++Cj j.bD
def Sh.pZ (j:Sh) (a s:S C):V (HL C j.Zr×HT C j.h):=
 bif Cl (R.still j.p6) a.r s.r j.eP&&(Cl (B.still j.p6) a.b s.b j.tO&&(Ck (On s j.ct++(Fl s j.bD++j.tO))&&(Ck (tP j.ct++(zn j.bD++j.tO))&&(j.ct.all (λe=>e.2.Sm j.p6)&&Jx j.p6 j.bD))))then match nR s j.bD with
  |some x=>match wq s j.ct (k8 j.bD) x,abp j.h a s with
   |some y,O z=>O (y,z)|_,_=>Y
  |none=>Y
 else Y
def RS.load (tick:Nat):(r:RS)->(ts:Z Ty)->HL C (Jw r.ty ts)->(R C×Z (Nat×Nat×B C))×HL C ts
 |.val t,ts,x=>((.val t (xp t ts x),[]),xK t ts x)|.bF t,ts,x=>((.bF t (xp (.bk t) ts x),[]),xK (.bk t) ts x)
 |.dT d k,ts,x=>((.dT d k,[]),x)|.whole d,ts,x=>((.whole d,[]),x)
 |.bR d t e,ts,x=>((.whole d,[(d,tick,.br t e (xp (.bk t) ts x))]),xK (.bk t) ts x)|.dF t k,ts,x=>((.dF t (xp t ts x) k,[]),xK t ts x)
def loadCells(tick:Nat):(l:Z RS)->(ts:Z Ty)->HL C (qH l ts)->(Z (R C)×Z (Nat×Nat×B C))×HL C ts
 |[],ts,x=>(([],[]),x)|r::l,ts,x=>let p:=r.load tick (qH l ts) x;let q:=loadCells tick l ts p.2;((p.1.1::q.1.1,p.1.2++q.1.2),q.2)
def nS(tick:Nat):(l:Z (Nat×BS))->HL C (k8 l)->Z (Nat×Nat×B C)
 |[],_=>[]|(d,.cells t cs)::l,x=>let p:=loadCells tick cs (k8 l) x;(d,tick,.cells t p.1.1)::(p.1.2++nS tick l p.2)
 |(d,.br t e)::l,x=>(d,tick,.br t e (xp (.bk t) (k8 l) x))::nS tick l (xK (.bk t) (k8 l) x)
def p7(tick:Nat):(l:Z (Nat×RS))->(ts:Z Ty)->HL C (uE l ts)->(Z (Nat×Nat×R C)×Z (Nat×Nat×B C))×HL C ts
 |[],_,x=>(([],[]),x)|(t,r)::l,ts,x=>let p:=r.load tick (uE l ts) x;let q:=p7 tick l ts p.2;(((t,tick,p.1.1)::q.1.1,p.1.2++q.1.2),q.2)
def p8{β:Type}(b:Z (Nat×Nat×β)):Z Nat->Z (Nat×Nat×β)
 |[]=>[]|t::l=>match aF b t with
  |some (a,x)=>(t,a,x)::p8 b l|none=>p8 b l
def Sh.load (j:Sh) (a:S C) (x:HL C j.Zr×HT C j.h):S C:=
 let p:=p7 a.tick j.ct (k8 j.bD) x.1
 {r:=p.1.1++p8 a.r j.eP,b:=p.1.2++(nS a.tick j.bD p.2++p8 a.b j.tO),tick:=a.tick+1,h:=Mi j.h a x.2,hv:=Cm j.h a,m:=a.m}
end
def S.x6 {C:Nat->Type} (s:S C) (c:ah) (b:aa):S C:=match c with
 |.tmp t=>match s.bG t with
  |.val .bool _=>s.put (O t) (.val .bool b)|_=>s
 |_=>s
section
variable(X:gy U)(kx:o8 U->S U.C->V α)(esc:Z (Nat×Nat))
noncomputable def VS (f:Nat->V α):Z Nat->V α
 |[]=>Y|[i]=>f i
 |i::l=>both (f i) (VS f l)
noncomputable def Fm (ops:Array aC):Nat->Array aa->S U.C->(S U.C->V α)->V α
 |0,_,_,_=>Y|n+1,a,s,K=>match Region.ready .any ops a with
  |[]=>K s|i::l=>VS (λi=>match ops[i]? with
   |some o=>bif o.guard.isNone then iA X (λ_ _=>Y) esc W o s λs=>Fm ops n (a.setIfInBounds i W) s K else Y|none=>Y) (i::l)
noncomputable def Sn (kx:o8 U->S U.C->V α) (h:e9) (ops:Array aC) (s:S U.C) (K:S U.C->V α):V α:=match h with
 |.enm=>Fm X esc ops (ops.size+1) (Array.replicate ops.size F) s K|_=>Om X esc kx ops s K
def e9.cF {U:cp} (s:S U.C):e9->aa
 |.loop j _=>(j.pZ s s).isSome|_=>F
def e9.pick {U:cp} (s:S U.C):e9->e9
 |.alt a b=>bif a.cF s then a else b.pick s|h=>h
noncomputable def gX:bT->e9->S U.C->(Ex->S U.C->V α)->V α
 |.skip,_,s,k=>k .normal s|.label _,_,s,k=>k .normal s
 |.region _ ops i,h,s,k=>s.Fj λs=>bif i then Sn X esc kx h ops s λs=>k .normal s
  else mE X kx esc ops ops.toList s λs=>k .normal s
 |.seq a b,h,s,k=>match h with
  |.seq (O j) d f=>s.Fj λs=>bif !j.tQ X then Y else aG (λx=>gX b f (j.load s x) k) λJ=>gX a d s λe s'=>match e with
   |.normal=>match j.pZ s s' with
    |some x=>J x|none=>Y
   |e=>k e s'
  |.seq Y d f=>gX a d s λe s'=>match e with
   |.normal=>gX b f s' k|e=>k e s'
  |_=>gX a .leaf s λe s'=>match e with
   |.normal=>gX b .leaf s' k|e=>k e s'
 |.cond c a b,h,s,k=>match zi (s.ev c),h with
  |some q,.cond d f=>cond q (gX a d (s.x6 c W) k) (gX b f (s.x6 c F) k)|some q,_=>cond q (gX a .leaf (s.x6 c W) k) (gX b .leaf (s.x6 c F) k)
  |none,_=>Y
 |.block id a,h,s,k=>gX a (match h with|.block d=>d|_=>.leaf) s λe s'=>match e with
  |.exit g=>bif Nat.beq g id then k .normal s' else k (.exit g) s'|e=>k e s'
 |.loop a,h,s,k=>match h.pick s with
  |.loop j d=>bif !j.tQ X then Y else match j.pZ s s with
   |some l=>aQ (λrec x=>gX a d (j.load s x) λe s'=>match e with
    |.normal=>match j.pZ s s' with
     |some x=>rec x|none=>Y
    |e=>k e s') X.N l
   |none=>Y
  |.Mh d=>aQ (λrec s=>gX a d s λe s'=>match e with
    |.normal=>rec s'|e=>k e s') 64 s
  |_=>Y
 |.exit id,_,s,k=>k (.exit id) s|.scope a,h,s,k=>gX a (match h with|.scope d=>d|_=>.leaf) s k
 |.ret,_,s,k=>k .ret s|_,_,_,_=>Y
end
def Oo{U:cp}{α:Type}(ty:Ty)(s:S U.C)(r:R U.C)(K:S U.C->V α):V α:=match ty,r with
 |.ref _,.dT d _=>s.Jh d K|_,_=>K s
def dj(X:gy U):aa->(l:Z ResultVar)->(rs:Z RK)->S U.C->(S U.C->HL U.C (rs.map RK.ty)->V α)->V α
 |_,[],[],s,K=>K s ()|fr,.tmp t::l,.v ty::rs,s,K=>bif fD ty then(bif fr then Oo ty s (s.bG t) λs=>s.val W (s.bG t) ty λs v=>dj X fr l rs s λs vs=>K s (iE ty (rs.map RK.ty) v vs)
   else match ga ty (s.bG t)with
    |some v=>dj X fr l rs s λs vs=>K s (iE ty (rs.map RK.ty) v vs)|none=>Y)else Y
 |fr,.tmp t::l,.bR ty e::rs,s,K=>bif fr&&decide (X.ty e=O ty)then match(match s.bG t with
   |.whole d=>(match s.box d with|some (.br b e' xs)=>(bif decide (e=e')then er (.bk b) (.bk ty) xs else Y)|_=>Y)
   |.const v=>(bif fE v then O []else Y)|.bF b xs=>(bif decide (b=ty)then(match xs with|[]=>O []|_=>Y)else Y)
   |_=>Y:V (bL U.C (.bk ty)))with
  |some xs=>dj X F l rs s λs vs=>K s (iE (.bk ty) (rs.map RK.ty) xs vs)|none=>Y
  else Y
 |fr,.cell a te::l,.v ty::rs,s,K=>bif decide (X.ty te=O ty)then match s.bG a with
  |.dT d k=>match s.box d with
   |some (.cells _ cs)=>match(Jo U ty k cs).bind (ga ty)with
    |some v=>dj X F l rs s λs vs=>K s (iE ty (rs.map RK.ty) v vs)|none=>Y
   |_=>Y
  |_=>Y
  else Y
 |_,_,_,_,_=>Y
def abq{C:Nat->Type}:(t:Ty)->bL C t->R C
 |.cell t,x=>.dF t x 0|.iC a b,φ=>.nF (.val (.lP a b) φ)
 |t,x=>.val t x
def kF(ps:Z Ty):(i:Nat)->HL U.C ps->Z (Nat×Nat×R U.C):=match ps with
 |[]=>λ_ _=>[]|t::ts=>λi x=>(i,0,abq t (xp t ts x))::kF ts (i+1) (xK t ts x)
noncomputable def Fo (X:gy U) (ps:Z Ty) (rs:Z RK) (p:V (an×Ty)) (esc:Z (Nat×Nat)) (a:Z ResultVar) (c:bT) (hint:e9) (x:HL U.C ps) (h:U.C 0):V (jm U p (HL U.C (rs.map RK.ty))):=
 gX X (λq s=>Ap p q) esc c hint {r:=kF ps 0 x,b:=[],tick:=1,h:=h,m:=λ_=>F} λe s=>match e with
  |.exit _=>Y|_=>dj X W a rs s λs y=>O (xU p y)
def Jy{β σ:Type}(h:σ):V β->V (β×σ)
 |some x=>O (x,h)|none=>Y
noncomputable def Jz (X:gy U) (ps:Z Ty) (rs:Z RK) (p:V (an×Ty)) (esc:Z (Nat×Nat)) (a:Z ResultVar) (c:bT) (hint:e9) (x:HL U.C ps) (h:U.C 0):V (jm U p (HL U.C (rs.map RK.ty))×U.C 0):=
 gX X (λq s=>Jy s.h (Ap p q)) esc c hint {r:=kF ps 0 x,b:=[],tick:=1,h:=h} λe s=>match e with
  |.exit _=>Y|_=>dj X W a rs s λs y=>O (xU p y,s.h)
end
variable{t a b te:Ty}
def dY(k i:Nat):Nat:=k+1000*i
def VT(a:k<1000)(b:k'<1000)(h:dY k i=dY k' i'):k=k'/\i=i':=by unfold dY at h;omega
structure dt(C:Nat->Type)where
 cl:(n:Nat)->C n->List AV
 hz:Nat->Nat
section
variable{C:Nat->Type}(T:dt C)
def hD(p:V (Nat×Nat))(k:Nat):AV:=match p with
 |none=>.hk|some q=>.view (dY k q.1) (T.hz k) q.2
def Sp(p:V Nat)(k:Nat):AV:=match p with
 |none=>.fl (.pointer Y)|some i=>.ptr (dY k i) 0
def Co(p:V Nat)(k:Nat):AV:=match p with
 |none=>.fl (.map Y)|some i=>.mp (dY k i)
def Hq{β:Type}(f:β->AV)(p:V β):AV:=match p with
 |none=>.fl (.pointer Y)|some x=>.ref (f x).cells
def Oq:Ty->AV->Z AV
 |.iz _ u,.ref [a,b]=>a::Oq u b|_,a=>[a]
def enc:(t:Ty)->bL C t->AV
 |.int k,n=>.fl (.int k n)|.bool,b=>.fl (.bool b)
 |.str,s=>.fl (bs s)|.unit,_=>.fl undef
 |.bk t,xs=>.sl (List.map (enc t) xs)|.struct n,x=>.agg (T.cl n x)
 |.ref t,p=>Hq (enc t) p|.cell t,x=>.ref (enc t x).cells
 |.iz t u,x=>.ref [enc t x.1,enc u x.2]|.fn _ _,_=>.fl undef
 |.lP _ _,_=>.fl undef|.ptr k,p=>Sp p k
 |.hs k,p=>hD T p k|.mp k,p=>Co p k
 |.iC _ _,_=>.fl undef|.NY f t,x=>.fn f (Oq t (enc t x))
 |.An k off,i=>.ptr (dY k i) off
def jZ:(ts:Z Ty)->HL C ts->Z AV
 |[],_=>[]|t::ts,x=>(enc T t (xp t ts x)).cells++jZ ts (xK t ts x)
end
def ha(U:cp):Nat->Ty->aa
 |0,.struct _=>F|k+1,.struct n=>(U.dO n).all (ha U k)
 |_,_=>W
structure cD(U:cp)(T:dt U.C):Prop where
 Hr:∀n x,U.un n (U.make n x)=x
 cells:∀n x,T.cl n x=jZ T (U.dO n) (U.un n x)
 ok:∀n,(U.dO n).all fD=W
 nG:∀n,ha U D (.struct n)=W
 hz:∀k t e,U.ak k=.br t e->T.hz k=bB U D t
 AE:∀k h l,k<U.nk->U.get k (U.set k h l)=l
 nk:U.nk<=1000
 Hs:∀k h h',U.nk<=k->U.get k h=U.get k h'
 sQ:∀k k' h l,k'≠k->U.get k' (U.set k h l)=U.get k' h
theorem il{U:cp}{T:dt U.C}(L:cD U T)(a:k<U.nk)(b:k'<U.nk)(h:dY k i=dY k' i'):k=k'/\i=i':=VT (jQ a L.nk) (jQ b L.nk) h
section
variable{C:Nat->Type}
@[simp] theorem gd(t:Ty)(ts:Z Ty)(x:bL C t)(xs:HL C ts):xp t ts (iE t ts x xs)=x:=by cases ts<;>rfl
@[simp] theorem ht(t:Ty)(ts:Z Ty)(x:bL C t)(xs:HL C ts):xK t ts (iE t ts x xs)=xs:=by cases ts<;>rfl
theorem Mj(x:bL C a):er a a x=O x:=by simp[er]
theorem bM{x:bL C a}{y:bL C b}(h:er a b x=O y):∃e:a=b,y=e▸x:=by grind [er]
end
section
variable{U:cp}{T:dt U.C}(L:cD U T)
def p9{T:dt C}{x:bL C t}(h:a7 t=F):(enc T t x).isAgg=F:=by
 cases t<;>first|rfl|(simp[a7]at h;done)|skip
 all_goals
  change V _ at x;cases x<;>rfl
theorem jM{T:dt C}{x:bL C t}(h:a7 t=F):(enc T t x).cells=[enc T t x]:=by have:=p9 (T:=T) (x:=x) h;generalize enc T t x=v at*;cases v<;>first|rfl|(simp[AV.isAgg]at this)
include L in
theorem Mk:∀{k:Nat}{t:Ty}(x:bL U.C t),ha U k t=W->(enc T t x).wf/\(enc T t x).cells.length=bB U k t
 |k,t,x,h=>by
  by_cases a:a7 t=W
  .cases t with
   |struct n=>
    cases k with
    |zero=>simp[ha]at h|succ k=>
     simp only[ha,di]at h;have f:∀(ts:Z Ty)(y:HL U.C ts),(∀t∈ts,ha U k t=W)->(∀c∈jZ T ts y,c.isAgg=F)/\(jZ T ts y).length=ki (bB U k) ts:=by
      intro ts;induction ts with
      |nil=>intro y _;simp[jZ,ki]|cons t ts g=>
       intro y h;obtain⟨d,e⟩:=Mk (k:=k) (xp t ts y) (h t aH);obtain⟨l,i⟩:=g (xK t ts y) λt j=>h t (by simp[j]);simp only[jZ,ki,jf,e,i];refine⟨λc b=>?_,trivial⟩;rcases fK.1 b with b|b
       .exact d c b
       grind
     have:=f _ (U.un n x) h;simp only[enc,AV.cells,AV.wf,bB];rw[L.cells];exact this
   |_=>simp[a7]at a
  .have a:a7 t=F:=by grind
   have d:=jM (T:=T) (x:=x) a;have e:=p9 (T:=T) (x:=x) a;refine⟨λc b=>?_,?_⟩
   grind
   .rw[d];cases t<;>first|(simp[a7]at a;done)|(cases k<;>rfl)
include L in
theorem iF(t:Ty):ha U D t=W:=by cases t<;>first|exact L.nG _|rfl
include L in
theorem fg(x:bL U.C t):(enc T t x).cells.length=bB U D t:=(Mk L x (iF L t)).2
include L in
theorem qI(x:bL U.C t):(enc T t x).wf:=(Mk L x (iF L t)).1
end
theorem x7{a b:Nat}(h:¬a=b):Nat.beq a b=F:=by grind [Nat.beq,absurd,cC]
section
variable{β:Type}
theorem aT(d st:Nat)(x:β)(l:Z (Nat×Nat×β))(t:Nat):aF ((d,st,x)::l) t=if d=t then O (st,x)else aF l t:=by simp only[aF];simp_all
theorem aR(l:Z (Nat×Nat×β))(d t:Nat):aF (bu l d) t=if d=t then Y else aF l t:=by
 induction l with
 |nil=>simp[bu,aF]|cons e l a=>
  obtain⟨d',st,x⟩:=e;simp only[bu];by_cases h:d'=d
  .subst h;simp only[uh,aW,a]
   grind [aT]
  .simp only[x7 h,aX,aT,a]
   grind
theorem wu(a b:Z (Nat×Nat×β))(t:Nat):aF (a++b) t=(aF a t).or (aF b t):=by
 induction a with
 |nil=>rfl|cons e l c=>grind [aT]
theorem gz{l:Z (Nat×Nat×β)}{t:Nat}{x:β}(h:aF l t=O (st,x)):(t,st,x)∈l:=by
 induction l with
 |nil=>cases h
 |cons e l a=>
  obtain⟨d',b,c⟩:=e;rw[aT]at h
  grind
end
section
variable{C:Nat->Type}
theorem im(d tk:Nat)(l:Z (Nat×Nat×R C))(t:Nat):aF (jY d tk l) t=(aF l t).map λe=>if e.2.bb d=W then(tk,.none)else e:=by
 induction l with
 |nil=>rfl|cons e l a=>
  obtain⟨d',st,x⟩:=e;simp only[jY];cases h:x.bb d<;>simp only[aW,aX,aT,a]
  grind
  grind
theorem qJ{l:Z (Nat×Nat×B C)}(h:ns d l=W){t:Nat}{x:B C}(a:aF l t=O (st,x)):x.bb d=F:=by
 have b:=gz a;clear a;induction l with
 |nil=>cases b
 |cons e l c=>
  obtain⟨d',f,g⟩:=e;simp only[ns,aP,iB]at h
  grind
theorem fa{d:Nat}:∀{rs:Z (R C)},cZ d rs=F↔∀r∈rs,r.bb d=F
 |[]=>by simp[cZ]|r::rs=>by simp[cZ,fa (rs:=rs)]
end
section
variable(P:ai)(E:cd){U:cp}(T:dt U.C)(X:gy U)
def Ht:(a:Ty)->bL U.C a->Z AV->Prop
 |.unit,_,b=>b=[]|.iz t u,x,b=>fD t=W/\∃r,b=enc T t x.1::r/\Ht u x.2 r
 |t,x,b=>fD t=W/\b=[enc T t x]
def j6:(b:Ty)->bL U.C b->Z RV
 |.unit,_=>[]|.iz t u,y=>.v (enc T t y.1)::j6 u y.2
 |t,y=>[.v (enc T t y)]
def Cp:(k:AK)->xT U.C k->V Ob
 |.h7 t,x=>O (.cells (enc T t x).cells)|.br t e,x=>match(x:V (Z (bL U.C t)))with
  |some xs=>O (.br e (xs.map (enc T t)))|none=>Y
 |.map a b,c=>O (.map (List.map (λp:bL U.C a×bL U.C b=>(enc T a p.1,enc T b p.2)) c))
def uF(k:AK)(x:xT U.C k):np (Cp T k x)=Cp T k x:=by
 cases k with
 |br t e=>
  have:∀y:V (Z (bL U.C t)),np (Cp T (.br t e) y)=Cp T (.br t e) y:=λy=>by cases y<;>rfl
  exact this x
 |_=>rfl
def fB(m:Nat->aa)(h:U.C 0)(a:Nat->V Ob)(u:Nat->aa):Prop:=
 ∀k,k<U.nk->m k=W->∀i,match(U.get k h)[i]? with
  |some x=>np (a (dY k i))=Cp T (U.ak k) x|none=>a (dY k i)=Y/\u (dY k i)=F
def bF:Nat->aa:=λ_=>W
def j7:(t:Ty)->bL U.C t->AV->Prop
 |.fn a b,φ,av=>∃f caps,av=.fn f caps/\∀x y,φ x=O y->∀c,Ht T a x c->tq P E f (c++caps) (.ret (j6 T b y))|.lP a b,φ,av=>∃f caps,av=.fn f caps/\∀x h y d,φ x h=O (y,d)->∀c,Ht T a x c->∀A Vloc,fB T bF h A Vloc->∃e g,fB T bF d e g/\ov P E f (c++caps) A Vloc (.ret (j6 T b y)) e g
 |.cell t,x,av=>fD t=W/\av=enc T (.cell t) x|.iC a b,φ,av=>∃f caps,av=.ref [.fn f caps]/\∀x h y d,φ x h=O (y,d)->∀c,Ht T a x c->∀A Vloc,fB T bF h A Vloc->∃e g,fB T bF d e g/\ov P E f (c++caps) A Vloc (.ret (j6 T b y)) e g
 |t,x,av=>fD t=W/\av=enc T t x
inductive bA(bx:List (Nat×Nat×B U.C))(g:Nat->Nat)(tick:Nat):R U.C->cH->Prop
 |none (q:cH):bA bx g tick .none q
 |val (t:Ty) (x:bL U.C t) (q:cH) (av:AV) (hq:bz q=O av) (h:j7 P E T t x av):bA bx g tick (.val t x) q
 |const (v:Value) (h:vD v=W):bA bx g tick (.const v) (cB v)
 |bF (t:Ty) (xs:List (bL U.C t)) (h:fD t=W):bA bx g tick (.bF t xs) (.bF (xs.map (enc T t)))
 |dT (d k:Nat) (q:cH) (h:∀st u rs,aF bx d=O (st,.cells u rs)->q=.dT d (g d) 0 0 k):bA bx g tick (.dT d k) q
 |whole (d:Nat) (q:cH) (h:∀st t e xs,aF bx d=O (st,.br t e xs)->q=.view d (g d) 0 xs.length):bA bx g tick (.whole d) q
 |gq (d i k NZ:Nat) (t:Ty) (x:bL U.C t) (q:cH) (hv:NZ<tick) (h:∀st t' e xs,aF bx d=O (st,.br t' e xs)->q=.dT d (g d) (bB U D t') i k/\i<xs.length/\(st=NZ->(⟨t',xs[i]?⟩:(u:Ty)×Option (bL U.C u))=⟨t,O x⟩)):bA bx g tick (.gq d i k NZ t x) q
 |dF (t:Ty) (x:bL U.C t) (k:Nat) (h:fD t=W):bA bx g tick (.dF t x k) (.val (.ref ((enc T t x).cells.drop k)))
 |gw (rs:List (R U.C)) (qs:List cH) (h:rs.length=qs.length) (h2:∀(i:Nat)(r:R U.C)(q:cH),rs[i]?=O r->qs[i]?=O q->bA bx g tick r q):bA bx g tick (.gw rs) (.gw qs)
 |fn (f:FuncId) (caps:List (R U.C)) (gj:List AV) (h:caps.length=gj.length) (h2:∀(i:Nat)(r:R U.C)(av:AV),caps[i]?=O r->gj[i]?=O av->bA bx g tick r (.val av)):bA bx g tick (.fn f caps) (.val (.fn f gj))
 |mR (VI:TypeId) (t:Ty) (x:bL U.C t) (h:fD t=W):bA bx g tick (.mR VI t x) (.val (.mR VI (enc T t x)))
 |jy (k i off:Nat):bA bx g tick (.jy k i off) (.val (.ptr (dY k i) off))
 |kq (k i j off:Nat):bA bx g tick (.kq k i j off) (.val (.ptr (dY k i) (j*T.hz k+off)))
 |sub (d off m:Nat) (q:cH) (h:∀st t e xs,aF bx d=O (st,.br t e xs)->q=.view d (g d) off m/\off+m<=xs.length):bA bx g tick (.sub d off m) q
 |sN (rs:List (R U.C)) (gj:List AV) (h:rs.length=gj.length) (h2:∀(i:Nat)(r:R U.C)(av:AV),rs[i]?=O r->gj[i]?=O av->bA bx g tick r (.val av)) (h3:∀(i:Nat)(av:AV),gj[i]?=O av->av.isAgg=F):bA bx g tick (.sN rs) (.val (.sl gj))
 |nF (r:R U.C) (av:AV) (h:bA bx g tick r (.val av)):bA bx g tick (.nF r) (.val (.ref [av]))
 |hk (t:Ty) (h:fD t=W):bA bx g tick (.hk t) (.val .hk)
 |agg (n:Nat) (rs:List (R U.C)) (gj:List AV) (h:rs.length=gj.length) (h2:∀(i:Nat)(r:R U.C)(av:AV),rs[i]?=O r->gj[i]?=O av->bA bx g tick r (.val av)) (h3:∀(i:Nat)(av:AV),gj[i]?=O av->av.isAgg=F):bA bx g tick (.agg n rs) (.val (.agg gj))
 |it (k:Nat):bA bx g tick (.it k) (.val (.fl (.pointer (O ⟨E.it k,0,Y⟩))))
 |mc (f:FuncId) (rs:List (R U.C)) (gj:List AV) (h:rs.length=gj.length) (h2:∀(i:Nat)(r:R U.C)(av:AV),rs[i]?=O r->gj[i]?=O av->bA bx g tick r (.val av)):bA bx g tick (.mc f rs) (.val (.mc f gj))
def oz(bx:Z (Nat×Nat×B U.C))(g:Nat->Nat)(tick:Nat):V (Nat×B U.C)->V Bx->Prop
 |none,_=>True|some (_,.cells u rs),q=>fD u=W/\bB U D u=rs.length/\∃cs,q=O (.cells cs)/\rs.length=cs.length/\∀(i:Nat)(r:R U.C)(c:cH),rs[i]?=O r->cs[i]?=O c->bA P E T bx g tick r c
 |some (_,.br t e xs),q=>X.ty e=O t/\q=O (.br e (xs.map (enc T t)))
structure aU(s:S U.C)(q:St):Prop where
 ct:∀t,bA P E T s.b q.g s.tick (s.bG t) (q.r t)
 bD:∀d,oz P E T X s.b q.g s.tick (aF s.b d) (q.b d)
 zo:∀t st x,aF s.r t=O (st,x)->st<s.tick
 Ez:∀d st x,aF s.b d=O (st,x)->st<s.tick
 heap:fB T s.m s.h q.a q.u
 df:q.df=E.df
def kG{C:Nat->Type}(bx bx':Z (Nat×Nat×B C))(g g':Nat->Nat)(tick d:Nat):Prop:=(aF bx' d=aF bx d/\g' d=g d)∨aF bx' d=Y∨(g' d=g d/\∃st u rs a u' c,aF bx d=O (st,.cells u rs)/\aF bx' d=O (a,.cells u' c))∨(g' d=g d/\∃st t e xs a e' b,aF bx d=O (st,.br t e xs)/\aF bx' d=O (a,.br t e' b)/\b.length=xs.length/\tick<=a)
end
section
variable{P:ai}{E:cd}{U:cp}{T:dt U.C}{X:gy U}{bx bx':Z (Nat×Nat×B U.C)}{g g':Nat->Nat}{tick tick':Nat}
theorem bA.mono {r:R U.C} {q:cH} (h:bA P E T bx g tick r q) (o:∀d,r.bb d=W->kG bx bx' g g' tick d) (L:tick<=tick'):bA P E T bx' g' tick' r q:=by
 induction h with
 |none q=>exact .none q|val t x q av b h=>exact .val t x q av b h
 |const v h=>exact .const v h|bF t xs h=>exact .bF t xs h
 |dT d k q h=>
  refine .dT d k q λst u rs B=>?_;rcases o d (by simp[R.bb])with⟨s,a⟩|s|⟨a,w,u0,C,_,_,_,c,y⟩|⟨a,w,t,e,xs,D,e',G,c,y,_⟩
  grind
  grind
  grind
  grind
 |whole d q h=>
  refine .whole d q λst t e xs B=>?_;rcases o d (by simp[R.bb])with⟨s,a⟩|s|⟨a,w,u0,C,_,_,_,c,y⟩|⟨a,w,t0,e0,H,D,e',G,c,y,I,_⟩
  grind
  grind
  grind
  grind
 |gq d i k J t x q hv h=>
  refine .gq d i k J t x q M λst N e xs B=>?_;rcases o d (by simp[R.bb])with⟨s,a⟩|s|⟨a,w,u0,C,_,_,_,c,y⟩|⟨a,w,t0,e0,H,D,e',G,c,y,I,Q⟩
  grind
  grind
  grind
  grind
 |dF t x k h=>exact .dF t x k h|gw rs qs h a l=>
  refine .gw rs qs h λi r q p b=>l i r q p b λd A=>o d ?_
  grind [R.bb,cZ,fa,bW]
 |fn f caps z h a l=>
  refine .fn f caps z h λi r q p b=>l i r q p b λd A=>o d ?_
  grind [R.bb,cZ,fa,bW]
 |mR K t x h=>exact .mR K t x h|jy k i off=>exact .jy k i off
 |kq k i j off=>exact .kq k i j off|sub d off m q h=>
  refine .sub d off m q λst t e xs B=>?_;rcases o d (by simp[R.bb])with⟨s,a⟩|s|⟨a,w,u0,C,_,_,_,c,y⟩|⟨a,w,t0,e0,H,D,e',G,c,y,I,_⟩
  grind
  grind
  grind
  grind
 |sN rs z h a c l=>
  refine .sN rs z h (λi r q p b=>l i r q p b λd A=>o d ?_) c
  grind [R.bb,cZ,fa,bW]
 |nF r av h l=>exact .nF r av (l λd A=>o d (by simpa[R.bb]using A))|hk t h=>exact .hk t h
 |it k=>exact .it k|mc f rs z h a l=>
  refine .mc f rs z h λi r q p b=>l i r q p b λd A=>o d ?_
  grind [R.bb,cZ,fa,bW]
 |agg n rs z h a c l=>
  refine .agg n rs z h (λi r q p b=>l i r q p b λd A=>o d ?_) c
  grind [R.bb,cZ,fa,bW]
def kG.refl (d:Nat):kG bx bx g g tick d:=.inl ⟨rfl,rfl⟩
def bA.later {r:R U.C} {q:cH} (h:bA P E T bx g tick r q) (a:tick<=tick'):bA P E T bx g tick' r q:=h.mono (λd _=>.refl d) a
theorem oz.mono {o:V (Nat×B U.C)} {q:V Bx} (h:oz P E T X bx g tick o q) (a:∀st x,o=O (st,x)->∀d,x.bb d=W->kG bx bx' g g' tick d) (b:tick<=tick'):oz P E T X bx' g' tick' o q:=by
 rcases o with _|⟨st,x⟩
 .trivial
 .cases x with
  |cells u rs=>
   obtain⟨f,j,cs,k,l,m⟩:=h;refine⟨f,j,cs,k,l,λi r c n p=>(m i r c n p).mono (λd s=>a st _ rfl d ?_) b⟩
   grind [B.bb,cZ,fa,bW]
  |br t e xs=>exact h
theorem aU.put {s:S U.C} {q:St} (h:aU P E T X s q) (dst:V Nat) {r:R U.C} (b:bA P E T s.b q.g s.tick r u):aU P E T X (s.put dst r) (q.put dst u):=by
 cases dst with
 |none=>exact h|some d=>
  refine⟨λt=>?_,λd'=>(h.bD d').mono (λ_ _ _ d _=>.refl d) (cO _),λt st x a=>?_,λd' st x a=>xx (h.Ez d' st x a),h.heap,h.df⟩
  .simp only[S.put,S.bG,aT,St.rF,b8];by_cases e:d=t
   .subst e;simp only[cm];exact b.later (cO _)
   .simp only[e,cA,eN e];exact(h.ct t).later (cO _)
  .simp only[S.put,aT]at a⊢;split at a
   grind
   .have:=h.zo t st x a;omega
theorem aU.ev {s:S U.C} {q:St} (h:aU P E T X s q) (x:ah) (a:ca x=W):bA P E T s.b q.g s.tick (s.ev x) (q.ev x):=by
 cases x with
 |tmp t=>exact h.ct t|const v=>exact .const v a
 |global g=>exact .none _|func f=>exact .fn f [] [] rfl (λi r av b=>by simp at b)
theorem dG{s:S C}{b:B C}(a:s.box d=O b):aF s.b d=O (s.NZ d,b):=by grind [S.box,S.NZ]
theorem aU.drop {s:S U.C} {q:St} (h:aU P E T X s q) (d:Nat):aU P E T X (s.drop d) {q with b:=b8 q.b d Y}:=by
 have c:∀d',kG s.b (bu s.b d) q.g q.g s.tick d':=λd'=>by
  by_cases e:d=d'
  .right;left;rw[aR,aq e]
  .left;rw[aR,ao e];grind
 refine⟨λt=>(h.ct t).mono (λd' _=>c d') (bq _),λd'=>?_,h.zo,λd' st x a=>?_,h.heap,h.df⟩
 .simp only[S.drop,aR,b8];by_cases e:d=d'
  .subst e;simp[oz]
  .simp only[e,cA,eN e];exact(h.bD d').mono (λ_ _ _ d _=>c d) (bq _)
 .simp only[S.drop,aR]at a;split at a
  .cases a
  .exact h.Ez d' st x a
theorem aU.Ml {s:S U.C} {q:St} (h:aU P E T X s q) {b:B U.C} (n:ns d s.b=W) {x:Bx}
  (o:oz P E T X ((d,s.tick,b)::bu s.b d) (b8 q.g d (q.g d+1)) (s.tick+1) (O (s.tick,b)) (O x)):
  aU P E T X {s with r:=jY d s.tick s.r,b:=(d,s.tick,b)::bu s.b d,tick:=s.tick+1} {q with b:=b8 q.b d (O x),g:=b8 q.g d (q.g d+1)}:=by
 have f:∀d',d'≠d->kG s.b ((d,s.tick,b)::bu s.b d) q.g (b8 q.g d (q.g d+1)) s.tick d':=λd' e=>by left;rw[aT,ao (eN e),aR,ao (eN e),aO _ _ e];grind
 refine⟨λt=>?_,λd'=>?_,λt st y a=>?_,λd' st y a=>?_,h.heap,h.df⟩
 .simp only[S.bG,im];have c:=h.ct t;unfold S.bG at c;cases i:aF s.r t with
  |none=>simp only[i,jr]at c⊢;exact .none _|some e=>
   obtain⟨st,y⟩:=e;simp only[i,dr]at c⊢;cases p:y.bb d with
   |true=>simp only[cm];exact .none _|false=>simp only[jo,cA];exact c.mono (λd' j=>f d' λe=>by grind) (cO _)
 .simp only[aT,aR,b8];by_cases e:d=d'
  grind
  .simp only[e,cA,eN e];refine(h.bD d').mono (λst y a k j=>f k λu=>?_) (cO _)
   grind [qJ]
 .simp only[im,c8]at a;obtain⟨⟨l,m⟩,c,v⟩:=a;have:=h.zo t l m c
  grind
 .simp only[aT,aR]at a;split at a
  grind
  .have:=h.Ez d' st y a
   grind
theorem aU.VU {s:S U.C} {q:St} (h:aU P E T X s q) {b:B U.C} (z:ns d s.b=W) {x:Bx} {q1:St} (j:∀t,s.bG t≠.none->q1.r t=q.r t) (k:∀d',d'≠d->q1.b d'=q.b d') (A:q1.b d=O x) (l:∀d',d'≠d->q1.g d'=q.g d') (m:q1.a=q.a) (n:q1.u=q.u) (o:q1.df=q.df)
  (C:oz P E T X ((d,s.tick,b)::bu s.b d) q1.g (s.tick+1) (O (s.tick,b)) (O x)):
  aU P E T X {s with r:=jY d s.tick s.r,b:=(d,s.tick,b)::bu s.b d,tick:=s.tick+1} q1:=by
 have g:∀d',d'≠d->kG s.b ((d,s.tick,b)::bu s.b d) q.g q1.g s.tick d':=λd' e=>by left;rw[aT,ao (eN e),aR,ao (eN e),l _ e];grind
 refine⟨λt=>?_,λd'=>?_,λt st y a=>?_,λd' st y a=>?_,by rw[m,n];exact h.heap,by rw[o];exact h.df⟩
 .have c:=h.ct t;have f:=j t;simp only[S.bG,im]at c f⊢;cases i:aF s.r t with
  |none=>simp only[i,jr]at c⊢;exact .none _|some e=>
   obtain⟨st,y⟩:=e;simp only[i,dr]at c f⊢;cases D:y.bb d with
   |true=>simp only[cm];exact .none _|false=>
    simp only[jo,cA];by_cases a:y=.none
    .subst a;exact .none _
    .rw[f a];exact c.mono (λd' p=>g d' λe=>by grind) (cO _)
 .simp only[aT,aR];by_cases e:d=d'
  grind
  .simp only[e,cA,k _ (eN e)];refine(h.bD d').mono (λst y a u p=>g u λG=>?_) (cO _)
   grind [qJ]
 .simp only[im,c8]at a;obtain⟨⟨v,w⟩,c,f⟩:=a;have:=h.zo t v w c
  grind
 .simp only[aT,aR]at a;split at a
  grind
  .have:=h.Ez d' st y a
   grind
theorem mF{α:Type}{s:S C}{b:B C}{k:S C->V α}{out:α}(h:s.new d b k=O out):
  (ns d s.b=W/\b.bb d=F)/\k {s with r:=jY d s.tick s.r,b:=(d,s.tick,b)::bu s.b d,tick:=s.tick+1}=O out:=by
 unfold S.new at h
 grind
def Yn{C:Nat->Type}:B C->B C->Prop
 |.cells _ _,.cells _ _=>True|.br t _ xs,.br a _ b=>∃e:a=t,(e▸b).length=xs.length
 |_,_=>False
theorem aU.hg {s:S U.C} {q:St} (h:aU P E T X s q) {b b':B U.C} (g:s.box d=O b) {x:Bx}
  (c:Yn b b')
  (k:oz P E T X ((d,s.tick,b')::bu s.b d) q.g (s.tick+1) (O (s.tick,b')) (O x)):
  aU P E T X (s.hg d b') {q with b:=b8 q.b d (O x)}:=by
 have l:=dG g;have f:∀d',kG s.b ((d,s.tick,b')::bu s.b d) q.g q.g s.tick d':=λd'=>by
  by_cases e:d=d'
  .subst e;right;right;rw[aT,aq rfl];cases b with
   |cells u rs=>
    cases b' with
    |cells u' i=>grind|br _ _ _=>exact c.elim
   |br t e xs=>
    cases b' with
    |cells u' i=>exact c.elim|br m e' n=>
     obtain⟨rfl,o⟩:=c
     grind
  .left;rw[aT,ao e,aR,ao e];grind
 refine⟨λt=>(h.ct t).mono (λd' _=>f d') (cO _),λd'=>?_,λt st y a=>xx (h.zo t st y a),λd' st y a=>?_,h.heap,h.df⟩
 .simp only[S.hg,aT,aR,b8];by_cases e:d=d'
  grind
  .simp only[e,cA,eN e];exact(h.bD d').mono (λ_ _ _ j _=>f j) (cO _)
 .simp only[S.hg,aT,aR]at a⊢;split at a
  grind
  .have:=h.Ez d' st y a;omega
end
structure bw{C:Nat->Type}(s s':S C):Prop where
 m:s'.m=s.m
 tick:s.tick<=s'.tick
 r:∀t st x,aF s'.r t=O (st,x)->st<s.tick->aF s.r t=O (st,x)
 b:∀d st x,aF s'.b d=O (st,x)->st<s.tick->aF s.b d=O (st,x)
 h:s'.hv<s.tick->s'.hv=s.hv/\s'.h=s.h
section
variable{C:Nat->Type}{s s' s'':S C}
def bw.refl (s:S C):bw s s:=⟨rfl,bq _,λ_ _ _ h _=>h,λ_ _ _ h _=>h,λ_=>⟨rfl,rfl⟩⟩
theorem bw.trans (a:bw s s') (b:bw s' s''):bw s s'':=
 ⟨b.m.trans a.m,ef a.tick b.tick,λt st x h c=>a.r t st x (b.r t st x h (jQ c a.tick)) c,λd st x h c=>a.b d st x (b.b d st x h (jQ c a.tick)) c,
  λh=>by
   obtain⟨e,f⟩:=b.h (jQ h a.tick);obtain⟨g,i⟩:=a.h (by grind)
   grind⟩
theorem bi(dst:V Nat)(r:R C):bw s (s.put dst r):=by
 cases dst with
 |none=>exact .refl s|some d=>
  refine⟨rfl,cO _,λt st x h a=>?_,λ_ _ _ h _=>h,λ_=>⟨rfl,rfl⟩⟩
  grind [S.put,aT,aN,cz]
theorem kH(d:Nat)(x:B C):bw s {s with r:=jY d s.tick s.r,b:=(d,s.tick,x)::bu s.b d,tick:=s.tick+1}:=by
 refine⟨rfl,cO _,λt st y h a=>?_,λd' st y h a=>?_,λ_=>⟨rfl,rfl⟩⟩
 .simp only[im,c8]at h
  grind
 grind [aT,aR,aN,cz]
theorem iL(d:Nat)(x:B C):bw s (s.hg d x):=by
 refine⟨rfl,cO _,λt st y h a=>h,λd' st y h a=>?_,λ_=>⟨rfl,rfl⟩⟩
 grind [S.hg,aT,aR,aN,cz]
theorem fF{l:Z (Nat×Nat×β)}{t:Nat}{x:Nat×β}(h:aF (bu l d) t=O x):aF l t=O x:=by grind [aR]
def uG(d:Nat):bw s (s.drop d):=⟨rfl,bq _,λ_ _ _ h _=>h,λ_ _ _ h _=>fF h,λ_=>⟨rfl,rfl⟩⟩
def o9(a:C 0):bw s {s with h:=a,hv:=s.tick,tick:=s.tick+1}:=⟨rfl,cO _,λ_ _ _ h _=>h,λ_ _ _ h _=>h,λh=>absurd h (Nat.lt_irrefl _)⟩
def uH(a:C 0):bw s (s.Hj a):=o9 a
def EA(d:Nat):bw s (s.N6 d):=⟨rfl,cO _,λ_ _ _ h _=>h,λ_ _ _ h _=>fF h,λ_=>⟨rfl,rfl⟩⟩
theorem wv(d:Nat)(a:C 0):bw s (s.BW d a):=⟨rfl,cO _,λ_ _ _ h _=>h,λ_ _ _ h _=>fF h,λh=>absurd h (Nat.lt_irrefl _)⟩
end
def Sq:V bH->AV
 |some g=>.fn g []|none=>.fl .nilFunc
section
variable(P:ai)(E:cd){U:cp}(T:dt U.C)
structure kv(X:gy U)(e:TypeId)(t:Ty):Prop where
 ok:fD t=W
 cells:P.cellsOf e=bB U D t
 pos:0<P.cellsOf e
 few:P.cellsOf e<=256
 abr:P.concrete e=W
 agg:mZ P e=O (a7 t)
 bytes:X.bytes e=P.bytesOf e
 int:∀k,t=.int k->P.underlying e=O (.int k)
 bool:t=.bool->P.underlying e=O .bool
 str:t=.str->P.underlying e=O .string
 bk:∀t',t=.bk t'->∃el,P.underlying e=O (.slice el)/\X.ty el=O t'
 elem:∀t' el,t=.bk t'->X.elem e=O el->P.underlying e=O (.slice el)/\X.ty el=O t'
 ref:∀t',t=.ref t'->∃el,P.underlying e=O (.pointer el)
 ptr:∀k,t=.ptr k->∃el,P.underlying e=O (.pointer el)
 mp:∀k,t=.mp k->∃a b,P.underlying e=O (.map a b)/\∃ta tb,U.ak k=.map ta tb/\X.ty a=O ta/\X.ty b=O tb/\Zj U tb=W
 field:X.k6 e=Y->∀n,t=.struct n->∀f off ft,fieldAt U t f=O (off,ft)->∃fe,kX P e f=O (off,fe)/\fD ft=W/\P.cellsOf fe=bB U D ft/\mZ P fe=O (a7 ft)/\0<P.cellsOf fe
 Sr:∀n,t=.struct n->∃pl,kW P e=O pl/\∀f off ft,pU U 0 (U.dO n) f=O (off,ft)->pl[f]?=O (off,bB U D ft)
 wx:∀n,t=.struct n->∀pl,kW P e=O pl->(pl.all λp=>decide (p.1+p.2<=bB U D t))=W
 zero:∃i zv,P.info? e=O i/\i.zero=O zv/\(zv.cells.all λv=>v.oneCell')=W/\zv.cells.size=i.size/\(a7 t=W->∃cs,zv=.agg cs)/\∀rs,mB U D t=O rs->zv.cells.size=rs.length/\∀(i:Nat)(r:R U.C)(v:Value),rs[i]?=O r->zv.cells[i]?=O v->
  (∀bx g tick,bA P E T bx g tick r (cB v))∨(v=.slice Y 0 0/\∀bx g tick,bA P E T bx g tick r (.val .hk))
 zv1:a7 t=F->∀i zv,P.info? e=O i->i.zero=O zv->zv.cells=#[zv]/\oo zv=dV zv
 kinds:X.k6 e=Y->∀n,t=.struct n->∀b x y,qG Yf (U.dO n) x y=O b->∃ks,sM P e=O ks/\gp ks (jZ T (U.dO n) x) (jZ T (U.dO n) y)=O b
def gf:(ps:Z Ty)->HL U.C ps->Z AV->Prop
 |[],_,b=>b=[]|t::ts,x,b=>∃a r,b=a::r/\j7 P E T t (xp t ts x) a/\gf ts (xK t ts x) r
def db:(rs:Z RK)->HL U.C (rs.map RK.ty)->Z RV
 |[],_=>[]|.v t::rs,y=>.v (enc T t (xp t (rs.map RK.ty) y))::db rs (xK t (rs.map RK.ty) y)
 |.bR t e::rs,y=>.bR e (List.map (enc T t) (xp (.bk t) (rs.map RK.ty) y))::db rs (xK (.bk t) (rs.map RK.ty) y)
def qa(rs:Z RK):(p:V (an×Ty))->jm U p (HL U.C (rs.map RK.ty))->PF
 |none,y=>.ret (db T rs y)|some (a,t),r=>match(r:Except (bL U.C t) (HL U.C (rs.map RK.ty)))with
  |.ok y=>.ret (db T rs y)|.error e=>.ea (.mR a (enc T t e))
def PV(X:gy U):RK->Prop
 |.v t=>fD t=W|.bR t e=>X.ty e=O t
def nu(f:bH)(ps:Z Ty)(rs:Z RK)(e:V (an×Ty)):Vv U ps rs e->Prop
 |.pure b=>∀x a r,gf P E T ps x a->b x=O r->tq P E f a (qa T rs e r)|.rd b=>∀x h a r A Vloc,gf P E T ps x a->fB T bF h A Vloc->b x h=O r->∃c d,fB T bF h c d/\ov P E f a A Vloc (qa T rs e r) c d
 |.st b=>∀x h a r g A Vloc,gf P E T ps x a->fB T bF h A Vloc->b x h=O (r,g)->∃c d,fB T bF g c d/\ov P E f a A Vloc (qa T rs e r) c d
structure eb(X:gy U)(f:FuncId)(c:bZ U):Prop where
 rs:∀r∈c.rs,PV X r
 ea:∀VI t,c.ea=O (VI,t)->fD t=W
 tr:nu P E T f c.ps c.rs c.ea c.run
structure bJ(X:gy U):Prop where
 ro:X.wr=W->∀i,E.ro i=Y
 roK:∀k i,k<U.nk->(∀a b,U.ak k≠.map a b)->E.ro (dY k i)=Y
 ty:∀e t,X.ty e=O t->kv P E T X e t
 lB:∀f,∀c∈X.lB f,eb P E T X f c
 h7:∀k t,U.ak k=.h7 t->fD t=W
 map:∀k a b,U.ak k=.map a b->xY a=W/\fD b=W
 Mb:∀e,X.Mb e=W->∃el,P.underlying e=O (.slice el)/\uu P el=W/\P.cellsOf el=1
 Mc:∀e,X.Mc e=W->P.cellsOf e=1/\mZ P e=O F
 k6:∀e el,X.k6 e=O el->∃N,P.underlying e=O (.array N el)/\P.cellsOf el=1/\(X.ry e=F->mZ P el=O F)/\∀n,X.ty e=O (.struct n)->(U.dO n).length=N/\bB U D (.struct n)=N/\((U.dO n).all λt=>!a7 t)=W
 ry:∀e,X.ry e=W->∀i zv,P.info? e=O i->i.zero=O zv->∀v∈zv.cells.toList,v=.nilFunc
 Zf:∀f n fs,X.Zf f=O (n,fs)->tq P E f [] (.ret [.v (.agg (fs.map Sq))])
end
section
variable{β:Type}
def k9:∀(n:Nat)(l:Z β),pV n l=l.drop n
 |0,l=>rfl|n+1,[]=>rfl
 |n+1,x::l=>by simp only[pV,List.drop_succ_cons,k9 n l]
def nT(k:Nat)(vs rs:Z β):rY k vs rs=bh rs k vs:=by simp only[rY,bh,k9,ND]
end
section
variable{P:ai}{E:cd}{U:cp}{T:dt U.C}{X:gy U}{bx:Z (Nat×Nat×B U.C)}{g:Nat->Nat}{tick:Nat}
def eC(P:ai)(E:cd)(T:dt U.C)(bx:Z (Nat×Nat×B U.C))(g:Nat->Nat)(tick:Nat)(rs:Z (R U.C))(qs:Z cH):Prop:=rs.length=qs.length/\∀(i:Nat)(r:R U.C)(q:cH),rs[i]?=O r->qs[i]?=O q->bA P E T bx g tick r q
def eC.nil:eC P E T bx g tick [] []:=⟨rfl,λi r q h=>by simp at h⟩
theorem eC.cons {r:R U.C} {q:cH} {rs:Z (R U.C)} {qs:Z cH} (h:bA P E T bx g tick r q) (a:eC P E T bx g tick rs qs):eC P E T bx g tick (r::rs) (q::qs):=by
 refine⟨by simp[a.1],λi b q' c d=>?_⟩;cases i with
 |zero=>grind|succ i=>exact a.2 i b q' (by grind) (by grind)
theorem eC.Hu {r:R U.C} {rs:Z (R U.C)} (h:eC P E T bx g tick (r::rs) qs):∃q ps,qs=q::ps/\bA P E T bx g tick r q/\eC P E T bx g tick rs ps:=by
 cases qs with
 |nil=>simp[eC]at h|cons q ps=>exact ⟨q,ps,rfl,h.2 0 r q rfl rfl,by simpa using h.1,λi a q' b c=>h.2 (i+1) a q' (by grind) (by grind)⟩
def eC.append {rs c:Z (R U.C)} {d:Z cH} (h:eC P E T bx g tick rs qs) (e:eC P E T bx g tick c d):eC P E T bx g tick (rs++c) (qs++d):=by
 refine⟨by simp[h.1,e.1],λi r q a b=>?_⟩;by_cases hi:i<rs.length
 .rw[oU hi]at a;rw[oU (by rw[<-h.1];exact hi)]at b;exact h.2 i r q a b
 .rw[oV M]at a;rw[oV (by rw[<-h.1];omega),<-h.1]at b;exact e.2 _ r q a b
def eC.drop {rs:Z (R U.C)} (h:eC P E T bx g tick rs qs) (k:Nat):eC P E T bx g tick (rs.drop k) (qs.drop k):=by refine⟨by simp[h.1],λi r q a b=>?_⟩;rw[vB]at a b;exact h.2 _ r q a b
def eC.take {rs:Z (R U.C)} (h:eC P E T bx g tick rs qs) (k:Nat):eC P E T bx g tick (rs.take k) (qs.take k):=by
 refine⟨by simp[h.1],λi r q a b=>?_⟩;rw[rC]at a b;split at a
 .rename_i hi;rw[aq hi]at b;exact h.2 _ r q a b
 .cases a
def eg{x:bL U.C t}(h:fD t=W):j7 P E T t x (enc T t x):=by cases t<;>first|exact ⟨h,rfl⟩|(simp[fD]at h)
theorem gm{x:bL U.C t}(h:j7 P E T t x av)(a:fD t=W):av=enc T t x:=by cases t<;>first|exact h.2|(simp[fD]at a)
theorem bn{x:bL U.C t}(h:fD t=W):bA P E T bx g tick (.val t x) (.val (enc T t x)):=.val t x _ _ rfl (eg h)
theorem Mm{v:ag}{x:bL U.C t}(h:kr t v=O x):bz (cB v)=O (enc T t x):=by
 cases t with
 |int k=>
  cases v<;>simp only[kr,reduceCtorEq]at h;split at h
  .rename_i e;subst e;simp only[aN]at h;subst h;rfl
  .cases h
 |bool=>cases v<;>simp only[kr,reduceCtorEq,aN]at h;subst h;rfl
 |str=>cases v<;>simp only[kr,reduceCtorEq,aN]at h;subst h;simp only[cB,bz,enc,BK]
 |bk t=>
  cases v<;>simp only[kr,reduceCtorEq]at h;rename_i a n c;cases a with
  |some a=>grind|none=>
   cases n with
   |succ n=>grind|zero=>cases c with
    |succ c=>grind|zero=>simp only[kr,aN]at h;subst h;rfl
 |ref t=>
  cases v<;>simp only[kr,reduceCtorEq]at h;rename_i a;cases a with
  |some a=>grind|none=>simp only[kr,aN]at h;subst h;rfl
 |ptr k=>
  cases v<;>simp only[kr,reduceCtorEq]at h;rename_i a;cases a with
  |some a=>grind|none=>simp only[kr,aN]at h;subst h;rfl
 |mp k=>
  cases v<;>simp only[kr,reduceCtorEq]at h;rename_i a;cases a with
  |some a=>grind|none=>simp only[kr,aN]at h;subst h;rfl
 |_=>cases v<;>simp[kr]at h
def Cq{r:R U.C}{x:bL U.C t}(h:bA P E T bx g tick r (.val av))(hv:He t r=O x):∃u,t=.cell u/\fD u=W/\av=enc T t x:=by
 unfold He at hv;split at hv
 .rename_i b y;obtain⟨e,rfl⟩:=bM hv;subst e;generalize a:cH.val av=q at h;cases h with
  |dF t x k c=>simp only[cH.val.injEq]at a;subst a;exact⟨b,rfl,c,by simp[enc]⟩
 .cases hv
theorem Cr:∀{us:Ty}{caps:Z (R U.C)}{c:Z AV}{x:bL U.C us},caps.length=c.length->(∀(i:Nat)(r:R U.C)(av:AV),caps[i]?=O r->c[i]?=O av->bA P E T bx g tick r (.val av))->rX us caps=O x->c=Oq us (enc T us x)
 |.iz t u,[],c,x,d,h,b=>by simp[rX]at b|.iz t u,r::l,[],x,d,h,b=>by simp at d
 |.iz t u,r::l,a::c,x,d,h,b=>by
  simp only[rX]at b;split at b
  .rename_i y z f j;simp only[aN]at b;subst b;obtain⟨u',_,_,e⟩:=Cq (h 0 r a rfl rfl) f;have m:=Cr (us:=u) (by simpa using d) (λi r av n o=>h (i+1) r av (by grind) (by grind)) j;simp only[enc,Oq];rw[e,m]
  .cases b
 |.int k,caps,c,x,d,h,b|.bool,caps,c,x,d,h,b|.str,caps,c,x,d,h,b|.unit,caps,c,x,d,h,b|.bk _,caps,c,x,d,h,b|.struct _,caps,c,x,d,h,b|.ref _,caps,c,x,d,h,b
 |.cell _,caps,c,x,d,h,b|.fn _ _,caps,c,x,d,h,b|.lP _ _,caps,c,x,d,h,b|.ptr _,caps,c,x,d,h,b|.hs _,caps,c,x,d,h,b|.mp _,caps,c,x,d,h,b|.iC _ _,caps,c,x,d,h,b|.An _ _,caps,c,x,d,h,b|.NY _ _,caps,c,x,d,h,b=>by
  match caps,c,d with
  |[],_,_=>simp[rX]at b|[r],[a],_=>simp only[rX]at b;obtain⟨u',hu,_,e⟩:=Cq (h 0 r a rfl rfl) b;subst e;first|(cases hu;rfl)|cases hu
  |_::_::_,_,_=>simp[rX]at b
theorem oA{r:R U.C}{q:cH}{v:bL U.C t}(h:bA P E T bx g tick r q)(hv:ga t r=O v):∃av,bz q=O av/\j7 P E T t v av:=by
 unfold ga at hv;split at hv
 .rename_i d x;obtain⟨e,rfl⟩:=bM hv;subst e;cases h with
  |val t x q av m h=>grind
 .rename_i u;cases n:fD t with
  |false=>grind|true=>
   rw[n]at hv;simp only[aW]at hv;cases h with
   |const s z=>exact ⟨_,Mm hv,eg n⟩
 .rename_i d xs;obtain⟨e,rfl⟩:=bM hv;subst e;cases h with
  |bF t xs h=>exact ⟨_,rfl,eg (t:=.bk d) (x:=xs) h⟩
 .rename_i d x;split at hv
  .rename_i s j;simp only[aN]at hv;subst hv;obtain⟨e,rfl⟩:=bM j;subst e;cases h with
   |dF t x k h=>exact ⟨_,rfl,h,by simp[enc]⟩
  .obtain ⟨e,rfl⟩:=bM hv;subst e;cases h with
   |dF t x k h=>exact ⟨_,rfl,h,by simp[enc,Hq]⟩
 .rename_i a b φ;obtain⟨e,rfl⟩:=bM hv;subst e;cases h with
  |nF r av o=>
   generalize m:cH.val av=q' at o;cases o with
   |val t x q A p j=>subst m;simp only[bz,aN]at p;subst p;obtain⟨f,caps,rfl,l⟩:=j;exact⟨_,rfl,f,caps,rfl,l⟩
 .rename_i k i off;obtain⟨e,rfl⟩:=bM hv;subst e;cases h with
  |jy k i off=>exact ⟨_,rfl,rfl,rfl⟩
 .rename_i f caps;split at hv
  .rename_i w us;cases c:(Nat.beq f w&&Rr us)with
   |false=>grind|true=>
    rw[c]at hv;simp only[aP]at c;obtain rfl:=cC c.1;cases h with
    |fn f caps B y l=>exact ⟨_,rfl,c.2,by rw[Cr y l hv];rfl⟩
  .cases hv
 .cases hv
theorem dm{r:R U.C}{q:cH}{v:bL U.C t}(h:bA P E T bx g tick r q)(hv:ga t r=O v)(a:fD t=W):bz q=O (enc T t v):=by grind [oA,gm]
def Fq{r:R U.C}{q:cH}{v:bL U.C t}(h:bA P E T bx g tick r q)(hv:ga t r=O v):bA P E T bx g tick (.val t v) q:=by obtain⟨av,a,b⟩:=oA h hv;exact .val t v q av a b
def dk{q:cH}{v:ag}(h:bz q=O (.fl v)):q=.val (.fl v):=by cases q<;>simp[bz]at h;rw[h]
def sR{q:cH}{cs:Z AV}(h:bz q=O (.agg cs)):q=.val (.agg cs):=by cases q<;>simp[bz]at h;rw[h]
def PW{q:cH}{cs:Z AV}(h:bz q=O (.ref cs)):q=.val (.ref cs):=by cases q<;>simp[bz]at h;rw[h]
def Cs{q:cH}{f:bH}{cs:Z AV}(h:bz q=O (.fn f cs)):q=.val (.fn f cs):=by cases q<;>simp[bz]at h;rw[h]
theorem oB{q:cH}{cs:Z AV}(h:bz q=O (.sl cs)):q=.val (.sl cs)∨q=.bF cs:=by
 cases q<;>simp[bz]at h
 grind
 grind
def lR{r:R U.C}{q:cH}{b:aa}(h:bA P E T bx g tick r q)(a:zi r=O b):q=.val (.fl (.bool b)):=by
 unfold zi at a;split at a
 .simp only[aN]at a;subst a;cases h with
  |val t x q av c h=>rw[gm h rfl]at c;exact dk c
 .simp only[aN]at a;subst a;cases h with
  |const v d=>rfl
 .cases a
def j8{r:R U.C}{q:cH}{m:Int}(h:bA P E T bx g tick r q)(a:BY r=O m):∃k,q=.val (.fl (.int k m)):=by
 unfold BY at a;split at a
 .rename_i k x;simp only[aN]at a;subst a;cases h with
  |val t x q av b h=>rw[gm h rfl]at b;exact ⟨k,dk b⟩
 .simp only[aN]at a;subst a;cases h with
  |const v c=>exact ⟨_,rfl⟩
 .cases a
variable(L:cD U T)
include L in
theorem iZ:∀(k:Nat)(t:Ty)(x:bL U.C t),ha U k t=W->fD t=W->eC P E T bx g tick (nt U k t x) ((enc T t x).cells.map .val)
 |k,t,x,c,d=>by
  by_cases a:a7 t=W
  .cases t with
   |struct n=>
    cases k with
    |zero=>simp[ha]at c|succ k=>
     simp only[ha,di]at c;have e:∀(ts:Z Ty)(y:HL U.C ts),(∀t∈ts,ha U k t=W/\fD t=W)->eC P E T bx g tick (sO (nt U k) ts y) ((jZ T ts y).map .val):=by
      intro ts;induction ts with
      |nil=>intro y _;exact .nil|cons t ts f=>intro y h;simp only[sO,jZ,IW];exact(iZ k t _ (h t aH).1 (h t aH).2).append (f _ λt b=>h t (by simp[b]))
     have:=e _ (U.un n x) λt b=>⟨c t b,di.1 (L.ok n) t b⟩
     simp only[nt,enc,AV.cells];rw[L.cells];exact this
   |_=>simp[a7]at a
  .have a:a7 t=F:=by grind
   have i:=jM (T:=T) (x:=x) a;have j:nt U k t x=[.val t x]:=by cases t<;>first|(simp[a7]at a;done)|(cases k<;>rfl)
   rw[i,j];exact .cons (bn d) .nil
theorem tR:∀{a b:Z cH}{xs ys:Z AV},dC a=O xs->dC b=O ys->dC (a++b)=O (xs++ys)
 |[],b,xs,ys,c,d=>by grind [dC]|r::a,b,xs,ys,c,d=>by
  simp only[dC]at c;cases e:bz r with
  |none=>grind|some x=>
   cases f:dC a with
   |none=>grind|some zs=>simp only[e,f,aN]at c;subst c;simp[dC,e,tR f d]
theorem take_add(l:Z β)(m n:Nat):l.take (m+n)=l.take m++(l.drop m).take n:=by grind
include L in
theorem iG:∀(k:Nat)(t:Ty)(rs:Z (R U.C))(qs:Z cH)(x:bL U.C t)(rest:Z (R U.C)),ha U k t=W->fD t=W->eC P E T bx g tick rs qs->jL U k t rs=O (x,rest)->
  rest=rs.drop (bB U k t)/\bB U k t<=rs.length/\dC (qs.take (bB U k t))=O (enc T t x).cells
 |k,t,rs,qs,x,rest,e,G,c,a=>by
  by_cases b:a7 t=W
  .cases t with
   |struct n=>
    cases k with
    |zero=>simp[ha]at e|succ k=>
     simp only[ha,di]at e;have u:∀(ts:Z Ty)(rs:Z (R U.C))(qs:Z cH)(y:HL U.C ts)(rest:Z (R U.C)),(∀t∈ts,ha U k t=W/\fD t=W)->eC P E T bx g tick rs qs->mC (jL U k) ts rs=O (y,rest)->
       rest=rs.drop (ki (bB U k) ts)/\ki (bB U k) ts<=rs.length/\dC (qs.take (ki (bB U k) ts))=O (jZ T ts y):=by
      intro ts;induction ts with
      |nil=>intro rs qs y rest _ _ h;simp only[mC,aN,cz]at h;obtain⟨_,rfl⟩:=h;simp[ki,dC,jZ]|cons t ts v=>
       intro rs qs y rest f c h;simp only[mC]at h;split at h
       .rename_i z i w;split at h
        .rename_i zs A B;simp only[aN,cz]at h;obtain⟨rfl,rfl⟩:=h;obtain⟨j,o,m⟩:=iG k t rs qs z i (f t aH).1 (f t aH).2 c w;subst j;obtain⟨p,C,s⟩:=v _ (qs.drop (bB U k t)) zs A (λt d=>f t (by simp[d])) (c.drop _) B;refine⟨by rw[p,ND];rfl,by grind [ki,List.length_drop],?_⟩;simp only[ki,jZ,gd,ht,take_add];exact tR m s
        .cases h
       .cases h
     simp only[jL]at a;split at a
     .rename_i y i D;simp only[aN,cz]at a;obtain⟨rfl,rfl⟩:=a;have:=u _ rs qs y i (λt d=>⟨e t d,di.1 (L.ok n) t d⟩) c D;simp only[bB,enc,AV.cells];rw[L.cells,L.Hr];exact this
     .cases a
   |_=>simp[a7]at b
  .have b:a7 t=F:=by grind
   have j:=jM (T:=T) (x:=x) b;have o:bB U k t=1:=by cases t<;>first|(simp[a7]at b;done)|(cases k<;>rfl)
   have m:∃r l,rs=r::l/\ga t r=O x/\rest=l:=by
    cases rs with
    |nil=>cases t<;>first|(simp[a7]at b;done)|(cases k<;>simp[jL]at a)
    |cons r l=>
     refine⟨r,l,rfl,?_⟩;have:(match ga t r with|some x=>O (x,l)|none=>Y)=O (x,rest):=by cases t<;>first|(simp[a7]at b;done)|(cases k<;>exact a)
     grind
   obtain⟨r,l,rfl,p,rfl⟩:=m;obtain⟨q,ps,rfl,C,s⟩:=c.Hu;rw[o,j];refine⟨rfl,aH,?_⟩
   grind [dm,dC]
end
section
variable{P:ai}{E:cd}{U:cp}{T:dt U.C}{X:gy U}{s:S U.C}{q:St}{α:Type}{out:α}
def uI:∀l:Z AV,dC (l.map .val)=O l
 |[]=>rfl|x::l=>by simp[dC,bz,uI l]
theorem aU.cells (a:aU P E T X s q) {u:Ty} {rs:Z (R U.C)} (b:s.box d=O (.cells u rs)):fD u=W/\bB U D u=rs.length/\∃cs,q.b d=O (.cells cs)/\eC P E T s.b q.g s.tick rs cs:=by have h:=a.bD d;rw[dG b]at h;obtain⟨c,e,cs,f,g,i⟩:=h;exact⟨c,e,cs,f,g,i⟩
def aU.br (a:aU P E T X s q) {xs:Z (bL U.C t)} (b:s.box d=O (.br t e xs)):X.ty e=O t/\q.b d=O (.br e (xs.map (enc T t))):=by have h:=a.bD d;rw[dG b]at h;exact h
def jN(b:aU P E T X s q){v:cH}(h:bA P E T s.b q.g s.tick (.dT d k) v){u:Ty}{rs:Z (R U.C)}(a:s.box d=O (.cells u rs)):v=.dT d (q.g d) 0 0 k:=by
 cases h with
 |dT d k q h=>exact h _ _ _ (dG a)
theorem fG(b:aU P E T X s q){v:cH}(h:bA P E T s.b q.g s.tick (.whole d) v){xs:Z (bL U.C t)}(a:s.box d=O (.br t e xs)):v=.view d (q.g d) 0 xs.length:=by
 cases h with
 |whole d q h=>exact h _ _ _ _ (dG a)
theorem lS(x:bL U.C t)(h:a7 t=W):AV.agg (enc T t x).cells=enc T t x:=by cases t<;>first|rfl|(simp[a7]at h)
variable(L:cD U T)
include L in
theorem zp(h:P.cellsOf e=bB U D t)(b:mZ P e=O (a7 t))(d:0<P.cellsOf e){cs:Z AV}{v:bL U.C t}(a:cs.take (bB U D t)=(enc T t v).cells)(i:bB U D t<=cs.length){K:AV->Prop}(j:K (enc T t v)):jK P e cs K:=by
 unfold jK;rw[b];cases f:a7 t with
 |true=>grind [lS]|false=>
  simp only;refine⟨⟨d,by grind⟩,?_⟩;have g:bB U D t=1:=by grind [fg,jM]
  rw[g,jM f]at a;cases cs with
  |nil=>simp at a|cons c rest=>grind
include L in
theorem Mn(a:kv P E T X e t){cs:Z AV}{v:bL U.C t}(b:cs.take (bB U D t)=(enc T t v).cells)(c:bB U D t<=cs.length){K:AV->Prop}(d:K (enc T t v)):jK P e cs K:=zp L a.cells a.agg a.pos b c d
include L in
theorem zq(P:ai)(E:cd){x:bL U.C te}{v:bL U.C t}(h:N7 t te x k=O v)(d:fD t=W)(f:fD te=W):
  ((enc T te x).cells.drop k).take (bB U D t)=(enc T t v).cells/\bB U D t<=((enc T te x).cells.drop k).length:=by
 unfold N7 at h;cases a:(Nat.beq k 0&&decide (te=t))with
 |true=>rw[a]at h;simp only[aW]at h;obtain⟨e,rfl⟩:=bM h;subst e;simp only[aP]at a;obtain rfl:k=0:=cC a.1;rw[tD,fg L x];exact⟨by rw[<-fg L x,GC],bq _⟩|false=>
  rw[a]at h;simp only[aX]at h;split at h
  .rename_i j rest b;simp only[aN]at h;subst h;have c:=iZ (P:=P) (E:=E) (bx:=[]) (g:=λ_=>0) (tick:=0) L D te x (iF L te) f;rw[k9]at b;obtain⟨_,l,i⟩:=iG L D t _ _ _ _ (iF L t) d (c.drop k) b;rw[<-NL,<-AX,uI]at i;refine⟨by grind,?_⟩;have:=(c.drop k).1
   grind
  .cases h
def zr{a:AK}(e:a=a)(x:Z (xT C a)):Ma e x=x:=rfl
theorem fB.at {m:Nat->aa} {h:U.C 0} {A:Nat->V Ob} {Vloc:Nat->aa} (c:fB T m h A Vloc) {k:Nat} (d:k<U.nk) (f:m k=W) {a:AK} {l:Z (xT U.C a)} (b:uz U a k h=O l) (i:Nat):
  match l[i]? with
  |some x=>np (A (dY k i))=Cp T a x|none=>A (dY k i)=Y/\Vloc (dY k i)=F:=by
 unfold uz at b;split at b
 .rename_i e;subst e;simp only[aN]at b;subst b;rw[zr];have:=c k d f i
  grind
 .cases b
theorem az{b:aa}{o:V β}{x:β}(h:(bif b then o else Y)=O x):b=W/\o=O x:=by grind
def Ot{l:Z (bL U.C t)}(h:PT U k t s=O l)(b:aU P E T X s q){x:bL U.C t}(c:l[i]?=O x):q.a (dY k i)=O (.cells (enc T t x).cells):=by obtain⟨a,d⟩:=az h;simp only[aP,jq]at a;have:=b.heap.at a.2 a.1 d i;have e:(l:Z (xT U.C (.h7 t)))[i]?=O x:=c;rw[e]at this;exact zc this
theorem sS{l:Z (V (Z (bL U.C t)))}(h:Ew U k t e s=O l)(d:aU P E T X s q){xs:Z (bL U.C t)}(a:e8 l i=O xs):q.a (dY k i)=O (.br e (xs.map (enc T t))):=by
 obtain⟨b,f⟩:=az h;simp only[aP,jq]at b;have:=d.heap.at b.2 b.1 f i;unfold e8 at a;cases c:l[i]? with
 |none=>grind|some y=>rw[c]at a;obtain rfl:y=O xs:=a;have g:(l:Z (xT U.C (.br t e)))[i]?=O (O xs):=c;rw[g]at this;exact EZ this
def Hv{l:Z (Z (bL U.C a×bL U.C b))}(h:maps U k a b s=O l)(f:aU P E T X s q){d:Z (bL U.C a×bL U.C b)}(g:l[i]?=O d):∃c,q.a (dY k i)=O (.map (d.map λp=>(enc T a p.1,enc T b p.2)) c):=by obtain⟨e,j⟩:=az h;simp only[aP,jq]at e;have:=f.heap.at e.2 e.1 j i;have m:(l:Z (xT U.C (.map a b)))[i]?=O d:=g;rw[m]at this;exact PC this
include L in
theorem wy(a:kv P E T X e t)(f:fD te=W){x:bL U.C te}{r:R U.C}(h:Hg t te x k=O r){bx:Z (Nat×Nat×B U.C)}:
  jK P e ((enc T te x).cells.drop k) λv=>bA P E T bx g tick r (.val v):=by
 unfold Hg at h;cases b:a7 t with
 |true=>
  rw[b]at h;simp only[aW]at h;split at h
  .rename_i v hv;simp only[aN]at h;subst h;obtain⟨j,m⟩:=zq L P E hv a.ok f;exact Mn L a j m (K:=λv=>bA P E T bx g tick _ (.val v)) (bn a.ok)
  .cases h
 |false=>
  rw[b]at h;simp only[aX,k9]at h;have n:bB U D t=1:=by cases t<;>first|rfl|(simp[a7]at b)
  have i:=(iZ (P:=P) (E:=E) (bx:=bx) (g:=g) (tick:=tick) L D te x (iF L te) f).drop k;cases o:(nt U D te x).drop k with
  |nil=>grind|cons q l=>
   rw[o]at h i;simp only[NI,aN]at h;subst h;obtain⟨c,ps,d,s,u⟩:=i.Hu;rw[<-NL]at d;cases p:(enc T te x).cells.drop k with
   |nil=>grind|cons w y=>
    rw[p]at d;simp only[gb,ET]at d;unfold jK;rw[a.agg,b];simp only;refine⟨⟨a.pos,by rw[a.cells,n];simp⟩,?_⟩
    grind
def Ct{p:V (bL U.C te)}{x:bL U.C te}{bx:Z (Nat×Nat×B U.C)}(h:bA P E T bx g tick (.val (.ref te) p) u)(a:p=O x):fD te=W/\u=.val (.ref (enc T te x).cells):=by
 subst a;cases h with
 |val _ _ _ av b hv=>obtain⟨c,rfl⟩:=hv;exact⟨c,PW b⟩
def nU{q:cH}(h:bz q=O (.ptr i off)):q=.val (.ptr i off):=by cases q<;>simp[bz]at h;rw[h]
theorem wz{p:V Nat}{bx:Z (Nat×Nat×B U.C)}(h:bA P E T bx g tick (.val (.ptr k) p) u)(a:p=O i):u=.val (.ptr (dY k i) 0):=by
 subst a;cases h with
 |val _ _ _ av b hv=>obtain⟨_,rfl⟩:=hv;exact nU b
theorem Fs{a:AK}{h:U.C 0}{l:Z (xT U.C a)}(b:uz U a k h=O l):U.ak k=a:=by grind [uz]
def PX{l:Z (bL U.C t)}(h:PT U k t s=O l):U.ak k=.h7 t:=Fs (az h).2
def qb{l:Z (V (Z (bL U.C t)))}(h:Ew U k t e s=O l):U.ak k=.br t e:=Fs (az h).2
def r7(P:ai)(q:St)(e:an)(u:cH)(K:cH->Prop):Prop:=
 vX P q e u K∨match u with
  |.val (.ptr i off)=>match q.a i with
   |some (.cells cs)=>jR P e (cs.drop off) λv=>K (.val v)|some (.br e' xs)=>∃y,xs[off/P.cellsOf e']?=O y/\jR P e (y.cells.drop (off%P.cellsOf e')) λv=>K (.val v)
   |_=>False
  |_=>False
theorem r7.value {q:St} {x:ah} {o:aC} {K:cH->Prop} (a:o.op=.load e x) (h:r7 P q e (q.ev x) K):GK P o q K:=by
 rcases h with h|h
 .left
  grind [sL,NV]
 .right;unfold xz
  grind
include L in
theorem JA(b:bJ P E T X)(c:kv P E T X e t){K:R U.C->V α}(h:wk.Hh U s t k i off K=O out):∃r,K r=O out/\∀q,aU P E T X s q->r7 P q e (.val (.ptr (dY k i) off)) λu'=>bA P E T s.b q.g s.tick r u':=by
 unfold wk.Hh at h;split at h
 .rename_i te j;split at h
  .rename_i l a;obtain⟨x,d,h⟩:=bind_some h;split at h
   .rename_i r f;refine⟨r,h,λq g=>.inr ?_⟩;simp only[Ot a g d];exact pT (wy L c (b.h7 k te (PX a)) f)
   .cases h
  .cases h
 .cases h
theorem Mp{cs:Z AV}{K:AV->Prop}(h:jK P e cs K):0<cs.length:=by grind [jK]
include L in
theorem JB(G:bJ P E T X)(f:kv P E T X e t){p:R U.C}{K:R U.C->V α}(h:wk X s t p K=O out):
  ∃r,K r=O out/\∀q u,aU P E T X s q->bA P E T s.b q.g s.tick p u->r7 P q e u λu'=>bA P E T s.b q.g s.tick r u':=by
 unfold wk at h;split at h
 .
  rename_i d k;split at h
  .rename_i p0 rs o;split at h
   .rename_i r a;refine⟨r,h,λq u m b=>.inl ?_⟩;have f0:=jN m b o;obtain⟨_,_,cs,H,I⟩:=m.cells o;subst f0;unfold vX;simp only[H,f.agg,lK,dN];unfold Jo at a;cases B:a7 t with
    |true=>
     rw[B]at a;simp only[aW]at a;split at a
     .rename_i x rest J;simp only[aN]at a;subst a;rw[k9]at J;obtain⟨_,C,N⟩:=iG L D t _ _ _ _ (iF L t) f.ok (I.drop k) J;rw[f.cells,N];have v:=(I.drop k).1;refine⟨⟨aH,by rw[<-f.cells];exact f.pos,M⟩,?_⟩;rw[lS _ B];exact bn f.ok
     .cases a
    |false=>
     rw[B]at a;simp only[aX,k9]at a;have z:bB U D t=1:=by cases t<;>first|rfl|(simp[a7]at B)
     cases a0:rs.drop k with
     |nil=>grind|cons q0 l=>rw[a0]at a;simp only[NI,aN]at a;subst a;have C:=I.drop k;rw[a0]at C;obtain⟨c,ps,N,g0,r0⟩:=C.Hu;rw[N];exact⟨⟨aH,f.pos,by rw[f.cells,z];simp⟩,g0⟩
   .cases h
  .cases h
 .
  rename_i d i k b0 te x;split at h
  .rename_i c0 e' xs o;have s0:∀(y:bL U.C c0)(r:R U.C)(q:St)(u:cH),aU P E T X s q->bA P E T s.b q.g s.tick (.gq d i k b0 te x) u->xs[i]?=O y->Hg t c0 y k=O r->r7 P q e u λu'=>bA P E T s.b q.g s.tick r u':=by
    intro y r q u m b h0 n;obtain⟨A,H⟩:=m.br o;have w:=G.ty _ _ A;cases b with
    |gq _ _ _ _ _ _ _ hv Q=>obtain⟨rfl,hi,d0⟩:=Q _ _ _ _ (dG o);left;unfold vX;simp only[H,gu,h0,dr];exact⟨⟨trivial,w.cells.symm⟩,wy L f w.ok n⟩
   cases e0:Nat.beq b0 (s.NZ d)with
   |true=>
    rw[e0]at h;simp only[aW]at h;split at h
    .rename_i r n;refine⟨r,h,λq u m b=>?_⟩;have t0:=b;cases b with
     |gq _ _ _ _ _ _ _ hv Q=>
      obtain⟨_,hi,d0⟩:=Q _ _ _ _ (dG o);have:=d0 (cC e0).symm
      grind
    .cases h
   |false=>grind
  .cases h
 .
  rename_i te x k;split at h
  .rename_i r n;refine⟨r,h,λq u m b=>.inl ?_⟩;cases b with
   |dF _ _ _ S=>exact wy L f S n
  .cases h
 .
  rename_i te p;obtain⟨x,i0,z⟩:=bind_some h;clear h;have h:=z;split at h
  .rename_i r n;refine⟨r,h,λq u m b=>.inl ?_⟩;obtain⟨S,rfl⟩:=Ct b i0;have:=wy (P:=P) (E:=E) (bx:=s.b) (g:=q.g) (tick:=s.tick) L f S n;rw[tD]at this;exact this
  .cases h
 .
  rename_i k i off;obtain⟨r,z,C⟩:=JA L G f h;exact⟨r,z,λq u m b=>by cases b;grind⟩
 .rename_i k p;obtain⟨i,u0,h⟩:=bind_some h
  grind [JA,wz]
 .
  rename_i k i j off;split at h
  .rename_i te e' j0;split at h
   .rename_i l v;replace v:=az v;obtain⟨A,v⟩:=v;replace A:=e4 A;obtain⟨xs,k0,h⟩:=bind_some h;obtain⟨x,J,h⟩:=bind_some h;split at h
    .rename_i r n;refine⟨r,h,λq u m b=>.inr ?_⟩;cases b;have l0:=sS v m k0;have w:=G.ty _ _ A;have a:=wy (P:=P) (E:=E) (bx:=s.b) (g:=q.g) (tick:=s.tick) L f w.ok n;have m0:off<P.cellsOf e':=by have:=Mp a;rw[List.length_drop,fg L,<-w.cells]at this;omega
     have n0:T.hz k=P.cellsOf e':=by rw[L.hz k te e' j0,w.cells]
     have o0:0<P.cellsOf e':=M;simp only[l0,n0];have w0:(j*P.cellsOf e'+off)/P.cellsOf e'=j:=by rw[uj,Nat.mul_add_div o0,Nat.div_eq_of_lt m0,qm]
     grind [uj,Nat.mul_add_mod,Nat.mod_eq_of_lt,enc,pT]
    .cases h
   .cases h
  .cases h
 .cases h
end
section
variable{P:ai}{E:cd}{U:cp}{T:dt U.C}{X:gy U}{w0:af}{I0:aA}{n:Nat}{o:aC}{s:S U.C}{q:St}{α:Type}{out:α}
variable(L:cD U T)
def Mq(P:ai)(E:cd)(T:dt U.C)(X:gy U)(w0:af)(I0:aA)(n:Nat)(o:aC)(s:S U.C)(r:R U.C):Prop:=∀q,aU P E T X s q->∃u,dZ P E w0 I0 n o q u/\bA P E T s.b q.g s.tick r u
def zt{r:R U.C}(a:ba n o=W)(h:∀q,aU P E T X s q->GK P o q λu=>bA P E T s.b q.g s.tick r u):Mq P E T X w0 I0 n o s r:=λq b=>by obtain⟨u,c,d⟩:=GL a (h q b);exact⟨u,d,c⟩
def la{r:R U.C}(a:ba n o=W)(h:∀q,aU P E T X s q->gG P o q λu=>bA P E T s.b q.g s.tick r u):Mq P E T X w0 I0 n o s r:=zt a λq b=>RU (h q b)
theorem bS{x:ah}(a:ba n o=W)(b:x∈o.op.operands):ca x=W:=by
 unfold ba at a;have:=rB.1 a x b
 grind
def aU.fL (a:aU P E T X s q) (b:ba n o=W) {x:ah} (c:x∈o.op.operands):bA P E T s.b q.g s.tick (s.ev x) (q.ev x):=a.ev x (bS b c)
theorem EB(e0:bJ P E T X)(J:kv P E T X e t)(L:X.k6 e=Y){f:Nat}{x:ah}(N:o.op=.fieldAddr e x f)(l:ba n o=W){K:R U.C->V α}(h:uA s t f (s.ev x) K=O out):
  ∃r,K r=O out/\Mq P E T X w0 I0 n o s r:=by
 have v:x∈o.op.operands:=by simp[N,Op.operands]
 have A:∀r,(∀q,aU P E T X s q->jv P q e f (q.ev x) λu=>bA P E T s.b q.g s.tick r u)->Mq P E T X w0 I0 n o s r:=λr h=>la l λq b=>by grind [gG]
 have B:∀r,(∀q,aU P E T X s q->∃i off,q.ev x=.val (.ptr i off)/\∃G C,kX P e f=O (G,C)/\bA P E T s.b q.g s.tick r (.val (.ptr i (off+G))))->Mq P E T X w0 I0 n o s r:=λr h=>zt l λq b=>by
  right
  grind [xz]
 unfold uA at h;split at h
 .rename_i off C H;obtain⟨m,rfl⟩:∃m,t=.struct m:=by cases t<;>first|exact ⟨_,rfl⟩|cases H
  obtain⟨f0,w,_⟩:=J.field L m rfl f off C H;split at h
  .rename_i d k c;split at h
   .rename_i g0 rs z;refine⟨_,h,A _ λq b=>?_⟩;have a:=b.fL l v;rw[c]at a;unfold jv;simp only[w,jN b a z];obtain⟨_,_,cs,Q,_⟩:=b.cells z;exact⟨⟨trivial,by grind⟩,.dT d _ _ λst u h0 I=>rfl⟩
   .cases h
  .rename_i d i k S te y c;split at h
   .rename_i i0 e' xs z;refine⟨_,h,A _ λq b=>?_⟩;have a:=b.fL l v;rw[c]at a;unfold jv;simp only[w];obtain⟨_,Q⟩:=b.br z;generalize q.ev x=u at a;cases a with
    |gq _ _ _ _ _ _ _ hv a=>
     obtain⟨rfl,hi,j0⟩:=a _ _ _ _ (dG z);refine⟨⟨rfl,by grind⟩,.gq d i _ S te y _ hv λst k0 e l0 I=>?_⟩;obtain⟨m0,n0,o0⟩:=a _ _ _ _ I
     grind
   .cases h
  .rename_i te y k c;refine⟨_,h,A _ λq b=>?_⟩;have a:=b.fL l v;rw[c]at a;unfold jv;simp only[w];generalize q.ev x=u at a;cases a with
   |dF _ _ _ D=>have:=bA.dF (P:=P) (E:=E) (T:=T) (bx:=s.b) (g:=q.g) (tick:=s.tick) te y (k+off) D;simp_all
  .rename_i te p c;obtain⟨y,a0,h⟩:=bind_some h;refine⟨_,h,A _ λq b=>?_⟩;have a:=b.fL l v;rw[c]at a;unfold jv;obtain⟨D,b0⟩:=Ct a a0;simp only[w,b0];exact .dF te y off D
  .rename_i k i c0 c;refine⟨_,h,B _ λq b=>?_⟩;have a:=b.fL l v;rw[c]at a;generalize q.ev x=u at a;cases a;exact⟨_,_,rfl,_,_,w,.jy k i _⟩
  .rename_i k p c;obtain⟨i,d0,h⟩:=bind_some h;refine⟨_,h,B _ λq b=>?_⟩;have a:=b.fL l v;rw[c]at a;exact⟨_,_,wz a d0,_,_,w,by rw[dN];exact .jy k i _⟩
  .rename_i k i j c0 c;refine⟨_,h,B _ λq b=>?_⟩;have a:=b.fL l v;rw[c]at a;generalize q.ev x=u at a;cases a;exact⟨_,_,rfl,_,_,w,by rw[ql];exact .kq k i j _⟩
  .cases h
 .cases h
def fH(h:P.underlying e=O (.slice el)):gV P e=O el:=by simp[gV,h]
theorem Cu(f:β->γ){l:Z β}{i:Int}{x:β}(h:ax l i=O x):0<=i/\(l.map f)[i.toNat]?=O (f x)/\l[i.toNat]?=O x/\i<(l.length:Int):=by
 obtain⟨a,b,c⟩:=Fa h
 grind
include L in
theorem EC(b0:bJ P E T X)(c0:kv P E T X e (.bk t))(d0:X.elem e=O el){x:ah}(w:o.op=.indexAddr e x y)(i:ba n o=W){m:Int}(S:BY (s.ev y)=O m){K:R U.C->V α}
  (h:uB s t el (s.ev x) m K=O out):∃r,K r=O out/\Mq P E T X w0 I0 n o s r:=by
 obtain⟨D,e0⟩:=c0.elem t el rfl d0;have f:=b0.ty _ _ e0;have G:x∈o.op.operands:=by simp[w,Op.operands]
 have a0:y∈o.op.operands:=by simp[w,Op.operands]
 have N:∀r,(∀q k,aU P E T X s q->jw P q e (q.ev x) (.val (.fl (.int k m))) λu=>bA P E T s.b q.g s.tick r u)->Mq P E T X w0 I0 n o s r:=λr h=>la i λq b=>by
  unfold gG;simp only[w];obtain⟨k,j⟩:=j8 (b.fL i a0) S
  grind
 unfold uB at h;split at h
 .rename_i te xs v;cases c:decide (te=t)with
  |false=>grind|true=>
   rw[c]at h;obtain rfl:=e4 c;simp only[aW]at h;obtain⟨z,hz,h⟩:=bind_some h;obtain⟨A,H,_,_⟩:=Cu (enc T te) hz;refine⟨_,h,N _ λq k b=>?_⟩;have a:=b.fL i G;rw[v]at a;have j:=bA.dF (P:=P) (E:=E) (T:=T) (bx:=s.b) (g:=q.g) (tick:=s.tick) te z 0 f.ok;rw[tD]at j;unfold jw;simp only[fH D];generalize q.ev x=u at a;cases a with
   |val _ _ _ av l hv=>obtain⟨_,rfl⟩:=hv;rcases oB (cs:=xs.map (enc T te)) l with e|e<;>rw[e]<;>simp only[H]<;>exact ⟨⟨f.pos,A,by rw[fg L,f.cells]⟩,j⟩
 .rename_i te xs v;cases c:decide (te=t)with
  |false=>grind|true=>
   rw[c]at h;obtain rfl:=e4 c;simp only[aW]at h;obtain⟨z,hz,h⟩:=bind_some h;obtain⟨A,H,_,_⟩:=Cu (enc T te) hz;refine⟨_,h,N _ λq k b=>?_⟩;have a:=b.fL i G;rw[v]at a;have j:=bA.dF (P:=P) (E:=E) (T:=T) (bx:=s.b) (g:=q.g) (tick:=s.tick) te z 0 f.ok;rw[tD]at j;unfold jw;simp only[fH D];generalize q.ev x=u at a;cases a with
   |bF _ _ w=>simp only[H];exact⟨⟨f.pos,A,by rw[fg L,f.cells]⟩,j⟩
 .rename_i d v;split at h
  .rename_i te e' xs I;cases c:(decide (te=t)&&Nat.beq e' el)with
   |false=>grind|true=>rw[c]at h;simp only[aP,aV]at c;obtain⟨rfl,Q⟩:=c;obtain rfl:=cC Q;simp only[aW]at h;obtain⟨z,hz,h⟩:=bind_some h;obtain⟨A,H,f0,g0⟩:=Cu (enc T te) hz;refine⟨_,h,N _ λq k b=>?_⟩;have a:=b.fL i G;rw[v]at a;obtain⟨_,l⟩:=b.br I;rw[fG b a I];unfold jw;simp only[fH D];refine⟨⟨f.pos,A,trivial,⟨_,l⟩,g0⟩,.gq d m.toNat 0 (s.NZ d) te z _ (b.Ez d _ _ (dG I)) λst l0 m0 n0 C=>?_⟩;rw[dG I]at C;simp only[aN,cz,B.br.injEq]at C;obtain⟨rfl,rfl,rfl,C⟩:=C;cases C;refine⟨by rw[f.cells,dN],M,λ_=>by rw[f0]⟩
  .cases h
 .rename_i k p v;split at h
  .rename_i te e' j;cases c:(decide (te=t)&&Nat.beq e' el)with
   |false=>grind|true=>
    rw[c]at h;simp only[aP,aV]at c;obtain⟨rfl,Q⟩:=c;obtain rfl:=cC Q;simp only[aW]at h;obtain⟨z,hz,h⟩:=bind_some h;obtain⟨_,J,h⟩:=bind_some h;have J:=dy J;simp only[aP,aV]at J;refine⟨_,h,zt i λq b=>?_⟩;have a:=b.fL i G;rw[v]at a;obtain⟨h0,i0⟩:=j8 (b.fL i a0) S;have l:q.ev x=.val (.view (dY k z.1) (T.hz k) z.2):=by
     generalize q.ev x=u at a;cases a with
     |val _ _ _ av l hv=>obtain⟨_,rfl⟩:=hv;have j0:p=O z:=hz;subst j0;cases u<;>simp[bz,enc,hD]at l;rw[l]
    have k0:T.hz k=P.cellsOf e':=by rw[L.hz k te e' j,f.cells]
    right;unfold xz;simp only[w,l];exact⟨e',h0,m,fH D,i0,⟨f.pos,k0,J.1,M⟩,.kq k z.1 m.toNat 0⟩
  .cases h
 .cases h
def Ss(dflt:Nat):V Int->Nat
 |none=>dflt|some m=>m.toNat
def qK{dflt:Nat}{x:V ah}(c:aU P E T X s q)(d:∀y,x=O y->ca y=W){b:V Int}(h:ox s Y x=O b)(h0:∀m,b=O m->0<=m):mS q dflt x=O (Ss dflt b):=by
 cases x with
 |none=>simp only[ox,aN]at h;subst h;rfl|some y=>
  simp only[ox]at h;have f:=c.ev y (d y rfl);have hm:∃m,BY (s.ev y)=O m/\b=O m:=by
   split at h
   .rename_i a;simp only[aN]at h;rw[a];exact ⟨_,rfl,h.symm⟩
   .rename_i a;simp only[aN]at h;rw[a];exact ⟨_,rfl,h.symm⟩
   .cases h
  obtain⟨m,hm,rfl⟩:=hm;obtain⟨k,e⟩:=j8 f hm;have:=h0 m rfl;simp[mS,e,this,Ss]
theorem zu{xs:Z β}{b hi:V Int}{K:Z β->V α}(h:xW xs b hi K=O out):
  ∃l q:Nat,Ss 0 b=l/\Ss xs.length hi=q/\(∀m,b=O m->0<=m)/\(∀m,hi=O m->0<=m)/\l<=q/\q<=xs.length/\K ((xs.drop l).take (q-l))=O out:=by
 unfold xW at h;split at h
 .exact ⟨0,xs.length,rfl,rfl,aH,aH,eM _,bq _,by grind⟩
 .rename_i l;obtain⟨_,a,h⟩:=bind_some h;have:=dy a;simp only[aP,aV]at this;refine⟨l.toNat,xs.length,rfl,rfl,by grind,aH,this.2,bq _,?_⟩
  grind [de]
 .rename_i r;obtain⟨_,a,h⟩:=bind_some h;have:=dy a;simp only[aP,aV]at this;exact⟨0,r.toNat,rfl,rfl,aH,by grind,eM _,this.2,by grind⟩
 .rename_i l r;obtain⟨_,a,h⟩:=bind_some h;have:=dy a;simp only[aP,aV]at this;refine⟨l.toNat,r.toNat,rfl,rfl,by grind,by grind,this.2.2.1,this.2.2.2,?_⟩;rw[List.drop_take]at h;exact h
def Su{k k':dd}{x y:Int}{K:(t:Ty)->bL U.C t->V α}(h:Jp op k x y K=O out):
  ∃t v,K t v=O out/\fD t=W/\rV (rQ op k x y) (·=.val (enc T t v)):=by
 unfold Jp at h;split at h<;>simp only[rQ,rV]
 .exact ⟨_,_,h,rfl,rfl⟩
 .exact ⟨_,_,h,rfl,rfl⟩
 .exact ⟨_,_,h,rfl,rfl⟩
 .obtain ⟨_,a,h⟩:=bind_some h;have:=dy a;simp only[ne_eq,decide_not,iB,cP]at this;rw[ao this];exact⟨_,_,h,rfl,rfl⟩
 .obtain ⟨_,a,h⟩:=bind_some h;have:=dy a;simp only[ne_eq,decide_not,iB,cP]at this;rw[ao this];exact⟨_,_,h,rfl,rfl⟩
 .exact ⟨_,_,h,rfl,rfl⟩
 .exact ⟨_,_,h,rfl,rfl⟩
 .exact ⟨_,_,h,rfl,rfl⟩
 .exact ⟨_,_,h,rfl,rfl⟩
 .obtain ⟨_,a,h⟩:=bind_some h;have:=dy a;simp only[aV]at this;rw[ao M];exact⟨_,_,h,rfl,rfl⟩
 .obtain ⟨_,a,h⟩:=bind_some h;have:=dy a;simp only[aV]at this;rw[ao M];exact⟨_,_,h,rfl,rfl⟩
 all_goals exact ⟨_,_,h,rfl,rfl⟩
def Sv{x y:bP}{K:(t:Ty)->bL U.C t->V α}(h:R7 op x y K=O out):
  ∃t v,K t v=O out/\fD t=W/\rV (nb op x y) (·=.val (enc T t v)):=by
 unfold R7 at h;split at h<;>simp only[nb,rV]
 .obtain ⟨_,a,h⟩:=bind_some h;have:=dy a;simp only[aV]at this;rw[aq this];exact⟨_,_,h,rfl,rfl⟩
 all_goals first|exact ⟨_,_,h,rfl,rfl⟩|cases h
theorem Ft{v:bL U.C t}(b:fD t=W){a:V ag}(h:rV a (·=.val (enc T t v))){bx:Z (Nat×Nat×B U.C)}:rV a λu=>bA P E T bx g tick (.val t v) u:=by
 unfold rV at h⊢
 grind [enc,bn]
def zw{r:R U.C}{bx:Z (Nat×Nat×B U.C)}(h:bA P E T bx g tick r u)(a:wj r=W):u=.val (.fl (.pointer Y)):=by
 unfold wj at a;split at a
 .cases h;rfl
 .cases a
def JC{r:R U.C}{bx:Z (Nat×Nat×B U.C)}(h:bA P E T bx g tick r u)(a:BX r=W):u=.val (.fl (.map Y)):=by
 unfold BX at a;split at a
 .cases h;rfl
 .cases a
theorem JD{w:af}{I:aA}{b:Nat->V Bx}{v:ag}(h:bU P w I be b g v u){a:V Nat}(d:bz u=O (Sp a k)):∃p:V bY,v=.pointer p/\p.isNone=a.isNone:=by
 have c:=dW h d;cases a with
 |none=>exact ⟨Y,bV c,rfl⟩|some i=>obtain ⟨p,e⟩:=v8 c;grind
theorem JE{w:af}{I:aA}{b:Nat->V Bx}{v:ag}(h:bU P w I be b g v u){f:β->AV}{a:V β}(d:bz u=O (Hq f a)):∃p:V bY,v=.pointer p/\p.isNone=a.isNone:=by
 have c:=dW h d;cases a with
 |none=>exact ⟨Y,bV c,rfl⟩|some i=>obtain ⟨p,e⟩:=BN c;grind
theorem JF{w:af}{I:aA}{b:Nat->V Bx}{v:ag}(h:bU P w I be b g v u){a:V Nat}(d:bz u=O (Co a k)):∃p:V Nat,v=.map p/\p.isNone=a.isNone:=by
 have c:=dW h d;cases a with
 |none=>exact ⟨Y,bV c,rfl⟩|some i=>obtain ⟨B,_,e⟩:=wa c;grind
include L in
theorem VV{S:an}(p:kv P E T X e t)(a0:X.k6 e=Y){x:ah}(B:o.op=.binOp op e x y S)(d:ba n o=W){ty:V Ty}
  {K:(t:Ty)->bL U.C t->V α} (h:Zg o op t (s.ev x) (s.ev y) ty K=O out):∃t v,K t v=O out/\Mq P E T X w0 I0 n o s (.val t v):=by
 have l:x∈o.op.operands:=by simp[B,Op.operands]
 have i:y∈o.op.operands:=by simp[B,Op.operands]
 have C:∀(t:Ty)(v:bL U.C t),(∀q G,aU P E T X s q->RN P op e (q.ev x) (q.ev y) (λu=>bA P E T s.b q.g s.tick (.val t v) u) G)->Mq P E T X w0 I0 n o s (.val t v):=λt v h=>la d λq c=>by grind [gG]
 unfold Zg at h;split at h
 .rename_i k;split at h
  .cases h
  .rename_i a f;have b0:∃k' b,(∀q,aU P E T X s q->q.ev y=.val (.fl (.int k' b)))/\Jp op k a b K=O out/\(k'=k∨kZ op=W):=by
    split at h
    .rename_i k' b g;cases j:(decide (k'=k)||kZ op)with
     |false=>grind|true=>
      rw[j]at h;simp only[lC,aV]at j;refine⟨k',b,λq c=>?_,h,j⟩;have r:=c.fL d i;rw[g]at r;generalize q.ev y=v at r;cases r with
      |val _ _ _ av R hv=>rw[gm hv rfl]at R;exact dk R
    .rename_i k' b g;cases j:(decide (k'=k)||kZ op)with
     |false=>grind|true=>
      rw[j]at h;simp only[lC,aV]at j;refine⟨k',b,λq c=>?_,h,j⟩;have r:=c.fL d i;rw[g]at r;generalize q.ev y=v at r;cases r with
      |const _ _=>rfl
    .cases h
   obtain⟨k',b,c0,h,j⟩:=b0;obtain⟨t,v,D,A,J⟩:=Su (T:=T) (k':=k') h;refine⟨t,v,D,C t v λq G c=>?_⟩;rw[c0 q c,dk (dm (c.fL d l) f rfl)];exact⟨j,Ft A J⟩
 .split at h
  .rename_i a b f g;obtain⟨t,v,D,A,J⟩:=Sv (T:=T) h;refine⟨t,v,D,C t v λq G c=>?_⟩;rw[dk (dm (c.fL d l) f rfl),dk (dm (c.fL d i) g rfl)];exact Ft A J
  .cases h
 .split at h
  .rename_i a b f g;split at h
   .refine ⟨_,_,h,C _ _ λq G c=>?_⟩;rw[dk (dm (c.fL d l) f rfl),dk (dm (c.fL d i) g rfl)];exact⟨⟨p.bool rfl,.inl rfl⟩,bn (t:=.bool) rfl⟩
   .refine ⟨_,_,h,C _ _ λq G c=>?_⟩;rw[dk (dm (c.fL d l) f rfl),dk (dm (c.fL d i) g rfl)];exact⟨⟨p.bool rfl,.inr rfl⟩,bn (t:=.bool) rfl⟩
   .cases h
  .cases h
 .rename_i k;split at h
  .rename_i a f H;obtain⟨el,hu⟩:=p.ptr k rfl;have N:(op=.eql∨op=.neq)->Mq P E T X w0 I0 n o s (.val .bool (if op=.eql then Option.isNone (α:=Nat) a else !Option.isNone (α:=Nat) a)):=λz q c=>
    ⟨_,v7 B d hu z (zw (c.fL d i) H) (λw I be v hv=>JD hv (dm (c.fL d l) f rfl)),bn (t:=.bool) rfl⟩
   grind
  .cases h
 .rename_i k;split at h
  .rename_i a f H;obtain⟨el,e0,hu,_⟩:=p.mp k rfl;have N:(op=.eql∨op=.neq)->Mq P E T X w0 I0 n o s (.val .bool (if op=.eql then Option.isNone (α:=Nat) a else !Option.isNone (α:=Nat) a)):=λz q c=>
    ⟨_,GU B d hu z (JC (c.fL d i) H) (λw I be v hv=>JF hv (dm (c.fL d l) f rfl)),bn (t:=.bool) rfl⟩
   grind
  .cases h
 .rename_i k;split at h
  .rename_i a f H;obtain⟨el,hu⟩:=p.ref k rfl;have N:(op=.eql∨op=.neq)->Mq P E T X w0 I0 n o s (.val .bool (if op=.eql then Option.isNone (α:=bL U.C k) a else !Option.isNone (α:=bL U.C k) a)):=λz q c=>
    ⟨_,v7 B d hu z (zw (c.fL d i) H) (λw I be v hv=>JE hv (dm (c.fL d l) f p.ok)),bn (t:=.bool) rfl⟩
   grind
  .cases h
 .rename_i m;split at h
  .rename_i a b f g;split at h
   .rename_i Q d0;obtain⟨f0,D,A⟩:=p.kinds a0 m rfl Q _ _ d0;rw[<-L.cells,<-L.cells]at A;have N:(op=.eql∨op=.neq)->Mq P E T X w0 I0 n o s (.val .bool (if op=.eql then Q else !Q)):=λz=>C _ _ λq G c=>by rw[sR (dm (c.fL d l) f rfl),sR (dm (c.fL d i) g rfl)];unfold RN;simp only[D,A];exact⟨z,bn (t:=.bool) rfl⟩
    grind
   .cases h
  .cases h
 .cases h
def jc(P:ai)(E:cd)(w0:af)(I0:aA)(n:Nat)(q q':St):Prop:=∀a w,ko P E w0 I0 n q a w->ko P E w0 I0 n q' a w
def jc.refl (q:St):jc P E w0 I0 n q q:=λ_ _ h=>h
theorem jc.trans {q:St} (h:jc P E w0 I0 n q q') (b:jc P E w0 I0 n q' q''):jc P E w0 I0 n q q'':=λa w c=>b a w (h a w c)
def jc.nv {q:St} (h:jc P E w0 I0 n q q') {K:St->Prop} (b:dL P E w0 I0 n o q' K):dL P E w0 I0 n o q K:=λa w c=>b a w (h a w c)
def jc.Mr {q:St} (h:jc P E w0 I0 n q q') {K:St->Prop} (b:jS P E w0 I0 n o q' K Xp):jS P E w0 I0 n o q K Xp:=λa w c=>b a w (h a w c)
def jc.nC {q:St} (h:jc P E w0 I0 n q q') {c:bT} {Q:e7->St->Prop} (a:nC P E w0 I0 n c Q Xp q'):nC P E w0 I0 n c Q Xp q:=RI h a
def lG(q q':St):Prop:=∀x av,bz (q.ev x)=O av->bz (q'.ev x)=O av
def lG.refl (q:St):lG q q:=λ_ _ h=>h
theorem lG.trans {q:St} (h:lG q q') (a:lG q' q''):lG q q'':=λx av b=>a x av (h x av b)
def lG.Sw {q:St} (h:∀t av,bz (q.r t)=O av->bz (q'.r t)=O av):lG q q':=λx av a=>by
 cases x with
 |tmp t=>exact h t av a|_=>exact a
def Hw(a b:V Bx):Prop:=b=Y∨(∃c f,a=O (.cells c)/\b=O (.cells f))∨∃e l d,a=O (.br e l)/\b=O (.br e d)/\d.length=l.length
def Hw.refl (a:V Bx):Hw a a:=by
 cases a with
 |none=>exact .inl rfl|some x=>cases x with
  |cells c=>exact .inr (.inl ⟨_,_,rfl,rfl⟩)|br e l=>exact .inr (.inr ⟨_,_,_,rfl,rfl,rfl⟩)
theorem Hw.trans {a b c:V Bx} (h:Hw a b) (d:Hw b c):Hw a c:=by
 rcases d with d|⟨m,c2,f,g⟩|⟨e,l,j,f,g,k⟩
 .exact .inl d
 .rcases h with h|⟨c3,c4,g1,g2⟩|⟨e,l,j,g1,g2,i⟩
  grind
  .exact .inr (.inl ⟨_,_,g1,g⟩)
  grind
 .rcases h with h|⟨c3,c4,g1,g2⟩|⟨e',n,o,g1,g2,i⟩
  grind
  grind
  .rw[g2]at f;cases f;exact .inr (.inr ⟨_,_,_,g1,g,k.trans i⟩)
theorem Hw.of_eq {a b:V Bx} (h:b=a):Hw a b:=h▸.refl _
def Hw.JG (f:Nat->V Bx) (d d':Nat):Hw (f d') (b8 f d Y d'):=by
 by_cases e:d'=d
 .subst e;exact .inl (ch _ _ _)
 .exact .of_eq (aO _ _ e)
theorem Hw.b8 {f:Nat->V Bx} {x:V Bx} (h:Hw (f d) x) (d':Nat):Hw (f d') (Go.Ev.b8 f d x d'):=by grind [ch,of_eq,aO]
def Aq(s:S U.C)(q q':St):Prop:=(∀t,q'.r t=q.r t∨∃d gg off len,q.r t=.view d gg off len/\aF s.b d≠Y/\q'.b d=Y)/\(∀d,aF s.b d=Y->q'.b d=q.b d)/\q'.g=q.g/\(∀k i,k<U.nk->s.m k=F->q'.a (dY k i)=q.a (dY k i)/\q'.u (dY k i)=q.u (dY k i))/\q'.df=q.df/\∀d,Hw (q.b d) (q'.b d)
def Aq.refl (s:S U.C) (q:St):Aq s q q:=⟨λ_=>.inl rfl,λ_ _=>rfl,rfl,λ_ _ _ _=>⟨rfl,rfl⟩,rfl,λ_=>.refl _⟩
def VW(i:Nat):i=dY (i%1000) (i/1000):=by unfold dY;omega
theorem fB.set {m:Nat->aa} {h f:U.C 0} {A c:Nat->V Ob} {Vloc d:Nat->aa} (L:cD U T) (g:fB T m h A Vloc) {k:Nat} (j:k<U.nk) {a:AK} {l:Z (xT U.C a)} (b:Ao U a k h l=O f)
  (p:∀i,match l[i]? with|some x=>np (c (dY k i))=Cp T a x|none=>c (dY k i)=Y/\d (dY k i)=F)
  (q:∀k' i,k'<U.nk->k'≠k->c (dY k' i)=A (dY k' i)/\d (dY k' i)=Vloc (dY k' i)):fB T m f c d:=by
 unfold Ao at b;split at b
 .rename_i e;subst e;simp only[aN]at b;subst b;intro k' n o i;by_cases e:k'=k
  .subst e;rw[L.AE _ _ _ j,zr]
   grind
  .rw[L.sQ k k' h _ e];have:=g k' n o i
   grind
 .cases b
theorem fB.push (L:cD U T) {h e:U.C 0} (b:fB T m h A Vloc) (c:k<U.nk) (f:m k=W) {a:AK} {l:Z (xT U.C a)} (g:uz U a k h=O l) {x:xT U.C a} (n:Ao U a k h (l++[x])=O e):
  A (dY k l.length)=Y/\Vloc (dY k l.length)=F/\∀d,(∀j,j≠dY k l.length->d j=Vloc j)->fB T m e (b8 A (dY k l.length) (Cp T a x)) d:=by
 have h0:=b.at c f g l.length;rw[vC (bq _)]at h0;refine⟨h0.1,h0.2,λd p=>b.set L c n (λi=>?_) λk' i q r=>?_⟩
 .have s:=b.at c f g i;by_cases hi:i<l.length
  grind [List.getElem?_append_left,cX,aO,il]
  .by_cases o:i=l.length
   .subst o;rw[oV (bq _)];simp[uF]
   grind [List.getElem?_append_right,vC,dY,il,aO]
 grind [dY,il,aO]
theorem fB.pF (L:cD U T) {h c:U.C 0} (d:fB T m h A Vloc) (b:k<U.nk) (g:m k=W) {a:AK} {l:Z (xT U.C a)} (n:uz U a k h=O l) (hi:i<l.length) {x:xT U.C a} (o:Ao U a k h (l.set i x)=O c):
  fB T m c (b8 A (dY k i) (Cp T a x)) Vloc:=by
 refine d.set L b o (λj=>?_) λk' j p q=>?_
 .have s:=d.at b g n j;rw[y9];by_cases f:i=j
  .subst f;simp[hi,uF]
  .simp only[f,cA]
   grind [dY,il,aO]
 .have r:dY k' j≠dY k i:=λe=>q (il L p b e).1;exact⟨aO _ _ r,rfl⟩
theorem nH{l:Z (V (Z (bL U.C t)))}{a:U.C 0}(h:wi U k t e s l=O a):(s.m k=W/\k<U.nk)/\Ao U (.br t e) k s.h l=O a:=by obtain⟨b,c⟩:=az h;simp_all
theorem wA{l:Z (bL U.C t)}{a:U.C 0}(h:Hc U k t s l=O a):(s.m k=W/\k<U.nk)/\Ao U (.h7 t) k s.h l=O a:=by obtain⟨b,c⟩:=az h;simp_all
theorem wB{l:Z (Z (bL U.C a×bL U.C b))}{c:U.C 0}(h:Hd U k a b s l=O c):(s.m k=W/\k<U.nk)/\Ao U (.map a b) k s.h l=O c:=by obtain⟨d,e⟩:=az h;simp_all
theorem sT{l:Z (V (Z (bL U.C t)))}(h:Ew U k t e s=O l):(s.m k=W/\k<U.nk)/\uz U (.br t e) k s.h=O l:=by obtain⟨a,b⟩:=az h;simp_all
theorem Fu{l:Z (bL U.C t)}(h:PT U k t s=O l):(s.m k=W/\k<U.nk)/\uz U (.h7 t) k s.h=O l:=by obtain⟨a,b⟩:=az h;simp_all
theorem x8{l:Z (Z (bL U.C a×bL U.C b))}(h:maps U k a b s=O l):(s.m k=W/\k<U.nk)/\uz U (.map a b) k s.h=O l:=by obtain⟨c,d⟩:=az h;simp_all
def aU.rk {s:S U.C} {q:St} (h:aU P E T X s q) {e:U.C 0} (b:s.tick<=tk) (f:fB T s.m e A Vloc):aU P E T X {s with h:=e,hv:=hv,tick:=tk} {q with a:=A,u:=Vloc}:=⟨λt=>(h.ct t).later b,λd=>(h.bD d).mono (λ_ _ _ d _=>.refl d) b,λt st x c=>jQ (h.zo t st x c) b,λd st x c=>jQ (h.Ez d st x c) b,f,h.df⟩
theorem qL{C:Nat->Type}(d tk:Nat)(v:R C)(l:Z (Nat×Nat×R C))(z:Nat):aF (BU d tk v l) z=(aF l z).map λe=>match e.2 with|.whole d'=>if d'=d then(tk,v)else e|_=>e:=by
 induction l with
 |nil=>rfl|cons e l a=>
  obtain⟨c,st,x⟩:=e;cases x with
  |whole d'=>
   simp only[BU];by_cases b:d'=d
   .subst b;simp only[uh,aW,aT,a];grind
   .simp only[x7 b,aX,aT,a];grind
  |_=>simp only[BU,aT,a];split<;>rfl
def x9{C:Nat->Type}(d:Nat)(v:R C):R C->R C
 |.whole d'=>if d'=d then v else .whole d'|r=>r
theorem r8(d:Nat)(v:R U.C):∀(rs:Z (R U.C)),L9 d v rs=rs.map (x9 d v)
 |[]=>rfl|r::rs=>by
  cases r with
  |whole d'=>simp only[L9,gb,x9,r8 d v rs];simp_all|_=>simp only[L9,gb,x9,r8 d v rs]
theorem fh{C:Nat->Type}(d tk:Nat)(v:R C)(l:Z (Nat×Nat×B C))(z:Nat):aF (qF d tk v l) z=(aF l z).map λe=>match e.2 with|.cells u rs=>if cZ d rs=W then(tk,.cells u (L9 d v rs))else e|_=>e:=by
 induction l with
 |nil=>rfl|cons e l a=>
  obtain⟨b,st,x⟩:=e;cases x with
  |br t e ys=>grind [qF,aT]|cells u rs=>
   simp only[qF];cases c:cZ d rs with
   |true=>simp only[aW,aT,a];grind|false=>simp only[aX,aT,a];grind
theorem Fv{s:S C}{v:R C}{a:C 0}(e:(hv=s.hv/\a=s.h)∨hv=s.tick):
  bw s {r:=BU d s.tick v s.r,b:=qF d s.tick v (bu s.b d),tick:=s.tick+1,h:=a,hv:=hv,m:=s.m}:=by
 refine⟨rfl,cO _,λt st y h c=>?_,λd' st y h c=>?_,λh=>?_⟩
 .simp only[qL,c8]at h
  grind
 .simp only[fh,c8]at h
  grind [fF,cz]
 grind
def wC{U:cp}{s:S U.C}(d:Nat)(t:Ty)(xs:Z (bL U.C t)):bw s (s.BV d t xs):=Fv (.inl ⟨rfl,rfl⟩)
theorem zx{U:cp}{s:S U.C}(d k:Nat)(v:V (Nat×Nat))(h:U.C 0):bw s (s.Jn d k v h):=Fv (.inr rfl)
theorem S.ib {C:Nat->Type} (s:S C) (t:Nat):s.bG t=match aF s.r t with|some e=>e.2|none=>.none:=by grind [S.bG,aF]
theorem Cv{g:Nat}(h:bz u=O av):jx d g c u=u:=by cases u<;>first|rfl|(simp[bz]at h)
theorem zy{g:Nat}(v:ag):jx d g c (cB v)=cB v:=by unfold cB;split<;>rfl
theorem aU.cnv {s:S U.C} {q:St} (h:aU P E T X s q) {xs:Z (bL U.C t)} (c0:s.box d=O (.br t e xs)) {v:R U.C} (d0:c 0 xs.length=O av)
  (hv:∀bx g tick,bA P E T bx g tick v (.val av)) {N:U.C 0} {e0:Nat} (f0:fB T s.m N A Vloc):
  aU P E T X {r:=BU d s.tick v s.r,b:=qF d s.tick v (bu s.b d),tick:=s.tick+1,h:=N,hv:=e0,m:=s.m} {q.cv d c with a:=A,u:=Vloc}:=by
 have g0:=dG c0;have h0:∀d',kG s.b (qF d s.tick v (bu s.b d)) q.g q.g s.tick d':=λd'=>by
  by_cases e:d=d'
  .right;left;rw[fh,aR,aq e];rfl
  .cases I:aF s.b d' with
   |none=>right;left;rw[fh,aR,ao e,I];rfl|some x=>
    obtain⟨st,x⟩:=x;cases x with
    |br t e' ys=>left;rw[fh,aR,ao e,I];grind|cells u rs=>
     right;right;left;refine⟨rfl,st,u,rs,?_⟩;rw[fh,aR,ao e,I]
     grind
 have one:∀r u,bA P E T s.b q.g s.tick r u->bA P E T (qF d s.tick v (bu s.b d)) q.g (s.tick+1) (x9 d v r) (jx d (q.g d) c u):=by
  intro r u n;have i0:∀d' o B e' G,aF (qF d s.tick v (bu s.b d)) d'=O (o,.br B e' G)->d'≠d/\aF s.b d'=O (o,.br B e' G):=λd' o B e' G l=>by
   by_cases j:d=d'
   .rw[fh,aR,aq j]at l;cases l
   .rw[fh,aR,ao j]at l;refine⟨eN j,?_⟩;cases J:aF s.b d' with
    |none=>grind|some x=>grind
  have j0:∀d' o u' Q,aF (qF d s.tick v (bu s.b d)) d'=O (o,.cells u' Q)->∃st u rs,aF s.b d'=O (st,.cells u rs):=λd' o u' Q l=>by
   by_cases j:d=d'
   .rw[fh,aR,aq j]at l;cases l
   .rw[fh,aR,ao j]at l;cases J:aF s.b d' with
    |none=>grind|some x=>grind
  have y:=n.mono (bx':=qF d s.tick v (bu s.b d)) (g':=q.g) (λk0 _=>h0 k0) (cO _);cases n with
  |whole d' _ p=>
   by_cases j:d'=d
   .subst j;have:=p _ _ _ _ g0;subst this;simp only[x9,cm,jx,and_self,d0]
    grind
   .simp only[x9,ao j];refine .whole _ _ λo B e' G l=>?_
    grind [jx]
  |none=>exact .none _|val t x _ av p hv=>grind [x9,Cv]
  |const w q0=>grind [x9,zy]|dT d' k _ p=>refine .dT d' k _ λst u rs l=>?_;obtain⟨_,_,_,J⟩:=j0 _ _ _ _ l;rw[p _ _ _ J];rfl
  |gq d' i k l0 t x _ r0 p=>refine .gq d' i k l0 t x _ M λst B e xs l=>?_;obtain⟨q1,m0,n0⟩:=p _ _ _ _ (i0 _ _ _ _ _ l).2;rw[q1];exact⟨rfl,m0,n0⟩|sub d' off m _ p=>
   refine .sub d' off m _ λst B e xs l=>?_
   grind [jx]
  |_=>exact y
 refine⟨λt=>?_,λd'=>?_,λt st x C=>?_,λd' st x C=>?_,f0,h.df⟩
 .have f:=one _ _ (h.ct t);rw[S.ib]at f⊢;rw[qL];cases o0:aF s.r t with
  |none=>exact .none _|some x=>
   obtain⟨st,x⟩:=x;rw[o0]at f;simp only[dr]at f⊢;cases x with
   |whole d'=>
    simp only[x9]at f;by_cases j:d'=d
    .simp only[j,cm]at f⊢;exact f
    .simp only[j,cA]at f⊢;exact f
   |_=>exact f
 .have f:=h.bD d';rw[fh,aR];by_cases j:d=d'
  .rw[aq j];trivial
  .rw[ao j];cases l:aF s.b d' with
   |none=>trivial|some x=>
    obtain⟨st,x⟩:=x;rw[l]at f;have p:({q.cv d c with a:=A,u:=Vloc}:St).b d'=(q.b d').map (RX d (q.g d) c):=by simp[St.cv,PO,eN j]
    rw[p];cases x with
    |br t e' ys=>obtain⟨y,D⟩:=f;simp only[dr];exact⟨y,by rw[D];rfl⟩|cells u rs=>
     obtain⟨y,D,cs,a0,s0,t0⟩:=f;have b0:∀(i:Nat)(r:R U.C)(z:cH),(rs.map (x9 d v))[i]?=O r->(cs.map (jx d (q.g d) c))[i]?=O z->bA P E T (qF d s.tick v (bu s.b d)) q.g (s.tick+1) r z:=λi r z n H=>by grind
     have p0:cZ d rs=F->rs.map (x9 d v)=rs:=λK=>by
      have:∀r∈rs,x9 d v r=id r:=λr n=>by
       have:=fa.1 K r n;cases r with
       |whole d'=>
        simp only[x9];have u0:¬d'=d:=λe=>by subst e;simp[R.bb]at this
        grind
       |_=>rfl
      exact(EY this).trans (List.map_id rs)
     simp only[dr];cases K:cZ d rs with
     |true=>simp only[cm];refine⟨y,by rw[r8];grind,_,by rw[a0];rfl,by rw[r8];grind,λi r z n H=>?_⟩;rw[r8]at n;exact b0 i r z n H|false=>simp only[jo,cA];refine⟨y,D,_,by rw[a0];rfl,by grind,λi r z n H=>?_⟩;rw[<-p0 K]at n;exact b0 i r z n H
 .simp only[qL,c8]at C;obtain⟨⟨o,L⟩,f,y⟩:=C;have D:=h.zo t o L f
  grind
 .simp only[fh,aR,c8]at C;obtain⟨⟨o,L⟩,f,y⟩:=C;show st<s.tick+1;split at f
  .cases f
  .have D:=h.Ez d' o L f
   grind
def PY{x:ah}(h:s.ev x=.whole d):∃t,x=.tmp t/\s.bG t=.whole d:=by
 cases x with
 |tmp t=>exact ⟨t,rfl,h⟩|const v=>cases h
 |global g=>cases h
 |func f=>cases h
def JH(d:Nat)(c:Nat->Nat->V AV)(A:Nat->V Ob)(Vloc:Nat->aa):lG q {q.cv d c with a:=A,u:=Vloc}:=.Sw λt av h=>by show bz (jx d (q.g d) c (q.r t))=O av;rw[Cv h];exact h
def Fw(d:Nat)(c:Nat->Nat->V AV):lG q (q.cv d c):=JH d c q.a q.u
theorem gA{l:Z (Nat×Nat×β)}{d':Nat}(h:aF l d'=Y):aF (bu l d) d'=Y:=by grind [aR]
theorem aU.Cw {s:S U.C} {q:St} (h:aU P E T X s q) (k:s.bG t0=.whole d) (u:cH) {f:U.C 0} (l:fB T s.m f A Vloc):
  aU P E T X {r:=s.r,b:=bu s.b d,tick:=s.tick+1,h:=f,hv:=hv,m:=s.m} {q with r:=b8 q.r t0 u,b:=b8 q.b d Y,a:=A,u:=Vloc}:=by
 have i:∀d',kG s.b (bu s.b d) q.g q.g s.tick d':=λd'=>by
  by_cases e:d=d'
  .right;left;rw[aR,aq e]
  .left;rw[aR,ao e];grind
 refine⟨λt=>?_,λd'=>?_,λt st x c=>xx (h.zo t st x c),λd' st x c=>?_,l,h.df⟩
 .have g:=(h.ct t).mono (λd' _=>i d') (cO _);by_cases j:t=t0
  .subst j;have n:S.bG (C:=U.C) {r:=s.r,b:=bu s.b d,tick:=s.tick+1,h:=f,hv:=hv,m:=s.m} t=.whole d:=k;rw[n];exact .whole d _ λst t e xs o=>by simp[aR]at o
  .simp only[aO _ _ j];exact g
 .by_cases e:d=d'
  .subst e;simp[aR,oz]
  .have g:=(h.bD d').mono (λ_ _ _ p _=>i p) (cO _);simpa only[aR,ao e,aO _ _ (eN e)]using g
 .simp only[aR]at c;split at c
  .cases c
  .exact xx (h.Ez d' st x c)
theorem Aq.Cw {s:S U.C} {q:St} {gg len:Nat} (h:q.r t0=.view d gg off len) {b:B U.C} (c:s.box d=O b) (u:cH) (j:∀k i,k<U.nk->s.m k=F->A (dY k i)=q.a (dY k i)/\Vloc (dY k i)=q.u (dY k i)):
  Aq s q {q with r:=b8 q.r t0 u,b:=b8 q.b d Y,a:=A,u:=Vloc}:=by
 refine⟨λt=>?_,λd' f=>?_,rfl,j,rfl,.JG _ _⟩
 .by_cases g:t=t0
  .subst g;exact .inr ⟨d,gg,off,len,h,by rw[dG c];simp,ch _ _ _⟩
  .exact .inl (aO _ _ g)
 .refine aO _ _ λe=>?_;subst e;rw[dG c]at f;cases f
def Hx{s:S C}{c:Nat}{v:R C}{b:Z (Nat×Nat×B C)}{h:C 0}(a:mm (s.ev y)=F):S.ev {r:=BU d tk v s.r,b:=b,tick:=c,h:=h,hv:=hv,m:=m} y=s.ev y:=by
 cases y with
 |tmp t=>
  simp only[S.ev]at a⊢;rw[S.ib]at a⊢;rw[S.ib];simp only[qL];cases f:aF s.r t with
  |none=>rfl|some e=>obtain⟨st,x⟩:=e;rw[f]at a;cases x<;>first|rfl|cases a
 |_=>rfl
structure abt(P:Program)(E:cd)(T:dt U.C)(X:gy U)(w0:World)(I0:aA)(n:Nat)(fz:Bool)(s s':S U.C)(x:Operand)(t:Ty)(v:bL U.C t)(q q':St)(av:AV):Prop where
 oP:jc P E w0 I0 n q q'
 oM:aU P E T X s' q'
 Ek:bz (q'.ev x)=O av
 ED:j7 P E T t v av
 jO:lG q q'
 fr:fz=F->Aq s q q'
 still:mm (s.ev x)=F->q'=q/\s'=s
include L in
theorem lb(J:bJ P E T X)(i0:(∃k,s.m k=W)->E.cT=F){B:aa}{x:ah}(j0:ca x=W){k:S U.C->bL U.C t->V α}(h:S.val B s (s.ev x) t k=O out):
  ∃s' v,k s' v=O out/\bw s s'/\(∀d,aF s.b d=Y->aF s'.b d=Y)/\(∀y,mm (s.ev y)=F->s'.ev y=s.ev y)/\∀q,aU P E T X s q->∃q' av,abt P E T X w0 I0 n B s s' x t v q q' av:=by
 unfold S.val at h;split at h
 .rename_i d H;obtain⟨t0,rfl,a0⟩:=PY H;split at h
  .rename_i f e xs p;have K:∀q,aU P E T X s q->q.r t0=.view d (q.g d) 0 xs.length:=λq b=>by
    have:=b.ct t0
    grind [fG]
   split at h
   .
    rename_i m k;split at h
    .rename_i l b0;cases Q:(U.em m&&(Nat.blt m 2&&xs.isEmpty))with
     |true=>
      rw[Q]at h;simp only[aP]at Q;obtain⟨_,k0,l0⟩:=Q;rw[jq]at k0;obtain rfl:xs=[]:=NJ.1 l0;simp only[aW]at h;have R:U.ak m=.br f e:=qb b0;cases B with
      |true=>
      simp only[aW]at h;refine⟨_,_,h,zx _ _ _ _,λd' r=>?_,λy I=>Hx I,λq b=>?_⟩
      .show aF (qF _ _ _ (bu s.b d)) d'=Y;rw[fh,gA r];rfl
      .obtain ⟨C,u⟩:=b.br p;have z:=J.ty _ _ C;have D:T.hz m=P.cellsOf e:=by rw[L.hz m f e R,z.cells]
       have i:=K q b;refine⟨q.cv d (qE (dY m l.length) (P.cellsOf e)),.view (dY m l.length) (P.cellsOf e) 0,⟨λa w o=>LZ (by unfold dY;omega) u o,?_,?_,⟨rfl,by simp[enc,hD,D]⟩,Fw d _,(λh=>by cases h),λh=>by rw[H]at h;cases h⟩⟩
       .exact b.cnv (c:=qE (dY m l.length) (P.cellsOf e)) p rfl (λbx g tick=>.val (.hs m) _ _ _ rfl ⟨rfl,by simp[enc,hD,D]⟩) b.heap
       .show bz (jx d (q.g d) _ (q.r t0))=_;rw[i];simp[jx,bz,qE]
      |false=>
      simp only[aX]at h;refine⟨_,_,h,wv _ _,λd' r=>gA r,λy I=>by cases y<;>rfl,λq b=>?_⟩;obtain⟨C,u⟩:=b.br p;have z:=J.ty _ _ C;have D:T.hz m=P.cellsOf e:=by rw[L.hz m f e R,z.cells]
      have i:=K q b;refine⟨_,.view (dY m l.length) (P.cellsOf e) 0,⟨λa w o=>Ji t0 (by unfold dY;omega) i rfl u o,b.Cw a0 (.val (.view (dY m l.length) (P.cellsOf e) 0)) (A:=q.a) (Vloc:=q.u) b.heap,by simp[St.ev,bz],⟨rfl,by simp[enc,hD,D]⟩,.Sw λt av h=>?_,λ_=>Aq.Cw i p _ λ_ _ _ _=>⟨rfl,rfl⟩,λh=>by rw[H]at h;cases h⟩⟩;by_cases G:t=t0
      .subst G;rw[i]at h;cases h
      .simpa only[aO _ _ G]using h
     |false=>
     rw[Q]at h;simp only[aX]at h;obtain⟨_,c0,h⟩:=bind_some h;have c0:=dy c0;have m0:xs≠[]:=by grind
     split at h
     .rename_i N n0;obtain⟨⟨d0,o0⟩,p0⟩:=sT b0;obtain⟨_,q0⟩:=nH n0;have e0:=i0 ⟨m,d0⟩;have R:U.ak m=.br f e:=qb b0;have h:k (bif B then s.Jn d m (O (l.length,xs.length)) N else s.BW d N) (O (l.length,xs.length))=O out:=h;have r0:∀d',aF s.b d'=Y->aF (bif B then s.Jn d m (O (l.length,xs.length)) N else s.BW d N).b d'=Y:=λd' r=>by
       cases B with
       |true=>show aF (qF _ _ _ (bu s.b d)) d'=Y;rw[fh,gA r];rfl|false=>exact gA r
      refine⟨_,_,h,by grind [wv,zx],r0,λy I=>by cases B with|true=>exact Hx I|false=>cases y<;>rfl,λq b=>?_⟩;obtain⟨C,u⟩:=b.br p;have z:=J.ty _ _ C;obtain⟨A0,f0,s0⟩:=b.heap.push L o0 d0 p0 q0;have D:T.hz m=P.cellsOf e:=by rw[L.hz m f e R,z.cells]
      have i:=K q b;have g0:xs.map (enc T f)≠[]:=by simpa using m0
      have h0:fB T s.m N (b8 q.a (dY m l.length) (O (.br e (xs.map (enc T f))))) (b8 q.u (dY m l.length) W):=s0 (b8 q.u (dY m l.length) W) (λj u0=>aO _ _ u0);cases B with
      |true=>
       refine⟨_,.view (dY m l.length) (P.cellsOf e) xs.length,⟨λa w o=>PQ e0 u f0 g0 o,?_,?_,⟨rfl,by simp[enc,hD,D]⟩,JH d _ _ _,(λh=>by cases h),λh=>by rw[H]at h;cases h⟩⟩
       .exact b.cnv (c:=qE (dY m l.length) (P.cellsOf e)) p rfl (λbx g tick=>.val (.hs m) _ _ _ rfl ⟨rfl,by simp[enc,hD,D]⟩) h0
       .show bz (jx d (q.g d) _ (q.r t0))=_;rw[i];simp[jx,bz,qE]
      |false=>
       refine⟨_,.view (dY m l.length) (P.cellsOf e) xs.length,⟨λa w o=>L6 e0 t0 (by rw[i]) rfl u f0 g0 o,?_,?_,⟨rfl,by simp[enc,hD,D]⟩,.Sw λt av h=>?_,λ_=>?_,λh=>by rw[H]at h;cases h⟩⟩
       .exact b.Cw a0 _ h0
       .simp[St.ev,bz]
       .by_cases G:t=t0
        .subst G;rw[i]at h;cases h
        .simpa only[aO _ _ G]using h
       grind [Aq.Cw,dY,il,aO]
     .cases h
    .cases h
   .
    rename_i t k B0;cases B with
    |false=>
     simp only[aX]at h;split at h
     .rename_i v hv;obtain⟨e',rfl⟩:=bM hv;subst e';refine⟨_,_,h,EA _,λd' r=>gA r,λy I=>by cases y<;>rfl,λq b=>?_⟩;obtain⟨C,u⟩:=b.br p;have z:=J.ty _ _ C;have i:=K q b;refine⟨_,.sl (xs.map (enc T f)),⟨λa w o=>?_,b.Cw a0 (.val (.sl (xs.map (enc T f)))) (A:=q.a) (Vloc:=q.u) b.heap,by simp[St.ev,bz],⟨z.ok,rfl⟩,.Sw λt av h=>?_,λ_=>Aq.Cw i p _ λ_ _ _ _=>⟨rfl,rfl⟩,λh=>by rw[H]at h;cases h⟩⟩
      .have:=RW (s:=q) t0 d (by rw[i]) rfl u o
       grind [de]
      .by_cases G:t=t0
       .subst G;rw[i]at h;cases h
       .simpa only[aO _ _ G]using h
     .cases h
    |true=>
     simp only[aW]at h;split at h
     .rename_i v hv;obtain⟨e',rfl⟩:=bM hv;subst e';refine⟨_,_,h,wC _ _ _,λd' r=>?_,λy I=>Hx I,λq b=>?_⟩
      .show aF (qF _ _ _ (bu s.b d)) d'=Y;rw[fh,gA r];rfl
      .obtain ⟨C,u⟩:=b.br p;have z:=J.ty _ _ C;have i:=K q b;refine⟨q.cv d λoff len=>O (.sl (((xs.map (enc T f)).drop off).take len)),.sl (xs.map (enc T f)),⟨λa w o=>uy u o,?_,?_,⟨z.ok,rfl⟩,Fw d _,(λh=>by cases h),λh=>by rw[H]at h;cases h⟩⟩
       .exact b.cnv (c:=λoff len=>O (.sl (((xs.map (enc T f)).drop off).take len))) p (av:=.sl (xs.map (enc T f))) (by simp[de]) (λbx g tick=>.val (.bk f) xs _ _ rfl ⟨z.ok,rfl⟩) b.heap
       grind [St.ev,St.cv,jx,bz,de]
     .cases h
  .cases h
 .split at h
  .rename_i v hv;refine⟨_,_,h,.refl s,λ_ h=>h,λ_ _=>rfl,λq b=>?_⟩;obtain⟨av,x0,y0⟩:=oA (b.ev x j0) hv;exact⟨q,av,.refl q,b,x0,y0,.refl q,λ_=>.refl s q,λ_=>⟨rfl,rfl⟩⟩
  .cases h
end
end Go.X
