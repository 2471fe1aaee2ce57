import Derived.Orders
import Derived.Below
import Derived.Laws.AppendOwn
import Derived.Laws.MakeOwn
import Derived.Laws.CopyOwn
import Derived.Laws.Rows
import Derived.Laws.Tables
import Derived.Laws.StructEq
import Derived.Laws.Strings3
import Derived.Laws.BytesString
import Derived.Laws.NewBlocks
import Derived.Shelf.Abstract
import Derived.Laws.Build
import Derived.Scope
import Derived.Laws.IdiomStrings
import Derived.Test.YticakdhfjeljkaaGreatDoorZ1
set_option linter.all false
open Option renaming some->O,none->Y
open Bool renaming true->W,false->F
namespace Go
def rB:=@Array.all_eq_true'
def Y8:=@Array.append_empty
def Vx:=@Array.empty_append
def Y9:=@Array.eq_empty_of_size_eq_zero
def Gw:=@Array.ext
def Za:=@Array.foldl_toList
def my:=@Array.getD_eq_getD_getElem?
def Rn:=@Array.getElem?_eq_getElem
def rr:=@Array.getElem?_eq_some_iff
def EN:=@Array.getElem?_modify
def Ro:=@Array.getElem?_setIfInBounds_ne
def tz:=@Array.getElem?_toList
def EO:=@Array.length_toList
theorem kQ:type_of%@Array.mem_of_getElem?:=@Array.mem_of_getElem?
def Rp:=@Array.toList_append
def aP:=@Bool.and_eq_true
def EP:=@Bool.eq_iff_iff
def jo:=@Bool.false_eq_true
def vz:=@Bool.false_or
def oa:=@Bool.not_eq_false'
theorem iB:type_of%@Bool.not_eq_true':=@Bool.not_eq_true'
def tA:=@Bool.not_false
def fQ:=@Bool.not_true
def tB:=@Bool.or_eq_false_iff
def lC:=@Bool.or_eq_true
def IS:=@Bool.or_false
def lD:=@Bool.true_and
def Rq:=@Classical.byContradiction
def oR:=@Int.eq_ofNat_of_zero_le
def gY:=@Int.le_refl
def EQ:=@Int.not_le
theorem kC:type_of%@Int.not_lt:=@Int.not_lt
theorem hx:type_of%@Int.toNat_natCast:=@Int.toNat_natCast
def tC:=@List.all_cons
theorem di:type_of%@List.all_eq_true:=@List.all_eq_true
def ER:=@List.any_eq_false
def y7:=@List.append_assoc
def ES:=@List.append_nil
def ET:=@List.cons.injEq
def EU:=@List.cons_append
def ND:=@List.drop_drop
theorem oS:type_of%@List.drop_eq_getElem_cons:=@List.drop_eq_getElem_cons
def y8:=@List.drop_eq_nil_of_le
theorem EV:type_of%@List.drop_of_length_le:=@List.drop_of_length_le
def tD:=@List.drop_zero
def oT:=@List.eq_nil_of_length_eq_zero
def tE:=@List.ext_getElem?
def Rt:=@List.filterMap_append
def NE:=@List.filterMap_cons
def NG:=@List.find?_eq_none
def IU:=@List.flatMap_append
def tF:=@List.flatMap_cons
def vA:=@List.foldl_cons
def IV:=@List.getD_eq_getElem?_getD
def oU:=@List.getElem?_append_left
def oV:=@List.getElem?_append_right
def ic:=@List.getElem?_cons_zero
def vB:=@List.getElem?_drop
theorem cX:type_of%@List.getElem?_eq_getElem:=@List.getElem?_eq_getElem
theorem vC:type_of%@List.getElem?_eq_none:=@List.getElem?_eq_none
theorem cr:type_of%@List.getElem?_eq_some_iff:=@List.getElem?_eq_some_iff
def gu:=@List.getElem?_map
def Rv:=@List.getElem?_mapIdx
def NH:=@List.getElem?_range
def y9:=@List.getElem?_set
def EW:=@List.getElem?_set_ne
theorem tG:type_of%@List.getElem?_set_self:=@List.getElem?_set_self
def rC:=@List.getElem?_take
def EX:=@List.getElem?_toArray
theorem fR:type_of%@List.getElem_mem:=@List.getElem_mem
def hB:=@List.getElem_of_mem
def NI:=@List.head?_cons
def NJ:=@List.isEmpty_iff
theorem jf:type_of%@List.length_append:=@List.length_append
theorem ie:type_of%@List.length_cons:=@List.length_cons
def NK:=@List.length_filter_le
def iT:=@List.length_map
def za:=@List.length_nil
def Rw:=@List.length_reverse
def tH:=@List.length_singleton
def tI:=@List.length_take
def IW:=@List.map_append
def EY:=@List.map_congr_left
def gb:=@List.map_cons
def NL:=@List.map_drop
def AW:=@List.map_map
def zb:=@List.map_nil
def AX:=@List.map_take
def NM:=@List.map_toArray
def fK:=@List.mem_append
def fb:=@List.mem_cons
def IX:=@List.mem_cons_of_mem
def Rx:=@List.mem_cons_self
def NN:=@List.mem_flatMap
theorem kR:type_of%@List.mem_iff_getElem?:=@List.mem_iff_getElem?
def gC:=@List.mem_map
def Lw:=@List.mem_map_of_mem
theorem Gx:type_of%@List.mem_of_find?_eq_some:=@List.mem_of_find?_eq_some
theorem bW:type_of%@List.mem_of_getElem?:=@List.mem_of_getElem?
def Lx:=@List.mem_of_mem_drop
def AY:=@List.mem_of_mem_take
def uf:=@List.mem_range
def gD:=@List.mem_singleton
def pw:=@List.nil_append
def oc:=@List.nodup_cons
def Gz:=@List.nodup_iff_pairwise_ne
def Ly:=@List.pairwise_iff_getElem
def Lz:=@List.range_eq_range'
theorem LA:type_of%@List.reverse_append:=@List.reverse_append
def A6:=@List.set_cons_zero
theorem ug:type_of%@List.size_toArray:=@List.size_toArray
def px:=@List.take_add_one
theorem A7:type_of%@List.take_append_drop:=@List.take_append_drop
theorem xv:type_of%@List.take_append_getElem:=@List.take_append_getElem
def GC:=@List.take_length
theorem de:type_of%@List.take_of_length_le:=@List.take_of_length_le
def A9:=@List.take_zero
def LB:=@List.zip_cons_cons
def ql:=@Nat.add_assoc
def py:=@Nat.add_comm
def kS:=@Nat.add_mul
def qm:=@Nat.add_zero
def uh:=@Nat.beq_refl
def rD:=@Nat.ble_eq
theorem xw:type_of%@Nat.ble_eq_true_of_le:=@Nat.ble_eq_true_of_le
def jq:=@Nat.blt_eq
theorem cC:type_of%@Nat.eq_of_beq_eq_true:=@Nat.eq_of_beq_eq_true
theorem lJ:type_of%@Nat.eq_of_mul_eq_mul_right:=@Nat.eq_of_mul_eq_mul_right
def Ba:=@Nat.exists_eq_add_of_le
def hQ:=@Nat.le_of_lt
def bq:=@Nat.le_refl
def cO:=@Nat.le_succ
def ef:=@Nat.le_trans
def jQ:=@Nat.lt_of_lt_of_le
def xx:=@Nat.lt_succ_of_lt
def xy:=@Nat.lt_succ_self
def rE:=@Nat.lt_trichotomy
def ui:=@Nat.mod_lt
theorem uj:type_of%@Nat.mul_comm:=@Nat.mul_comm
def hR:=@Nat.mul_le_mul_right
def uk:=@Nat.one_mul
def Bb:=@Nat.sub_self
def qn:=@Nat.sub_zero
def dN:=@Nat.zero_add
def eM:=@Nat.zero_le
def lK:=@Nat.zero_mul
def eN:=@Ne.symm
def GF:=@Go.Oper.apart_spec
def Bc:=@Go.Oper.upon_enter
def lL:=@Go.Oper.wp_mono
def mT:=@Option.bind_eq_some_iff
def aE:=@Option.bind_some
def Be:=@Option.getD_none
def gh:=@Option.getD_some
def mU:=@Option.isNone_none
def mV:=@Option.isNone_some
def um:=@Option.isSome_iff_exists
def c8:=@Option.map_eq_some_iff
def jr:=@Option.map_none
def dr:=@Option.map_some
theorem cJ:type_of%@Option.some.inj:=@Option.some.inj
theorem aN:type_of%@Option.some.injEq:=@Option.some.injEq
def pz:=@Prod.mk.inj
theorem cz:type_of%@Prod.mk.injEq:=@Prod.mk.injEq
theorem cL:type_of%@Go.Result.andThen_ok:=@Go.Result.andThen_ok
theorem cx:type_of%@Go.Sem.run_bind:=@Go.Sem.run_bind
theorem cW:type_of%@Go.Sem.run_pure:=@Go.Sem.run_pure
def qo:=@beq_eq_false_iff_ne
def gE:=@beq_iff_eq
def kn:=@beq_self_eq_true
def aX:=@cond_false
def aW:=@cond_true
def bN:=@congrArg
theorem cP:type_of%@decide_eq_false_iff_not:=@decide_eq_false_iff_not
def Bf:=@decide_eq_true
def aV:=@decide_eq_true_eq
def lM:=@decide_false
def od:=@decide_true
def cA:=@if_false
def ao:=@if_neg
def aq:=@if_pos
def cm:=@if_true
def xA:=@Go.leaves_cons
def e4:=@of_decide_eq_true
def eH:=@Go.run_underlying
def pA:=@Go.setRow_heap
def og:=@Go.setRow_other
def mW:=@true_and
def pB:=@Go.wp_mono
def oh:=@Go.wp_region
def kT:=@Go.wp_seq
end Go
namespace Go.Ev
open Go
variable{t e u t' ft:an}{d k gg len i sz cap l off m f n j d' dflt:Nat}{P:ai}{y:ah}{cur:Array ag}{w' w0 w1 w2:af}{op:iS}{lo hi mx:V ah}{p:bY}{vs news:Z ag}{du:TypeDesc}{z v2:ag}{α:Type}{be bo:Nat->V Nat}{A:V bY}{args:Array ah}{argTypes:Array an}{b:aa}{a:Act}{g:Nat->Nat}{fs:Array Field}{fd:Field}{k':dd}{base:Nat->Prop}{ds:Z Deferred}{fr:Nat×Nat}{next:Act->af->Prop}{Q:Exit->Act->af->Prop}{parts:Array (Nat×ah)}{u':Nat->aa}
inductive AV where
 |fl (v:Value)
 |sl (xs:List AV)
 |ref (cs:List AV)
 |fn (f:FuncId) (caps:List AV)
 |agg (cs:List AV)
 |mR (t:TypeId) (v:AV)
 |ptr (i off:Nat)
 |view (i sz len:Nat)
 |mp (i:Nat)
 |hk
 |mc (f:FuncId) (first:List AV)
 deriving Inhabited
variable{xs ys caps:Z AV}{c:AV}
def AV.cells:AV->Z AV
 |.agg cs=>cs|v=>[v]
def AV.isAgg:AV->aa
 |.agg _=>W|_=>F
def AV.wf (x:AV):Prop:=∀c∈x.cells,c.isAgg=F
def Vt(v:ag):Prop:=v.oneCell'=W
structure aA where
 mem:Addr->Prop
 ar:Nat->Option Nat
variable{I' I0:aA}
instance:CoeFun aA λ_=>Addr->Prop:=⟨aA.mem⟩
def gZ(w w':af)(B:Nat):Prop:=∀cur t fr,w.heap[B]?=O (.cells cur t fr)->∃a,w'.heap[B]?=O (.cells a t fr)/\a.size=cur.size
theorem gZ.refl (w:af) (B:Nat):gZ w w B:=λcur _ _ h=>⟨cur,h,rfl⟩
theorem gZ.trans {w:af} {B:Nat} (h:gZ w w1 B) (a:gZ w1 w2 B):gZ w w2 B:=λcur t fr b=>by
 obtain⟨c,d,e⟩:=h cur t fr b;obtain⟨f,g,i⟩:=a c t fr d
 grind
structure dK(w w':World)(I I':aA):Prop where
 mem:∀p,I p->I' p
 ar:∀i B,I.ar i=O B->I'.ar i=O B
 cell:∀p v,I p->w.cell? p=O v->w'.cell? p=O v
 shape:∀B,gZ w w' B
theorem dK.refl (w:af) (I:aA):dK w w I I:=⟨λ_ h=>h,λ_ _ h=>h,λ_ _ _ h=>h,gZ.refl w⟩
theorem dK.sub {w:af} {I:aA} (h:∀p,I p->I' p) (a:∀i B,I.ar i=O B->I'.ar i=O B):dK w w I I':=⟨h,a,λ_ _ _ h=>h,gZ.refl w⟩
theorem dK.world {w:af} {I:aA} (a:∀p v,I p->w.cell? p=O v->w'.cell? p=O v) (b:∀B,gZ w w' B):dK w w' I I:=⟨λ_ h=>h,λ_ _ h=>h,a,b⟩
theorem dK.trans {w:af} {I c d:aA} (h:dK w w1 I c) (a:dK w1 w2 c d):dK w w2 I d:=⟨λp b=>a.mem p (h.mem p b),λi B hi=>a.ar i B (h.ar i B hi),λp v b hv=>a.cell p v (h.mem p b) (h.cell p v b hv),λB=>(h.shape B).trans (a.shape B)⟩
def aA.plus (I:aA) (f:bY->Prop):aA:=⟨λp=>I p∨f p,I.ar⟩
theorem dK.plus (w:af) (I:aA) (f:bY->Prop):dK w w I (I.plus f):=.sub (λ_ h=>.inl h) (λ_ _ h=>h)
inductive cy(w:World)(I:aA):Value->AV->Prop
 |fl (v:Value) (h:Vt v):cy w I v (.fl v)
 |fc (c:Nat):cy w I (.slice Y 0 c) (.sl [])
 |sl (a:Addr) (n cap sz:Nat) (xs:List AV) (cv:Nat->Nat->Value) (hn:n=xs.length) (aje:xs.length<=cap) (aen:cap<=maxLen)
   (hsz:∀(i:Nat)(x:AV),xs[i]?=O x->x.cells.length=sz/\x.wf)
   (hc:∀(i j:Nat)(x c:AV),xs[i]?=O x->x.cells[j]?=O c->w.cell? (a.add (i*sz+j))=O (cv i j))
   (hI:∀(i j:Nat)(x c:AV),xs[i]?=O x->x.cells[j]?=O c->I (a.add (i*sz+j)))
   (hr:∀(i j:Nat)(x c:AV),xs[i]?=O x->x.cells[j]?=O c->cy w I (cv i j) c):cy w I (.slice (O a) n cap) (.sl xs)
 |ref (p:Addr) (cs:List AV) (cv:Nat->Value)
   (hc:∀(j:Nat)(c:AV),cs[j]?=O c->w.cell? (p.add j)=O (cv j))
   (hI:∀(j:Nat)(c:AV),cs[j]?=O c->I (p.add j))
   (hr:∀(j:Nat)(c:AV),cs[j]?=O c->cy w I (cv j) c):cy w I (.pointer (O p)) (.ref cs)
 |fn (f:FuncId) (vs:Array Value) (caps:List AV) (hl:vs.size=caps.length)
   (hr:∀(j:Nat)(c:AV),caps[j]?=O c->cy w I (vs.getD j undef) c):cy w I (.func (.func f) #[] vs) (.fn f caps)
 |agg (vs:Array Value) (cs:List AV) (hl:vs.size=cs.length)
   (hr:∀(j:Nat)(c:AV),cs[j]?=O c->cy w I (vs.getD j undef) c):cy w I (.agg vs) (.agg cs)
 |mR (t:TypeId) (v:Value) (x:AV) (hr:cy w I v x):cy w I (.iface t v) (.mR t x)
 |ptr (i off B:Nat) (h:I.ar i=O B):cy w I (.pointer (O ⟨B,off,Y⟩)) (.ptr i off)
 |view (i sz len B cap:Nat) (e:TypeId) (cur:Array Value) (A:Option Addr) (h:I.ar i=O B) (hw:w.heap[B]?=O (.cells cur e (0,0))) (hs:cur.size=cap*sz) (hl:len<=cap) (hA:0<cap->A=O ⟨B,0,Y⟩):cy w I (.slice A len cap) (.view i sz len)
 |lE (i sz:Nat) (A:Option Addr) (cap:Nat) (aen:cap<=maxLen) (hi:i%1000<2):cy w I (.slice A 0 cap) (.view i sz 0)
 |mp (i B:Nat) (h:I.ar i=O B):cy w I (.map (O B)) (.mp i)
 |hk (A:Option Addr):cy w I (.slice A 0 0) .hk
 |mc (f:FuncId) (vs:Array Value) (first:List AV) (hl:vs.size=first.length)
   (hr:∀(j:Nat)(c:AV),first[j]?=O c->cy w I (vs.getD j undef) c):cy w I (.func (.func f) vs #[]) (.mc f first)
theorem cy.mono {w:af} {I:aA} (G:dK w w' I I') {v:ag} {a:AV} (h:cy w I v a):cy w' I' v a:=by
 induction h with
 |fl v h=>exact .fl v h|fc c=>exact .fc c
 |sl a n cap sz xs o r s u hsz q l m b=>exact .sl a n cap sz xs o r s u hsz (λi j x c g k=>G.cell _ _ (l i j x c g k) (q i j x c g k)) (λi j x c g k=>G.mem _ (l i j x c g k)) b|ref p cs o q l m b=>exact .ref p cs o (λj c h=>G.cell _ _ (l j c h) (q j c h)) (λj c h=>G.mem _ (l j c h)) b
 |fn f vs caps d m b=>exact .fn f vs caps d b|agg vs cs d m b=>exact .agg vs cs d b
 |mR t v x m b=>exact .mR t v x b|ptr i off B h=>exact .ptr i off B (G.ar i B h)
 |view i sz len B cap e cur A h y z d C=>obtain⟨D,g,k⟩:=G.shape B cur e (0,0) y;exact .view i sz len B cap e D A (G.ar i B h) g (k.trans z) d C|lE i sz A cap h hi=>exact .lE i sz A cap h hi|mp i B h=>exact .mp i B (G.ar i B h)
 |hk A=>exact .hk A|mc f vs first d m b=>exact .mc f vs first d b
inductive Ob where
 |cells (cs:List AV)
 |br (e:TypeId) (xs:List AV)
 |map (es:List (AV×AV)) (c:Option (List Nat×Nat):=Y)
 deriving Inhabited
variable{a':Nat->V Ob}
inductive cH where
 |none
 |val (v:AV)
 |bF (xs:List AV)
 |dT (d g sz i k:Nat)
 |view (d g off len:Nat)
 |gw (rs:List cH)
 deriving Inhabited
variable{K:cH->Prop}{r:cH}
inductive Bx where
 |cells (cs:List cH)
 |br (e:TypeId) (xs:List AV)
 deriving Inhabited
structure St where
 r:Nat->cH
 b:Nat->Option Bx
 g:Nat->Nat
 a:Nat->Option Ob:=λ_=>Y
 u:Nat->Bool:=λ_=>F
 df:List AV:=[]
variable{X:AV->St->Prop}
def b8{α:Type}(f:Nat->α)(d:Nat)(v:α):Nat->α:=λt=>if t=d then v else f t
@[simp] theorem ch(f:Nat->α)(d:Nat)(v:α):b8 f d v d=v:=by simp[b8]
theorem aO(f:Nat->α){t:Nat}(v:α)(h:t≠d):b8 f d v t=f t:=by simp[b8,h]
def St.put (s:St) (dst:V Nat) (v:cH):St:=
 match dst with
 |some d=>{s with r:=b8 s.r d v}|none=>s
@[simp] theorem St.rF (s:St) (d:Nat) (v:cH):s.put (O d) v={s with r:=b8 s.r d v}:=rfl
@[simp] theorem St.ajs (s:St) (v:cH):s.put Y v=s:=rfl
def dV:ag->AV
 |.slice Y 0 0=>.sl []|v=>.fl v
def cB:ag->cH
 |.slice Y 0 0=>.bF []|.agg cs=>.val (.agg (cs.toList.map dV))
 |v=>.val (.fl v)
def St.ev (s:St):ah->cH
 |.tmp t=>s.r t|.const v=>cB v
 |.global g=>.val (.fl (.pointer (O ⟨g,0,Y⟩)))|.func f=>.val (.fn f [])
structure cd where
 hS:World->Prop
 cf:World->Nat->Prop
 iU:∀w w',hS w->(∀b,cf w b->w'.heap[b]?=w.heap[b]?)->hS w'/\∀b,cf w' b->cf w b
 lt:∀w b,hS w->cf w b->b<w.heap.size
 qp:Nat->Option (Option Nat):=λ_=>Y
 cT:Bool:=W
 ro:Nat->Option (Ob×Nat):=λ_=>Y
 it:Nat->Nat:=λ_=>0
 df:List AV:=[]
variable{E:cd}
def cd.plain (E:cd):cd:={hS:=E.hS,cf:=E.cf,iU:=E.iU,lt:=E.lt,it:=E.it}
def cd.LC (E:cd) (B:Nat):Prop:=∃d,E.qp d=O (O B)
theorem cd.eO (E:cd) (B:Nat):¬E.plain.LC B:=λ⟨_,h⟩=>by cases h
def cd.fresh (E:cd) (w0:af) (B:Nat):Prop:=w0.heap.size<=B∨E.LC B
structure ee(E:cd)(w0:World)(I0:aA)(w:World)(I:aA):Prop where
 os:w.os=w0.os
 tape:w.tape=w0.tape
 output:w.output=w0.output
 size:w0.heap.size<=w.heap.size
 block:∀k,k<w0.heap.size->¬E.cf w0 k->¬E.LC k->w.heap[k]?=w0.heap[k]?
 cf:∀b,E.cf w b->E.cf w0 b∨w0.heap.size<=b
 hS:E.hS w
 oO:∀p,I0 p->I p
 ar:∀i B,I0.ar i=O B->I.ar i=O B
 IY:E.cT=W->I.ar=I0.ar
 shape:∀B,gZ w0 w B
 new:∀p,I p->I0 p∨E.fresh w0 p.block
 lt:∀p,I p->p.block<w.heap.size
 off:∀p,I p->¬E.cf w p.block
section
variable(P:ai)(w:af)(I:aA)(be:Nat->V Nat)(b:Nat->V Bx)(g:Nat->Nat)
def eI(d off len:Nat)(v:ag):Prop:=
 match b d with
 |some (.br e xs)=>
  off+len<=xs.length/\
  match be d with
  |none=>∃A,v=.slice A len 0|some B=>∃cur cap A,w.heap[B]?=O (.cells cur e (0,0))/\cur.size=cap*P.cellsOf e/\v=.slice A len (cap-off)/\(off<cap->A=O ⟨B,off*P.cellsOf e,Y⟩)
 |_=>True
def bU(v:ag):cH->Prop
 |.none=>True|.val a=>cy w I v a
 |.bF xs=>cy w I v (.sl xs)/\∃A,v=.slice A xs.length xs.length|.dT d gg sz i k=>gg<=g d/\(gg=g d->b d≠Y->∃B,be d=O B/\v=.pointer (O ⟨B,i*sz+k,Y⟩))
 |.view d gg off len=>gg<=g d/\(gg=g d->eI P w be b d off len v)|.gw rs=>∃vs:Array ag,v=.tuple vs/\vs.size=rs.length/\∀(j:Nat)(r:cH),rs[j]?=O r->
   match r with
   |.none=>True|.val a=>cy w I (vs.getD j undef) a
   |.view d gg off len=>gg<=g d/\(gg=g d->eI P w be b d off len (vs.getD j undef))|_=>False
def jb(d:Nat):Bx->Prop
 |.cells cs=>∃B cur t,be d=O B/\w.heap[B]?=O (.cells cur t (0,0))/\cur.size=cs.length/\∀(j:Nat)(c:cH),cs[j]?=O c->bU P w I be b g (cur.getD j undef) c|.br e xs=>0<P.cellsOf e/\xs.length<=maxLen/\(∀(i:Nat)(x:AV),xs[i]?=O x->x.cells.length=P.cellsOf e/\x.wf)/\
  match be d with
  |none=>xs=[]|some B=>∃cur cap,w.heap[B]?=O (.cells cur e (0,0))/\cur.size=cap*P.cellsOf e/\cap<=maxLen/\xs.length<=cap/\∀(i j:Nat)(x c:AV),xs[i]?=O x->x.cells[j]?=O c->cy w I (cur.getD (i*P.cellsOf e+j) undef) c
end
def pM(P:ai)(w:af)(I:aA)(B:Nat):Ob->Prop
 |.cells cs=>∃cur t,w.heap[B]?=O (.cells cur t (0,0))/\cur.size=cs.length/\∀(j:Nat)(c:AV),cs[j]?=O c->cy w I (cur.getD j undef) c|.br e xs=>0<P.cellsOf e/\xs.length<=maxLen/\(∀(i:Nat)(x:AV),xs[i]?=O x->x.cells.length=P.cellsOf e/\x.wf)/\∃cur cap,w.heap[B]?=O (.cells cur e (0,0))/\cur.size=cap*P.cellsOf e/\cap<=maxLen/\xs.length<=cap/\∀(i j:Nat)(x c:AV),xs[i]?=O x->x.cells[j]?=O c->cy w I (cur.getD (i*P.cellsOf e+j) undef) c
 |.map d c=>∃a b,w.heap[B]?=O (.map a b)/\a.size=d.length/\(∀p,c=O p->a.toList.map (·.born)=p.1/\b=p.2)/\
   (∀(j:Nat)(x:MapEntry),a[j]?=O x->x.born<b/\∀(f:Nat)(g:MapEntry),a[f]?=O g->g.born=x.born->f=j)/\
   ∀(j:Nat)(e:AV×AV),d[j]?=O e->∃x,a[j]?=O x/\cy w I x.key e.1/\cy w I x.val e.2
def Ob.bare:Ob->Ob
 |.map a _=>.map a|x=>x
theorem pM.bare {w:af} {I:aA} {B:Nat} {x:Ob} (h:pM P w I B x):pM P w I B x.bare:=by
 cases x with
 |map g c=>obtain⟨a,clock,b,d,_,e,f⟩:=h;exact⟨a,clock,b,d,(λ_ h=>by cases h),e,f⟩
 |_=>exact h
def np:V Ob->V Ob
 |some x=>O x.bare|none=>Y
theorem zc{x:V Ob}{cs:Z AV}(h:np x=O (.cells cs)):x=O (.cells cs):=by
 cases x with
 |none=>cases h
 |some y=>cases y<;>simp[np,Ob.bare]at h;rw[h]
theorem EZ{x:V Ob}(h:np x=O (.br e xs)):x=O (.br e xs):=by
 cases x with
 |none=>cases h
 |some y=>cases y<;>simp[np,Ob.bare]at h;grind
theorem PC{x:V Ob}{a:Z (AV×AV)}(h:np x=O (.map a)):∃c,x=O (.map a c):=by
 cases x with
 |none=>cases h
 |some y=>
  cases y with
  |map b c=>grind [np,Ob.bare,aN,Ob.map.injEq]|_=>cases h
theorem LD{x:V Ob}{y:Ob}(h:np x=O y):∃z,x=O z/\z.bare=y:=by
 cases x with
 |none=>cases h
 |some z=>exact ⟨z,rfl,by simpa[np]using h⟩
theorem pM.eP {w:af} {I:aA} {B:Nat} {x:Ob} (h:pM P w I B x) (G:dK w w' I I') (f:w'.heap[B]?=w.heap[B]?):pM P w' I' B x:=by
 cases x with
 |cells cs=>obtain⟨cur,t,a,b,d⟩:=h;exact⟨cur,t,f.trans a,b,λj c g=>(d j c g).mono G⟩|br e xs=>obtain⟨a,b,d,cur,cap,k,l,m,n,o⟩:=h;exact⟨a,b,d,cur,cap,f.trans k,l,m,n,λi j x c p g=>(o i j x c p g).mono G⟩
 |map y c=>obtain⟨q,clock,a,b,r,d,k⟩:=h;refine⟨q,clock,f.trans a,b,r,d,λj e s=>?_⟩;obtain⟨x,q1,u,v⟩:=k j e s;exact⟨x,q1,u.mono G,v.mono G⟩
structure mX(P:Program)(E:cd)(w0 w:World)(I:aA)(a:Nat->Option Ob)(u:Nat->Bool)(T:Nat->Prop):Prop where
 h7:∀i x,a i=O x->∃B,I.ar i=O B/\pM P w I B x
 inj:∀i j B,a i≠Y->a j≠Y->I.ar i=O B->I.ar j=O B->i=j
 bR:∀i B,a i≠Y->I.ar i=O B->E.fresh w0 B/\B<w.heap.size/\(∀p,I p->p.block≠B)/\¬E.cf w B/\¬T B
 un:∀i,u i=F->I.ar i=Y
 ro:∀i x,E.ro i=O x->a i=O x.1/\I.ar i=O x.2
theorem mX.eP {w:af} {I:aA} {a:Nat->V Ob} {u:Nat->aa} {T l:Nat->Prop} (h:mX P E w0 w I a u T) (G:dK w w' I I') (d:I'.ar=I.ar)
  (n:∀i B,a i≠Y->I.ar i=O B->w'.heap[B]?=w.heap[B]?) (hsz:w.heap.size<=w'.heap.size) (o:∀p,I' p->I p∨∀i,a i≠Y->I.ar i≠O p.block)
  (q:∀b,b<w.heap.size->E.cf w' b->E.cf w b) (r:∀B,l B->T B∨∀i,a i≠Y->I.ar i≠O B):mX P E w0 w' I' a u l:=by
 refine⟨λi x c=>?_,λi j B e f g k=>?_,λi B hi m=>?_,λi hi=>by rw[d];exact h.un i hi,λi x c=>⟨(h.ro i x c).1,by rw[d];exact (h.ro i x c).2⟩⟩
 .obtain ⟨B,e,f⟩:=h.h7 i x c;exact⟨B,by grind,f.eP G (n i B (by simp[c]) e)⟩
 .rw[d]at g k;exact h.inj i j B e f g k
 .rw[d]at m;obtain⟨e,f,g,k,s⟩:=h.bR i B hi m
  grind
def pC(w:af)(I:aA)(ds:Z Deferred)(df:Z AV):Prop:=ds.length=df.length/\∀(j:Nat)(d:Deferred)(x:AV),ds[j]?=O d->df[j]?=O x->∃f vs caps,x=.fn f caps/\d.target=.fn (.func f) vs/\d.args=#[]/\cy w I (.func (.func f) #[] vs) x
theorem pC.mono {w:af} {I:aA} (G:dK w w' I I') {df:Z AV} (h:pC w I ds df):pC w' I' ds df:=⟨h.1,λj d x a b=>by obtain ⟨f,vs,caps,q1,c,e,g⟩:=h.2 j d x a b;exact ⟨f,vs,caps,q1,c,e,g.mono G⟩⟩
theorem pC.nil {w:af} {I:aA}:pC w I [] []:=⟨rfl,λj d x h=>by simp at h⟩
theorem pC.GH {w:af} {I:aA} (h:pC w I ds []):ds=[]:=oT h.1
structure aJ(P:Program)(E:cd)(w0:World)(I0:aA)(n:Nat)(s:St)(a:Act)(w:World)(I:aA)(be:Nat->Option Nat):Prop where
 since:ee E w0 I0 w I
 size:a.tmps.size=n
 defers:pC w I a.defers s.df
 ct:∀t,t<n->bU P w I be s.b s.g (a.tmps.getD t undef) (s.r t)
 bD:∀d x,s.b d=O x->jb P w I be s.b s.g d x
 inj:∀d d' B,s.b d≠Y->s.b d'≠Y->be d=O B->be d'=O B->d=d'
 bR:∀d B,s.b d≠Y->be d=O B->E.fresh w0 B/\B<w.heap.size/\(∀p,I p->p.block≠B)/\¬E.cf w B
 ru:∀(d:Nat)(bo:Option Nat),E.qp d=O bo->s.g d=0->s.b d≠Y->be d=bo
 aZ:mX P E w0 w I s.a s.u (λB=>∃d,s.b d≠Y/\be d=O B)
def ko(P:ai)(E:cd)(w0:af)(I0:aA)(n:Nat)(s:St)(a:Act)(w:af):Prop:=∃I be,aJ P E w0 I0 n s a w I be
section
variable{P:ai}{E:cd}{w0:af}{I0:aA}{n:Nat}{s:St}{a:Act}{w:af}{I:aA}{be:Nat->V Nat}
theorem aJ.put (h:aJ P E w0 I0 n s a w I be) (dst:V Nat) {v:ag} (c:bU P w I be s.b s.g v r):aJ P E w0 I0 n (s.put dst r) (a.put dst v) w I be:=by
 cases dst with
 |none=>exact h|some d=>
  refine⟨h.since,by simpa[Act.put]using h.size,h.defers,λt b=>?_,h.bD,h.inj,h.bR,h.ru,h.aZ⟩;simp only[Act.put,St.put,b8];by_cases e:t=d
  .subst e;have f:t<a.tmps.size:=by rw[h.size];exact b
   simp_all
  .have e':d≠t:=λx=>e x.symm;simpa[e,Ro e']using h.ct t b
theorem me{v:ag}(h:Vt v):cy w I v (dV v):=by
 unfold dV;split
 .exact .fc 0
 .exact .fl v h
def vD:ag->aa
 |.agg cs=>cs.all λv=>v.oneCell'|.tuple _=>F
 |_=>W
theorem vE{v:ag}(h:vD v=W):bU P w I be s.b s.g v (cB v):=by
 unfold cB;split
 .exact ⟨.fc 0,Y,rfl⟩
 .rename_i cs;refine .agg cs _ aH λj c a=>?_;simp only[vD,rB]at h;simp only[gu,tz,c8]at a;obtain⟨v,hv,rfl⟩:=a;have b:v∈cs:=kQ hv;have:=h v b;simp only[my,hv,gh];exact me this
 .rename_i d e;refine .fl v ?_;cases v<;>first|rfl|(simp[vD]at h;done)|grind
def ca:ah->aa
 |.const v=>vD v|_=>W
theorem aJ.ev (h:aJ P E w0 I0 n s a w I be) (x:ah) (b:ca x=W) (d:∀t,x=.tmp t->t<n):bU P w I be s.b s.g (a.eval x) (s.ev x):=by
 cases x with
 |tmp t=>exact h.ct t (d t rfl)|const v=>exact vE b
 |global g=>exact .fl _ rfl|func f=>exact .fn f #[] [] rfl (λj c e=>by simp at e)
end
section
variable{P:ai}{w w':af}{I I':aA}{be mY:Nat->V Nat}{b b':Nat->V Bx}{g g':Nat->Nat}
def fy(P:ai)(w w':af)(be mY:Nat->V Nat)(b b':Nat->V Bx)(d:Nat):Prop:=(b' d≠Y->b d≠Y/\mY d=be d)/\∀off len v,eI P w be b d off len v->eI P w' mY b' d off len v
theorem bU.eP (G:dK w w' I I') (l:∀d,g d<g' d∨(g' d=g d/\fy P w w' be mY b b' d))
  {v:ag} (h:bU P w I be b g v r):bU P w' I' mY b' g' v r:=by
 have hv:∀(d gg off len:Nat)(v:ag),(gg<=g d/\(gg=g d->eI P w be b d off len v))->(gg<=g' d/\(gg=g' d->eI P w' mY b' d off len v)):=by
  rintro d gg off len v ⟨c,f⟩;rcases l d with m|⟨n,_,o⟩
  grind
  grind
 cases r with
 |none=>trivial|val a=>exact cy.mono G h
 |bF xs=>exact ⟨cy.mono G h.1,h.2⟩|dT d gg sz i k=>
  obtain⟨c,f⟩:=h;rcases l d with m|⟨n,p,_⟩
  .exact ⟨M,λe=>M⟩
  .refine ⟨M,λe q=>?_⟩
   grind
 |view d gg off len=>exact hv d gg off len v h|gw rs=>
  obtain⟨vs,c,f,s⟩:=h;refine⟨vs,c,f,λj r t=>?_⟩
  grind [cy.mono]
theorem jb.eP (G:dK w w' I I') (p:∀d,g d<g' d∨(g' d=g d/\fy P w w' be mY b b' d))
  {x:Bx} (q:mY d=be d) (n:∀B,be d=O B->w'.heap[B]?=w.heap[B]?) (h:jb P w I be b g d x):jb P w' I' mY b' g' d x:=by
 cases x with
 |cells cs=>obtain⟨B,cur,t,f,k,l,a⟩:=h;exact⟨B,cur,t,by grind,(n B f).trans k,l,λj c m=>bU.eP G p (a j c m)⟩|br e xs=>
  obtain⟨f,k,l,a⟩:=h;refine⟨f,k,l,?_⟩;rw[q];cases o:be d with
  |none=>grind|some B=>simp only[o]at a;obtain⟨cur,cap,r,s,u,v,y⟩:=a;exact⟨cur,cap,(n B o).trans r,s,u,v,λi j x c z m=>cy.mono G (y i j x c z m)⟩
theorem fy.ig (a:b' d=b d) (c:mY d=be d) (f:∀B,b d≠Y->be d=O B->w'.heap[B]?=w.heap[B]?):fy P w w' be mY b b' d:=by
 refine⟨λh=>⟨by rwa[<-a],c⟩,λoff len v h=>?_⟩;unfold eI at h⊢;rw[a,c];cases g:b d with
 |none=>simp|some x=>
  cases x with
  |cells cs=>simp|br e xs=>grind
theorem dn(h:w'.heap[p.block]?=w.heap[p.block]?):w'.cell? p=w.cell? p:=by simp[World.cell?,h]
end
section
variable{P:ai}{E:cd}{w0:af}{I0:aA}{n:Nat}{s:St}{a:Act}{w w':af}{I I':aA}{be mY:Nat->V Nat}
theorem ee.step (h:ee E w0 I0 w I) (q:w'.os=w.os) (r:w'.tape=w.tape) (s:w'.output=w.output) (hsz:w.heap.size<=w'.heap.size) (Mloc:Nat->Prop)
  (l:∀k,k<w.heap.size->¬Mloc k->w'.heap[k]?=w.heap[k]?) (m:∀k,Mloc k->E.fresh w0 k/\¬E.cf w k) (t:∀B,gZ w w' B) (u:∀p,I p->I' p) (n:I'.ar=I.ar) (e:∀p,I' p->I p∨(E.fresh w0 p.block/\p.block<w'.heap.size/\¬E.cf w p.block)):ee E w0 I0 w' I':=by
 have f:=E.iU w w' h.hS (λb d=>l b (E.lt w b h.hS d) (λg=>(m b g).2 d));refine⟨q.trans h.os,r.trans h.tape,s.trans h.output,ef h.size hsz,λk o j v=>?_,λb d=>h.cf b (f.2 b d),f.1,λp c=>u p (h.oO p c),λi B hi=>by rw[n];exact h.ar i B hi,λx=>n.trans (h.IY x),λB=>(h.shape B).trans (t B),λp c=>?_,λp c=>?_,λp c j=>?_⟩
 .rw[l k (jQ o h.size) (λg=>by
   rcases(m k g).1 with a|a
   .omega
   grind)]
  exact h.block k o j v
 .rcases e p c with a|⟨a,_⟩
  .exact h.new p a
  grind
 .rcases e p c with a|⟨_,a,_⟩
  .exact jQ (h.lt p a) hsz
  .exact a
 .rcases e p c with a|⟨_,_,a⟩
  .exact h.off p a (f.2 _ j)
  grind
theorem Bg(h:∀k,k<w.heap.size->w'.heap[k]?=w.heap[k]?)(B:Nat):gZ w w' B:=λcur t fr a=>by grind
theorem sI{a:Nat}{b:Array ag}(h:∀k,k≠a->k<w.heap.size->w'.heap[k]?=w.heap[k]?)(h0:w.heap[a]?=O (.cells cur t fr))(d:w'.heap[a]?=O (.cells b t fr))(e:b.size=cur.size)(B:Nat):gZ w w' B:=λc t' f g=>by grind
theorem aJ.Bh (h:aJ P E w0 I0 n s a w I be) (c:∀k,k<w.heap.size->(∀d,s.b d≠Y->be d≠O k)->w'.heap[k]?=w.heap[k]?):∀p v,I p->w.cell? p=O v->w'.cell? p=O v:=by intro p v b hv;rw[dn (c p.block (h.since.lt p b) (λd e f=>(h.bR d p.block e f).2.2.1 p b rfl))];exact hv
theorem ee.oW (h:ee E w0 I0 w I) (a:∀b,E.cf w b->w'.heap[b]?=w.heap[b]?) (b:Nat):E.cf w' b->E.cf w b:=(E.iU w w' h.hS a).2 b
theorem aJ.gi (h:aJ P E w0 I0 n s a w I be) {T:Nat->Prop} (G:dK w w' I I') (g:I'.ar=I.ar) (Mloc:Nat->Prop) (j:∀i B,s.a i≠Y->I.ar i=O B->¬Mloc B)
  (e:∀k,k<w.heap.size->¬Mloc k->w'.heap[k]?=w.heap[k]?) (hsz:w.heap.size<=w'.heap.size) (l:∀k,Mloc k->¬E.cf w k)
  (m:∀p,I' p->I p∨∀i,s.a i≠Y->I.ar i≠O p.block) (o:∀B,T B->(∃d,s.b d≠Y/\be d=O B)∨∀i,s.a i≠Y->I.ar i≠O B):mX P E w0 w' I' s.a s.u T:=by
 refine h.aZ.eP G g (λi B hi f=>?_) hsz m (λb c q=>?_) o
 .exact e B (h.aZ.bR i B hi f).2.1 (j i B hi f)
 .exact h.since.oW (λb c=>e b (E.lt w b h.since.hS c) (λr=>l b r c)) b q
theorem aJ.grow (h:aJ P E w0 I0 n s a w I be) (l:w'.os=w.os) (m:w'.tape=w.tape) (o:w'.output=w.output) (hsz:w.heap.size<=w'.heap.size)
  (c:∀k,k<w.heap.size->w'.heap[k]?=w.heap[k]?):aJ P E w0 I0 n s a w' I be:=by
 have p:=h.since.step (I':=I) l m o hsz (λ_=>False) (λk e _=>c k e) (λk e=>e.elim) (Bg c) (λ_ h=>h) rfl (λ_ h=>.inl h);have i:dK w w' I I:=.world (h.Bh (w':=w') (λk e _=>c k e)) (Bg c);have f:∀d B,s.b d≠Y->be d=O B->w'.heap[B]?=w.heap[B]?:=λd B g f=>c B (h.bR d B g f).2.1;have g:∀d,s.g d<s.g d∨(s.g d=s.g d/\fy P w w' be be s.b s.b d):=λd=>.inr ⟨rfl,.ig rfl rfl (λB q=>f d B q)⟩;refine⟨p,h.size,h.defers.mono i,λt r=>(h.ct t r).eP i g,λd x j=>(h.bD d x j).eP i g rfl (λB=>f d B (by simp[j])),h.inj,λd B g f=>?_,h.ru,h.gi i rfl (λ_=>False) (λ_ _ _ _ h=>h) (λk e _=>c k e) hsz (λ_ h=>h.elim) (λ_ h=>.inl h) (λ_ h=>.inl h)⟩;obtain⟨u,C,v,y⟩:=h.bR d B g f;refine⟨u,M,v,λz=>y ?_⟩;exact(E.iU w w' h.since.hS (λb A=>c b (E.lt w b h.since.hS A))).2 B z
theorem aJ.mz (h:aJ P E w0 I0 n s a w I be) (d:Nat) (x:Bx) (bo:V Nat)
  (C:jb P w I (b8 be d bo) (b8 s.b d (O x)) (b8 s.g d (s.g d+1)) d x)
  (D:∀B,bo=O B->E.fresh w0 B/\B<w.heap.size/\(∀p,I p->p.block≠B)/\¬E.cf w B/\∀d',d'≠d->s.b d'≠Y->be d'≠O B)
  (G:∀B,bo=O B->∀i,s.a i≠Y->I.ar i≠O B):
  aJ P E w0 I0 n {s with b:=b8 s.b d (O x),g:=b8 s.g d (s.g d+1)} a w I (b8 be d bo):=by
 have k:∀d',s.g d'<b8 s.g d (s.g d+1) d'∨(b8 s.g d (s.g d+1) d'=s.g d'/\fy P w w be (b8 be d bo) s.b (b8 s.b d (O x)) d'):=by
  intro d';by_cases e:d'=d;simp_all
  .right;exact⟨aO _ _ e,.ig (aO _ _ e) (aO _ _ e) (λ_ _ _=>rfl)⟩
 refine⟨h.since,h.size,h.defers,λt v=>(h.ct t v).eP (.refl _ _) k,λd' y l=>?_,λm o B j c f q=>?_,λd' B r u=>?_,λd' B j c f=>by
  by_cases e:d'=d;simp_all
  .simp only[aO _ _ e]at c f⊢;exact h.ru d' B j c f,?_⟩
 .by_cases e:d'=d;simp_all
  .simp only[aO _ _ e]at l;exact(h.bD d' y l).eP (.refl _ _) k (aO _ _ e) (λ_ _=>rfl)
 .by_cases z:m=d
  grind [ch,aO,absurd]
  .by_cases A:o=d
   grind [ch,aO,absurd]
   .simp only[aO _ _ z]at j f;simp only[aO _ _ A]at c q;exact h.inj m o B j c f q
 .by_cases e:d'=d;simp_all
  .simp only[aO _ _ e]at r u;exact h.bR d' B r u
 .refine h.gi (.refl _ _) rfl (λ_=>False) (λ_ _ _ _ h=>h) (λ_ _ _=>rfl) (bq _) (λ_ h=>h.elim) (λ_ h=>.inl h) ?_
  grind [ch,aO]
theorem aJ.drop (h:aJ P E w0 I0 n s a w I be) (d:Nat):aJ P E w0 I0 n {s with b:=b8 s.b d Y} a w I be:=by
 have j:∀d',s.g d'<s.g d'∨(s.g d'=s.g d'/\fy P w w be be s.b (b8 s.b d Y) d'):=by
  intro d';refine .inr ⟨rfl,?_⟩;by_cases e:d'=d
  .subst e;exact⟨λh=>by simp at h,λoff len v _=>by simp[eI]⟩
  .exact .ig (aO _ _ e) rfl (λ_ _ _=>rfl)
 refine⟨h.since,h.size,h.defers,λt p=>(h.ct t p).eP (.refl _ _) j,λd' q k=>?_,λl m B c f g r=>?_,λd' B i o=>?_,λd' B c f g=>by
  by_cases e:d'=d;simp_all
  .simp only[aO _ _ e]at g;exact h.ru d' B c f g,?_⟩
 .by_cases e:d'=d;simp_all
  .simp only[aO _ _ e]at k;exact(h.bD d' q k).eP (.refl _ _) j rfl (λ_ _=>rfl)
 .have u:l≠d:=λe=>by simp_all
  have x:m≠d:=λe=>by simp_all
  simp only[aO _ _ u]at c;simp only[aO _ _ x]at f;exact h.inj l m B c f g r
 .have e:d'≠d:=λe=>by simp_all
  simp only[aO _ _ e]at i;exact h.bR d' B i o
 .refine h.gi (.refl _ _) rfl (λ_=>False) (λ_ _ _ _ h=>h) (λ_ _ _=>rfl) (bq _) (λ_ h=>h.elim) (λ_ h=>.inl h) ?_;rintro B ⟨d',i,o⟩;have e:d'≠d:=λe=>by simp_all
  grind [aO]
theorem aJ.vF (h:aJ P E w0 I0 n s a w I be) (d:Nat) (x f:Bx) (B:Nat) (l:s.b d=O x) (g:be d=O B) (cur b:Array ag) (t:an)
  (m:w.heap[B]?=O (.cells cur t (0,0))) (hsz:b.size=cur.size) (c:(∃cs o,x=.cells cs/\f=.cells o)∨(∃e xs i,x=.br e xs/\f=.br e i/\i.length=xs.length)):
  dK w (w.setRow B b) I I/\∀d',s.g d'<s.g d'∨(s.g d'=s.g d'/\fy P w (w.setRow B b) be be s.b (b8 s.b d (O f)) d'):=by
 have j:s.b d≠Y:=by simp[l]
 obtain⟨A,C,D,G⟩:=h.bR d B j g;have q:∀k,k≠B->(w.setRow B b).heap[k]?=w.heap[k]?:=λk c=>og w B k b c;have r:=pA w B cur b t (0,0) m;refine⟨.world (λp v H hv=>by grind [dn]) (sI (λk c _=>q k c) m r hsz),λd'=>.inr ⟨rfl,?_⟩⟩;by_cases e:d'=d
 .subst e;refine⟨λ_=>⟨j,rfl⟩,λoff len v hv=>?_⟩;unfold eI at hv⊢;simp only[ch,l,g]at hv⊢;rcases c with⟨cs,o,rfl,rfl⟩|⟨e,xs,i,rfl,rfl,J⟩
  .trivial
  grind
 .exact .ig (aO _ _ e) rfl (λB' u y=>q B' (λz=>e (h.inj d' d B u j (by rw[y,z]) g)))
theorem aJ.hg (h:aJ P E w0 I0 n s a w I be) (d:Nat) (x f:Bx) (B:Nat) (z:s.b d=O x) (q:be d=O B) (cur g:Array ag) (t:an)
  (J:w.heap[B]?=O (.cells cur t (0,0))) (hsz:g.size=cur.size) (c:(∃cs K,x=.cells cs/\f=.cells K)∨(∃e xs A,x=.br e xs/\f=.br e A/\A.length=xs.length))
  (f0:jb P (w.setRow B g) I be (b8 s.b d (O f)) s.g d f):
  aJ P E w0 I0 n {s with b:=b8 s.b d (O f)} a (w.setRow B g) I be:=by
 have u:s.b d≠Y:=by simp[z]
 obtain⟨g0,h0,i0,L⟩:=h.bR d B u q;have r:∀k,k≠B->(w.setRow B g).heap[k]?=w.heap[k]?:=λk c=>og w B k g c;obtain⟨j,C⟩:=h.vF d x f B z q cur g t J hsz c;have N:=h.since.step (w':=w.setRow B g) (I':=I) rfl rfl rfl aH (λk=>k=B) (λk _ c=>r k c) (λk c=>by grind) j.shape (λ_ h=>h) rfl (λ_ h=>.inl h);have Q:∀b,E.cf (w.setRow B g) b->E.cf w b:=(E.iU w _ h.since.hS (λb R=>r b (λe=>L (e▸R)))).2;have l:∀d',b8 s.b d (O f) d'≠Y->s.b d'≠Y:=λd' S=>by grind [aO]
 refine⟨N,h.size,h.defers.mono j,λt T=>(h.ct t T).eP j C,λd' y v=>?_,λD G B' m o H U=>?_,λd' B' l p=>?_,λd' B' m o H=>h.ru d' B' m o (by grind),h.gi j rfl (λk=>k=B) (λi B' hi p e=>by subst e;exact (h.aZ.bR i _ hi p).2.2.2.2 ⟨d,u,q⟩) (λk _ c=>r k c) aH (λk c=>by grind) (λ_ h=>.inl h) (λB' ⟨d',m,o⟩=>.inl ⟨d',l d' m,o⟩)⟩
 .by_cases e:d'=d;simp_all
  .simp only[aO _ _ e]at v;exact(h.bD d' y v).eP j C rfl (λB' p=>r B' (λX=>e (h.inj d' d B (by simp[v]) u (by rw[p,X]) q)))
 .have l:∀d',b8 s.b d (O f) d'≠Y->s.b d'≠Y:=λd' S=>by grind
  exact h.inj D G B' (l D m) (l G o) H U
 .have a0:s.b d'≠Y:=by grind
  obtain⟨q1,b0,c0,d0⟩:=h.bR d' B' a0 p;exact⟨q1,by simpa using b0,c0,λe0=>d0 (Q _ e0)⟩
theorem aJ.Vy (h:aJ P E w0 I0 n s a w I be) (Mloc:Nat->Prop) (f:∀B,Mloc B->E.fresh w0 B/\(∀p,I p->p.block≠B)/\¬E.cf w B/\∀d,s.b d≠Y->be d≠O B) (y:∀i B,s.a i≠Y->I.ar i=O B->¬Mloc B) (o:∀B,gZ w w' B)
  (z:w'.os=w.os) (A:w'.tape=w.tape) (C:w'.output=w.output) (hsz:w.heap.size<=w'.heap.size)
  (g:∀k,k<w.heap.size->¬Mloc k->w'.heap[k]?=w.heap[k]?):aJ P E w0 I0 n s a w' I be:=by
 have D:=h.since.step (I':=I) z A C hsz Mloc g (λk l=>⟨(f k l).1,(f k l).2.2.1⟩) o (λ_ h=>h) rfl (λ_ h=>.inl h);have m:dK w w' I I:=.world (λp v q hv=>by rw[dn (g p.block (h.since.lt p q) (λj=>(f _ j).2.1 p q rfl))];exact hv) o;have c:∀d B,s.b d≠Y->be d=O B->w'.heap[B]?=w.heap[B]?:=λd B e c=>g B (h.bR d B e c).2.1 (λj=>(f _ j).2.2.2 d e c);have e:∀d,s.g d<s.g d∨(s.g d=s.g d/\fy P w w' be be s.b s.b d):=λd=>.inr ⟨rfl,.ig rfl rfl (λB G=>c d B G)⟩;refine⟨D,h.size,h.defers.mono m,λt H=>(h.ct t H).eP m e,λd x r=>(h.bD d x r).eP m e rfl (λB=>c d B (by simp[r])),h.inj,λd B e c=>?_,h.ru,h.gi m rfl Mloc y g hsz (λk l=>(f k l).2.2.1) (λ_ h=>.inl h) (λ_ h=>.inl h)⟩;obtain⟨J,Q,K,L⟩:=h.bR d B e c;refine⟨J,M,K,λN=>L ?_⟩;exact(E.iU w w' h.since.hS (λb u=>g b (E.lt w b h.since.hS u) (λj=>(f b j).2.2.1 u))).2 B N
theorem aJ.Vz (h:aJ P E w0 I0 n s a w I be) (B:Nat) (r:E.fresh w0 B/\B<w.heap.size/\¬E.cf w B/\∀d,s.b d≠Y->be d≠O B) (u:∀i,s.a i≠Y->I.ar i≠O B):
  aJ P E w0 I0 n s a w (I.plus λp=>p.block=B) be:=by
 have f:=h.since.step (w':=w) (I':=I.plus λp=>p.block=B) rfl rfl rfl (bq _) (λ_=>False) (λ_ _ _=>rfl) (λ_ g=>g.elim) (gZ.refl w) (λ_ h=>.inl h) rfl
  (by
    rintro p (b|rfl)
    grind
    grind)
 have c:∀d,s.g d<s.g d∨(s.g d=s.g d/\fy P w w be be s.b s.b d):=λd=>.inr ⟨rfl,.ig rfl rfl (λ_ _ _=>rfl)⟩;refine⟨f,h.size,h.defers.mono (.plus _ _ _),λt j=>(h.ct t j).eP (.plus _ _ _) c,λd x k=>(h.bD d x k).eP (.plus _ _ _) c rfl (λB _=>rfl),h.inj,λd B' c l=>?_,h.ru,h.gi (.plus _ _ _) rfl (λ_=>False) (λ_ _ _ _ h=>h) (λ_ _ _=>rfl) (bq _) (λ_ h=>h.elim) (λp b=>b.imp id λe i hi=>by grind) (λ_ h=>.inl h)⟩;obtain⟨m,o,v,q⟩:=h.bR d B' c l;refine⟨m,o,λp b=>?_,q⟩;rcases b with b|b
 grind
 grind
theorem qq{w:af}{B:Nat}(a:w.heap[B]?=O (.cells cur t fr))(k:Nat):w.cell? ⟨B,k,Y⟩=cur[k]?:=cell_of_row w B k cur t fr a
theorem eo(B o k:Nat):(⟨B,o,Y⟩:bY).add k=⟨B,o+k,Y⟩:=by grind [Addr.add]
theorem getD_some(h:k<cur.size):cur[k]?=O (cur.getD k undef):=by simp[h]
theorem qt(hi:i<len)(a:len<=cap)(b:j<sz):i*sz+j<cap*sz:=by
 have c:(i+1)*sz<=cap*sz:=hR _ M
 grind
theorem vG{v:ag}{I':aA}(t:s.b d=O (.br e xs))(b:jb P w I be s.b s.g d (.br e xs))(hv:eI P w be s.b d off len v)
  (u:dK w w I I') (J:∀B,be d=O B->∀p:bY,p.block=B->I' p):cy w I' v (.sl ((xs.drop off).take len)):=by
 obtain⟨K,L,N,g⟩:=b;unfold eI at hv;simp only[t]at hv;obtain⟨Q,hv⟩:=hv;cases m:be d with
 |none=>
  simp only[m]at hv g;subst g;obtain⟨A,rfl⟩:=hv;have l:len=0:=by grind
  subst l;cases A with
  |none=>exact .fc 0|some a=>exact .sl a 0 0 0 _ (λ_ _=>undef) aH aH (by grind) (λi x b=>by simp at b) (λi j x c b=>by simp at b) (λi j x c b=>by simp at b) (λi j x c b=>by simp at b)
 |some B=>
  simp only[m]at hv g;obtain⟨cur,cap,A,hw,hs,rfl,y⟩:=hv;obtain⟨R,h,k,S,hm,T,z⟩:=g;rw[hw]at k;injection k with k;injection k with C U;subst C;have D:h=cap:=by grind [lJ]
  subst D;by_cases E:off<h
  .obtain rfl:=y E;have G:((xs.drop off).take len).length=len:=dx;have n:∀(i j:Nat)(x c:AV),((xs.drop off).take len)[i]?=O x->x.cells[j]?=O c->xs[off+i]?=O x/\off*P.cellsOf e+(i*P.cellsOf e+j)=(off+i)*P.cellsOf e+j/\(off+i)*P.cellsOf e+j<cur.size:=by grind [cr,Nat.add_mul,qt]
   refine .sl _ len (h-off) (P.cellsOf e) _ (λi j=>cur.getD ((off+i)*P.cellsOf e+j) undef) G.symm M M (λi x b=>?_) (λi j x c b f=>?_) (λi j x c b f=>?_) (λi j x c b f=>?_)
   grind
   .obtain ⟨o,q,r⟩:=n i j x c b f;rw[eo,q,qq hw,getD_some r]
   .rw[eo]
    grind
   .obtain ⟨o,q,r⟩:=n i j x c b f;exact(z _ _ x c o f).mono u
  .have l:len=0:=M;subst l;have H:h-off=0:=M;rw[H];cases A with
   |none=>exact .fc 0|some a=>exact .sl a 0 0 0 _ (λ_ _=>undef) aH aH (by grind) (λi x b=>by simp at b) (λi j x c b=>by simp at b) (λi j x c b=>by simp at b) (λi j x c b=>by simp at b)
end
def mZ(P:ai)(t:an):V aa:=
 match P.underlying t with
 |some (.struct _)|some (.array _ _)=>O W|some _=>O F
 |none=>Y
theorem pN(h:mZ P t=O b)(w:af):(isAgg t).run P w=.ok b w:=by
 unfold mZ at h;cases a:P.underlying t with
 |none=>grind|some d=>unfold isAgg;rw[cx,eH a w];cases d<;>simp_all
theorem gF(h:P.cellsOf t=k)(a:0<k)(w:af):(sizeOf t).run P w=.ok k w:=by
 unfold Program.cellsOf at h;cases hi:P.info? t with
 |none=>grind|some i=>simp[hi]at h;simp[sizeOf,typeInfo,hi,h]
theorem add_add(a:bY)(i j:Nat):(a.add i).add j=a.add (i+j):=by grind [Addr.add,Nat.add_assoc]
theorem add_zero(a:bY):a.add 0=a:=by simp[Addr.add]
theorem rG{w:af}(a:∀(j:Nat)(v:ag),vs[j]?=O v->w.cell? (p.add j)=O v)
   (c:mZ P t=O b) (d:0<P.cellsOf t) (g:P.cellsOf t<=vs.length):
  (loadVar t p).run P w=.ok (if b then .agg (vs.take (P.cellsOf t)).toArray else vs.headD undef) w:=by
 unfold loadVar;rw[cx,pN c];simp only[cL];cases b with
 |true=>simp only[cm];have e:(loadCells p (vs.take (P.cellsOf t)).length).run P w=.ok (vs.take (P.cellsOf t)).toArray w:=run_loadCells_list (P:=P) w p (vs.take (P.cellsOf t)) (λj v hv=>by grind);have f:(vs.take (P.cellsOf t)).length=P.cellsOf t:=dx;rw[f]at e;rw[cx,gF rfl d];simp_all|false=>
  cases vs with
  |nil=>grind|cons v rest=>have:=a 0 v rfl;rw[add_zero]at this;simp[this]
def kU(w:af)(I:aA)(p:bY)(cs:Z AV)(vs:Z ag):Prop:=vs.length=cs.length/\(∀(j:Nat)(v:ag),vs[j]?=O v->w.cell? (p.add j)=O v)/\∀(j:Nat)(v:ag)(c:AV),vs[j]?=O v->cs[j]?=O c->cy w I v c
theorem kU.drop {w:af} {I:aA} {cs:Z AV} (h:kU w I p cs vs) (k:Nat):kU w I (p.add k) (cs.drop k) (vs.drop k):=by
 refine⟨by simp[h.1],λj v hv=>?_,λj v c hv a=>?_⟩
 .rw[vB]at hv;rw[add_add];exact h.2.1 _ _ hv
 .rw[vB]at hv a;exact h.2.2 _ _ _ hv a
theorem Bi{w:af}{I:aA}{cs:Z AV}(f:Nat->ag)(a:∀(j:Nat)(c:AV),cs[j]?=O c->w.cell? (p.add j)=O (f j))(b:∀(j:Nat)(c:AV),cs[j]?=O c->cy w I (f j) c):
  kU w I p cs ((List.range cs.length).map f):=by
 refine⟨aH,λj v hv=>?_,λj v c hv d=>?_⟩
 .simp only[gu,c8]at hv;obtain⟨k,e,rfl⟩:=hv;have g:j<cs.length:=by grind
  simp_all
 grind
theorem cy.PD {w:af} {I:aA} {v:ag} {cs:Z AV} (h:cy w I v (.ref cs)):∃p vs,v=.pointer (O p)/\kU w I p cs vs:=by
 cases h with
 |ref p cs a b d c=>exact ⟨p,_,rfl,Bi a b c⟩
theorem Bj(f:Nat->ag)(a:j<n):((List.range n).map f)[j]?=O (f j):=by simp[a]
def jR(P:ai)(t:an)(cs:Z AV)(K:AV->Prop):Prop:=
 0<P.cellsOf t/\P.cellsOf t<=cs.length/\
 match mZ P t with
 |some W=>K (.agg (cs.take (P.cellsOf t)))|some F=>K (cs.headD (.fl undef))
 |none=>False
theorem qu{cs:Z AV}{K:AV->Prop}(h:jR P t cs K):∃y,K y/\jR P t cs (·=y):=by
 obtain⟨c,d,a⟩:=h;cases e:mZ P t with
 |none=>grind|some b=>cases b with
  |true=>simp only[e]at a;exact ⟨_,a,c,d,by grind⟩|false=>simp only[e]at a;exact ⟨_,a,c,d,by grind⟩
theorem nA{w:af}{I:aA}{cs:Z AV}{K:AV->Prop}(a:kU w I p cs vs)(h:jR P t cs K):
  ∃v x,(loadVar t p).run P w=.ok v w/\cy w I v x/\K x:=by
 obtain⟨i,k,d⟩:=h;cases f:mZ P t with
 |none=>grind|some b=>
  have g:=rG a.2.1 f i (by rw[a.1];exact k);cases b with
  |true=>
   simp only[f]at d;refine⟨_,_,g,?_,d⟩;simp only[cm];refine .agg _ _ (by simp[a.1]) λj c e=>?_;rw[rC]at e;split at e
   .rename_i m;have l:j<vs.length:=by rw[a.1];grind
    have:=a.2.2 j vs[j] c (cX l) e;simp_all
   .cases e
  |false=>
   simp only[f]at d;refine⟨_,_,g,?_,d⟩;cases cs with
   |nil=>grind|cons c rest=>
    cases vs with
    |nil=>simp[kU]at a|cons v n=>exact a.2.2 0 v c rfl rfl
def dL(P:ai)(E:cd)(w0:af)(I0:aA)(n:Nat)(o:aC)(s:St)(K:St->Prop):Prop:=∀a w,ko P E w0 I0 n s a w->∀b,o.wp P a w (λa' w'=>∃s',ko P E w0 I0 n s' a' w'/\K s') b
theorem fS{o:aC}{w:af}{v:ag}(h:(execOp a.eval o).run P w=.ok (.value v) w')(b:next (a.put o.dst v) w'):o.wp P a w next Q:=by unfold Oper.wp;rw[h];exact b
section
variable{P:ai}{E:cd}{w0:af}{I0:aA}{n:Nat}{o:aC}{s:St}{K:St->Prop}
def ba(n:Nat)(o:aC):aa:=o.op.operands.all λx=>ca x&&match x with|.tmp t=>decide (t<n)|_=>W
theorem aM(b:ba n o=W){x:ah}(c:x∈o.op.operands){w:af}{I:aA}(h:aJ P E w0 I0 n s a w I be):bU P w I be s.b s.g (a.eval x) (s.ev x):=by
 have:=rB.1 b x c;simp only[aP]at this;refine h.ev x this.1 λt d=>?_
 grind
def dZ(P:ai)(E:cd)(w0:af)(I0:aA)(n:Nat)(o:aC)(s:St)(r:cH):Prop:=∀a w I be,aJ P E w0 I0 n s a w I be->∃v,(execOp a.eval o).run P w=.ok (.value v) w/\bU P w I be s.b s.g v r
theorem kD(r:cH)(c:K (s.put o.dst r))(h:∀a w I be,aJ P E w0 I0 n s a w I be->∃v,(execOp a.eval o).run P w=.ok (.value v) w/\bU P w I be s.b s.g v r):dL P E w0 I0 n o s K:=by rintro a w ⟨I,be,b⟩ e;obtain⟨v,d,hv⟩:=h a w I be b;exact fS d ⟨_,⟨I,be,b.put o.dst hv⟩,c⟩
theorem LF{x:ah}(b:o.op=.move x)(c:ba n o=W):dZ P E w0 I0 n o s (s.ev x):=λa w I be d=>⟨a.eval x,by simp[execOp,b],aM c (by simp[b,Op.operands]) d⟩
theorem GI{x:ah}(b:o.op=.assign x)(c:ba n o=W):dZ P E w0 I0 n o s (s.ev x):=λa w I be d=>⟨a.eval x,by simp[execOp,b],aM c (by simp[b,Op.operands]) d⟩
theorem bV{w:af}{I:aA}{v u:ag}(h:cy w I v (.fl u)):v=u:=by cases h;rfl
theorem LG{c x:ah}(d:o.op=.pick c x y)(e:ba n o=W)(i:s.ev c=.val (.fl (.bool b))):dZ P E w0 I0 n o s (if b then s.ev x else s.ev y):=
 λa w I be f=>by
  have g:=aM e (x:=c) (by simp[d,Op.operands]) f;have j:=aM e (x:=x) (by simp[d,Op.operands]) f;have k:=aM e (x:=y) (by simp[d,Op.operands]) f;rw[i]at g;have h:=bV g;cases b with
  |true=>exact ⟨a.eval x,by simp[execOp,d,h,asBool],j⟩|false=>exact ⟨a.eval y,by simp[execOp,d,h,asBool],k⟩
theorem Em{x:ah}(b:o.op=.extract x k)(e:ba n o=W){rs:Z cH}(f:s.ev x=.gw rs)(g:rs[k]?=O r):dZ P E w0 I0 n o s r:=
 λa w I be h=>by
  have c:=aM e (x:=x) (by simp[b,Op.operands]) h;rw[f]at c;obtain⟨vs,e1,e2,i⟩:=c;have j:k<vs.size:=by grind
  have d:=i k r g;refine⟨vs.getD k undef,?_,?_⟩
  .simp[execOp,b,e1,Instr.extract,j]
  .cases r<;>first|exact d|trivial|exact d.elim
theorem Bk{x:ah}(e:o.op=.load t x)(f:ba n o=W){cs:Z AV}(g:s.ev x=.val (.ref cs)){K:AV->Prop}(c:jR P t cs K):∃v,K v/\dZ P E w0 I0 n o s (.val v):=by
 have h:∀(a:Act)(w:af)(I:aA)(be:Nat->V Nat),aJ P E w0 I0 n s a w I be->∀K:AV->Prop,jR P t cs K->∃v y,(execOp a.eval o).run P w=.ok (.value v) w/\cy w I v y/\K y:=by intro a w I be d K c;have b:=aM f (x:=x) (by simp[e,Op.operands]) d;rw[g]at b;obtain⟨p,vs,e1,i⟩:=cy.PD b;obtain⟨v,y,j,k,l⟩:=nA i c;exact⟨v,y,by simp[execOp,e,e1,Instr.loadAt,Instr.sureAddr,j],k,l⟩
 obtain⟨y,m,q⟩:=qu c;refine⟨y,m,λa w I be d=>?_⟩;obtain⟨v,u,b,r,rfl⟩:=h a w I be d _ q;exact⟨v,b,r⟩
end
def bz:cH->V AV
 |.val v=>O v|.bF xs=>O (.sl xs)
 |_=>Y
def dC:Z cH->V (Z AV)
 |[]=>O []|r::rs=>match bz r,dC rs with
  |some x,O xs=>O (x::xs)|_,_=>Y
theorem dW{w:af}{I:aA}{b:Nat->V Bx}{v:ag}{x:AV}(h:bU P w I be b g v r)(a:bz r=O x):cy w I v x:=by
 cases r<;>simp[bz]at a
 .subst a;exact h
 .subst a;exact h.1
theorem rH:∀{rs:Z cH}{xs:Z AV},dC rs=O xs->xs.length=rs.length/\∀(j:Nat)(r:cH)(x:AV),rs[j]?=O r->xs[j]?=O x->bz r=O x
 |[],xs,h=>by simp[dC]at h;grind|r::rs,xs,h=>by
  simp only[dC]at h;cases b:bz r with
  |none=>grind|some y=>
   cases a:dC rs with
   |none=>grind|some ys=>
    simp only[b,a,aN]at h;subst h;obtain⟨c,d⟩:=rH a
    grind
def jW(P:ai)(t:an)(cs:Z cH)(K:cH->Prop):Prop:=
 0<P.cellsOf t/\P.cellsOf t<=cs.length/\
 match mZ P t with
 |some W=>∃xs,dC (cs.take (P.cellsOf t))=O xs/\K (.val (.agg xs))|some F=>K (cs.headD .none)
 |none=>False
def LH(P:ai)(w:af)(I:aA)(be:Nat->V Nat)(b:Nat->V Bx)(g:Nat->Nat)(p:bY)(cs:Z cH)(vs:Z ag):Prop:=vs.length=cs.length/\(∀(j:Nat)(v:ag),vs[j]?=O v->w.cell? (p.add j)=O v)/\∀(j:Nat)(v:ag)(c:cH),vs[j]?=O v->cs[j]?=O c->bU P w I be b g v c
section
variable{P:ai}{E:cd}{w0:af}{I0:aA}{n:Nat}{o:aC}{s:St}{K:St->Prop}{w:af}{I:aA}{be:Nat->V Nat}{b:Nat->V Bx}{g:Nat->Nat}
theorem rI{cs:Z cH}{K:cH->Prop}(a:LH P w I be b g p cs vs)(h:jW P t cs K):
  ∃v r,(loadVar t p).run P w=.ok v w/\bU P w I be b g v r/\K r:=by
 obtain⟨k,l,d⟩:=h;cases e:mZ P t with
 |none=>grind|some q=>
  have f:=rG a.2.1 e k (by rw[a.1];exact l);cases q with
  |true=>
   simp only[e]at d;obtain⟨xs,m,n⟩:=d;obtain⟨o,s⟩:=rH m;refine⟨_,_,f,?_,n⟩;simp only[cm];refine cy.agg _ _ (by simp[a.1,o]) λj c u=>?_;have A:j<(cs.take (P.cellsOf t)).length:=by grind
   have B:j<P.cellsOf t:=by grind
   have i:j<cs.length:=by grind
   have x:j<vs.length:=by rw[a.1];exact i
   have y:(cs.take (P.cellsOf t))[j]?=O cs[j]:=by grind
   have z:=a.2.2 j vs[j] cs[j] (cX x) (cX i);have C:=dW z (s j _ _ y u);simp_all
  |false=>
   simp only[e]at d;refine⟨_,_,f,?_,d⟩;cases cs with
   |nil=>grind|cons c rest=>
    cases vs with
    |nil=>simp[LH]at a|cons v D=>exact a.2.2 0 v c rfl rfl
theorem Bl{cs:Z cH}{B:Nat}(h:jb P w I be b g d (.cells cs))(i:be d=O B)(k:Nat):∃cur t,w.heap[B]?=O (.cells cur t (0,0))/\cur.size=cs.length/\LH P w I be b g ⟨B,k,Y⟩ (cs.drop k) (cur.toList.drop k):=by
 obtain⟨B',cur,t,a,l,e,m⟩:=h;rw[i]at a;injection a with a;subst a;refine⟨cur,t,l,e,by simp[e],λj v hv=>?_,λj v c hv f=>?_⟩
 grind [eo,qq]
 .rw[vB]at hv f;have:=m _ _ f;simp_all
theorem zd{B:Nat}(h:jb P w I be b g d (.br e xs))(l:be d=O B){x:AV}(a:xs[i]?=O x):
  ∃vs,kU w I ⟨B,i*P.cellsOf e,Y⟩ x.cells vs:=by
 obtain⟨q,r,s,f⟩:=h;simp only[l]at f;obtain⟨cur,cap,hw,hs,hm,m,n⟩:=f;refine⟨_,Bi (λj=>cur.getD (i*P.cellsOf e+j) undef) (λj c k=>?_) (λj c k=>n i j x c a k)⟩;have o:j<P.cellsOf e:=by grind
 have p:i<xs.length:=(cr.1 a).1;rw[eo,qq hw,getD_some];rw[hs];exact qt p m o
theorem vH{cs:Z cH}{K:cH->Prop}(h:jW P t cs K):∃y,K y/\jW P t cs (·=y):=by
 obtain⟨c,d,a⟩:=h;cases e:mZ P t with
 |none=>grind|some b=>cases b with
  |true=>simp only[e]at a;obtain⟨xs,g,f⟩:=a;exact⟨_,f,c,d,by grind⟩|false=>simp only[e]at a;exact ⟨_,a,c,d,by grind⟩
theorem xB{x:ah}(b:o.op=.load t x)(g:ba n o=W)(h:s.ev x=.dT d gg sz i k)(j:gg=s.g d){cs:Z cH}(c:s.b d=O (.cells cs)){K:cH->Prop}(l:jW P t (cs.drop (i*sz+k)) K):
  ∃r,K r/\dZ P E w0 I0 n o s r:=by
 obtain⟨y,m,p⟩:=vH l;refine⟨y,m,λa w I be e=>?_⟩;have f:=aM g (x:=x) (by simp[b,Op.operands]) e;rw[h]at f;obtain⟨B,q,e1⟩:=f.2 j (by simp[c]);obtain⟨cur,t',hw,hs,u⟩:=Bl (e.bD d _ c) q (i*sz+k);obtain⟨v,r,z,A,rfl⟩:=rI u p;exact⟨v,by simp[execOp,b,e1,Instr.loadAt,Instr.sureAddr,z],A⟩
theorem Bm{x:ah}(b:o.op=.load t x)(j:ba n o=W)(l:s.ev x=.dT d gg sz i k)(m:gg=s.g d)(c:s.b d=O (.br e xs))(hsz:sz=P.cellsOf e){y:AV}(p:xs[i]?=O y){K:AV->Prop}(q:jR P t (y.cells.drop k) K):
  ∃r,K r/\dZ P E w0 I0 n o s (.val r):=by
 obtain⟨z,hz,u⟩:=qu q;refine⟨z,hz,λa w I be f=>?_⟩;have g:=aM j (x:=x) (by simp[b,Op.operands]) f;rw[l]at g;obtain⟨B,A,e1⟩:=g.2 m (by simp[c]);subst hsz;obtain⟨vs,C⟩:=zd (f.bD d _ c) A p;have h:=C.drop k;rw[eo]at h;obtain⟨v,H,D,G,rfl⟩:=nA h u;exact⟨v,by simp[execOp,b,e1,Instr.loadAt,Instr.sureAddr,D],G⟩
theorem rJ(a:P.underlying t=O (.struct fs))(b:fs[f]?=O fd)(c:0<P.cellsOf fd.type)(p:bY)(w:af):
  (Instr.fieldAt t (.pointer (O p)) f).run P w=.ok (.pointer (O (p.add fd.offset))) w:=by
 have h0:¬P.cellsOf fd.type=0:=M;simp[Instr.fieldAt,eH a,b,Instr.sureAddr,fieldPlace,gF rfl c,h0]
theorem cy.Ry {w:af} {I:aA} {v:ag} {cs:Z AV} (h:cy w I v (.ref cs)):∃p,v=.pointer (O p)/\∀k,cy w I (.pointer (O (p.add k))) (.ref (cs.drop k)):=by
 cases h with
 |ref p cs a b d e=>
  refine⟨p,rfl,λk=>.ref _ _ (λj=>a (k+j)) (λj c h=>?_) (λj c h=>?_) (λj c h=>?_)⟩<;>rw[vB]at h
  .rw[add_add];grind
  .rw[add_add];grind
  grind
theorem uo{v:ag}(h:bU P w I be b g v (.dT d gg sz i k))(a:gg=g d)(c:b d≠Y):∃B,be d=O B/\v=.pointer (O ⟨B,i*sz+k,Y⟩):=h.2 a c
theorem tl{x:ah}(b:o.op=.fieldAddr t x f)(d:ba n o=W)(e:P.underlying t=O (.struct fs))(g:fs[f]?=O fd)(h:0<P.cellsOf fd.type)
  {cs:Z AV} (i:s.ev x=.val (.ref cs)):dZ P E w0 I0 n o s (.val (.ref (cs.drop fd.offset))):=
 λa w I be j=>by have c:=aM d (x:=x) (by simp[b,Op.operands]) j;rw[i]at c;obtain⟨p,e1,k⟩:=cy.Ry c;exact⟨.pointer (O (p.add fd.offset)),by simp[execOp,b,e1,rJ e g h],k _⟩
theorem tm{x:ah}(c:o.op=.fieldAddr t x f)(e:ba n o=W)(g:P.underlying t=O (.struct fs))(h:fs[f]?=O fd)(j:0<P.cellsOf fd.type)
  (l:s.ev x=.dT d gg sz i k) (m:gg=s.g d) (p:s.b d≠Y):dZ P E w0 I0 n o s (.dT d gg sz i (k+fd.offset)):=
 λa w I be q=>by have b:=aM e (x:=x) (by simp[c,Op.operands]) q;rw[l]at b;obtain⟨B,r,e1⟩:=uo b m p;refine⟨.pointer (O ((⟨B,i*sz+k,Y⟩:bY).add fd.offset)),by simp[execOp,c,e1,rJ g h j],b.1,λ_ _=>⟨B,r,?_⟩⟩;rw[eo,ql]
theorem run_indexAt_slice(a:P.underlying t=O (.slice e))(b:0<P.cellsOf e)(p:bY)(len cap:Nat)(k:dd)(m:Int)(h0:0<=m)(c:m<len)(w:af):
  (Instr.indexAt t (.slice (O p) len cap) (.int k m)).run P w=.ok (.pointer (O (p.add (m.toNat*P.cellsOf e)))) w:=by
 simp[Instr.indexAt,asIntOf,eH a,gF rfl b,h0,c]
theorem om{x:ah}(b:o.op=.indexAddr t x y)(d:ba n o=W)(l:P.underlying t=O (.slice e)){k:dd}{m:Int}
  (q:bz (s.ev x)=O (.sl xs)) (r:s.ev y=.val (.fl (.int k m))) (h0:0<=m) {z:AV} (f:xs[m.toNat]?=O z) (u:0<P.cellsOf e) (hsz:z.cells.length=P.cellsOf e):dZ P E w0 I0 n o s (.val (.ref z.cells)):=
 λa w I be g=>by
  have A:=dW (aM d (x:=x) (by simp[b,Op.operands]) g) q;have i:=aM d (x:=y) (by simp[b,Op.operands]) g;rw[r]at i;have e2:=bV i;have B:m.toNat<xs.length:=(cr.1 f).1;generalize hv:a.eval x=v at*;cases A with
  |fc c=>simp at B|sl p C cap sz xs D H J K G L N Q=>
   have R:=(G _ _ f).1;have:sz=P.cellsOf e:=by grind
   subst this;refine⟨.pointer (O (p.add (m.toNat*P.cellsOf e))),?_,.ref _ _ (λj=>D m.toNat j) (λj c h=>?_) (λj c h=>?_) (λj c h=>?_)⟩
   .simp[execOp,b,hv,e2,run_indexAt_slice l u p C cap k m h0 M]
   .rw[add_add];grind
   .rw[add_add];grind
   grind
theorem mf{d gg off len:Nat}{v:ag}(h:bU P w I be b g v (.view d gg off len))(a:gg=g d){e:an}{xs:Z AV}(c:b d=O (.br e xs)):
  off+len<=xs.length/\match be d with
   |none=>∃A,v=.slice A len 0|some B=>∃cur cap A,w.heap[B]?=O (.cells cur e (0,0))/\cur.size=cap*P.cellsOf e/\v=.slice A len (cap-off)/\(off<cap->A=O ⟨B,off*P.cellsOf e,Y⟩):=by
 have:=h.2 a
 grind [eI]
theorem rK{x:ah}(c:o.op=.indexAddr t x y)(i:ba n o=W)(u:P.underlying t=O (.slice e)){k:dd}{m:Int}
  (v:s.ev x=.view d gg off len) (z:gg=s.g d) (j:s.b d=O (.br e xs)) (C:s.ev y=.val (.fl (.int k m))) (h0:0<=m) (D:m<len):dZ P E w0 I0 n o s (.dT d gg (P.cellsOf e) (off+m.toNat) 0):=
 λa w I be f=>by
  have g:=aM i (x:=x) (by simp[c,Op.operands]) f;rw[v]at g;have l:=aM i (x:=y) (by simp[c,Op.operands]) f;rw[C]at l;have e2:=bV l;have G:=f.bD d _ j;obtain⟨Q,hv⟩:=mf g z j;obtain⟨p,R,S,q⟩:=G;cases r:be d with
  |none=>grind|some B=>
   simp only[r]at hv q;obtain⟨cur,cap,A,hw,H,e1,J⟩:=hv;obtain⟨T,h,b,K,U,X,_⟩:=q;rw[hw]at b;injection b with b;injection b with q1 a0;subst q1;have L:h=cap:=(lJ p (H.symm.trans K)).symm;subst L;have N:off<h:=M;obtain rfl:=J N;refine⟨.pointer (O ((⟨B,off*P.cellsOf e,Y⟩:bY).add (m.toNat*P.cellsOf e))),?_,g.1,λ_ _=>⟨B,r,?_⟩⟩
   .simp[execOp,c,e1,e2,run_indexAt_slice u p _ len (h-off) k m h0 D]
   .rw[eo,kS,qm]
end
def St.ep (s:St) (d:Nat) (cs:Z cH):St:={s with r:=b8 s.r d (.dT d (s.g d+1) 0 0 0),b:=b8 s.b d (O (.cells cs)),g:=b8 s.g d (s.g d+1)}
def St.cQ (s:St) (d:Nat) (e:an) (xs:Z AV):St:={s with r:=b8 s.r d (.view d (s.g d+1) 0 xs.length),b:=b8 s.b d (O (.br e xs)),g:=b8 s.g d (s.g d+1)}
section
variable{P:ai}{E:cd}{w0:af}{I0:aA}{n:Nat}{s:St}{a:Act}{w w':af}{I:aA}{be:Nat->V Nat}
theorem E6(d:Nat)(x:Bx)(bo:V Nat):∀d',s.g d'<b8 s.g d (s.g d+1) d'∨(b8 s.g d (s.g d+1) d'=s.g d'/\fy P w w be (b8 be d bo) s.b (b8 s.b d (O x)) d'):=by
 intro d';by_cases e:d'=d;simp_all
 .right;exact⟨aO _ _ e,.ig (aO _ _ e) (aO _ _ e) (λ_ _ _=>rfl)⟩
theorem aJ.fresh (h:aJ P E w0 I0 n s a w I be) {o:Obj} (f:w'.os=w.os) (g:w'.tape=w.tape) (j:w'.output=w.output) (x:w'.heap=w.heap.push o):
  aJ P E w0 I0 n s a w' I be/\w'.heap[w.heap.size]?=O o/\
  (E.fresh w0 w.heap.size/\w.heap.size<w'.heap.size/\(∀p,I p->p.block≠w.heap.size)/\¬E.cf w' w.heap.size/\∀d',s.b d'≠Y->be d'≠O w.heap.size)/\dK w w' I I/\∀B,O w.heap.size=O B->∀i,s.a i≠Y->I.ar i≠O B:=by
 have hsz:w'.heap.size=w.heap.size+1:=by grind
 have c:∀k,k<w.heap.size->w'.heap[k]?=w.heap[k]?:=λk d=>by grind
 have l:=h.grow f g j M c;refine⟨l,by grind,⟨.inl h.since.size,M,λp m e=>?_,λq=>?_,λd' r t=>?_⟩,.world (h.Bh (λk d _=>c k d)) (Bg c),λB y i hi u=>?_⟩
 .have:=h.since.lt p m;omega
 .have:=(E.iU w w' h.since.hS (λb v=>c b (E.lt w b h.since.hS v))).2 _ q;have:=E.lt w _ h.since.hS this;omega
 .have:=(h.bR d' _ r t).2.1;omega
 .have:=(h.aZ.bR i _ hi u).2.1
  grind
theorem aJ.ep (h:aJ P E w0 I0 n s a w I be) (d:Nat) (b:w'.os=w.os) (e:w'.tape=w.tape) (f:w'.output=w.output) (g:w'.heap=w.heap.push (.cells cur t))
  (cs:Z cH) (i:cur.size=cs.length) (k:∀(j:Nat)(c:cH),cs[j]?=O c->bU P w I be s.b s.g (cur.getD j undef) c):
  aJ P E w0 I0 n (s.ep d cs) (a.put (O d) (.pointer (O ⟨w.heap.size,0,Y⟩))) w' I (b8 be d (O w.heap.size)):=by
 obtain⟨l,m,A,o,p⟩:=h.fresh b e f g;have q:∀d',s.g d'<s.g d'∨(s.g d'=s.g d'/\fy P w w' be be s.b s.b d'):=λd'=>.inr ⟨rfl,.ig rfl rfl (λB C u=>by grind)⟩;have x:jb P w' I (b8 be d (O w.heap.size)) (b8 s.b d (O (.cells cs))) (b8 s.g d (s.g d+1)) d (.cells cs):=⟨w.heap.size,cur,t,ch _ _ _,m,i,λj c y=>((k j c y).eP o q).eP (.refl _ _) (E6 d _ _)⟩
 have z:=l.mz d (.cells cs) (O w.heap.size) x (λB u=>by grind) p;have:=z.put (O d) (v:=.pointer (O ⟨w.heap.size,0,Y⟩)) (r:=.dT d (s.g d+1) 0 0 0) ⟨aH,λ_ _=>⟨w.heap.size,aH,aH⟩⟩;exact this
def lF(P:ai)(e:an)(xs:Z AV):Prop:=∀x∈xs,x.cells.length=P.cellsOf e/\x.wf
theorem aJ.cQ (h:aJ P E w0 I0 n s a w I be) (d:Nat) (g:w'.os=w.os) (k:w'.tape=w.tape) (l:w'.output=w.output) (m:w'.heap=w.heap.push (.cells cur e))
  (xs:Z AV) (o:0<P.cellsOf e) (p:cur.size=cap*P.cellsOf e) (b:cap<=maxLen) (f:xs.length<=cap) (q:lF P e xs)
  (t:∀(i j:Nat)(x c:AV),xs[i]?=O x->x.cells[j]?=O c->cy w I (cur.getD (i*P.cellsOf e+j) undef) c):
  aJ P E w0 I0 n (s.cQ d e xs) (a.put (O d) (.slice (O ⟨w.heap.size,0,Y⟩) xs.length cap)) w' I (b8 be d (O w.heap.size)):=by
 obtain⟨u,y,J,z,A⟩:=h.fresh g k l m;have C:jb P w' I (b8 be d (O w.heap.size)) (b8 s.b d (O (.br e xs))) (b8 s.g d (s.g d+1)) d (.br e xs):=by refine⟨o,ef f b,λi x hi=>q x (bW hi),?_⟩;simp only[ch];exact⟨cur,cap,y,p,b,f,λi j x c D G=>(t i j x c D G).mono z⟩
 have H:=u.mz d (.br e xs) (O w.heap.size) C (λB K=>by grind) A;have:=H.put (O d) (v:=.slice (O ⟨w.heap.size,0,Y⟩) xs.length cap) (r:=.view d (s.g d+1) 0 xs.length) ⟨aH,λ_=>by grind [eI,ch]⟩;exact this
theorem aJ.Bn (h:aJ P E w0 I0 n s a w I be) (d:Nat) (e:an) (c:0<P.cellsOf e) (A:V bY):
  aJ P E w0 I0 n (s.cQ d e []) (a.put (O d) (.slice A 0 0)) w I (b8 be d Y):=by
 have f:jb P w I (b8 be d Y) (b8 s.b d (O (.br e []))) (b8 s.g d (s.g d+1)) d (.br e []):=⟨c,aH,λi x hi=>by simp at hi,by simp_all⟩
 have g:=h.mz d (.br e []) Y f (λB b=>by cases b) (λB b=>by cases b);exact g.put (O d) (v:=.slice A 0 0) (r:=.view d (s.g d+1) 0 0) ⟨aH,λ_=>by
  unfold eI;simp only[ch]
  grind⟩
end
section
variable{P:ai}{E:cd}{w0:af}{I0:aA}{n:Nat}{o:aC}{s:St}{K:St->Prop}
def ih:cH->V (Z cH)
 |.val v=>O (v.cells.map .val)|.bF xs=>O [.bF xs]
 |.dT d g sz i k=>O [.dT d g sz i k]|.view d g off len=>O [.view d g off len]
 |_=>Y
theorem kV{w:af}{I:aA}{b:Nat->V Bx}{v:ag}{cs:Z cH}(h:bU P w I be b g v r)(m:ih r=O cs)
  (z:∀d gg sz i k,r=.dT d gg sz i k->gg=g d/\b d≠Y) (C:∀d gg off len,r=.view d gg off len->gg=g d/\∃e xs,b d=O (.br e xs)):
  v.cells.size=cs.length/\∀(j:Nat)(c:cH),cs[j]?=O c->bU P w I be b g (v.cells.getD j undef) c:=by
 have one:∀(r:cH)(hv:v.cells=#[v]),bU P w I be b g v r->v.cells.size=[r].length/\∀(j:Nat)(c:cH),[r][j]?=O c->bU P w I be b g (v.cells.getD j undef) c:=by
  intro r hv h;rw[hv];refine⟨aH,λj c o=>?_⟩;cases j with
  |zero=>simp at o;subst o;simpa using h|succ j=>simp at o
 cases r with
 |val x=>
  simp only[ih,aN]at m;subst m;have D:cy w I v x:=h;cases D with
  |fl v E=>exact one _ (by cases v<;>first|rfl|(simp[Vt,Value.oneCell']at E)) h
  |fc c=>exact one _ rfl h|sl a n cap sz xs G L N Q hsz H J m=>exact one _ rfl h
  |ref p cs G H J m=>exact one _ rfl h|fn f vs caps q m=>exact one _ rfl h
  |mR t v x m=>exact one _ rfl h|ptr i off B y=>exact one _ rfl h
  |view i sz len B cap e cur A y R S q T=>exact one _ rfl h|lE i sz A cap h _=>exact one _ rfl h
  |mp i B y=>exact one _ rfl h|hk A=>exact one _ rfl h
  |mc f vs first q m=>exact one _ rfl h|agg vs cs q m=>simp only[AV.cells,Value.cells];refine⟨by simp[q],λj c o=>?_⟩;simp only[gu,c8]at o;obtain⟨x,K,rfl⟩:=o;exact m j x K
 |bF xs=>simp only[ih,aN]at m;subst m;obtain⟨A,rfl⟩:=h.2;exact one _ rfl h|dT d gg sz i k=>simp only[ih,aN]at m;subst m;obtain⟨s,u⟩:=z _ _ _ _ _ rfl;obtain⟨B,_,rfl⟩:=uo h s u;exact one _ rfl h
 |view d gg off len=>
  simp only[ih,aN]at m;subst m;obtain⟨s,e,xs,u⟩:=C _ _ _ _ rfl;obtain⟨_,U⟩:=mf h s u;have:∃A l c,v=.slice A l c:=by grind
  obtain⟨A,l,c,rfl⟩:=this;exact one _ rfl h
 |none=>simp[ih]at m|gw rs=>simp[ih]at m
def Rz(s:St):cH->Prop
 |.dT d gg _ _ _=>gg=s.g d/\s.b d≠Y|.view d gg _ _=>gg=s.g d/\∃e xs,s.b d=O (.br e xs)
 |_=>True
theorem xC{x:ah}(c:o.op=.box t x)(g:ba n o=W)(h:o.dst=O d){cs:Z cH}(j:ih (s.ev x)=O cs)(b:Rz s (s.ev x))(l:K (s.ep d cs)):dL P E w0 I0 n o s K:=by
 rintro a w ⟨I,be,f⟩ u;have m:=aM g (x:=x) (by simp[c,Op.operands]) f;have p:(execOp a.eval o).run P w=.ok (.value (.pointer (O ⟨w.heap.size,0,Y⟩))) (w.alloc (.cells (a.eval x).cells t)):=by simp[execOp,c,Instr.box,newVar,newRow]
 refine fS p ⟨_,⟨I,b8 be d (O w.heap.size),?_⟩,l⟩;rw[h];obtain⟨q,r⟩:=kV m j (λd gg sz i k e=>by rw[e]at b;exact b) (λd gg off len e=>by rw[e]at b;exact b);exact f.ep (w':=w.alloc (.cells (a.eval x).cells t)) d rfl rfl rfl rfl _ q r
end
structure Vu(P:Program)(w:World)(I:aA)(sz:Nat)(v:Value)(ys:List AV)(news:List Value):Prop where
 len:∀w1,(Builtin.lenOf v).run P w1=.ok ys.length w1
 cells:∀w1,w1.heap=w.heap->∀m,m<=ys.length->(Builtin.firstCells sz m v).run P w1=.ok (news.take (m*sz)).toArray w1
 size:news.length=ys.length*sz
 one:∀u∈news,u.oneCell'=W
 xu:∀(i j:Nat)(y c:AV),ys[i]?=O y->y.cells[j]?=O c->cy w I (news.getD (i*sz+j) undef) c
theorem NO{w:af}{I:aA}{v:ag}(h:cy w I v c)(a:c.isAgg=F):v.oneCell'=W:=by cases h<;>first|assumption|rfl|(simp[AV.isAgg]at a)
section
variable{P:ai}{w:af}{I:aA}
theorem NP{a:bY}(f:Nat->ag)(l:n=ys.length)(hsz:∀y∈ys,y.cells.length=sz/\y.wf)
  (o:∀(i j:Nat)(y c:AV),ys[i]?=O y->y.cells[j]?=O c->w.cell? (a.add (i*sz+j))=O (f (i*sz+j))/\cy w I (f (i*sz+j)) c):
  Vu P w I sz (.slice (O a) n cap) ys ((List.range (ys.length*sz)).map f):=by
 have p:∀k,k<ys.length*sz->∃(y c:AV),ys[k/sz]?=O y/\y.cells[k%sz]?=O c/\(k/sz)*sz+k%sz=k:=by
  intro k d;have q:0<sz:=Nat.pos_of_ne_zero (λe=>by grind);have b:k/sz<ys.length:=by rw[Nat.div_lt_iff_lt_mul q];exact d
  have g:=cX b
  grind [fR,Nat.mod_lt,cX,uj,Nat.div_add_mod]
 subst l;refine⟨λw1=>rfl,λw1 A m r=>?_,aH,λu s=>?_,λi j y c b g=>?_⟩
 .have B:m*sz<=ys.length*sz:=hR _ r;have C:(((List.range (ys.length*sz)).map f).take (m*sz)).length=m*sz:=by grind
  have D:∀(j:Nat)(v:ag),(((List.range (ys.length*sz)).map f).take (m*sz))[j]?=O v->w1.cell? (a.add j)=O v:=by
   intro j v hv;rw[rC]at hv
   grind [Bj,World.cell?]
  grind [run_loadCells_list,Builtin.firstCells]
 .obtain ⟨k,d,rfl⟩:=gC.1 s;have d:=uf.1 d;obtain⟨y,c,b,g,t⟩:=p k d;have h:=(o _ _ y c b g).2;rw[t]at h;exact NO h ((hsz _ (bW b)).2 c (bW g))
 .have x:i<ys.length:=(cr.1 b).1;have z:j<sz:=by grind
  have E:=qt x (bq _) z
  grind
theorem IZ(sz:Nat)(l c:Nat)(a:l=0):Vu P w I sz (.slice Y l c) [] []:=by
 subst a;refine⟨λw1=>rfl,λw1 _ m b=>?_,aH,aH,λi j y c h=>by simp at h⟩;have:m=0:=by grind
 subst this;simp[Builtin.firstCells]
theorem E7(sz:Nat)(A:V bY)(c:Nat):Vu P w I sz (.slice A 0 c) [] []:=by
 cases A with
 |none=>exact IZ sz 0 c rfl|some a=>
  refine⟨λw1=>rfl,λw1 _ m b=>?_,aH,aH,λi j y c h=>by simp at h⟩;have:m=0:=by grind
  subst this;simp[Builtin.firstCells,loadCells,loadCellsFrom]
theorem Bo{v:ag}(h:cy w I v (.sl ys))(hsz:∀y∈ys,y.cells.length=sz):∃news,Vu P w I sz v ys news:=by
 cases h with
 |fc c=>exact ⟨[],IZ sz 0 c rfl⟩|sl a n cap b xs g d m o f p q r=>
  cases ys with
  |nil=>simp at d;subst d;exact⟨[],E7 sz _ _⟩|cons y rest=>
   have e:b=sz:=by
    rw[<-(f 0 y rfl).1]
    grind
   subst e;refine⟨_,NP (λk=>g (k/b) (k%b)) d (λz l=>?_) (λi j z c s t=>?_)⟩
   .obtain ⟨i,hi,rfl⟩:=hB l;exact f i _ (cX hi)
   .have u:j<b:=by grind
    have x:0<b:=M;have A:(i*b+j)/b=i:=by grind [uj,Nat.mul_add_div,Nat.div_eq_of_lt]
    grind [uj,Nat.mul_add_mod,Nat.mod_eq_of_lt]
theorem Bp{b:Nat->V Bx}{v:ag}(h:bU P w I be b g v (.view d gg off len))(o:gg=g d)(p:b d=O (.br e xs))
  (q:jb P w I be b g d (.br e xs)):∃news,Vu P w I (P.cellsOf e) v ((xs.drop off).take len) news:=by
 obtain⟨K,hv⟩:=mf h o p;obtain⟨r,L,N,l⟩:=q;have empty:∀A c,len=0->v=.slice A len c->∃news,Vu P w I (P.cellsOf e) v ((xs.drop off).take len) news:=by rintro A c rfl rfl;exact⟨[],by grind [E7]⟩
 cases s:be d with
 |none=>grind|some B=>
  simp only[s]at hv l;obtain⟨cur,cap,A,hw,m,e1,t⟩:=hv;obtain⟨Q,n,f,u,R,x,S⟩:=l;rw[hw]at f;injection f with f;injection f with q1 T;subst q1;have z:n=cap:=(lJ r (m.symm.trans u)).symm;subst z;by_cases C:off<n
  .obtain rfl:=t C;have D:((xs.drop off).take len).length=len:=dx;rw[e1];refine⟨_,NP (λk=>cur.getD (off*P.cellsOf e+k) undef) D.symm (λy E=>?_) (λi j y c a U=>?_)⟩
   .obtain ⟨i,hi,rfl⟩:=hB E;have:=cX hi
    grind
   .rw[rC]at a;split at a
    .rw[vB]at a;have G:off+i<xs.length:=(cr.1 a).1;have H:j<P.cellsOf e:=by grind
     have J:off*P.cellsOf e+(i*P.cellsOf e+j)=(off+i)*P.cellsOf e+j:=by grind
     refine⟨?_,?_⟩
     .rw[eo,qq hw,getD_some];rw[m,J];exact qt G x H
     grind
    .cases a
  grind
theorem En{ty:an}{i:TypeInfo}(b:P.underlying t=O (.slice e))(c:P.underlying u=O du)(d:(∃q,du=.slice q)∨du=.string)(hi:P.info? e=O i)
  {g:Nat} (f:w.heap[g]?=O (.cells cur e (0,0))) {v:ag} (hlen:(Builtin.lenOf v).run P w=.ok m w) (h:(Builtin.firstCells i.size m v).run P w=.ok news.toArray w)
  (j:∀u∈news,u.oneCell'=W) (k:n+m<=cap) (l:n*i.size+news.length<=cur.size):
  (Builtin.append_ #[t,u] ty #[.slice (O ⟨g,0,Y⟩) n cap,v]).run P w=.ok (.slice (O ⟨g,0,Y⟩) (n+m) cap) (w.setRow g (cur.toList.take (n*i.size)++news++cur.toList.drop (n*i.size+news.length)).toArray):=by
 have a:=run_storeCells_at P g (n*i.size) e news 0 cur w f (by grind) j;simp only[qm]at a;rcases d with⟨q,rfl⟩|rfl<;>
  simp[Builtin.append_,eH b,eH c,sizeOf,typeInfo,hi,hlen,k,h,eo,a]
theorem na{ty:an}{i:TypeInfo}(a:P.underlying t=O (.slice e))(b:P.underlying u=O du)(c:(∃q,du=.slice q)∨du=.string)(hi:P.info? e=O i)
   {v:ag} (hlen:(Builtin.lenOf v).run P w=.ok 0 w) (d:(Builtin.firstCells i.size 0 v).run P w=.ok #[] w):
  (Builtin.append_ #[t,u] ty #[.slice A 0 0,v]).run P w=.ok (.slice A 0 0) w:=by
 rcases c with⟨q,rfl⟩|rfl<;>cases A<;>
  simp[Builtin.append_,eH a,eH b,sizeOf,typeInfo,hi,hlen,d,storeCells]
theorem rL{ty:an}{i:TypeInfo}(a:P.underlying t=O (.slice e))(b:P.underlying u=O du)(c:(∃q,du=.slice q)∨du=.string)(hi:P.info? e=O i)(hz:i.zero=O z)
   {v:ag} {olds:Z ag} (hlen:(Builtin.lenOf v).run P w=.ok m w) (d:(Builtin.firstCells i.size m v).run P w.drew=.ok news.toArray w.drew)
  (f:(Builtin.firstCells i.size n (.slice A n cap)).run P w.drew=.ok olds.toArray w.drew) (k:cap<n+m) (l:((n+m:Nat):Int)<=9223372036854775807) (o:Builtin.nextslicecap (n+m) cap*i.bytes<=281474976710656):
  (Builtin.append_ #[t,u] ty #[.slice A n cap,v]).run P w=.ok (.slice (O ⟨w.heap.size,0,Y⟩) (n+m) (grownCap w (n+m) cap e)) (w.drew.alloc (.cells (olds.toArray++news.toArray++Builtin.zeroCells z.cells (grownCap w (n+m) cap e-(n+m))) e)):=by
 have g:¬(n+m<=cap):=M;have h:¬(9223372036854775807<((n:Int)+(m:Int))):=M;have j:¬(281474976710656<Builtin.nextslicecap (n+m) cap*i.bytes):=M;rcases c with⟨q,rfl⟩|rfl<;>
  (simp[Builtin.append_,eH a,eH b,sizeOf,typeInfo,zeroValue,hi,hz,hlen,g,h,j,Question.forced,d,f,newRow,grownCap]
   try(congr 2;apply Array.ext';simp[y7]))
end
theorem uq{i:TypeInfo}(hi:P.info? e=O i):P.bytesOf e=i.bytes:=by simp[Program.bytesOf,hi]
theorem sJ{i:TypeInfo}(hi:P.info? e=O i):P.cellsOf e=i.size:=by simp[Program.cellsOf,hi]
section
variable{P:ai}{E:cd}{w0:af}{I0:aA}{n:Nat}{s:St}{a:Act}{w w':af}{I:aA}{be:Nat->V Nat}
theorem ur(g:∀(i j:Nat)(x c:AV),xs[i]?=O x->x.cells[j]?=O c->cy w I (cur.getD (i*sz+j) undef) c)
  (r:∀x∈xs,x.cells.length=sz) (h:k=xs.length) (s:k*sz<=cur.size) (t:news.length=ys.length*sz)
  (l:∀(i j:Nat)(y c:AV),ys[i]?=O y->y.cells[j]?=O c->cy w I (news.getD (i*sz+j) undef) c) (u:∀y∈ys,y.cells.length=sz) (b:Z ag):
  ∀(i j:Nat)(x c:AV),(xs++ys)[i]?=O x->x.cells[j]?=O c->cy w I ((cur.toList.take (k*sz)++news++b).toArray.getD (i*sz+j) undef) c:=by
 subst h;intro i j x c a e;have m:(cur.toList.take (xs.length*sz)).length=xs.length*sz:=dx;by_cases hi:i<xs.length
 .rw[oU hi]at a;have d:j<sz:=by grind
  have n:=qt hi (bq _) d;have o:=g i j x c a e;have p:(cur.toList.take (xs.length*sz)++news++b).toArray.getD (i*sz+j) undef=cur.getD (i*sz+j) undef:=by
   simp only[my,EX,y7]
   grind
  grind
 .have f:xs.length<=i:=M;rw[oV f]at a;have d:j<sz:=by grind
  have q:i-xs.length<ys.length:=(cr.1 a).1;have n:=qt q (bq _) d;have o:=l _ j x c a e;have v:i*sz+j=xs.length*sz+((i-xs.length)*sz+j):=by rw[Nat.sub_mul];have:xs.length*sz<=i*sz:=hR _ f;omega
  have p:(cur.toList.take (xs.length*sz)++news++b).toArray.getD (i*sz+j) undef=news.getD ((i-xs.length)*sz+j) undef:=by
   simp only[my,EX,y7,IV];rw[oV (by grind),m,oU (by grind)]
   grind
  grind
theorem vI(a:lF P e xs)(b:lF P e ys):lF P e (xs++ys):=by
 intro x c;rcases fK.1 c with h|h
 .exact a x h
 .exact b x h
theorem aJ.append (h:aJ P E w0 I0 n s a w I be) {ty:an} {i:TypeInfo} (S:P.underlying t=O (.slice e)) (T:P.underlying u=O du) (U:(∃q,du=.slice q)∨du=.string) (hi:P.info? e=O i) (G0:i.zero=O z) (H0:z.cells.size=i.size)
  (d d' k:Nat) {v:ag} (hv:bU P w I be s.b s.g v (.view d' gg 0 k)) (y0:gg=s.g d') (X:s.b d'=O (.br e xs)) (f:Vu P w I (P.cellsOf e) v2 ys news) (k0:lF P e ys) (A0:k+ys.length<=maxLen) (J0:(k+ys.length)*P.bytesOf e<=140737488355328):
  ∃J w' mY,(Builtin.append_ #[t,u] ty #[v,v2]).run P w=.ok J w'/\aJ P E w0 I0 n (({s with b:=b8 s.b d' Y}:St).cQ d e (xs.take k++ys)) (a.put (O d) J) w' I mY:=by
 have K0:=h.bD d' _ X;have K:s.b d'≠Y:=by simp[X]
 obtain⟨G,L0,N0,L⟩:=K0;obtain⟨v1,a0⟩:=mf hv y0 X;have b0:=h.drop d';have c0:(xs.take k).length=k:=dx;have l0:lF P e (xs.take k):=λx g=>by
  obtain⟨j,P0,rfl⟩:=hB g;have:=cX P0
  grind
 have B0:=vI l0 k0;have d0:=sJ hi;have Q0:=uq hi;have R0:(xs.take k++ys).length=k+ys.length:=by grind
 have out:∀(A:V bY)(cap:Nat)(olds:Z ag),v=.slice A k cap->(∀w1,w1.heap=w.heap->(Builtin.firstCells (P.cellsOf e) k v).run P w1=.ok olds.toArray w1)->olds.length=k*P.cellsOf e->
   (∀(i j:Nat)(x c:AV),(xs.take k)[i]?=O x->x.cells[j]?=O c->cy w I (olds.getD (i*P.cellsOf e+j) undef) c)->cap<k+ys.length->
   ∃J w' mY,(Builtin.append_ #[t,u] ty #[v,v2]).run P w=.ok J w'/\aJ P E w0 I0 n (({s with b:=b8 s.b d' Y}:St).cQ d e (xs.take k++ys)) (a.put (O d) J) w' I mY:=by
  intro A cap olds e1 S0 m0 T0 e0;have n0:=growslice_fits e0 (Q0▸J0);have N:=f.cells w.drew rfl ys.length (bq _);rw[de (by rw[f.size];grind)]at N;have H:=rL (w:=w) (ty:=ty) S T U hi G0 (A:=A) (n:=k) (cap:=cap) (m:=ys.length) (v:=v2) (olds:=olds) (news:=news) (f.len w) (by grind) (by rw[<-d0,<-e1];exact S0 w.drew rfl) e0 (by simp only[maxLen]at A0;omega) n0;have x1:=grownCap_ge w (k+ys.length) cap e;have o0:grownCap w (k+ys.length) cap e<=maxLen:=grownCap_le_maxLen w (k+ys.length) cap e A0;have f0:(olds.toArray++news.toArray++Builtin.zeroCells z.cells (grownCap w (k+ys.length) cap e-(k+ys.length))).size=grownCap w (k+ys.length) cap e*P.cellsOf e:=by
   simp only[Array.size_append,ug,size_zeroCells,H0,m0,f.size,<-d0,<-kS]
   grind
  have y1:=b0.cQ (w':=w.drew.alloc (.cells (olds.toArray++news.toArray++Builtin.zeroCells z.cells (grownCap w (k+ys.length) cap e-(k+ys.length))) e)) d rfl rfl rfl rfl (xs.take k++ys) G f0 o0 (by grind) B0
   (λi j x c g p0=>by
     have:=ur (w:=w) (I:=I) (sz:=P.cellsOf e) (k:=k) (xs:=xs.take k) (ys:=ys) (cur:=olds.toArray) (news:=news) (λi j x c g0 h0=>by simpa using T0 i j x c g0 h0) (λx g=>(l0 x g).1) c0.symm (by simp[m0]) f.size f.xu (λy Q=>(k0 y Q).1) (Builtin.zeroCells z.cells (grownCap w (k+ys.length) cap e-(k+ys.length))).toList i j x c g p0;rw[de (by simp[m0])]at this;have A1:(olds.toArray.toList++news++(Builtin.zeroCells z.cells (grownCap w (k+ys.length) cap e-(k+ys.length))).toList).toArray=olds.toArray++news.toArray++Builtin.zeroCells z.cells (grownCap w (k+ys.length) cap e-(k+ys.length)):=by apply Array.ext';simp
     grind)
  grind
 obtain⟨olds,rv⟩:=Bp hv y0 X ⟨G,L0,N0,L⟩;simp only[tD]at rv;have U0:∀w1,w1.heap=w.heap->(Builtin.firstCells (P.cellsOf e) k v).run P w1=.ok olds.toArray w1:=λw1 X0=>by have:=rv.cells w1 X0 k (by grind);rwa[de (by rw[rv.size,c0];grind)]at this
 have a1:olds.length=k*P.cellsOf e:=by rw[rv.size,c0]
 cases C:be d' with
 |none=>
  simp only[C]at a0 L;subst L;obtain⟨A,e1⟩:=a0;have q0:k=0:=by grind
  subst q0;by_cases Q:ys=[]
  .subst Q;have r0:news=[]:=oT (by rw[f.size];simp);subst r0;have N:=f.cells w rfl 0 (bq _);have H:=na (w:=w) (ty:=ty) S T U hi (A:=A) (v:=v2) (f.len w) (by grind);exact⟨_,_,b8 be d Y,by rw[e1];exact H,by simpa using b0.Bn d e G A⟩
  grind [List.length_pos_iff]
 |some B=>
  simp only[C]at a0 L;obtain⟨cur,cap,A,hw,f0,e1,b1⟩:=a0;obtain⟨B1,l,i0,c1,o0,C1,D1⟩:=L;rw[hw]at i0;injection i0 with i0;injection i0 with q1 E1;subst q1;have e0:l=cap:=(lJ G (f0.symm.trans c1)).symm;subst e0;simp only[qn]at e1;by_cases C0:k+ys.length<=l
  .by_cases d1:0<l
   .have D0:=b1 d1;simp only[lK]at D0;subst D0;obtain⟨o1,o2,o3,s0⟩:=h.bR d' B K C;have N:=f.cells w rfl ys.length (bq _);rw[de (by rw[f.size];grind)]at N;have n0:k*i.size+news.length<=cur.size:=by rw[f.size,f0,<-d0,<-kS];exact hR _ C0
    have H:=En (w:=w) (ty:=ty) S T U hi (n:=k) (cap:=l) hw (f.len w) (by grind) f.one C0 n0;have f1:=b0.Vy (w':=w.setRow B (cur.toList.take (k*i.size)++news++cur.toList.drop (k*i.size+news.length)).toArray) (λb=>b=B)
     (λb t0=>by subst t0;exact ⟨o1,o3,s0,λR j0 g1=>by
       by_cases D:R=d'
       .subst D;simp at j0
       .simp only[aO _ _ D]at j0;exact D (h.inj R d' _ j0 K g1 C)⟩) (λi B' hi o e=>by subst e;exact (h.aZ.bR i _ hi o).2.2.2.2 ⟨d',K,C⟩)
     (sI (λk u0 _=>og w B k _ u0) hw (pA w B cur _ e (0,0) hw) (by grind)) rfl rfl rfl aH (λb G1 i1=>og w B b _ i1)
    have E0:=pA w B cur (cur.toList.take (k*i.size)++news++cur.toList.drop (k*i.size+news.length)).toArray e (0,0) hw;have j1:dK w (w.setRow B (cur.toList.take (k*i.size)++news++cur.toList.drop (k*i.size+news.length)).toArray) I I:=.world (λp v H1 hv=>by grind [dn,setRow_other]) (sI (λk u0 _=>og w B k _ u0) hw E0 (by grind));have k1:(cur.toList.take (k*i.size)++news++cur.toList.drop (k*i.size+news.length)).toArray.size=l*P.cellsOf e:=by grind
    have g:jb P (w.setRow B (cur.toList.take (k*i.size)++news++cur.toList.drop (k*i.size+news.length)).toArray) I (b8 be d (O B)) (b8 (b8 s.b d' Y) d (O (.br e (xs.take k++ys)))) (b8 s.g d (s.g d+1)) d (.br e (xs.take k++ys)):=by refine⟨G,by grind,λi x hi=>B0 x (bW hi),?_⟩;simp only[ch];refine⟨_,l,E0,k1,o0,by grind,λi2 j x c g p0=>?_⟩;have:=ur (w:=w) (I:=I) (sz:=P.cellsOf e) (k:=k) (xs:=xs.take k) (ys:=ys) (cur:=cur) (news:=news) (λi j x c g0 h0=>by grind) (λx g=>(l0 x g).1) c0.symm (by grind) f.size f.xu (λy Q=>(k0 y Q).1) (cur.toList.drop (k*i.size+news.length)) i2 j x c g p0;rw[d0]at this⊢;exact this.mono j1
    have l1:∀b,E.cf (w.setRow B (cur.toList.take (k*i.size)++news++cur.toList.drop (k*i.size+news.length)).toArray) b->E.cf w b:=(E.iU w _ h.since.hS (λb t0=>og w B b _ (λe=>s0 (e▸t0)))).2;have m1:=f1.mz d (.br e (xs.take k++ys)) (O B) g (λB' o=>by
     injection o with o;subst o;refine⟨o1,by grind,o3,λn1=>s0 (l1 _ n1),λR j0 x0 p1=>?_⟩;by_cases D:R=d'
     .subst D;simp at x0
     .simp only[aO _ _ D]at x0;exact D (h.inj R d' _ x0 K p1 C)) (λB' o i hi r1=>by
     injection o with o;subst o;exact(h.aZ.bR i _ hi r1).2.2.2.2 ⟨d',K,C⟩)
    have s1:=m1.put (O d) (v:=.slice (O ⟨B,0,Y⟩) (k+ys.length) l) (r:=.view d (s.g d+1) 0 (k+ys.length)) ⟨aH,λ_=>by
     unfold eI
     grind [ch]⟩
    refine⟨_,_,b8 be d (O B),by rw[e1];exact H,?_⟩;unfold St.cQ;rw[R0];exact s1
   .have q0:k=0:=M;have t1:ys=[]:=oT M;have u1:l=0:=M;subst q0 t1 u1;have r0:news=[]:=oT (by rw[f.size];simp);subst r0;have N:=f.cells w rfl 0 (bq _);have H:=na (w:=w) (ty:=ty) S T U hi (A:=A) (v:=v2) (f.len w) (by grind);exact⟨_,_,b8 be d Y,by rw[e1];exact H,by simpa using b0.Bn d e G A⟩
  .exact out A l olds e1 U0 a1 (λi j x c g0 h0=>rv.xu i j x c g0 h0) M
theorem aJ.LI (h:aJ P E w0 I0 n s a w I be) {ty:an} {i:TypeInfo} (p:P.underlying t=O (.slice e)) (r:P.underlying u=O du) (B:(∃q,du=.slice q)∨du=.string) (hi:P.info? e=O i) (N:i.zero=O z) (Q:z.cells.size=i.size)
  (d:Nat) {v:ag} (hv:bU P w I be s.b s.g v (.bF xs)) (C:0<P.cellsOf e) (g:lF P e xs) (b:Vu P w I (P.cellsOf e) v2 ys news) (D:lF P e ys) (j0:xs=[]∨ys≠[]) (G:xs.length+ys.length<=maxLen) (R:(xs.length+ys.length)*P.bytesOf e<=140737488355328):
  ∃H w' mY,(Builtin.append_ #[t,u] ty #[v,v2]).run P w=.ok H w'/\aJ P E w0 I0 n (s.cQ d e (xs++ys)) (a.put (O d) H) w' I mY:=by
 obtain⟨S,A,l⟩:=hv;have T:=vI g D;have U:=sJ hi;have X:=uq hi;have k0:(xs++ys).length=xs.length+ys.length:=jf;by_cases o:ys=[]
 .subst o;have a0:xs=[]:=by grind
  subst a0;have b0:news=[]:=oT (by rw[b.size];simp);subst b0;have J:=b.cells w rfl 0 (bq _);simp only[za]at l;have K:=na (w:=w) (ty:=ty) p r B hi (A:=A) (v:=v2) (b.len w) (by grind);exact⟨_,_,b8 be d Y,by rw[l];exact K,by simpa using h.Bn d e C A⟩
 .have L:xs.length<xs.length+ys.length:=by grind
  obtain⟨olds,rv⟩:=Bo (P:=P) S (λx f=>(g x f).1);have c0:=growslice_fits L (X▸R);have J:=b.cells w.drew rfl ys.length (bq _);rw[de (by rw[b.size];grind)]at J;have d0:=rv.cells w.drew rfl xs.length (bq _);rw[de (by rw[rv.size];grind),l]at d0;have K:=rL (w:=w) (ty:=ty) p r B hi N (A:=A) (n:=xs.length) (cap:=xs.length) (m:=ys.length) (v:=v2) (olds:=olds) (news:=news) (b.len w) (by grind) (by grind) L (by simp only[maxLen]at G;omega) c0;have l0:=grownCap_ge w (xs.length+ys.length) xs.length e;have e0:grownCap w (xs.length+ys.length) xs.length e<=maxLen:=grownCap_le_maxLen w (xs.length+ys.length) xs.length e G;have f0:(olds.toArray++news.toArray++Builtin.zeroCells z.cells (grownCap w (xs.length+ys.length) xs.length e-(xs.length+ys.length))).size=grownCap w (xs.length+ys.length) xs.length e*P.cellsOf e:=by
   simp only[Array.size_append,ug,size_zeroCells,Q,rv.size,b.size,<-U,<-kS]
   grind
  have m0:=h.cQ (w':=w.drew.alloc (.cells (olds.toArray++news.toArray++Builtin.zeroCells z.cells (grownCap w (xs.length+ys.length) xs.length e-(xs.length+ys.length))) e)) d rfl rfl rfl rfl (xs++ys) C f0 e0 (by grind) T
   (λi j x c f g0=>by
     have:=ur (w:=w) (I:=I) (sz:=P.cellsOf e) (k:=xs.length) (xs:=xs) (ys:=ys) (cur:=olds.toArray) (news:=news) (λi j x c h0 i0=>by simpa using rv.xu i j x c h0 i0) (λx f=>(g x f).1) rfl (by simp[rv.size]) b.size b.xu (λy o=>(D y o).1) (Builtin.zeroCells z.cells (grownCap w (xs.length+ys.length) xs.length e-(xs.length+ys.length))).toList i j x c f g0;rw[de (by simp[rv.size])]at this;have n0:(olds.toArray.toList++news++(Builtin.zeroCells z.cells (grownCap w (xs.length+ys.length) xs.length e-(xs.length+ys.length))).toList).toArray=olds.toArray++news.toArray++Builtin.zeroCells z.cells (grownCap w (xs.length+ys.length) xs.length e-(xs.length+ys.length)):=by simp_all
     grind)
  grind
end
def js(P:ai)(s:St)(e:an):cH->V (Z AV)
 |.val (.sl ys)=>O ys|.val .hk=>O []
 |.bF ys=>O ys|.val (.fl (.string b))=>if P.cellsOf e=1 then O (b.data.toList.map λx=>.fl (.int .u8 x.toNat))else Y
 |.view d gg off len=>match s.b d with
  |some (.br e' xs)=>if e'=e/\gg=s.g d then O ((xs.drop off).take len)else Y|_=>Y
 |.val (.view i sz len)=>match s.a i with
  |some (.br e' xs)=>if e'=e/\sz=P.cellsOf e/\len<=xs.length then O (xs.take len)else Y|_=>Y
 |_=>Y
section
variable{P:ai}{E:cd}{w0:af}{I0:aA}{n:Nat}{o:aC}{s:St}{K:St->Prop}{a:Act}{w:af}{I:aA}{be:Nat->V Nat}
theorem LJ{b:dR}:Vu P w I 1 (.string b) (b.data.toList.map λx=>.fl (.int .u8 x.toNat)) (b.data.toList.map λx=>.int .u8 x.toNat):=by
 refine⟨λw1=>by simp[Builtin.lenOf],λw1 f m g=>?_,aH,by simp[Value.oneCell'],λi j y c d a=>?_⟩
 .have h:m<=b.data.size:=by grind
  simp only[Builtin.firstCells,cW,Nat.mul_one];congr 1;apply Array.ext';simp_all
 .simp only[gu,c8]at d;obtain⟨x,k,rfl⟩:=d;simp only[AV.cells]at a;cases j with
  |succ j=>simp at a|zero=>
   simp at a;subst a;have e:(b.data.toList.map λx=>Value.int .u8 x.toNat).getD (i*1+0) undef=.int .u8 x.toNat:=by grind
   rw[e];exact .fl _ rfl
theorem xD(q:aJ P E w0 I0 n s a w I be){v:ag}(h:bU P w I be s.b s.g v r)(b:js P s e r=O ys)(t:lF P e ys):∃news,Vu P w I (P.cellsOf e) v ys news:=by
 cases r with
 |val x=>
  cases x with
  |sl zs=>simp only[js,aN]at b;subst b;exact Bo h (λy b=>(t y b).1)|hk=>
   simp only[js,aN]at b;subst b;refine Bo (ys:=[]) ?_ (λy b=>by cases b);cases(show cy w I v .hk from h)with
   |hk A=>
    cases A with
    |none=>exact .fc 0|some a=>exact .sl a 0 0 0 [] (λ_ _=>undef) rfl (bq _) (eM _) (λi x h=>by simp at h) (λi j x c h=>by simp at h) (λi j x c h=>by simp at h) (λi j x c h=>by simp at h)
  |fl u=>
   cases u<;>simp only[js,reduceCtorEq]at b;split at b
   .rename_i g;injection b with b;subst b;have f:=bV h;subst f;rw[g];exact⟨_,LJ⟩
   .cases b
  |view i sz len=>
   simp only[js]at b;cases z:s.a i with
   |none=>grind|some x=>
    cases x with
    |cells cs=>grind|map U=>grind
    |br e' xs=>
     simp only[z]at b;split at b
     .rename_i g;obtain⟨rfl,rfl,X⟩:=g;injection b with b;subst b;obtain⟨B,D,G⟩:=q.aZ.h7 i _ z;cases(show cy w I v (.view i (P.cellsOf e') len)from h)with
      |view _ _ _ B' cap o cur A m hw hs a0 b0=>
       rw[D]at m;injection m with m;subst m;obtain⟨q1,H,J,C⟩:=G;have K:=C;obtain⟨c0,p,l,L,d0,e0,f0⟩:=C;rw[hw]at l;injection l with l;injection l with l N;subst l N;have Q:p=cap:=lJ q1 (L.symm.trans hs);subst Q;have f:jb P w I (λ_=>O B) (λ_=>O (.br o xs)) (λ_=>0) 0 (.br o xs):=⟨q1,H,J,K⟩
       have hv:bU P w I (λ_=>O B) (λ_=>O (.br o xs)) (λ_=>0) (.slice A len p) (.view 0 0 0 len):=⟨bq _,λ_=>⟨M,cur,p,A,hw,hs,aH,λg=>by grind⟩⟩
       have:=Bp hv rfl rfl f
       grind
      |lE _ _ A cap R _=>
       have S:cy w I (.slice A 0 cap) (.sl []):=by
        cases A with
        |none=>exact .fc cap|some a=>exact .sl a 0 cap 0 [] (λ_ _=>undef) rfl (eM _) R (λi x h=>by simp at h) (λi j x c h=>by simp at h) (λi j x c h=>by simp at h) (λi j x c h=>by simp at h)
       have:=Bo (P:=P) (sz:=P.cellsOf e') S (λy b=>by simp at b)
       grind
     .cases b
  |_=>simp[js]at b
 |bF zs=>simp only[js,aN]at b;subst b;exact Bo h.1 (λy b=>(t y b).1)|view d gg off len=>
  simp only[js]at b;cases f:s.b d with
  |none=>grind|some bx=>
   cases bx with
   |cells cs=>grind|br e' xs=>
    simp only[f]at b;split at b
    .rename_i g;obtain⟨rfl,T⟩:=g;injection b with b;subst b;exact Bp h T f (q.bD d _ f)
    .cases b
 |none=>simp[js]at b|dT d gg sz i k=>simp[js]at b
 |gw rs=>simp[js]at b
def mg(P:ai)(u:an):aa:=
 match P.underlying u with
 |some (.slice _)|some .string=>W|_=>F
theorem vJ(h:mg P u=W):∃du,P.underlying u=O du/\((∃q,du=.slice q)∨du=.string):=by
 unfold mg at h
 grind
def vK(P:ai)(e:an):Prop:=0<P.cellsOf e/\∃i z,P.info? e=O i/\i.zero=O z/\z.cells.size=i.size
theorem fC{b:Builtin}(c:o.op=.call {callee:=.builtin b,args:=args,argTypes:=argTypes})(a:Act):
  ∃cs,execOp a.eval o=builtin b argTypes o.type cs (args.map a.eval):=by
 exact⟨_,by simp only[execOp,c,resolve,invoke];rfl⟩
theorem oX{x:ah}(f:o.op=.call {callee:=.builtin .append,args:=#[x,y],argTypes:=#[t,u]})(g:ba n o=W)(U:o.dst=O d)
  (l:P.underlying t=O (.slice e)) (m:mg P u=W) (p:vK P e) (q:s.ev x=.view d' gg 0 k) (r:gg=s.g d') (A:s.b d'=O (.br e xs)) (B:js P s e (s.ev y)=O ys)
  (h:lF P e ys) (C:k+ys.length<=maxLen) (D:(k+ys.length)*P.bytesOf e<=140737488355328) (G:K (({s with b:=b8 s.b d' Y}:St).cQ d e (xs.take k++ys))):dL P E w0 I0 n o s K:=by
 rintro a w ⟨I,be,c⟩ X;obtain⟨du,H,J⟩:=vJ m;obtain⟨a0,i,z,hi,hz,L⟩:=p;have j:=aM g (x:=x) (by simp[f,Op.operands,Call.operands]) c;have N:=aM g (x:=y) (by simp[f,Op.operands,Call.operands]) c;rw[q]at j;obtain⟨news,Q⟩:=xD c N B h;obtain⟨R,w',mY,S,b0⟩:=c.append (ty:=o.type) l H J hi hz L d d' k j r A Q h C D;refine fS (v:=R) (w':=w') ?_ ⟨_,⟨I,mY,by grind⟩,G⟩;obtain⟨cs,T⟩:=fC f a;rw[T];simp[builtin,S]
theorem oY{x:ah}(c:o.op=.call {callee:=.builtin .append,args:=#[x,y],argTypes:=#[t,u]})(f:ba n o=W)(T:o.dst=O d)
  (j:P.underlying t=O (.slice e)) (k:mg P u=W) (l:vK P e) (m:s.ev x=.bF xs) (p:lF P e xs) (q:js P s e (s.ev y)=O ys)
  (g:lF P e ys) (r:xs=[]∨ys≠[]) (A:xs.length+ys.length<=maxLen) (B:(xs.length+ys.length)*P.bytesOf e<=140737488355328) (C:K (s.cQ d e (xs++ys))):dL P E w0 I0 n o s K:=by
 rintro a w ⟨I,be,b⟩ U;obtain⟨du,D,G⟩:=vJ k;obtain⟨H,i,z,hi,hz,J⟩:=l;have h:=aM f (x:=x) (by simp[c,Op.operands,Call.operands]) b;have L:=aM f (x:=y) (by simp[c,Op.operands,Call.operands]) b;rw[m]at h;obtain⟨news,N⟩:=xD b L q g;obtain⟨Q,w',mY,R,X⟩:=b.LI (ty:=o.type) j D G hi hz J d h H p N g r A B;refine fS (v:=Q) (w':=w') ?_ ⟨_,⟨I,mY,by grind⟩,C⟩;obtain⟨cs,S⟩:=fC c a;rw[S];simp[builtin,R]
theorem PE{x:ah}{ts:Array an}(b:o.op=.call {callee:=.builtin .max,args:=#[x,y],argTypes:=ts})(c:ba n o=W){p q:Int}(g:s.ev x=.val (.fl (.int .i64 p)))(i:s.ev y=.val (.fl (.int .i64 q))):dZ P E w0 I0 n o s (.val (.fl (.int .i64 (bif decide (p<q)then q else p)))):=by intro a w I be d;have e:=aM c (x:=x) (by simp[b,Op.operands,Call.operands]) d;have f:=aM c (x:=y) (by simp[b,Op.operands,Call.operands]) d;rw[g]at e;rw[i]at f;refine⟨_,?_,.fl _ rfl⟩;obtain⟨cs,j⟩:=fC b a;rw[j];simp only[NM,gb,zb,bV e,bV f];by_cases h:p<q<;>simp[builtin,Builtin.max_,Builtin.max2,h]
def hC(s:St):cH->V Nat
 |.val (.sl xs)=>O xs.length|.bF xs=>O xs.length
 |.val (.fl (.string b))=>O b.size|.view d gg _ len=>match s.b d with
  |some (.br _ _)=>if gg=s.g d then O len else Y|_=>Y
 |_=>Y
theorem xE{x:ah}{t:an}(l:o.op=.call {callee:=.builtin .len,args:=#[x],argTypes:=#[t]})(z:ba n o=W)(H:mg P t=W){m:Nat}(b:hC s (s.ev x)=O m)
  (f:match s.ev x with|.val (.fl _)=>P.underlying t=O .string|_=>∃e,P.underlying t=O (.slice e)):dZ P E w0 I0 n o s (.val (.fl (.int .i64 m))):=by
 intro a w I be B;have g:=aM z (x:=x) (by simp[l,Op.operands,Call.operands]) B;refine⟨.int .i64 m,?_,.fl _ rfl⟩;obtain⟨cs,C⟩:=fC l a;rw[C];have slice:∀(e:an)(A:V bY)(c:Nat),P.underlying t=O (.slice e)->a.eval x=.slice A m c->(builtin .len #[t] o.type cs #[a.eval x]).run P w=.ok (.value (.int .i64 m)) w:=by intro e A c h q;simp[builtin,Builtin.len_,eH h,q,goInt]
 simp only[NM,gb,zb];generalize J:s.ev x=r at*;cases r with
 |val y=>
  cases y with
  |sl xs=>
   simp only[hC,aN]at b;subst b;obtain⟨e,h⟩:=f;have D:cy w I (a.eval x) (.sl xs):=g;generalize hv:a.eval x=v at*;cases D with
   |fc c=>grind|sl p K cap sz xs L N Q R hsz S T U=>grind
  |fl u=>
   cases u<;>simp only[hC,reduceCtorEq]at b;injection b with b
   subst b;have j:=bV g;simp[builtin,Builtin.len_,eH f,j,goInt]
  |_=>simp[hC]at b
 |bF xs=>
  simp only[hC,aN]at b;subst b;obtain⟨e,h⟩:=f;obtain⟨A,q⟩:=g.2
  grind
 |view d gg off len=>
  simp only[hC]at b;obtain⟨e,h⟩:=f;cases j:s.b d with
  |none=>grind|some bx=>
   cases bx with
   |cells cs=>grind|br e' xs=>
    simp only[j]at b;split at b
    .rename_i G;injection b with b;subst b;obtain⟨_,hv⟩:=mf g G j
     grind
    .cases b
 |none=>simp[hC]at b|dT d gg sz i k=>simp[hC]at b
 |gw rs=>simp[hC]at b
end
def bh{α:Type}(cs:Z α)(k:Nat)(vs:Z α):Z α:=cs.take k++vs++cs.drop (k+vs.length)
theorem bI{cs vs:Z α}(h:k+vs.length<=cs.length):(bh cs k vs).length=cs.length:=by simp[bh];omega
theorem cM{cs vs:Z α}(h:k+vs.length<=cs.length)(j:Nat):(bh cs k vs)[j]?=if j<k then cs[j]? else if j<k+vs.length then vs[j-k]? else cs[j]?:=by
 have a:(cs.take k).length=k:=dx;unfold bh
 grind
def GJ:cH->Prop
 |.val x=>x.wf|.bF _=>True
 |.dT _ _ _ _ _=>True|.view _ _ _ _=>True
 |_=>False
section
variable{P:ai}{E:cd}{w0:af}{I0:aA}{n:Nat}{o:aC}{s:St}{K:St->Prop}{a:Act}{w:af}{I:aA}{be:Nat->V Nat}{b:Nat->V Bx}{g:Nat->Nat}
theorem LK{v:ag}(h:bU P w I be b g v (.view d gg off len))(a:gg=g d)(f:b d=O (.br e xs)):∃A l c,v=.slice A l c:=by
 obtain⟨_,i⟩:=mf h a f
 grind
theorem qv{v:ag}(h:bU P w I be b g v r)(y:GJ r)
  (E:∀d gg sz i k,r=.dT d gg sz i k->gg=g d/\b d≠Y) (G:∀d gg off len,r=.view d gg off len->gg=g d/\∃e xs,b d=O (.br e xs)):∀u∈v.cells.toList,u.oneCell'=W:=by
 cases r with
 |val x=>
  have H:cy w I v x:=h;have J:x.wf:=y;cases H with
  |fl v K=>
   intro u m;cases v<;>first
    |(simp[Vt,Value.oneCell']at K;done)
    |(simp[Value.cells]at m;subst m;rfl)
  |agg vs cs z o=>intro u m;simp only[Value.cells,Array.mem_toList_iff]at m;obtain⟨j,L,rfl⟩:=Array.getElem_of_mem m;have C:j<cs.length:=M;have q:=o j cs[j] (cX C);have s:=NO q (J _ (fR C));simpa[L]using s|fc c=>intro u m;simp[Value.cells]at m;subst m;rfl|sl a n cap sz xs N S T U hsz Q R o=>intro u m;simp[Value.cells]at m;subst m;rfl
  |ref p cs N Q R o=>intro u m;simp[Value.cells]at m;subst m;rfl|fn f vs caps z o=>intro u m;simp[Value.cells]at m;subst m;rfl
  |mR t v x o=>intro u m;simp[Value.cells]at m;subst m;rfl|ptr i off B D=>intro u m;simp[Value.cells]at m;subst m;rfl
  |view i sz len B cap e cur A D X a0 z b0=>intro u m;simp[Value.cells]at m;subst m;rfl|lE i sz A cap h _=>intro u m;simp[Value.cells]at m;subst m;rfl
  |mp i B D=>intro u m;simp[Value.cells]at m;subst m;rfl|hk A=>intro u m;simp[Value.cells]at m;subst m;rfl
  |mc f vs first z o=>intro u m;simp[Value.cells]at m;subst m;rfl
 |bF xs=>obtain ⟨A,rfl⟩:=h.2;intro u m;simp[Value.cells]at m;subst m;rfl|dT d gg sz i k=>obtain⟨q,s⟩:=E _ _ _ _ _ rfl;obtain⟨B,_,rfl⟩:=uo h q s;intro u m;simp[Value.cells]at m;subst m;rfl
 |view d gg off len=>obtain⟨q,e,xs,s⟩:=G _ _ _ _ rfl;obtain⟨A,l,c,rfl⟩:=LK h q s;intro u m;simp[Value.cells]at m;subst m;rfl|none=>exact y.elim|gw rs=>exact y.elim
theorem jJ{B:Nat}{T:an}{v:ag}(b:w.heap[B]?=O (.cells cur T (0,0)))(c:v.cells.size=P.cellsOf t)(h0:0<P.cellsOf t)(d:∀u∈v.cells.toList,u.oneCell'=W)(e:k+v.cells.size<=cur.size):
  (storeVar t ⟨B,k,Y⟩ v).run P w=.ok () (w.setRow B (bh cur.toList k v.cells.toList).toArray):=by
 have a:=run_storeCells_at P B k T v.cells.toList 0 cur w b (by grind) d;simp only[qm]at a;simp[storeVar,gF c.symm M,a,bh]
theorem kp{o:aC}{a:Act}{w:af}(h:(execOp a.eval o).run P w=.ok .skip w')(b:next (a.put o.dst undef) w'):o.wp P a w next Q:=by unfold Oper.wp;rw[h];exact b
theorem fT(h:k+vs.length<=cur.size)(j:Nat):(bh cur.toList k vs).toArray.getD j undef=if j<k then cur.getD j undef else if j<k+vs.length then vs.getD (j-k) undef else cur.getD j undef:=by
 simp only[my,EX,IV]
 grind [cM]
theorem jg{p x:ah}(u:o.op=.store t p x)(v:ba n o=W)(G:o.dst=Y){cs vs:Z cH}(H:s.ev p=.dT d gg sz i k)(J:gg=s.g d)(h:s.b d=O (.cells cs))
  (L:ih (s.ev x)=O vs) (l:Rz s (s.ev x)) (N:GJ (s.ev x)) (h0:0<P.cellsOf t) (Q:vs.length=P.cellsOf t) (y:i*sz+k+vs.length<=cs.length)
  (R:K {s with b:=b8 s.b d (O (.cells (bh cs (i*sz+k) vs)))}):dL P E w0 I0 n o s K:=by
 rintro a w ⟨I,be,f⟩ j0;have z:=aM v (x:=p) (by simp[u,Op.operands]) f;have A:=aM v (x:=x) (by simp[u,Op.operands]) f;rw[H]at z;obtain⟨B,m,e1⟩:=uo z J (by simp[h]);have C:∀d gg sz i k,s.ev x=.dT d gg sz i k->gg=s.g d/\s.b d≠Y:=λd gg sz i k e=>by rw[e]at l;exact l
 have D:∀d gg off len,s.ev x=.view d gg off len->gg=s.g d/\∃e xs,s.b d=O (.br e xs):=λd gg off len e=>by rw[e]at l;exact l
 obtain⟨S,U⟩:=kV A L C D;have X:=qv A N C D;obtain⟨B',cur,T,q,hw,a0,k0⟩:=f.bD d _ h;rw[m]at q;injection q with q;subst q;have b0:i*sz+k+(a.eval x).cells.size<=cur.size:=M;have c0:=jJ (P:=P) (t:=t) hw (by rw[S,Q]) h0 X b0;have hsz:(bh cur.toList (i*sz+k) (a.eval x).cells.toList).toArray.size=cur.size:=by grind [ug,bI]
 obtain⟨d0,e0⟩:=f.vF d _ (.cells (bh cs (i*sz+k) vs)) B h m cur _ T hw hsz (.inl ⟨_,_,rfl,rfl⟩);refine kp (w':=w.setRow B (bh cur.toList (i*sz+k) (a.eval x).cells.toList).toArray) ?_ ⟨_,⟨I,be,?_⟩,R⟩
 .simp[execOp,u,e1,Instr.storeAt,Instr.sureAddr,c0]
 .rw[G];refine f.hg d _ (.cells (bh cs (i*sz+k) vs)) B h m cur _ T hw hsz (.inl ⟨_,_,rfl,rfl⟩) ⟨B,_,T,m,pA w B cur _ T (0,0) hw,by rw[hsz,bI y,a0],λj c r=>?_⟩;refine bU.eP (w:=w) (I:=I) (be:=be) (b:=s.b) (g:=s.g) d0 e0 ?_;rw[cM y]at r;rw[fT (by grind)];have f0:(a.eval x).cells.toList.length=vs.length:=by grind
  rw[f0];split at r
  grind
  .rename_i g0;rw[ao g0];split at r
   .rename_i i0;rw[aq i0];have:=U _ c r;simpa[IV]using this
   grind
def gU(x:AV)(k:Nat)(vs:Z AV):AV:=
 match x with
 |.agg cs=>.agg (bh cs k vs)|_=>vs.headD x
theorem Ab{p x:ah}(C:o.op=.store t p x)(Q:ba n o=W)(g0:o.dst=Y){v y:AV}(i0:s.ev p=.dT d gg sz i k)(j0:gg=s.g d)(z:s.b d=O (.br e xs))
  (hsz:sz=P.cellsOf e) (k0:bz (s.ev x)=O v) (D:v.wf) (h0:0<P.cellsOf t) (l0:v.cells.length=P.cellsOf t) (G:xs[i]?=O y) (H:k+v.cells.length<=y.cells.length) (R:y.isAgg=W∨(k=0/\v.isAgg=F))
  (m0:K {s with b:=b8 s.b d (O (.br e (xs.set i (gU y k v.cells))))}):dL P E w0 I0 n o s K:=by
 rintro a w ⟨I,be,q⟩ H0;have S:=aM Q (x:=p) (by simp[C,Op.operands]) q;have T:=dW (aM Q (x:=x) (by simp[C,Op.operands]) q) k0;rw[i0]at S;obtain⟨B,A,e1⟩:=uo S j0 (by simp[z]);have n0:(a.eval x).cells.size=v.cells.length/\(∀u∈(a.eval x).cells.toList,u.oneCell'=W)/\∀(j:Nat)(c:AV),v.cells[j]?=O c->cy w I ((a.eval x).cells.getD j undef) c:=by have o0:=kV (P:=P) (be:=be) (b:=s.b) (g:=s.g) (r:=.val v) (cs:=v.cells.map .val) T rfl (λ_ _ _ _ _ h=>by cases h) (λ_ _ _ _ h=>by cases h);have f:=qv (P:=P) (be:=be) (b:=s.b) (g:=s.g) (r:=.val v) T D (λ_ _ _ _ _ h=>by cases h) (λ_ _ _ _ h=>by cases h);refine⟨by grind,f,λj c l=>?_⟩;have:=o0.2 j (.val c) (by simp[l]);exact this
 obtain⟨p0,q0,r0⟩:=n0;obtain⟨s0,J0,U,X⟩:=q.bD d _ z;simp only[A]at X;obtain⟨cur,cap,hw,K0,t0,L0,u0⟩:=X;have a0:i<xs.length:=(cr.1 G).1;have N0:=(U i y G).1;have x0:(i+1)*P.cellsOf e<=cap*P.cellsOf e:=hR _ M;rw[kS,uk]at x0;subst hsz;have y0:i*P.cellsOf e+k+(a.eval x).cells.size<=cur.size:=M;have A0:=jJ (P:=P) (t:=t) hw (by rw[p0,l0]) h0 q0 y0;have b0:(bh cur.toList (i*P.cellsOf e+k) (a.eval x).cells.toList).toArray.size=cur.size:=by grind [ug,bI]
 have c0:(xs.set i (gU y k v.cells)).length=xs.length:=aH;obtain⟨B0,P0⟩:=q.vF d _ (.br e (xs.set i (gU y k v.cells))) B z A cur _ e hw b0 (.inr ⟨_,_,_,rfl,rfl,c0⟩);have C0:(gU y k v.cells).cells=bh y.cells k v.cells/\(gU y k v.cells).wf:=by
  cases d0:y with
  |agg cs=>
   have J:=(U i y G).2;rw[d0]at J H;refine⟨rfl,λc l=>?_⟩;simp only[gU,AV.cells,bh,fK]at l;rcases l with(l|l)|l
   .exact J c (AY l)
   .exact D c l
   .exact J c (Lx l)
  |_=>
   rw[d0]at R H;obtain⟨rfl,e0⟩:=R.resolve_left (by simp[AV.isAgg]);have:v.cells=[v]:=by cases v<;>first|rfl|(simp[AV.isAgg]at e0)
   rw[this];refine⟨?_,?_⟩
   .cases v<;>first|rfl|(simp[AV.isAgg]at e0)
   .simpa[gU]using D
 refine kp (w':=w.setRow B (bh cur.toList (i*P.cellsOf e+k) (a.eval x).cells.toList).toArray) ?_ ⟨_,⟨I,be,?_⟩,m0⟩
 .simp[execOp,C,e1,Instr.storeAt,Instr.sureAddr,A0]
 .rw[g0];refine q.hg d _ (.br e (xs.set i (gU y k v.cells))) B z A cur _ e hw b0 (.inr ⟨_,_,_,rfl,rfl,c0⟩) ⟨s0,by grind,λi2 f0 f=>?_,?_⟩
  .rw[y9]at f;split at f
   .rename_i m;subst m;try rw[aq a0]at f
    grind [bI]
   grind
  .simp only[A];refine⟨_,cap,pA w B cur _ e (0,0) hw,by grind,t0,by grind,λi2 j f0 c f m=>?_⟩;refine cy.mono (w:=w) (I:=I) B0 ?_;rw[fT (by grind)];have D0:(a.eval x).cells.toList.length=v.cells.length:=by grind
   rw[D0];rw[y9]at f;split at f
   .rename_i L;subst L;try rw[aq a0]at f
    injection f with f;subst f;rw[C0.1,cM H]at m;by_cases q1:j<k
    grind
    .rw[ao q1]at m;rw[ao M];by_cases E0:j<k+v.cells.length
     .rw[aq E0]at m;rw[aq M];have:=r0 _ c m;have G0:i*P.cellsOf e+j-(i*P.cellsOf e+k)=j-k:=M;rw[G0];simpa[IV]using this
     grind
   .rename_i L;have Q0:j<P.cellsOf e:=by grind
    have R0:=u0 i2 j f0 c f m;rcases Nat.lt_or_gt_of_ne L with N|N
    .have:(i+1)*P.cellsOf e<=i2*P.cellsOf e:=hR _ N
     grind
    .have:(i2+1)*P.cellsOf e<=i*P.cellsOf e:=hR _ N
     grind
end
def oo:ag->AV
 |.agg cs=>.agg (cs.toList.map dV)|v=>dV v
theorem xF{v:ag}(h:v.oneCell'=W):(dV v).isAgg=F:=by unfold dV;split<;>rfl
theorem Ac(v:ag):(dV v).cells=[dV v]:=by unfold dV;split<;>rfl
theorem qw(h:(z.cells.all λv=>v.oneCell')=W):(oo z).cells=z.cells.toList.map dV/\(oo z).wf:=by
 have d:∀v∈z.cells,v.oneCell'=W:=λv hv=>rB.1 h v hv;have a:(oo z).cells=z.cells.toList.map dV:=by
  cases z<;>first
   |exact Ac _
   |rfl
 refine⟨a,λc b=>?_⟩;rw[a]at b;obtain⟨v,hv,rfl⟩:=gC.1 b
 grind [xF]
section
variable{P:ai}{E:cd}{w0:af}{I0:aA}{n:Nat}{o:aC}{s:St}{K:St->Prop}{a:Act}{w:af}{I:aA}{be:Nat->V Nat}{b:Nat->V Bx}{g:Nat->Nat}
theorem RA(h:(z.cells.all λv=>v.oneCell')=W)(j:Nat)(a:(oo z).cells[j]?=O c):cy w I (z.cells.getD j undef) c:=by rw[(qw h).1,gu,c8]at a;obtain⟨v,hv,rfl⟩:=a;rw[tz]at hv;have b:=rB.1 h v (kQ hv);simp only[my,hv,gh];exact me b
theorem ze(v:Array ag)(off:Nat):∀(cells:Array ag)(l:Z (ag×Nat))(k:Nat),(∀(q:Nat)(x:ag×Nat),l[q]?=O x->x.2=k+q)->off+k+l.length<=cells.size->
  (l.foldl (λcs(p:ag×Nat)=>cs.setIfInBounds (off+p.2) p.1) cells).toList=bh cells.toList (off+k) (l.map (·.1))
 |cells,[],k,_,_=>by simp[bh]|cells,x::l,k,h,a=>by
  have h0:x.2=k:=by have:=h 0 x rfl;omega
  have b:=ze v off (cells.setIfInBounds (off+k) x.1) l (k+1) (λq y c=>by have:=h (q+1) y (by grind);omega) (by grind);simp only[vA,h0];rw[b];simp only[ie]at a;apply tE;intro q;rw[cM dx,cM dx];simp only[gb,ie,iT,Array.toList_setIfInBounds];by_cases q1:q<off+k
  grind
  grind
theorem RB(a v:Array ag)(off:Nat)(h:off+v.size<=a.size):
  (v.zipIdx.foldl (λcs(x:ag×Nat)=>cs.setIfInBounds (off+x.2) x.1) a).toList=bh a.toList off v.toList:=by
 rw[<-Za];have:=ze v off a v.zipIdx.toList 0 (λq x b=>by grind) (by grind);simp_all
theorem xG(c:Nat->V (Nat×Nat)):∀(parts:Z (Nat×ag))(a:Array ag)(b:Z Nat),b.length=parts.length->
  (∀(q:Nat)(p:Nat×ag)(off:Nat),parts[q]?=O p->b[q]?=O off->c p.1=O (off,p.2.cells.size)/\off+p.2.cells.size<=a.size)->
  ∃cs:Array ag,Instr.fill c a parts=O cs/\cs.toList=(parts.zip b).foldl (λl x=>bh l x.2 x.1.2.cells.toList) a.toList
 |[],a,b,d,_=>⟨a,rfl,aH⟩|(i,v)::parts,a,[],d,_=>by simp at d
 |(i,v)::parts,a,off::b,d,h=>by
  obtain⟨f,e⟩:=h 0 (i,v) off rfl rfl;simp only at f e;have j:=RB a v.cells off e;have hsz:(v.cells.zipIdx.foldl (λcs(x:ag×Nat)=>cs.setIfInBounds (off+x.2) x.1) a).size=a.size:=by grind [Array.length_toList,bI]
  obtain⟨cs,k,m⟩:=xG c parts (v.cells.zipIdx.foldl (λcs(x:ag×Nat)=>cs.setIfInBounds (off+x.2) x.1) a) b (by grind) (λq p g n o=>by
   have:=h (q+1) p g (by grind) (by grind)
   grind)
  refine⟨cs,?_,?_⟩
  .unfold Instr.fill
   grind
  simp_all
end
def gV(P:ai)(t:an):V an:=
 match P.underlying t with
 |some (.slice e)=>O e|_=>Y
theorem ff(h:gV P t=O e):P.underlying t=O (.slice e):=by grind [gV]
def kW(P:ai)(t:an):V (Z (Nat×Nat)):=
 match P.underlying t with
 |some (.struct fs)=>fs.toList.mapM λf=>(P.info? f.type).map λi=>(f.offset,i.size)|some (.array n e)=>if 0<P.cellsOf e then O ((List.range n).map λj=>(j*P.cellsOf e,P.cellsOf e))else Y
 |_=>Y
def kX(P:ai)(t:an)(f:Nat):V (Nat×an):=
 match P.underlying t with
 |some (.struct fs)=>(fs[f]?).bind λfd=>if 0<P.cellsOf fd.type then O (fd.offset,fd.type)else Y|_=>Y
theorem qx(h:kX P t f=O (off,ft)):∃fs fd,P.underlying t=O (.struct fs)/\fs[f]?=O fd/\fd.offset=off/\fd.type=ft/\0<P.cellsOf fd.type:=by grind [kX,aN,cz]
def oq(P:ai)(t:an):V AV:=
 match P.info? t with
 |some i=>match i.zero with
  |some z=>if(z.cells.all λv=>v.oneCell')&&z.cells.size==i.size then O (oo z)else Y|none=>Y
 |none=>Y
theorem rM{x:AV}(h:oq P t=O x):∃i z,P.info? t=O i/\i.zero=O z/\(z.cells.all λv=>v.oneCell')=W/\z.cells.size=i.size/\x=oo z:=by
 unfold oq at h
 grind
def uu(P:ai)(e:an):aa:=decide (0<P.cellsOf e)&&(oq P e).isSome
theorem I4(h:uu P e=W):vK P e:=by simp only[uu,aP,aV]at h;obtain⟨x,a⟩:=um.1 h.2;obtain⟨i,z,b,c,_,d,_⟩:=rM a;exact⟨h.1,i,z,b,c,d⟩
section
variable{P:ai}{E:cd}{w0:af}{I0:aA}{n:Nat}{o:aC}{s:St}{K:St->Prop}{a:Act}{w:af}{I:aA}{be:Nat->V Nat}{b:Nat->V Bx}{g:Nat->Nat}
def lN(w:af)(I:aA)(vs:Z ag)(cs:Z AV):Prop:=vs.length=cs.length/\∀(j:Nat)(v:ag)(c:AV),vs[j]?=O v->cs[j]?=O c->cy w I v c
theorem lN.abe {us:Z ag} {cs ds:Z AV} (h:lN w I vs cs) (b:lN w I us ds) (e:k+us.length<=vs.length):lN w I (bh vs k us) (bh cs k ds):=by
 have f:k+ds.length<=cs.length:=by have:=h.1;have:=b.1;omega
 refine⟨by rw[bI e,bI f,h.1],λj v c hv a=>?_⟩;rw[cM e]at hv;rw[cM f,<-b.1]at a;split at hv
 .rename_i q;rw[aq q]at a;exact h.2 j v c hv a
 .rename_i q;rw[ao q]at a;split at hv
  .rename_i d;rw[aq d]at a;exact b.2 _ v c hv a
  .rename_i d;rw[ao d]at a;exact h.2 j v c hv a
theorem sK{v:ag}{x:AV}(h:cy w I v x):lN w I v.cells.toList x.cells:=by have d:=kV (P:=default) (be:=λ_=>Y) (b:=λ_=>Y) (g:=λ_=>0) (r:=.val x) (cs:=x.cells.map .val) h rfl (λ_ _ _ _ _ h=>by cases h) (λ_ _ _ _ h=>by cases h);refine⟨by grind,λj u c a e=>?_⟩;have:=d.2 j (.val c) (by simp[e]);rw[tz]at a;simpa[a,bU]using this
theorem zf{α β:Type}:∀(ps:Z (α×β)),(ps.map (·.1)).zip (ps.map (·.2))=ps
 |[]=>rfl|p::ps=>by simp[zf ps]
def dD(cs:Z AV):Z (Nat×AV)->Z AV
 |[]=>cs|(off,x)::rest=>dD (bh cs off x.cells) rest
theorem rN:∀(parts:Z (Nat×ag))(a:Z Nat)(xs:Z AV)(vs:Z ag)(cs:Z AV),lN w I vs cs->a.length=parts.length->xs.length=parts.length->
  (∀(q:Nat)(p:Nat×ag)(x:AV),parts[q]?=O p->xs[q]?=O x->cy w I p.2 x)->(∀(q:Nat)(off:Nat)(p:Nat×ag),a[q]?=O off->parts[q]?=O p->off+p.2.cells.size<=vs.length)->
  lN w I ((parts.zip a).foldl (λl x=>bh l x.2 x.1.2.cells.toList) vs) (dD cs (a.zip xs))
 |[],[],[],vs,cs,h,_,_,_,_=>h|p::parts,off::a,x::xs,vs,cs,h,b,c,e,f=>by have g:=e 0 p x rfl rfl;have r:=f 0 off p rfl rfl;have i:=h.abe (sK g) (k:=off) (by grind);have j:(bh vs off p.2.cells.toList).length=vs.length:=bI (by grind);exact rN parts a xs _ _ i (by grind) (by grind) (λq d m n s=>e (q+1) d m (by grind) (by grind)) (λq o d t n=>by rw[j];exact f (q+1) o d (by grind) (by grind))
 |p::parts,[],xs,_,_,_,b,_,_,_=>by simp at b|p::parts,off::a,[],_,_,_,_,c,_,_=>by simp at c
 |[],off::a,xs,_,_,_,b,_,_,_=>by simp at b|[],[],x::xs,_,_,_,_,c,_,_=>by simp at c
def jh(s:St)(a:Z (Nat×Nat)):Z (Nat×ah)->V (Z (Nat×AV))
 |[]=>O []|(i,x)::rest=>match a[i]?,bz (s.ev x),jh s a rest with
  |some (off,sz),O v,O r=>if v.cells.length=sz then O ((off,v)::r)else Y|_,_,_=>Y
theorem vL{a:Z (Nat×Nat)}:∀{ps:Z (Nat×ah)}{r:Z (Nat×AV)},jh s a ps=O r->r.length=ps.length/\
  ∀(q:Nat)(p:Nat×ah)(y:Nat×AV),ps[q]?=O p->r[q]?=O y->a[p.1]?=O (y.1,y.2.cells.length)/\bz (s.ev p.2)=O y.2
 |[],r,h=>by simp[jh]at h;grind|(i,x)::rest,r,h=>by
  simp only[jh]at h;split at h
  .rename_i off sz v c d e b;split at h
   .rename_i f;injection h with h;subst h;obtain⟨g,j⟩:=vL b
    grind
   .cases h
  .cases h
def I5(v:ag)(c:AV):Prop:=c=dV v∨(v=.slice Y 0 0/\c=.hk)
theorem xH{w:af}{I:aA}{v:ag}(h:v.oneCell'=W)(a:I5 v c):cy w I v c:=by
 rcases a with rfl|⟨rfl,rfl⟩
 .exact me h
 .exact .hk Y
def ZC(P:ai)(t:an)(b:Z AV):Prop:=∃i a,P.info? t=O i/\i.zero=O a/\(a.cells.all λv=>v.oneCell')=W/\a.cells.size=i.size/\b.length=a.cells.size/\∀(j:Nat)(v:ag)(c:AV),a.cells[j]?=O v->b[j]?=O c->I5 v c
theorem ZC.VA {P:ai} {z:AV} (h:oq P t=O z):ZC P t z.cells:=by obtain⟨i,d,e,f,a,g,rfl⟩:=rM h;refine⟨i,d,e,f,a,g,by rw[(qw a).1];simp,λj v c hv b=>?_⟩;rw[(qw a).1,gu,tz,hv]at b;simp only[dr,aN]at b;exact .inl b.symm
theorem Bq(f g:Nat->V (Nat×Nat)):∀(parts:Z (Nat×ag))(a:Array ag),(∀p∈parts,f p.1=g p.1)->Instr.fill f a parts=Instr.fill g a parts
 |[],a,_=>rfl|(i,v)::parts,a,h=>by
  have h0:=h (i,v) aH;have c:=λa=>Bq f g parts a λp b=>h p (by simp[b])
  grind [Instr.fill]
theorem oZ(z:o.op=.build t parts)(J:ba n o=W){b:Z (Nat×Nat)}(d:kW P t=O b){m:Z AV}(K:ZC P t m)(g0:(b.all λp=>decide (p.1+p.2<=m.length))=W)
  {ps:Z (Nat×AV)} (L:jh s b parts.toList=O ps):dZ P E w0 I0 n o s (.val (.agg (dD m ps))):=by
 intro a w I be Q;obtain⟨i,g,hi,A,h0,i0,j0,k0⟩:=K;obtain⟨l0,R⟩:=vL L;let k:Z (Nat×ag):=parts.toList.map λp=>(p.1,a.eval p.2)
 have m0:∀(q:Nat)(p:Nat×ah)(y:Nat×AV),parts.toList[q]?=O p->ps[q]?=O y->cy w I (a.eval p.2) y.2:=λq p y l S=>dW (aM J (x:=p.2) (by grind [Op.operands,kQ]) Q) (R q p y l S).2;have n0:∀{v:ag}{x:AV},cy w I v x->v.cells.size=x.cells.length:=λh=>by simpa using(sK h).1
 have o0:∀(p:Nat×Nat),p∈b->p.1+p.2<=g.cells.size:=λp l=>by grind
 have B:∀(q:Nat)(p:Nat×ag)(off:Nat),k[q]?=O p->(ps.map (·.1))[q]?=O off->b[p.1]?=O (off,p.2.cells.size)/\off+p.2.cells.size<=g.cells.size:=by grind
 obtain⟨cs,C,T⟩:=xG (λi=>b[i]?) k g.cells (ps.map (·.1)) (by grind) B;have U:lN w I g.cells.toList m:=⟨by grind,λj v c hv D=>by grind [xH,Array.all_eq_true',kQ]⟩
 have r:=rN k (ps.map (·.1)) (ps.map (·.2)) g.cells.toList m U (by grind) (by grind)
  (λq p x l p0=>by grind)
  (λq off p q0 l=>by grind)
 rw[zf,<-T]at r;have G:(parts.map λ(p:Nat×ah)=>(p.1,a.eval p.2)).toList=k:=by simp[k]
 refine⟨.agg cs,?_,?_⟩
 .unfold kW at d;cases u:P.underlying t with
  |none=>grind|some du=>
   cases du<;>simp only[u,reduceCtorEq]at d
   .rename_i N e;split at d
    .rename_i X;simp only[aN]at d;subst d;have a0:Instr.fill (λi=>O (i*P.cellsOf e,P.cellsOf e)) g.cells k=O cs:=by
      rw[<-C];refine Bq _ _ k g.cells λp l=>?_;obtain⟨q,b0⟩:=kR.1 l;have c0:q<(ps.map (·.1)).length:=by grind
      have:=(B q p _ b0 (cX c0)).1
      grind
     simp only[execOp,z,Instr.build,cx,zeroValue,typeInfo,run_program,cL,hi,A,eH u,cW,gF (P:=P) rfl X,G];rw[a0];rfl
    .cases d
   .rename_i fs;have d0:=run_places (P:=P) w fs.toList b d;have e0:(fs.mapM λf=>(do pure (f.offset,<-sizeOf f.type):Sem (Nat×Nat))).run P w=.ok b.toArray w:=by rw[Array.mapM_eq_mapM_toList,Sem.run_map];have:(fs.toList.mapM λf=>(do pure (f.offset,<-sizeOf f.type):Sem (Nat×Nat))).run P w=.ok b w:=d0;rw[this];rfl
    simp only[execOp,z,Instr.build,cx,zeroValue,typeInfo,run_program,cL,hi,A,eH u,cW];rw[e0];simp only[cL,G];have f0:(λx:Nat=>b.toArray[x]?)=λi:Nat=>b[i]?:=by grind
    rw[f0,C];rfl
 .refine .agg cs _ (by simpa using r.1) λj c D=>?_;have H:j<cs.size:=by have:=r.1;grind
  have:=r.2 j cs[j] c (by simp[H]) D;simpa[H]using this
def da(s:St):Z ah->V (Z AV)
 |[]=>O []|x::rest=>match bz (s.ev x),da s rest with
  |some v,O r=>O (v::r)|_,_=>Y
theorem mh:∀{ps:Z ah}{r:Z AV},da s ps=O r->r.length=ps.length/\∀(q:Nat)(p:ah)(y:AV),ps[q]?=O p->r[q]?=O y->bz (s.ev p)=O y
 |[],r,h=>by simp[da]at h;grind|x::rest,r,h=>by
  simp only[da]at h;split at h
  .rename_i v b c a;injection h with h;subst h;obtain⟨d,e⟩:=mh a
   grind
  .cases h
theorem LM:∀(vs:Z (Z ag))(k:Nat)(cur:Z ag),(∀v∈vs,v.length=sz)->(k+vs.length)*sz<=cur.length->
  ∀(i j:Nat)(v:Z ag),vs[i]?=O v->j<sz->((vs.zipIdx k).foldl (λl x=>bh l (x.2*sz) x.1) cur)[(k+i)*sz+j]?=v[j]?:=by
 have f:∀(vs:Z (Z ag))(k:Nat)(cur:Z ag),(∀v∈vs,v.length=sz)->(k+vs.length)*sz<=cur.length->∀q,q<k*sz->((vs.zipIdx k).foldl (λl x=>bh l (x.2*sz) x.1) cur)[q]?=cur[q]?:=by
  intro vs;induction vs with
  |nil=>simp_all|cons v vs e=>intro k cur hv b q g;have n:=hv v aH;have c:(k+1)*sz<=(k+(v::vs).length)*sz:=hR _ (by grind);rw[kS k 1,uk]at c;have a:k*sz+v.length<=cur.length:=M;simp only[List.zipIdx_cons,vA];rw[e (k+1) _ (λu d=>hv u (by simp[d])) (by rw[bI a];simpa[ql,py 1]using b) q (by grind),cM a,aq g]
 intro vs;induction vs with
 |nil=>grind|cons u vs e=>
  intro k cur hv b i j v h o;have p:=hv u aH;have c:(k+1)*sz<=(k+(u::vs).length)*sz:=hR _ (by grind);rw[kS k 1,uk]at c;have a:k*sz+u.length<=cur.length:=M;have m:(k+1+vs.length)*sz<=(bh cur (k*sz) u).length:=by rw[bI a];simpa[ql,py 1]using b
  simp only[List.zipIdx_cons,vA];cases i with
  |zero=>
   simp at h;subst h;simp only[qm];rw[f vs (k+1) _ (λu d=>hv u (by simp[d])) m _ (by grind),cM a,ao M,aq M]
   grind
  |succ i=>grind
theorem pO(g0:o.op=.buildSlice t len parts)(i0:ba n o=W)(j0:o.dst=O d)(k0:gV P t=O e)(l0:uu P e=W)
  (m0:parts.toList.map (·.1)=List.range len) (C0:len*P.cellsOf e<=16777216) (r:da s (parts.toList.map (·.2))=O xs) (H:lF P e xs) (n0:K (s.cQ d e xs)):dL P E w0 I0 n o s K:=by
 rintro a w ⟨I,be,T⟩ D0;obtain⟨U,i,z,hi,o0,E0⟩:=I4 l0;have q0:=ff k0;have hsz:=sJ hi;obtain⟨G0,r0⟩:=mh r;have H0:parts.size=len:=by have:=bN List.length m0;grind
 have J0:xs.length=len:=by grind
 let u:Z (Nat×ag):=parts.toList.map λp=>(p.1,a.eval p.2)
 have X:∀(q:Nat)(p:Nat×ah)(y:AV),parts.toList[q]?=O p->xs[q]?=O y->cy w I (a.eval p.2) y:=λq p y b B=>dW (aM i0 (x:=p.2) (by grind [Op.operands,kQ]) T) (r0 q p.2 y (by grind) B);have s0:∀{v:ag}{x:AV},cy w I v x->v.cells.size=x.cells.length:=λh=>by simpa using(sK h).1
 have J:∀(q:Nat)(p:Nat×ah),parts.toList[q]?=O p->p.1=q/\q<len:=by
  intro q p b;have f:(parts.toList.map (·.1))[q]?=O p.1:=by grind
  grind
 have a0:∀(q:Nat)(p:Nat×ah),parts.toList[q]?=O p->(a.eval p.2).cells.size=P.cellsOf e:=by intro q p b;obtain⟨_,C⟩:=J q p b;have B:xs[q]?=O xs[q]:=cX M;rw[s0 (X q p _ b B)];exact(H _ (fR _)).1
 let g:Array ag:=(Array.range (len*P.cellsOf e)).map ((if len*P.cellsOf e=0 then#[]else z.cells)[·%(if len*P.cellsOf e=0 then(#[]:Array ag)else z.cells).size]!);have b0:g.size=len*P.cellsOf e:=by grind
 obtain⟨cs,t0,c0⟩:=xG (λi=>O (i*P.cellsOf e,P.cellsOf e)) u g (parts.toList.map λp=>p.1*P.cellsOf e) (by grind) (by
  intro q p off b d0;simp only[u,gu,c8]at b d0;obtain⟨e0,L,rfl⟩:=b;obtain⟨K0,D,rfl⟩:=d0;rw[L]at D;injection D with D;subst D;have f:=a0 q e0 L;obtain⟨A,G⟩:=J q e0 L;simp only;rw[f];refine⟨rfl,?_⟩;rw[b0,A];have:(q+1)*P.cellsOf e<=len*P.cellsOf e:=hR _ G
  grind)
 have f0:(u.zip (parts.toList.map λp=>p.1*P.cellsOf e)).foldl (λl x=>bh l x.2 x.1.2.cells.toList) g.toList=((parts.toList.map λp=>(a.eval p.2).cells.toList).zipIdx 0).foldl (λl x=>bh l (x.2*P.cellsOf e) x.1) g.toList:=by
  have gen:∀(ps:Z (Nat×ah))(k:Nat)(l:Z ag),(∀(q:Nat)(p:Nat×ah),ps[q]?=O p->p.1=k+q)->
    ((ps.map λp=>(p.1,a.eval p.2)).zip (ps.map λp=>p.1*P.cellsOf e)).foldl (λl x=>bh l x.2 x.1.2.cells.toList) l=((ps.map λp=>(a.eval p.2).cells.toList).zipIdx k).foldl (λl x=>bh l (x.2*P.cellsOf e) x.1) l:=by
   intro ps;induction ps with
   |nil=>intro k l _;rfl|cons p ps N=>intro k l h;have h0:=h 0 p rfl;simp only[gb,LB,vA,List.zipIdx_cons];rw[h0,qm];exact N (k+1) _ (λq u0 L0=>by have:=h (q+1) u0 (by grind);omega)
  grind
 have x0:cs.size=len*P.cellsOf e:=by
  have f:∀(l:Z (Z ag×Nat))(c:Z ag),(∀x∈l,x.2*P.cellsOf e+x.1.length<=c.length)->(l.foldl (λl x=>bh l (x.2*P.cellsOf e) x.1) c).length=c.length:=by
   intro l;induction l with
   |nil=>grind|cons x l N=>intro c h;have r:=h x aH;have hw:=bI r;simp only[vA];rw[N _ (λy B=>by grind),hw]
  have A:=bN List.length c0;rw[f0,f]at A
  grind
  .intro x r;obtain⟨q,C⟩:=kR.1 r;simp only[List.getElem?_zipIdx,gu,c8]at C;obtain⟨_,⟨p,b,rfl⟩,rfl⟩:=C;obtain⟨_,G⟩:=J q p b;simp only[dN,EO,b0,a0 q p b];have:(q+1)*P.cellsOf e<=len*P.cellsOf e:=hR _ G
   grind
 refine fS (v:=.slice (O ⟨w.heap.size,0,Y⟩) len len) (w':=w.alloc (.cells cs e)) ?_ ⟨_,⟨I,b8 be d (O w.heap.size),?_⟩,n0⟩
 .have y0:¬(len*i.size>2^24):=by grind
  have Q:(parts.map λ(p:Nat×ah)=>(p.1,a.eval p.2)).toList=u:=by simp[u]
  have m:=t0;simp only[hsz]at m;simp only[execOp,g0,Instr.buildSlice,cx,eH q0,cL,sizeOf,typeInfo,run_program,hi,cW,y0,cA,Q];by_cases h0:len*i.size=0
  .have R:g=(Array.range (len*i.size)).map ((#[]:Array ag)[·%(#[]:Array ag).size]!):=by grind
   rw[R]at m;simp only[h0,cm,cx,cW,cL]at m⊢;rw[m];simp[newRow]
  .have R:g=(Array.range (len*i.size)).map (z.cells[·%z.cells.size]!):=by grind
   rw[R]at m;simp only[h0,cA,cx,zeroValue,typeInfo,run_program,cL,hi,o0,cW];rw[m];simp[newRow]
 .rw[j0];have N0:=T.cQ (w':=w.alloc (.cells cs e)) d rfl rfl rfl rfl xs U (cap:=len) x0 (by simp only[maxLen];have:len<=len*P.cellsOf e:=Nat.le_mul_of_pos_right _ U;omega) M H (λi2 j x c f A=>by
   have P0:i2<len:=by grind
   have A0:j<P.cellsOf e:=by rw[<-(H x (bW f)).1];grind
   obtain⟨S,Q⟩:∃p,parts.toList[i2]?=O p:=⟨_,cX (by grind)⟩
   have B0:=X i2 _ x Q f;have hw:=LM (sz:=P.cellsOf e) (parts.toList.map λp=>(a.eval p.2).cells.toList) 0 g.toList
    (λv hv=>by
      obtain⟨p,b,rfl⟩:=gC.1 hv;obtain⟨q,C⟩:=kR.1 b
      grind)
    (by grind) i2 j (a.eval S.2).cells.toList (by grind) A0
   rw[<-f0,<-c0,dN]at hw;have Q0:j<(a.eval S.2).cells.size:=by grind
   have G:=(sK B0).2 j _ c (cX (by grind)) A;have R0:cs.getD (i2*P.cellsOf e+j) undef=(a.eval S.2).cells.toList[j]'(by grind):=by rw[my,<-tz,hw,cX (by grind)];rfl
   grind)
  grind
theorem kY(d:ba n o=W)(e:aJ P E w0 I0 n s a w I be){ps:Z ah}(f:∀x∈ps,x∈o.op.operands){r:Z AV}(h:da s ps=O r):lN w I (ps.map a.eval) r:=by obtain⟨g,i⟩:=mh h;refine⟨by simp[g],λj v c hv k=>?_⟩;simp only[gu,c8]at hv;obtain⟨p,b,rfl⟩:=hv;exact dW (aM d (f p (bW b)) e) (i j p c b k)
theorem rO{f:bH}{caps:Array ah}(d:o.op=.makeFunc (.func f) #[] caps)(g:ba n o=W)(e:da s caps.toList=O xs):dZ P E w0 I0 n o s (.val (.fn f xs)):=
 λa w I be h=>by
  have b:=kY g h (ps:=caps.toList) (λx e=>by simp[d,Op.operands];grind) e;refine⟨.func (.func f) #[] (caps.map a.eval),by simp[execOp,d,Instr.makeFunc],.fn f _ _ (by simpa using b.1) λj c i=>?_⟩;have k:j<caps.size:=by have:=b.1;grind
  have:=b.2 j (a.eval caps[j]) c (by simp[k]) i;simp_all
theorem to{x:ah}(b:o.op=.makeInterface t x)(c:ba n o=W)(d:P.concrete t=W){v:AV}(e:bz (s.ev x)=O v):dZ P E w0 I0 n o s (.val (.mR t v)):=λa w I be f=>by have g:=dW (aM c (x:=x) (by simp[b,Op.operands]) f) e;exact⟨.iface t (a.eval x),by simp[execOp,b,run_makeInterface _ t _ d],.mR t _ _ g⟩
theorem I6{x:ah}(g:o.op=.field t x f)(p:ba n o=W)(y:kX P t f=O (off,ft)){cs:Z AV}(r:s.ev x=.val (.agg cs))
  {K:AV->Prop} (z:jR P ft (cs.drop off) K):∃v,K v/\dZ P E w0 I0 n o s (.val v):=by
 obtain⟨fs,fd,hu,u,rfl,rfl,C⟩:=qx y;obtain⟨A,D,h⟩:=z;cases i:mZ P fd.type with
 |none=>grind|some q=>
  cases q with
  |true=>
   simp only[i]at h;refine⟨_,h,λa w I be k=>?_⟩;have d:=aM p (x:=x) (by simp[g,Op.operands]) k;rw[r]at d;generalize hv:a.eval x=v at*;cases d with
   |agg vs cs B l=>
    have m:fd.offset+P.cellsOf fd.type<=vs.size:=by grind
    refine⟨.agg (vs.extract fd.offset (fd.offset+P.cellsOf fd.type)),?_,.agg _ _ dx λj c b=>?_⟩
    .simp[execOp,g,hv,Instr.field,eH hu,u,part,pN i,gF rfl A,asAgg]
    .rw[rC]at b;split at b
     .rename_i G;rw[vB]at b;have:=l _ c b;have H:fd.offset+j<vs.size:=M;have e:(vs.extract fd.offset (fd.offset+P.cellsOf fd.type)).getD j undef=vs.getD (fd.offset+j) undef:=by simp_all
      grind
     .cases b
  |false=>
   simp only[i]at h;refine⟨_,h,λa w I be k=>?_⟩;have d:=aM p (x:=x) (by simp[g,Op.operands]) k;rw[r]at d;generalize hv:a.eval x=v at*;cases d with
   |agg vs cs B l=>
    have m:fd.offset<vs.size:=by grind
    refine⟨vs[fd.offset],?_,?_⟩
    .simp[execOp,g,hv,Instr.field,eH hu,u,part,pN i,m,asAgg]
    .have b:cs[fd.offset]?=O cs[fd.offset]:=cX M;have e:(cs.drop fd.offset).headD (.fl undef)=cs[fd.offset]:=by grind [oS]
     rw[e];have:=l _ _ b;simpa[m,bU]using this
def mS(s:St)(dflt:Nat):V ah->V Nat
 |none=>O dflt|some x=>match s.ev x with
  |.val (.fl (.int _ m))=>if 0<=m then O m.toNat else Y|_=>Y
theorem Br(h:mS s dflt Y=O l):l=dflt:=by simp[mS]at h;exact h.symm
theorem Bt(d:ba n o=W)(e:aJ P E w0 I0 n s a w I be){x:ah}(f:x∈o.op.operands)(h:mS s dflt (O x)=O l):∃k,a.eval x=.int k l:=by
 unfold mS at h;simp only at h;cases b:s.ev x with
 |val y=>
  cases y with
  |fl v=>
   cases v with
   |int k m=>
    simp only[b]at h;split at h
    .rename_i h0;injection h with h;have c:=aM d f e;rw[b]at c;exact⟨k,by rw[bV c];grind⟩
    .cases h
   |_=>simp[b]at h
  |_=>simp[b]at h
 |_=>simp[b]at h
theorem ot{k:dd}{y:Nat}{code:BoundsCode}(h:l<=y):(Instr.sliceBound (.int k l) y code).run P w=.ok l w:=by have a:(0:Int)<=l/\(l:Int)<=y:=M;simp[Instr.sliceBound,asIntOf,a]
theorem rh(c:ba n o=W)(d:aJ P E w0 I0 n s a w I be)(b:∀x,lo=O x∨hi=O x∨mx=O x->x∈o.op.operands){h:Nat}{q:aa}
  (f:mS s 0 lo=O l) (g:mS s len hi=O h) (i:mS s cap mx=O m) (j:l<=h) (p:h<=m) (r:m<=cap) (t:mx=Y∨hi≠Y):
  (Instr.sliceBounds q len cap (lo.map a.eval) (hi.map a.eval) (mx.map a.eval)).run P w=.ok (l,h,m) w:=by
 have u:lo=Y/\l=0∨∃x k,lo=O x/\a.eval x=.int k l:=by
  cases lo with
  |none=>exact .inl ⟨rfl,Br f⟩|some x=>obtain ⟨k,e⟩:=Bt c d (b x (.inl rfl)) f;grind
 have v:hi=Y/\h=len∨∃x k,hi=O x/\a.eval x=.int k h:=by
  cases hi with
  |none=>exact .inl ⟨rfl,Br g⟩|some x=>obtain ⟨k,e⟩:=Bt c d (b x (.inr (.inl rfl))) g;grind
 have A:mx=Y/\m=cap∨∃x k,mx=O x/\a.eval x=.int k m:=by
  cases mx with
  |none=>exact .inl ⟨rfl,Br i⟩|some x=>obtain ⟨k,e⟩:=Bt c d (b x (.inr (.inr rfl))) i;grind
 clear f g i b;have B:∀(k:dd)(code:BoundsCode),(Instr.sliceBound (.int k l) h code).run P w=.ok l w:=λk code=>ot j;have C:∀(k:dd)(code:BoundsCode),(Instr.sliceBound (.int k h) m code).run P w=.ok h w:=λk code=>ot p;have D:∀(k:dd)(code:BoundsCode),(Instr.sliceBound (.int k m) cap code).run P w=.ok m w:=λk code=>ot r;rcases A with⟨rfl,rfl⟩|⟨z,G,rfl,H⟩<;>rcases v with⟨rfl,rfl⟩|⟨y,J,rfl,K⟩<;>rcases u with⟨rfl,rfl⟩|⟨x,kx,rfl,ex⟩<;>
  first
  |(exfalso;rcases t with h|h<;>simp at h;done)
  |simp[Instr.sliceBounds, *]
theorem mA(b:ba n o=W)(c:aJ P E w0 I0 n s a w I be)(d:P.underlying t=O (.slice e))(f:0<P.cellsOf e)(g:∀x,lo=O x∨hi=O x∨mx=O x->x∈o.op.operands){h:Nat}
  (i:mS s 0 lo=O l) (j:mS s len hi=O h) (k:mS s cap mx=O m) (p:l<=h) (r:h<=m) (u:m<=cap) (v:mx=Y∨hi≠Y):
  (Instr.sliceAt t (.slice A len cap) (lo.map a.eval) (hi.map a.eval) (mx.map a.eval)).run P w=.ok (.slice (if m=l then A else A.map (·.add (l*P.cellsOf e))) (h-l) (m-l)) w:=by
 have y:=rh (q:=W) b c g i j k p r u v;simp only[Instr.sliceAt,Instr.slice,cx,eH d,cL,y,gF rfl f,cW]
theorem Ad(A:V bY)(c:Nat)(d:c<=maxLen):cy w I (.slice A 0 c) (.sl []):=by
 cases A with
 |none=>exact .fc c|some a=>exact .sl a 0 c 0 _ (λ_ _=>undef) rfl aH d (λi x b=>by simp at b) (λi j x c b=>by simp at b) (λi j x c b=>by simp at b) (λi j x c b=>by simp at b)
theorem NQ{a:bY}(d:cy w I (.slice (O a) len cap) (.sl xs))(hsz:∀x∈xs,x.cells.length=P.cellsOf e){h:Nat}(q:l<=h)(r:h<=xs.length)(s:h<=m)(t:m<=cap)(u:cap<=maxLen):
  cy w I (.slice (if m=l then O a else(O a).map (·.add (l*P.cellsOf e))) (h-l) (m-l)) (.sl ((xs.drop l).take (h-l))):=by
 by_cases h0:h=l
 .subst h0;simp only[Bb,A9];exact Ad _ _ M
 .have f:¬m=l:=M;simp only[f,cA,dr];cases d with
  |sl a' n v sz _ g y z A k B C D=>
   have o:sz=P.cellsOf e:=by
    have E:xs[0]?=O xs[0]:=cX M
    grind
   subst o;have p:∀(i:Nat)(x:AV),((xs.drop l).take (h-l))[i]?=O x->xs[l+i]?=O x:=by grind
   have G:∀i j,(a.add (l*P.cellsOf e)).add (i*P.cellsOf e+j)=a.add ((l+i)*P.cellsOf e+j):=λi j=>by grind [add_add,Nat.add_mul]
   refine .sl _ _ _ (P.cellsOf e) _ (λi j=>g (l+i) j) dx dx M (λi x hi=>k _ _ (p i x hi)) (λi j x c hi b=>?_) (λi j x c hi b=>?_) (λi j x c hi b=>?_)
   grind
   grind
   grind
theorem rP{v:ag}(h:cy w I v (.sl xs)):∃A cap,v=.slice A xs.length cap/\xs.length<=cap/\(A=Y->xs=[]):=by
 cases h with
 |fc c=>simp_all|sl a n cap sz xs d b e f hsz g i j=>subst b;grind
theorem Bu{x:ah}(c:o.op=.slice t x lo hi Y)(d:ba n o=W)(j:gV P t=O e)(k:0<P.cellsOf e)(p:bz (s.ev x)=O (.sl xs))(hsz:∀x∈xs,x.cells.length=P.cellsOf e)
  {h:Nat} (q:mS s 0 lo=O l) (r:mS s xs.length hi=O h) (f:l<=h) (u:h<=xs.length):dZ P E w0 I0 n o s (.val (.sl ((xs.drop l).take (h-l)))):=
 λa w I be g=>by
  have b:=dW (aM d (x:=x) (by simp[c,Op.operands]) g) p;obtain⟨A,cap,e1,D,v⟩:=rP b;have i:=mA (P:=P) d g (w:=w) (A:=A) (cap:=cap) (mx:=Y) (ff j) k (λy G=>by grind [Op.operands]) q r (by simp[mS]) f M (bq _) (.inl rfl);refine⟨_,by simp only[execOp,c,e1,cx,jr]at i⊢;rw[i];rfl,?_⟩;rw[e1]at b;cases A with
  |none=>
   have:=v rfl;subst this;have z:h=0:=by grind
   have B:l=0:=M;subst z B;simp only[List.drop_nil,List.take_nil,jr,ite_self];exact .fc _
  |some H=>
   have C:cap<=maxLen:=by generalize xs.length=m at b;cases b;assumption
   exact NQ b hsz f u M (bq _) C
theorem xI{x z:ah}(d:o.op=.slice t x lo (O y) (O z))(f:ba n o=W)(k:gV P t=O e)(p:0<P.cellsOf e)(q:bz (s.ev x)=O (.sl xs))(hsz:∀x∈xs,x.cells.length=P.cellsOf e)
  {h:Nat} (r:mS s 0 lo=O l) (u:mS s 0 (O y)=O h) (c:mS s 0 (O z)=O h) (g:l<=h) (v:h<=xs.length):dZ P E w0 I0 n o s (.bF ((xs.drop l).take (h-l))):=
 λa w I be i=>by
  have b:=dW (aM f (x:=x) (by simp[d,Op.operands]) i) q;obtain⟨A,cap,e1,G,B⟩:=rP b;have j:=mA (P:=P) f i (w:=w) (A:=A) (len:=xs.length) (cap:=cap) (hi:=O y) (mx:=O z) (ff k) p (λy H=>by grind [Op.operands]) r u c g (bq _) M (.inr aH);have J:((xs.drop l).take (h-l)).length=h-l:=dx;refine⟨_,by simp only[execOp,d,e1,cx,dr]at j⊢;rw[j];rfl,?_,by grind⟩;rw[e1]at b;cases A with
  |none=>
   have:=B rfl;subst this;have C:h=0:=by grind
   have D:l=0:=M;subst C D;simp only[List.drop_nil,List.take_nil,jr,ite_self];exact .fc _
  |some K=>
   have c:cap<=maxLen:=by generalize xs.length=m at b;cases b;assumption
   exact NQ b hsz g v (bq _) M c
theorem lO{x:ah}(k:o.op=.slice t x lo hi Y)(m:ba n o=W)(u:gV P t=O e)(H:s.ev x=.view d gg off len)(J:gg=s.g d)(p:s.b d=O (.br e xs))
  {h:Nat} (v:mS s 0 lo=O l) (z:mS s len hi=O h) (C:l<=h) (U:h<=len):dZ P E w0 I0 n o s (.view d gg (off+l) (h-l)):=
 λa w I be f=>by
  have g:=aM m (x:=x) (by simp[k,Op.operands]) f;rw[H]at g;obtain⟨q,X,a0,i⟩:=f.bD d _ p;obtain⟨b0,hv⟩:=mf g J p;have D:∀y,lo=O y∨hi=O y∨(Y:V ah)=O y->y∈o.op.operands:=λy c0=>by grind [Op.operands]
  cases r:be d with
  |none=>
   simp only[r]at hv i;obtain⟨A,e1⟩:=hv;subst i;have K:len=0:=by grind
   have L:h=0:=M;have N:l=0:=M;subst K L N;have b:=mA (P:=P) m f (w:=w) (A:=A) (cap:=0) (mx:=Y) (ff u) q D v z (by simp[mS]) C (bq _) (bq _) (.inl rfl);refine⟨_,by simp only[execOp,k,e1,cx,jr]at b⊢;rw[b];rfl,g.1,λ_=>?_⟩
   grind [eI]
  |some B=>
   simp only[r]at hv i;obtain⟨cur,cap,A,hw,G,e1,Q⟩:=hv;obtain⟨d0,c,j,R,e0,f0,_⟩:=i;rw[hw]at j;injection j with j;injection j with q1 g0;subst q1;have S:c=cap:=(lJ q (G.symm.trans R)).symm;subst S;have b:=mA (P:=P) m f (w:=w) (A:=A) (cap:=c-off) (mx:=Y) (ff u) q D v z (by simp[mS]) C M (bq _) (.inl rfl);refine⟨_,by simp only[execOp,k,e1,cx,jr]at b⊢;rw[b];rfl,g.1,λ_=>?_⟩;unfold eI;simp only[p,r];refine⟨M,cur,c,(if c-off=l then A else A.map (·.add (l*P.cellsOf e))),hw,G,?_,?_⟩
   grind
   .intro h0;have T:¬c-off=l:=M;rw[ao T,Q M];simp only[dr,eo,kS]
end
abbrev bs(l:Z bc):ag:=.string ⟨l.toArray⟩
def rQ(op:iS)(k:dd)(x y:Int):V ag:=
 match op with
 |.add=>O (.int k (k.wrap (x+y)))|.sub=>O (.int k (k.wrap (x-y)))
 |.mul=>O (.int k (k.wrap (x*y)))|.quo=>if y=0 then Y else O (.int k (k.wrap (x.tdiv y)))
 |.rem=>if y=0 then Y else O (.int k (x.tmod y))|.and=>O (.int k (k.wrap (BitVec.ofInt k.bits x&&&BitVec.ofInt k.bits y).toNat))
 |.or=>O (.int k (k.wrap (BitVec.ofInt k.bits x|||BitVec.ofInt k.bits y).toNat))
 |.xor=>O (.int k (k.wrap (BitVec.ofInt k.bits x^^^BitVec.ofInt k.bits y).toNat))|.andNot=>O (.int k (k.wrap (BitVec.ofInt k.bits x&&&~~~BitVec.ofInt k.bits y).toNat))
 |.shl=>if y<0 then Y else O (.int k (k.wrap (x*2^(min y.toNat k.bits))))|.shr=>if y<0 then Y else O (.int k (x.fdiv (2^(min y.toNat k.bits))))
 |.eql=>O (.bool (x==y))|.neq=>O (.bool (x !=y))
 |.lss=>O (.bool (decide (x<y)))|.leq=>O (.bool (decide (x<=y)))
 |.gtr=>O (.bool (decide (x>y)))|.geq=>O (.bool (decide (x≥y)))
def kZ:iS->aa
 |.shl|.shr=>W|_=>F
def nb(op:iS)(x y:Z bc):V ag:=
 match op with
 |.add=>if x.length+y.length<=maxLen then O (bs (x++y))else Y|.eql=>O (.bool (x==y))
 |.neq=>O (.bool (x !=y))|.lss=>O (.bool (Op.bytesLess x y))
 |.leq=>O (.bool (Op.bytesLess x y||x==y))|.gtr=>O (.bool (!(Op.bytesLess x y||x==y)))
 |.geq=>O (.bool (!Op.bytesLess x y))|_=>Y
section
variable{P:ai}{E:cd}{w0:af}{I0:aA}{n:Nat}{o:aC}{s:St}{K:St->Prop}{a:Act}{w:af}{I:aA}{be:Nat->V Nat}{b:Nat->V Bx}{g:Nat->Nat}
theorem Ae{x:ah}{k:dd}{p q:Int}:(eqGuard op t x y (.int k p) (.int k' q)).run P w=.ok () w:=by cases op<;>rfl
theorem Af{x:ah}{p q:dR}:(eqGuard op t x y (.string p) (.string q)).run P w=.ok () w:=by cases op<;>rfl
theorem pP{x:ah}{p q:aa}:(eqGuard op t x y (.bool p) (.bool q)).run P w=.ok () w:=by cases op<;>rfl
theorem LN{k:dd}{p q:Int}{v:ag}(b:k'=k∨kZ op=W)(h:rQ op k p q=O v):(binOp op t (.int k p) (.int k' q)).run P w=.ok v w:=by
 cases op<;>simp only[rQ,aN]at h<;>
  first
  |(have a:k'=k:=b.resolve_right (by simp[kZ])
    subst a h;simp[binOp,Op.intArith,Op.intBits,Op.intCmp];done)
  |(split at h
    .cases h
    .rename_i c;injection h with h;first
     |(have a:k'=k:=b.resolve_right (by simp[kZ])
       subst a h;simp[binOp,Op.intDiv,c];done)
     |(subst h
       simp[binOp,Op.shift,c];done))
theorem Ag{x:ah}(b:o.op=.binOp op t x y t')(c:ba n o=W){k:dd}{p q:Int}(g:s.ev x=.val (.fl (.int k p)))(h:s.ev y=.val (.fl (.int k' q)))(i:k'=k∨kZ op=W){v:ag}(hv:rQ op k p q=O v):dZ P E w0 I0 n o s (.val (.fl v)):=
 λa w I be d=>by
  have e:=aM c (x:=x) (by simp[b,Op.operands]) d;have f:=aM c (x:=y) (by simp[b,Op.operands]) d;rw[g]at e;rw[h]at f;refine⟨v,?_,.fl _ ?_⟩
  .simp only[execOp,b,bV e,bV f,cx,Ae,cL,LN i hv,cW]
  .cases op<;>simp only[rQ,aN]at hv<;>first
    |(subst hv;rfl)
    |(split at hv
      .cases hv
      .injection hv with hv;subst hv;rfl)
theorem LO{p q:Z bc}{v:ag}(h:nb op p q=O v):(binOp op t (bs p) (bs q)).run P w=.ok v w:=by
 have e:∀l:Z bc,(ByteArray.mk l.toArray).toList=l:=λl=>ByteArray.toList_mk l;have one:∀op,(op≠.add)->nb op p q=O v->(binOp op t (bs p) (bs q)).run P w=.ok v w:=by
  intro op a h;cases op<;>simp only[nb,aN,reduceCtorEq]at h<;>first
   |(subst h;simp[bs,binOp,Op.stringOp,e];done)
   |exact absurd rfl a
   |(subst h;simp only[bs,binOp,Op.stringOp,e,cW];simp[bne])
 cases op with
 |add=>
  simp only[nb]at h;split at h
  .rename_i g;injection h with h;subst h;have b:¬(((p.length+q.length:Nat):Int)>IntKind.i64.max):=by grind [maxLen,IntKind.max,IntKind.signed,IntKind.bits]
   have c:(ByteArray.mk p.toArray).size=p.length:=by simp[ByteArray.size]
   have d:(ByteArray.mk q.toArray).size=q.length:=by simp[ByteArray.size]
   have f:ByteArray.mk p.toArray++ByteArray.mk q.toArray=ByteArray.mk (p++q).toArray:=by apply ByteArray.ext;simp
   simp only[bs,binOp,Op.stringOp,c,d,b,cA,cW,f]
  .cases h
 |_=>exact one _ aH h
theorem LP{p q:Z bc}{v:ag}(h:nb op p q=O v):Vt v:=by
 cases op<;>simp only[nb,aN,reduceCtorEq]at h<;>first
  |(subst h;rfl)
  |(split at h
    .injection h with h;subst h;rfl
    .cases h)
theorem Ah{x:ah}(b:o.op=.binOp op t x y t')(c:ba n o=W){p q:Z bc}(g:s.ev x=.val (.fl (bs p)))(h:s.ev y=.val (.fl (bs q))){v:ag}(hv:nb op p q=O v):dZ P E w0 I0 n o s (.val (.fl v)):=λa w I be d=>by have e:=aM c (x:=x) (by simp[b,Op.operands]) d;have f:=aM c (x:=y) (by simp[b,Op.operands]) d;rw[g]at e;rw[h]at f;refine⟨v,?_,.fl _ (LP hv)⟩;have i:=LO (P:=P) (w:=w) (t:=t) hv;have j:(eqGuard op t x y (bs p) (bs q)).run P w=.ok () w:=Af;simp only[execOp,b,bV e,bV f,cx,j,cL,i,cW]
def LQ:AV->V ag
 |.fl v=>O v|_=>Y
def pD:AV->V ag
 |.fl v=>O v|.agg cs=>(cs.mapM LQ).map λvs=>.agg vs.toArray
 |_=>Y
def nB:cH->V ag
 |.val x=>pD x|.bF []=>O (.slice Y 0 0)
 |_=>Y
theorem LR{v u:ag}{x:AV}(h:cy w I v x)(a:pD x=O u):v=u:=by
 cases h with
 |fl v hv=>simpa[pD]using a|agg vs cs k f=>
  simp only[pD,c8]at a;obtain⟨us,g,rfl⟩:=a;congr 1;have gen:∀(cs:Z AV)(us:Z ag),cs.mapM LQ=O us->us.length=cs.length/\∀(j:Nat)(c:AV),cs[j]?=O c->∃u,us[j]?=O u/\c=.fl u:=by
   intro cs;induction cs with
   |nil=>grind|cons c cs l=>
    intro us h;simp only[List.mapM_cons]at h;cases c with
    |fl v=>
     simp only[LQ,Option.bind_eq_bind,aE]at h;cases m:cs.mapM LQ with
     |none=>grind|some n=>grind
    |_=>simp[LQ]at h
  obtain⟨o,i⟩:=gen cs us g;apply Gw
  grind
  .intro j p q;have b:j<cs.length:=M;obtain⟨u,hu,e⟩:=i j cs[j] (cX b);have d:=f j cs[j] (cX b);rw[e]at d;have r:=bV d;simp_all
 |_=>simp[pD]at a
theorem Bv{x:ah}(b:o.op=.unOp .not t x)(d:ba n o=W){p:aa}(e:s.ev x=.val (.fl (.bool p))):dZ P E w0 I0 n o s (.val (.fl (.bool (!p)))):=λa w I be f=>by have c:=aM d (x:=x) (by simp[b,Op.operands]) f;rw[e]at c;exact⟨.bool (!p),by simp[execOp,b,bV c,Op.unary],.fl _ rfl⟩
theorem Bw{x:ah}(b:o.op=.unOp .neg t x)(d:ba n o=W){k:dd}{p:Int}(e:s.ev x=.val (.fl (.int k p))):dZ P E w0 I0 n o s (.val (.fl (.int k (k.wrap (0-p))))):=λa w I be f=>by have c:=aM d (x:=x) (by simp[b,Op.operands]) f;rw[e]at c;exact⟨.int k (k.wrap (0-p)),by simp[execOp,b,bV c,Op.unary,Op.intArith],.fl _ rfl⟩
theorem xJ{x:ah}(b:o.op=.binOp op t x y t')(f:ba n o=W)(h:P.underlying t=O .bool)(i:op=.eql∨op=.neq){p q:aa}(j:s.ev x=.val (.fl (.bool p)))(k:s.ev y=.val (.fl (.bool q))):dZ P E w0 I0 n o s (.val (.fl (.bool (if op=.eql then p==q else p !=q)))):=
 λa w I be g=>by
  have c:=aM f (x:=x) (by simp[b,Op.operands]) g;have d:=aM f (x:=y) (by simp[b,Op.operands]) g;rw[j]at c;rw[k]at d;refine⟨_,?_,.fl _ rfl⟩;have he:(Op.equal t (.bool p) (.bool q)).run P w=.ok (p==q) w:=run_equalIn_bool' w 9999 t p q h;rcases i with rfl|rfl
  .have e:binOp .eql t (.bool p) (.bool q)=(do pure (.bool (<-Op.equal t (.bool p) (.bool q)))):=rfl;simp only[execOp,b,bV c,bV d,cx,pP,cL,e,he,cW,cm]
  .have e:binOp .neq t (.bool p) (.bool q)=(do pure (.bool (!(<-Op.equal t (.bool p) (.bool q))))):=rfl;simp only[execOp,b,bV c,bV d,cx,pP,cL,e,he,cW];rfl
theorem Ai{x:ah}(b:o.op=.index t x y)(d:ba n o=W)(i:P.underlying t=O .string){l:Z bc}{k:dd}{m:Int}(j:s.ev x=.val (.fl (bs l)))(p:s.ev y=.val (.fl (.int k m)))(h0:0<=m){c:bc}(q:l[m.toNat]?=O c):dZ P E w0 I0 n o s (.val (.fl (.int .u8 c.toNat))):=
 λa w I be f=>by
  have g:=aM d (x:=x) (by simp[b,Op.operands]) f;have h:=aM d (x:=y) (by simp[b,Op.operands]) f;rw[j]at g;rw[p]at h;have r:m.toNat<l.length:=(cr.1 q).1;have e:(ByteArray.mk l.toArray)[m.toNat]?=O c:=by grind [ByteArray.size,ByteArray.getElem?_lt',cr,ByteArray.getElem_eq_getElem_data]
  exact⟨.int .u8 c.toNat,by simp[execOp,b,bV g,bV h,bs,Instr.index,asIntOf,eH i,h0,e],.fl _ rfl⟩
theorem LS(l:Z bc)(i j:Nat):Value.string ((ByteArray.mk l.toArray).extract i j)=bs ((l.drop i).take (j-i)):=by rw[ByteArray.extract_mk]
theorem Aj{x:ah}(b:o.op=.slice t x lo hi Y)(c:ba n o=W)(g:P.underlying t=O .string){xs:Z bc}(i:s.ev x=.val (.fl (bs xs))){h:Nat}(j:mS s 0 lo=O l)(k:mS s xs.length hi=O h)(p:l<=h)(r:h<=xs.length):dZ P E w0 I0 n o s (.val (.fl (bs ((xs.drop l).take (h-l))))):=
 λa w I be d=>by
  have e:=aM c (x:=x) (by simp[b,Op.operands]) d;rw[i]at e;have e1:=bV e;have hsz:(ByteArray.mk xs.toArray).size=xs.length:=by simp[ByteArray.size]
  have f:=rh (P:=P) (w:=w) (q:=F) (len:=xs.length) (cap:=xs.length) (m:=xs.length) (mx:=Y) c d (λy u=>by grind [Op.operands]) j k (by simp[mS]) p r (bq _) (.inl rfl);refine⟨_,?_,.fl _ rfl⟩;simp only[jr]at f;simp only[execOp,b,e1,bs,Instr.sliceAt,Instr.slice,cx,eH g,cL,jr,Option.isSome_none,jo,cA,cW,hsz,f,LS]
end
inductive RV where
 |v (x:AV)
 |bR (e:TypeId) (xs:List AV)
 deriving Inhabited
inductive PF where
 |ret (rs:List RV)
 |ea (x:AV)
 deriving Inhabited
variable{out:PF}
def nq(P:ai)(E:cd)(w:af)(I:aA)(base:Nat->Prop)(bo:V Nat)(v:ag):RV->Prop
 |.v x=>cy w I v x|.bR e xs=>0<P.cellsOf e/\xs.length<=maxLen/\lF P e xs/\
  match bo with
  |none=>xs=[]/\∃A,v=.slice A 0 0|some B=>base B/\B<w.heap.size/\(∀p,I p->p.block≠B)/\¬E.cf w B/\∃cur cap,w.heap[B]?=O (.cells cur e (0,0))/\cur.size=cap*P.cellsOf e/\cap<=maxLen/\xs.length<=cap/\(∃A,v=.slice A xs.length cap/\(0<cap->A=O ⟨B,0,Y⟩))/\∀(i j:Nat)(x c:AV),xs[i]?=O x->x.cells[j]?=O c->cy w I (cur.getD (i*P.cellsOf e+j) undef) c
def ou(P:ai)(E:cd)(w:af)(I:aA)(base:Nat->Prop)(bo:Nat->V Nat)(v:ag):Z RV->Prop
 |[r]=>nq P E w I base (bo 0) v r|rs=>∃vs:Array ag,v=.tuple vs/\vs.size=rs.length/\∀(j:Nat)(r:RV),rs[j]?=O r->nq P E w I base (bo j) (vs.getD j undef) r
def Eo(P:ai)(E:cd)(w0:af)(I0:aA)(w:af)(a:Nat->V Ob)(u:Nat->aa):PF->Ending->Prop
 |.ret rs,e=>∃v I bo,e=.returned v/\ee E w0 I0 w I/\ou P E w I (E.fresh w0) bo v rs/\(∀j b B,bo j=O B->bo b=O B->j=b)/\(∀j B,bo j=O B->E.fresh w0 B)/\mX P E w0 w I a u (λB=>∃j,bo j=O B)|.ea x,e=>∃v I,e=.panicked [{v:=v,recovered:=F}]/\ee E w0 I0 w I/\cy w I v x/\mX P E w0 w I a u (λ_=>False)
def tp:Nat->V Ob:=λ_=>Y
def mi:Nat->aa:=λ_=>W
theorem mX.none {w:af} {I:aA} {T:Nat->Prop} (a:∀i,E.ro i=.none):mX P E w0 w I tp mi T:=⟨λi x h=>(by cases h),λi j B h=>(h rfl).elim,λi B h=>(h rfl).elim,λi h=>(by cases h),λi x h=>(by grind)⟩
def cd.bX (E:cd) (a:Nat->V Ob) (I0:aA):cd:={hS:=E.hS,cf:=E.cf,iU:=E.iU,lt:=E.lt,qp:=λi=>if(a i).isSome then O (I0.ar i)else Y,cT:=F,it:=E.it}
theorem cd.hU {a:Nat->V Ob} {B:Nat}:(E.bX a I0).LC B↔∃i,a i≠.none/\I0.ar i=O B:=by
 constructor
 .rintro ⟨i,hi⟩
  grind [cd.bX]
 .rintro ⟨i,hi,b⟩;refine⟨i,?_⟩;simp only[cd.bX];simp_all
def tq(P:ai)(E:cd)(f:bH)(args:Z AV)(out:PF):Prop:=Go.Proofs.Enters P f/\∀(w0:af)(I0:aA)(vs:Array ag),E.hS w0->(∀p,I0 p->p.block<w0.heap.size/\¬E.cf w0 p.block)->lN w0 I0 vs.toList args->Calls P f vs w0 λe w=>Eo P E.plain w0 I0 w tp mi out e
def ov(P:ai)(E:cd)(f:bH)(args:Z AV)(a:Nat->V Ob)(u:Nat->aa)(out:PF)(a':Nat->V Ob)(u':Nat->aa):Prop:=Go.Proofs.Enters P f/\∀(w0:af)(I0:aA)(vs:Array ag),E.hS w0->(∀p,I0 p->p.block<w0.heap.size/\¬E.cf w0 p.block)->mX P (E.bX a I0) w0 w0 I0 a u (λ_=>False)->lN w0 I0 vs.toList args->Calls P f vs w0 λe w=>Eo P (E.bX a I0) w0 I0 w a' u' out e
theorem cd.fU {w:af} {B:Nat} (h:E.plain.fresh w B):w.heap.size<=B:=h.resolve_right (E.eO B)
theorem ee.trans {w:af} {I:aA} (h:ee E w0 I0 w I) (a:ee E w I w' I'):ee E w0 I0 w' I':=by
 refine⟨a.os.trans h.os,a.tape.trans h.tape,a.output.trans h.output,ef h.size a.size,λk e f g=>?_,λb l=>?_,a.hS,λp d=>a.oO p (h.oO p d),λi B hi=>a.ar i B (h.ar i B hi),λj=>(a.IY j).trans (h.IY j),λB=>(h.shape B).trans (a.shape B),λp d=>?_,a.lt,a.off⟩
 .rw[a.block k (jQ e h.size) (λm=>by rcases h.cf k m with c|c;exact f c;omega) g];exact h.block k e f g
 .rcases a.cf b l with c|c
  .exact h.cf b c
  .exact .inr (ef h.size c)
 .rcases a.new p d with c|c|c
  .exact h.new p c
  .exact .inr (.inl (ef h.size c))
  .exact .inr (.inr c)
theorem ee.VB {w:af} {I:aA} (h:ee E.plain w I w' I'):ee E w I w' I':=⟨h.os,h.tape,h.output,h.size,λk a b _=>h.block k a b (E.eO k),h.cf,h.hS,h.oO,h.ar,λ_=>h.IY rfl,h.shape,λp c=>(h.new p c).imp id (λh=>h.imp id (λh=>(E.eO _ h).elim)),h.lt,h.off⟩
theorem ee.refl {w:af} {I:aA} (hinv:E.hS w) (a:∀p,I p->p.block<w.heap.size/\¬E.cf w p.block):ee E w I w I:=⟨rfl,rfl,rfl,bq _,λ_ _ _ _=>rfl,λ_ h=>.inl h,hinv,λ_ h=>h,λ_ _ h=>h,λ_=>rfl,gZ.refl w,λ_ h=>.inl h,λp h=>(a p h).1,λp h=>(a p h).2⟩
section
variable{P:ai}{E:cd}{w0:af}{I0:aA}{n:Nat}{o:aC}{s:St}{K:St->Prop}{a:Act}{w w':af}{I I':aA}{be:Nat->V Nat}{b:Nat->V Bx}{g:Nat->Nat}
theorem aJ.By (h:aJ P E w0 I0 n s a w I be) (c:ee E.plain w I w' I'):aJ P E w0 I0 n s a w' I' be:=by
 have z:I'.ar=I.ar:=c.IY rfl;have l:∀d B,s.b d≠Y->be d=O B->w'.heap[B]?=w.heap[B]?:=λd B g l=>by obtain⟨_,m,_,j⟩:=h.bR d B g l;exact c.block B m j (E.eO B)
 have o:dK w w' I I':=⟨c.oO,c.ar,λp v k hv=>by rw[dn (c.block p.block (h.since.lt p k) (h.since.off p k) (E.eO _))];exact hv,c.shape⟩
 have g:∀d,s.g d<s.g d∨(s.g d=s.g d/\fy P w w' be be s.b s.b d):=λd=>.inr ⟨rfl,.ig rfl rfl (λB r=>l d B r)⟩;have A:∀B,B<w.heap.size->¬E.cf w B->¬E.cf w' B:=λB l j q=>by
  rcases c.cf B q with f|f
  .exact j f
  .omega
 refine⟨h.since.trans c.VB,h.size,h.defers.mono o,λt C=>(h.ct t C).eP o g,λd x y=>(h.bD d x y).eP o g rfl (λB=>l d B (by simp[y])),h.inj,λd B g D=>?_,h.ru,
  h.aZ.eP o z (λi B hi u=>by
   obtain⟨_,m,_,j,_⟩:=h.aZ.bR i B hi u;exact c.block B m j (E.eO B)) c.size (λp k=>by
   rcases c.new p k with f|f|f
   grind
   .refine .inr λi hi u=>?_;have:=(h.aZ.bR i _ hi u).2.1;omega
   .exact (E.eO _ f).elim) (λb G q=>Rq λr=>A b G r q) (λ_ h=>.inl h)⟩
 obtain⟨H,m,J,j⟩:=h.bR d B g D;refine⟨H,jQ m c.size,λp k e=>?_,λq=>?_⟩
 .rcases c.new p k with f|f|f
  grind
  .omega
  .exact (E.eO _ f).elim
 grind
def St.hV (s:St) (id:Nat):RV->cH×St
 |.v x=>(.val x,s)|.bR e xs=>(.view id (s.g id+1) 0 xs.length,{s with b:=b8 s.b id (O (.br e xs)),g:=b8 s.g id (s.g id+1)})
theorem aJ.hV (h:aJ P E w0 I0 n s a w I be) (id:Nat) {bo:V Nat} {v:ag} {r:RV} (c:nq P E w I base bo v r) (z:∀B,base B->E.fresh w0 B)
  (A:∀B,bo=O B->∀d',d'≠id->s.b d'≠Y->be d'≠O B) (g:∀B,bo=O B->∀i,s.a i≠Y->I.ar i≠O B):
  ∃mY,aJ P E w0 I0 n (s.hV id r).2 a w I mY/\bU P w I mY (s.hV id r).2.b (s.hV id r).2.g v (s.hV id r).1/\(∀d',d'≠id->mY d'=be d'/\(s.hV id r).2.b d'=s.b d')/\(∀v b,bU P w I be s.b s.g v b->bU P w I mY (s.hV id r).2.b (s.hV id r).2.g v b)/\((s.hV id r).2.b id=s.b id/\mY id=be id∨mY id=bo):=by
 cases r with
 |v x=>exact ⟨be,h,c,λ_ _=>⟨rfl,rfl⟩,λ_ _ h=>h,.inl ⟨rfl,rfl⟩⟩|bR e xs=>
  obtain⟨j,k,l,d⟩:=c;have m:jb P w I (b8 be id bo) (b8 s.b id (O (.br e xs))) (b8 s.g id (s.g id+1)) id (.br e xs):=by
   refine⟨j,k,λi x hi=>l x (bW hi),?_⟩;rw[ch];cases bo with
   |none=>exact d.1|some B=>obtain⟨_,_,_,_,cur,cap,q1,o,p,q,_,t⟩:=d;exact⟨cur,cap,q1,o,p,q,t⟩
  have u:=h.mz id (.br e xs) bo m (λB C=>by grind) g;refine⟨b8 be id bo,u,⟨by simp[St.hV],λ_=>?_⟩,λd' f=>⟨aO _ _ f,aO _ _ f⟩,λv b y=>y.eP (.refl _ _) (E6 id _ _),.inr (ch _ _ _)⟩;simp only[St.hV];unfold eI;simp only[ch]
  grind
def NR(d j:Nat):Nat:=1000*(d+1)+j
def St.cS (s:St) (d:Nat):Nat->Z RV->Z cH×St
 |_,[]=>([],s)|j,r::rs=>((s.hV (NR d j) r).1::((s.hV (NR d j) r).2.cS d (j+1) rs).1,((s.hV (NR d j) r).2.cS d (j+1) rs).2)
def NS:cH->Prop
 |.val _=>True|.view _ _ _ _=>True
 |_=>False
theorem I7(s:St)(id:Nat)(r:RV):NS (s.hV id r).1:=by cases r<;>trivial
theorem aJ.cS (l:∀B,base B->E.fresh w0 B) (A:∀j m B,bo j=O B->bo m=O B->j=m) (d:Nat):∀(rs:Z RV)(j:Nat)(s:St)(be:Nat->V Nat)(vs:Z ag),aJ P E w0 I0 n s a w I be->(∀k B,bo k=O B->∀i,s.a i≠Y->I.ar i≠O B)->
  vs.length=rs.length->(∀(k:Nat)(v:ag)(r:RV),vs[k]?=O v->rs[k]?=O r->nq P E w I base (bo (j+k)) v r)->(∀k,j<=k->∀B,bo k=O B->∀d',s.b d'≠Y->be d'=O B->∃k',j<=k'/\d'=NR d k')->
  (∀k,j<=k->∀B,bo k=O B->∀k',j<=k'->s.b (NR d k')≠Y->be (NR d k')≠O B)->
  ∃mY,aJ P E w0 I0 n (s.cS d j rs).2 a w I mY/\(s.cS d j rs).1.length=rs.length/\(∀(k:Nat)(v:ag)(r:cH),vs[k]?=O v->(s.cS d j rs).1[k]?=O r->bU P w I mY (s.cS d j rs).2.b (s.cS d j rs).2.g v r/\NS r)/\(∀v b,bU P w I be s.b s.g v b->bU P w I mY (s.cS d j rs).2.b (s.cS d j rs).2.g v b)
 |[],j,s,be,vs,h,c,g,f,o,p=>⟨be,h,rfl,λk v r q t=>by grind,λ_ _ h=>h⟩|r::rs,j,s,be,[],h,c,g,f,o,p=>by simp at g
 |r::rs,j,s,be,v::vs,h,c,g,f,o,p=>by
  obtain⟨C,D,Q,R,G,S⟩:=h.hV (NR d j) (bo:=bo j) (f 0 v r rfl rfl) l (λB u d' T x y=>by grind) (c j);have U:∀k k',k≠k'->NR d k≠NR d k':=λk k' h e=>by simp only[NR]at e;omega
  obtain⟨H,J,K,X,L⟩:=aJ.cS l A d rs (j+1) (s.hV (NR d j) r).2 C vs D (by cases r<;>exact c) (by grind)
   (λk z b hv t=>by have:=f (k+1) z b (by grind) (by grind);grind)
   (λk q B u d' x y=>by grind)
   (λk q B u k' a0 x y=>by grind)
  refine⟨H,J,by simp[St.cS,K],λk z b hv t=>?_,λv b N=>L _ _ (G _ _ N)⟩
  grind [St.cS,I7]
def St.take (s:St) (dst:V Nat):Z RV->St
 |[r]=>match dst with
  |some d=>((s.hV d r).2).put (O d) (s.hV d r).1|none=>s
 |rs=>match dst with
  |some d=>((s.cS d 0 rs).2).put (O d) (.gw (s.cS d 0 rs).1)|none=>s
theorem aJ.take (h:aJ P E w0 I0 n s a w I be) {v:ag} {rs:Z RV} (b:ou P E w I base bo v rs) (t:∀j m B,bo j=O B->bo m=O B->j=m)
  (o:∀B,base B->E.fresh w0 B) (g:∀k B,bo k=O B->∀d',s.b d'≠Y->be d'≠O B) (p:∀k B,bo k=O B->∀i,s.a i≠Y->I.ar i≠O B) (dst:V Nat):∃mY,aJ P E w0 I0 n (s.take dst rs) (a.put dst v) w I mY:=by
 have many:∀rs:Z RV,(∃vs:Array ag,v=.tuple vs/\vs.size=rs.length/\∀(j:Nat)(r:RV),rs[j]?=O r->nq P E w I base (bo j) (vs.getD j undef) r)->∀d,∃mY,aJ P E w0 I0 n (((s.cS d 0 rs).2).put (O d) (.gw (s.cS d 0 rs).1)) (a.put (O d) v) w I mY:=by
  rintro rs ⟨vs,rfl,D,u⟩ d;obtain⟨mY,g1,g2,g3,_⟩:=aJ.cS o t d rs 0 s be vs.toList h p (by grind) (λk G r hv l=>by
    have:=u k r l;rw[tz]at hv;simpa[hv]using this)
   (λk _ B c d' f y=>absurd y (g k B c d' f)) (λk _ B c k' _ f=>g k B c _ f)
  refine⟨mY,g1.put (O d) ⟨vs,rfl,by grind,λj r l=>?_⟩⟩;have q:j<vs.size:=by grind
  have:=g3 j vs[j] r (by simp[q]) l;have e:vs.getD j undef=vs[j]:=by simp[q]
  rw[e];cases r with
  |val x=>exact this.1|view d gg off len=>exact this.1
  |none=>grind|bF xs=>exact this.2.elim
  |dT d gg sz i k=>exact this.2.elim|gw rs=>exact this.2.elim
 match rs,b with
 |[r],b=>
  cases dst with
  |none=>exact ⟨be,h⟩|some d=>obtain⟨mY,z,A,_⟩:=h.hV d (bo:=bo 0) b o (λB c d' _ f=>g 0 B c d' f) (p 0);exact⟨mY,z.put (O d) A⟩
 |[],b=>
  cases dst with
  |none=>exact ⟨be,h⟩|some d=>exact many [] b d
 |r::C::rs,b=>
  cases dst with
  |none=>exact ⟨be,h⟩|some d=>exact many (r::C::rs) b d
def jS(P:ai)(E:cd)(w0:af)(I0:aA)(n:Nat)(o:aC)(s:St)(K:St->Prop)(X:AV->St->Prop):Prop:=∀a w,ko P E w0 I0 n s a w->∀b:Exit->Act->af->Prop,(∀(x:AV)(v:ag)(s':St)(a':Act)(w':af)(I':aA)(mY:Nat->V Nat),X x s'->aJ P E w0 I0 n s' a' w' I' mY->cy w' I' v x->b (.panic [{v:=v,recovered:=F}]) a' w')->o.wp P a w (λa' w'=>∃s',ko P E w0 I0 n s' a' w'/\K s') b
theorem dL.x (h:dL P E w0 I0 n o s K) (X:AV->St->Prop):jS P E w0 I0 n o s K X:=λa w b c _=>h a w b c
def PG(out:PF)(K:Z RV->Prop)(X:AV->Prop):Prop:=
 match out with
 |.ret rs=>K rs|.ea y=>X y
def jt(s:St)(x:ah):V (bH×Z AV):=
 match s.ev x with
 |.val (.fn f caps)=>O (f,caps)|_=>Y
theorem RC{x:ah}(e:o.op=.call {callee:=.value x,args:=args,argTypes:=argTypes})(g:ba n o=W){f:bH}(t:jt s x=O (f,caps))(k:da s args.toList=O xs)
  (l:Go.Proofs.Enters P f) (h:aJ P E w0 I0 n s a w I be):∃vs:Array ag,(execOp a.eval o).run P w=.ok (.enter f vs) w/\lN w I vs.toList (xs++caps):=by
 have i:=aM g (x:=x) (by simp[e,Op.operands,Call.operands]) h;have m:s.ev x=.val (.fn f caps):=by grind [jt,aN,cz]
 rw[m]at i;obtain⟨vs,e1,z,p⟩:∃vs:Array ag,a.eval x=.func (.func f) #[] vs/\vs.size=caps.length/\∀(j:Nat)(c:AV),caps[j]?=O c->cy w I (vs.getD j undef) c:=by
  have q:cy w I (a.eval x) (.fn f caps):=i;generalize a.eval x=u at*;cases q with
  |fn f vs caps A B=>grind
 have d:=kY g h (ps:=args.toList) (λy C=>by grind [Op.operands,Call.operands]) k;refine⟨(args.map a.eval)++vs,?_,by have:=d.1;grind,λj v c hv b=>?_⟩
 .simp only[execOp,e,resolve,e1,Deferred.ofValue,cx,cW,cL,invoke,Vx,l ((args.map a.eval)++vs) w]
 .have D:(args.map a.eval).toList.length=xs.length:=by have:=d.1;grind
  simp only[Rp]at hv;by_cases r:j<xs.length
  .rw[oU M]at hv;rw[oU r]at b;exact d.2 j v c (by grind) b
  .rw[oV M]at hv;rw[oV M]at b;have:=p _ c b;simp_all
theorem aJ.vM (h:aJ P E w0 I0 n s a w I be) (e0:E.cT=F) (f0:∀i,E.ro i=Y) {T:Nat->Prop} (c:ee (E.bX s.a I) w I w' I') (q:mX P (E.bX s.a I) w w' I' a' u' T):aJ P E w0 I0 n {s with a:=a',u:=u'} a w' I' be:=by
 have D:∀B,(E.bX s.a I).LC B->E.fresh w0 B/\∀d,s.b d≠Y->be d≠O B:=λB f=>by
  obtain⟨i,hi,m⟩:=cd.hU.1 f;obtain⟨q1,_,_,_,g0⟩:=h.aZ.bR i B hi m
  grind
 have J:∀p,I p->¬(E.bX s.a I).LC p.block:=λp j f=>by obtain⟨i,hi,m⟩:=cd.hU.1 f;exact(h.aZ.bR i _ hi m).2.2.1 p j rfl
 have K:∀B,(E.bX s.a I).fresh w B->E.fresh w0 B:=λB f=>by
  rcases f with f|f
  .exact .inl (ef h.since.size f)
  grind
 have f:∀d B,s.b d≠Y->be d=O B->w'.heap[B]?=w.heap[B]?:=λd B l f=>by obtain⟨_,y,_,z⟩:=h.bR d B l f;exact c.block B y z (λL=>(D B L).2 d l f)
 have A:dK w w' I I':=⟨c.oO,c.ar,λp v j hv=>by rw[dn (c.block p.block (h.since.lt p j) (h.since.off p j) (J p j))];exact hv,c.shape⟩
 have l:∀d,s.g d<s.g d∨(s.g d=s.g d/\fy P w w' be be s.b s.b d):=λd=>.inr ⟨rfl,.ig rfl rfl (λB N=>f d B N)⟩;have Q:ee E w0 I0 w' I':=by
  refine⟨c.os.trans h.since.os,c.tape.trans h.since.tape,c.output.trans h.since.output,ef h.since.size c.size,λk G r R=>?_,λb S=>?_,c.hS,λp j=>c.oO p (h.since.oO p j),λi B hi=>c.ar i B (h.since.ar i B hi),λH=>(by grind),λB=>(h.since.shape B).trans (c.shape B),λp j=>?_,c.lt,c.off⟩
  .rw[c.block k (jQ G h.since.size) (λU=>by rcases h.since.cf k U with g|g;exact r g;omega) (λX=>by
    rcases(D k X).1 with g|g
    .omega
    grind)]
   exact h.since.block k G r R
  .rcases c.cf b S with g|g
   .exact h.since.cf b g
   .exact .inr (ef h.since.size g)
  .rcases c.new p j with g|g
   .exact h.since.new p g
   grind
 refine⟨Q,h.size,h.defers.mono A,λt a0=>(h.ct t a0).eP A l,λd x H=>(h.bD d x H).eP A l rfl (λB=>f d B (by grind)),h.inj,λd B l C=>?_,h.ru,⟨q.h7,q.inj,λi B hi m=>?_,q.un,λi x h=>(by grind)⟩⟩
 .obtain ⟨g,y,h0,z⟩:=h.bR d B l C;refine⟨g,jQ y c.size,λp j e=>?_,λr=>?_⟩
  .rcases c.new p j with o|o|o
   grind
   .omega
   grind
  .rcases c.cf B r with o|o
   .exact z o
   .omega
 .obtain ⟨q1,b0,c0,d0,_⟩:=q.bR i B hi m;refine⟨K B q1,b0,c0,d0,?_⟩;rintro⟨d,l,C⟩;have:=(h.bR d B l C).2.1;rcases q1 with q1|q1
  .omega
  grind
theorem rR{x:ah}(C:o.op=.call {callee:=.value x,args:=args,argTypes:=argTypes})(D:ba n o=W)(q:E.cT=F)(r:∀i,E.ro i=Y){f:bH}(G:jt s x=O (f,caps))(H:da s args.toList=O xs)
  (J:ov P E f (xs++caps) s.a s.u out a' u') (t:PG out (λrs=>K (({s with a:=a',u:=u'}:St).take o.dst rs)) (λy=>X y {s with a:=a',u:=u'})):jS P E w0 I0 n o s K X:=by
 rintro a w ⟨I,be,b⟩ i0 L;obtain⟨N,Q⟩:=J;obtain⟨vs,R,S⟩:=RC C D G H N b;have T:mX P (E.bX s.a I) w w I s.a s.u (λ_=>False):=⟨b.aZ.h7,b.aZ.inj,λi B hi d=>by obtain⟨q1,U,a0,b0,j0⟩:=b.aZ.bR i B hi d;exact⟨.inr (cd.hU.2 ⟨i,hi,d⟩),U,a0,b0,id⟩,b.aZ.un,λi x h=>by cases h⟩
 have c0:=Q w I vs b.since.hS (λp g=>⟨b.since.lt p g,b.since.off p g⟩) T S;unfold Oper.wp;rw[R];simp only[Bc];refine c0.mono λe w' g=>?_;cases out with
 |ret rs=>
  obtain⟨v,I',bo,rfl,m,d0,Bz,e0,j⟩:=g;have f0:=b.vM q r m j;have g0:∀k B,bo k=O B->∀d',s.b d'≠Y->be d'≠O B:=λk B c d' z A=>by
   have k0:=(b.bR d' B z A).2.1;rcases e0 k B c with l|l
   .omega
   .obtain ⟨i,hi,d⟩:=cd.hU.1 l;exact(b.aZ.bR i B hi d).2.2.2.2 ⟨d',z,A⟩
  obtain⟨mY,l⟩:=f0.take d0 Bz (λB c=>by
   rcases c with c|c
   .exact .inl (ef b.since.size c)
   .obtain ⟨i,hi,d⟩:=cd.hU.1 c;exact(b.aZ.bR i B hi d).1) g0 (λk B c i hi d=>(j.bR i B hi d).2.2.2.2 ⟨k,c⟩) o.dst
  exact⟨_,⟨I',mY,l⟩,t⟩
 |ea y=>obtain⟨v,I',rfl,m,h0,j⟩:=g;exact L y v _ a w' I' be t (b.vM q r m j) h0
theorem uv{x:ah}(q:o.op=.call {callee:=.value x,args:=args,argTypes:=argTypes})(r:ba n o=W){f:bH}(i0:jt s x=O (f,caps))(D:da s args.toList=O xs)
  (G:tq P E f (xs++caps) out) (t:PG out (λrs=>K (s.take o.dst rs)) (λy=>X y s)):jS P E w0 I0 n o s K X:=by
 rintro a w ⟨I,be,b⟩ j0 H;obtain⟨J,L⟩:=G;have z:=aM r (x:=x) (by simp[q,Op.operands,Call.operands]) b;have N:s.ev x=.val (.fn f caps):=by grind [jt,aN,cz]
 rw[N]at z;obtain⟨vs,e1,k0,Q⟩:∃vs:Array ag,a.eval x=.func (.func f) #[] vs/\vs.size=caps.length/\∀(j:Nat)(c:AV),caps[j]?=O c->cy w I (vs.getD j undef) c:=by
  have R:cy w I (a.eval x) (.fn f caps):=z;generalize a.eval x=u at*;cases R with
  |fn f vs caps l0 m0=>grind
 have m:=kY r b (ps:=args.toList) (λy n0=>by grind [Op.operands,Call.operands]) D;have S:lN w I ((args.map a.eval)++vs).toList (xs++caps):=by
  refine⟨by have:=m.1;grind,λj v c hv d=>?_⟩;have o0:(args.map a.eval).toList.length=xs.length:=by have:=m.1;grind
  simp only[Rp]at hv;by_cases T:j<xs.length
  .rw[oU M]at hv;rw[oU T]at d;exact m.2 j v c (by grind) d
  .rw[oV M]at hv;rw[oV M]at d;have:=Q _ c d;simp_all
 have d:=L w I ((args.map a.eval)++vs) b.since.hS (λp g=>⟨b.since.lt p g,b.since.off p g⟩) S;have U:(execOp a.eval o).run P w=.ok (.enter f ((args.map a.eval)++vs)) w:=by simp only[execOp,q,resolve,e1,Deferred.ofValue,cx,cW,cL,invoke,Vx,J ((args.map a.eval)++vs) w]
 unfold Oper.wp;rw[U];simp only[Bc];refine d.mono λe w' g=>?_;cases out with
 |ret rs=>
  obtain⟨v,I',bo,rfl,l,a0,Bz,A,_⟩:=g;have b0:=b.By l;have c0:∀k B,bo k=O B->∀d',s.b d'≠Y->be d'≠O B:=λk B h d' d0 e0=>by have f0:=(b.bR d' B d0 e0).2.1;have:=cd.fU (A k B h);omega
  obtain⟨mY,g0⟩:=b0.take a0 Bz (λB h=>.inl (ef b.since.size (cd.fU h))) c0 (λk B h i hi C=>by rw[l.IY rfl]at C;have f0:=(b.aZ.bR i B hi C).2.1;have:=cd.fU (A k B h);omega) o.dst;exact⟨_,⟨I',mY,g0⟩,t⟩
 |ea y=>obtain⟨v,I',rfl,l,h0,_⟩:=g;exact H y v s a w' I' be t (b.By l) h0
end
section
variable{P:ai}{E:cd}{w0:af}{I0:aA}{n:Nat}{o:aC}{s:St}{K:St->Prop}{a:Act}{w w':af}{I I':aA}{be:Nat->V Nat}{b:Nat->V Bx}{g:Nat->Nat}
theorem I8{ty:an}{B q:Nat}{T:an}{v:ag}(b:P.underlying t=O (.slice e))(c:0<P.cellsOf e)(d:w.heap[B]?=O (.cells cur T (0,0)))
   (hlen:(Builtin.lenOf v).run P w=.ok k w) (f:m=min k len) (g:(Builtin.firstCells (P.cellsOf e) m v).run P w=.ok news.toArray w) (h:∀u∈news,u.oneCell'=W) (j:q+news.length<=cur.size):
  (Builtin.copy_ #[t,u] ty #[.slice (O ⟨B,q,Y⟩) len cap,v]).run P w=.ok (.int .i64 m) (w.setRow B (bh cur.toList q news).toArray):=by
 have a:=run_storeCells_at P B q T news 0 cur w d (by grind) h;simp only[qm]at a;have i:Nat.min k len=m:=f.symm;simp[Builtin.copy_,eH b,hlen,i,gF rfl c,g,a,goInt,bh]
theorem Ep{ty:an}{v:ag}(a:P.underlying t=O (.slice e))(b:0<P.cellsOf e)
   (hlen:(Builtin.lenOf v).run P w=.ok k w) (c:(Builtin.firstCells (P.cellsOf e) 0 v).run P w=.ok #[] w):
  (Builtin.copy_ #[t,u] ty #[.slice A 0 cap,v]).run P w=.ok (.int .i64 0) w:=by
 have d:Nat.min k 0=0:=Nat.min_eq_right (eM _);cases A<;>simp[Builtin.copy_,eH a,hlen,gF rfl b,c,goInt,storeCells]
theorem LU{x:ah}(D:o.op=.call {callee:=.builtin .copy,args:=#[x,y],argTypes:=#[t,u]})(Q:ba n o=W)(b0:gV P t=O e)(c0:s.ev x=.view d gg off len)(d0:gg=s.g d)(l:s.b d=O (.br e xs))
  (e0:js P s e (s.ev y)=O ys) (G:lF P e ys)
  (R:K (St.put {s with b:=b8 s.b d (O (.br e (bh xs off (ys.take (min ys.length len)))))} o.dst (.val (.fl (.int .i64 (min ys.length len:Nat)))))):dL P E w0 I0 n o s K:=by
 rintro a w ⟨I,be,g⟩ f0;have S:=aM Q (x:=x) (by simp[D,Op.operands,Call.operands]) g;have f:=aM Q (x:=y) (by simp[D,Op.operands,Call.operands]) g;rw[c0]at S;obtain⟨news,h⟩:=xD g f e0 G;have m:=ff b0;have g0:=g.bD d _ l;obtain⟨p,y0,A0,T⟩:=g0;obtain⟨B0,hv⟩:=mf S d0 l;obtain⟨cs,U⟩:=fC D a;have C0:∀A c,len=0->a.eval x=.slice A len c->o.wp P a w (λa' w'=>∃s',ko P E w0 I0 n s' a' w'/\K s') f0:=by
  rintro A c rfl e1;have q:=h.cells w rfl 0 (eM _);simp only[lK,A9]at q;have H:=Ep (P:=P) (w:=w) (t:=t) (u:=u) (ty:=o.type) (A:=A) (cap:=c) m p (h.len w) q;refine fS (v:=.int .i64 0) (w':=w) (by rw[U];simp[builtin,e1,H]) ⟨_,?_,R⟩;have h0:bh xs off (ys.take (min ys.length 0))=xs:=by simp[bh]
  have i0:({s with b:=b8 s.b d (O (.br e xs))}:St)=s:=by
   have:b8 s.b d (O (.br e xs))=s.b:=by grind [b8]
   rw[this]
  rw[h0,i0];exact⟨I,be,g.put o.dst (v:=.int .i64 0) (r:=.val (.fl (.int .i64 ((min ys.length 0:Nat):Int)))) (by rw[Nat.min_zero];exact .fl _ rfl)⟩
 cases z:be d with
 |none=>grind|some B=>
  simp only[z]at hv T;obtain⟨cur,cap,A,hw,j0,e1,k0⟩:=hv;obtain⟨D0,i,C,l0,m0,E0,G0⟩:=T;rw[hw]at C;injection C with C;injection C with q1 H0;subst q1;have n0:i=cap:=(lJ p (j0.symm.trans l0)).symm;subst n0;by_cases o0:off<i
  .obtain rfl:=k0 o0;have p0:min ys.length len<=ys.length:=Nat.min_le_left _ _;have q:=h.cells w rfl (min ys.length len) p0;have q0:(news.take (min ys.length len*P.cellsOf e)).length=min ys.length len*P.cellsOf e:=by rw[tI,h.size];simp_all
   have J0:(off+min ys.length len)*P.cellsOf e<=i*P.cellsOf e:=hR _ M;have r0:off*P.cellsOf e+(news.take (min ys.length len*P.cellsOf e)).length<=cur.size:=by grind
   have H:=I8 (P:=P) (w:=w) (t:=t) (u:=u) (ty:=o.type) (len:=len) (cap:=i-off) m p hw (h.len w) rfl q (λu m=>h.one u (AY m)) r0;have hsz:(bh cur.toList (off*P.cellsOf e) (news.take (min ys.length len*P.cellsOf e))).toArray.size=cur.size:=by grind [ug,bI]
   have xK:(ys.take (min ys.length len)).length=min ys.length len:=aH;have J:off+(ys.take (min ys.length len)).length<=xs.length:=by grind
   have X:(bh xs off (ys.take (min ys.length len))).length=xs.length:=bI J;obtain⟨s0,K0⟩:=g.vF d _ (.br e (bh xs off (ys.take (min ys.length len)))) B l z cur _ e hw hsz (.inr ⟨_,_,_,rfl,rfl,X⟩);have t0:=g.hg d _ (.br e (bh xs off (ys.take (min ys.length len)))) B l z cur _ e hw hsz (.inr ⟨_,_,_,rfl,rfl,X⟩) ⟨p,by grind,λi2 k f=>?_,?_⟩
   .refine fS (v:=.int .i64 (min ys.length len:Nat)) (w':=w.setRow B (bh cur.toList (off*P.cellsOf e) (news.take (min ys.length len*P.cellsOf e))).toArray) (by rw[U];simp[builtin,e1];rw[H];rfl) ⟨_,⟨I,be,t0.put o.dst (r:=.val (.fl (.int .i64 (min ys.length len:Nat)))) (.fl _ rfl)⟩,R⟩
   .rw[cM J]at f;split at f
    grind
    .split at f
     .rw[rC]at f;split at f
      .exact G k (bW f)
      .cases f
     grind
   .simp only[z];refine⟨_,i,pA w B cur _ e (0,0) hw,by grind,m0,by grind,λi2 j k c f u0=>?_⟩;refine cy.mono (w:=w) (I:=I) s0 ?_;rw[fT (by grind),q0];rw[cM J,xK]at f;have L0:j<P.cellsOf e:=by
     have:k.cells.length=P.cellsOf e:=by
      split at f
      grind
      .split at f
       .rw[rC]at f;split at f
        .exact (G k (bW f)).1
        .cases f
       grind
     grind
    by_cases L:i2<off
    .rw[aq L]at f;have x0:(i2+1)*P.cellsOf e<=off*P.cellsOf e:=hR _ L
     grind
    .rw[ao L]at f;have x0:off*P.cellsOf e<=i2*P.cellsOf e:=hR _ M;rw[ao M];by_cases N:i2<off+min ys.length len
     .rw[aq N,rC,aq M]at f;have a0:(i2+1)*P.cellsOf e<=(off+min ys.length len)*P.cellsOf e:=hR _ N;rw[kS,uk,kS]at a0;rw[aq M];have N0:=h.xu _ j k c f u0;have P0:i2*P.cellsOf e+j-off*P.cellsOf e=(i2-off)*P.cellsOf e+j:=by rw[Nat.sub_mul];omega
      grind
     .rw[ao N]at f;have a0:(off+min ys.length len)*P.cellsOf e<=i2*P.cellsOf e:=hR _ M
      grind
  grind
def St.BA (s:St) (d d':Nat) (e:an) (xs:Z AV) (len:Nat):St:=(({s with b:=b8 s.b d' Y}:St)).cQ d e (xs.take len)
theorem aJ.BA (h:aJ P E w0 I0 n s a w I be) (d d':Nat) {v:ag} (hv:bU P w I be s.b s.g v (.view d' gg 0 len)) (u:gg=s.g d') (f:s.b d'=O (.br e xs)):
  ∃mY,aJ P E w0 I0 n (s.BA d d' e xs len) (a.put (O d) v) w I mY:=by
 have g:s.b d'≠Y:=by simp[f]
 obtain⟨y,K,L,m⟩:=h.bD d' _ f;obtain⟨N,Q⟩:=mf hv u f;have z:=h.drop d';have A:(xs.take len).length=len:=dx;have C:jb P w I (b8 be d (be d')) (b8 (b8 s.b d' Y) d (O (.br e (xs.take len)))) (b8 s.g d (s.g d+1)) d (.br e (xs.take len)):=by
  refine⟨y,by grind,λi x hi=>?_,?_⟩
  grind
  .rw[ch];cases b:be d' with
   |none=>grind|some B=>
    simp only[b]at m;obtain⟨cur,cap,q1,k,l,o,R⟩:=m;refine⟨cur,cap,q1,k,l,by grind,λi j x c hi S=>?_⟩
    grind
 have D:=z.mz d (.br e (xs.take len)) (be d') C (λB b=>by
  obtain⟨q1,k,l,o⟩:=h.bR d' B g b;refine⟨q1,k,l,o,λp T q G=>?_⟩;by_cases t:p=d';simp_all
  .simp only[aO _ _ t]at q;exact t (h.inj p d' _ q g G b)) (λB b i hi H=>(h.aZ.bR i B hi H).2.2.2.2 ⟨d',g,b⟩)
 refine⟨b8 be d (be d'),?_⟩;have J:=D.put (O d) (v:=v) (r:=.view d (s.g d+1) 0 len) ⟨aH,λ_=>by grind [eI,ch]⟩;unfold St.BA St.cQ;rw[A];exact J
theorem vN{x:ah}(b:o.op=.assign x)(g:ba n o=W)(l:o.dst=O d)(h:s.ev x=.view d' gg 0 len)(i:gg=s.g d')(j:s.b d'=O (.br e xs))(k:K (s.BA d d' e xs len)):dL P E w0 I0 n o s K:=by rintro a w ⟨I,be,c⟩ m;have f:=aM g (x:=x) (by simp[b,Op.operands]) c;rw[h]at f;obtain⟨mY,p⟩:=c.BA d d' f i j;exact fS (v:=a.eval x) (w':=w) (by simp[execOp,b]) ⟨_,⟨I,mY,by grind⟩,k⟩
end
section
variable{P:ai}{E:cd}{w0:af}{I0:aA}{n:Nat}{s s':St}{a:Act}{w w':af}{I I':aA}{be:Nat->V Nat}{o:aC}{K:St->Prop}
theorem LV(h:aJ P E w0 I0 n s a w I be){cs:Z AV}(b:s.a i=O (.cells cs)){B:Nat}(d:I.ar i=O B)(k:Nat):∃vs cur t,w.heap[B]?=O (.cells cur t (0,0))/\cur.size=cs.length/\kU w I ⟨B,k,Y⟩ (cs.drop k) vs:=by
 obtain⟨B',q1,cur,t,e,m,f⟩:=h.aZ.h7 i _ b;rw[d]at q1;injection q1 with q1;subst q1;have:kU w I ⟨B,0,Y⟩ cs cur.toList:=by
  refine⟨by grind,λj v g=>?_,λj v c g l=>?_⟩
  .rw[eo,dN,qq e]
   grind
  .have:=f j c l;simp_all
 have:=this.drop k;rw[eo,dN]at this
 grind
theorem Er(h:aJ P E w0 I0 n s a w I be)(b:s.a i=O (.br e xs)){B:Nat}(c:I.ar i=O B){x:AV}(d:xs[j]?=O x):∃vs,kU w I ⟨B,j*P.cellsOf e,Y⟩ x.cells vs:=by
 obtain⟨B',q1,f⟩:=h.aZ.h7 i _ b;rw[c]at q1;injection q1 with q1;subst q1;have g:jb P w I (λ_=>O B) (λ_=>Y) (λ_=>0) 0 (.br e xs):=by obtain⟨k,l,m,o⟩:=f;exact⟨k,l,m,o⟩
 exact zd g rfl d
def xz(P:ai)(o:aC)(s:St)(K:cH->Prop):Prop:=
 match o.op with
 |.load t x=>match s.ev x with
  |.val (.ptr i off)=>match s.a i with
   |some (.cells cs)=>jR P t (cs.drop off) λv=>K (.val v)|some (.br e xs)=>∃y,xs[off/P.cellsOf e]?=O y/\jR P t (y.cells.drop (off%P.cellsOf e)) λv=>K (.val v)
   |_=>False
  |_=>False
 |.fieldAddr t x f=>match s.ev x with
  |.val (.ptr i off)=>∃a ft,kX P t f=O (a,ft)/\K (.val (.ptr i (off+a)))|_=>False
 |.indexAddr t x y=>match s.ev x with
  |.val (.view i sz len)=>∃e k m,gV P t=O e/\s.ev y=.val (.fl (.int k m))/\(0<P.cellsOf e/\sz=P.cellsOf e/\0<=m/\m<len)/\K (.val (.ptr i (m.toNat*sz)))|_=>False
 |_=>False
theorem mj{v:ag}(h:cy w I v (.ptr i off)):∃B,I.ar i=O B/\v=.pointer (O ⟨B,off,Y⟩):=by
 cases h with
 |ptr i off B h=>grind
theorem PH{K:cH->Prop}(p:ba n o=W)(h:xz P o s K):∃r,K r/\dZ P E w0 I0 n o s r:=by
 unfold xz at h;cases c:o.op<;>simp only[c]at h;case load t x=>
  have H:∀a w I be,aJ P E w0 I0 n s a w I be->bU P w I be s.b s.g (a.eval x) (s.ev x):=λa w I be b=>aM p (x:=x) (by simp[c,Op.operands]) b;split at h
  .rename_i i off l;split at h
   .rename_i cs C;obtain⟨y,d,g⟩:=qu h;refine⟨_,d,λa w I be b=>?_⟩;have hv:=H a w I be b;rw[l]at hv;obtain⟨B,j,e⟩:=mj (show cy w I (a.eval x) (.ptr i off)from hv);obtain⟨vs,_,_,_,_,q⟩:=LV b C j off;obtain⟨v,z,q1,D,G⟩:=nA q g;refine⟨v,?_,by subst G;exact D⟩;simp[execOp,c,e,Instr.loadAt,Instr.sureAddr,q1]
   .rename_i e xs C;obtain⟨y,Q,h⟩:=h;obtain⟨z,d,g⟩:=qu h;refine⟨_,d,λa w I be b=>?_⟩;have hv:=H a w I be b;rw[l]at hv;obtain⟨B,j,e1⟩:=mj (show cy w I (a.eval x) (.ptr i off)from hv);obtain⟨vs,q⟩:=Er b C j Q;have J:=q.drop (off%P.cellsOf e);rw[eo,uj,Nat.div_add_mod]at J;obtain⟨v,c0,q1,D,G⟩:=nA J g;refine⟨v,?_,by subst G;exact D⟩;simp[execOp,c,e1,Instr.loadAt,Instr.sureAddr,q1]
   grind
  grind
 case fieldAddr t x f=>
  split at h
  .rename_i i off l;obtain⟨d0,ft,d,g⟩:=h;obtain⟨fs,fd,hu,e0,rfl,rfl,R⟩:=qx d;refine⟨_,g,λa w I be b=>?_⟩;have hv:=aM p (x:=x) (by simp[c,Op.operands]) b;rw[l]at hv;obtain⟨B,j,e⟩:=mj (show cy w I (a.eval x) (.ptr i off)from hv);refine⟨.pointer (O ⟨B,off+fd.offset,Y⟩),?_,.ptr i _ B j⟩
   grind [execOp,cx,rJ,cL,cW,eo]
  grind
 case indexAddr t x y=>
  split at h
  .rename_i i sz len l;obtain⟨e,k,m,d,g,⟨S,T,U,X⟩,a0⟩:=h;refine⟨_,a0,λa w I be b=>?_⟩;have hv:=aM p (x:=x) (by simp[c,Op.operands]) b;have hw:=aM p (x:=y) (by simp[c,Op.operands]) b;rw[l]at hv;rw[g]at hw;have hw:=bV hw;have L:cy w I (a.eval x) (.view i sz len):=hv;obtain⟨u,N⟩:∃u,a.eval x=u:=⟨_,rfl⟩
   rw[N]at L;cases L with
   |view i sz len B cap e' cur A j q R f0 b0=>obtain rfl:=b0 M;refine⟨.pointer (O ⟨B,m.toNat*sz,Y⟩),?_,.ptr i _ B j⟩;have:=run_indexAt_slice (ff d) S ⟨B,0,Y⟩ len cap k m U X w;simp only[execOp,c,hw,cx,cL,cW];rw[N,this,eo,dN,T];rfl|lE=>omega
  grind
end
def NT(P:ai)(s:St)(t:an)(r:cH)(K:cH->Prop):Prop:=
 match r with
 |.val (.ref cs)=>jR P t cs λv=>K (.val v)|.dT d gg sz i k=>gg=s.g d/\
  match s.b d with
  |some (.cells cs)=>jW P t (cs.drop (i*sz+k)) K|some (.br e xs)=>sz=P.cellsOf e/\∃y,xs[i]?=O y/\jR P t (y.cells.drop k) λv=>K (.val v)
  |none=>False
 |_=>False
def BC(P:ai)(s:St)(t:an)(f:Nat)(r:cH)(K:cH->Prop):Prop:=
 ∃off ft,kX P t f=O (off,ft)/\
 match r with
 |.val (.ref cs)=>K (.val (.ref (cs.drop off)))|.dT d gg sz i k=>(gg=s.g d/\s.b d≠Y)/\K (.dT d gg sz i (k+off))
 |_=>False
def BD(P:ai)(s:St)(t:an)(x y:cH)(K:cH->Prop):Prop:=
 ∃e,gV P t=O e/\0<P.cellsOf e/\
 match y with
 |.val (.fl (.int _ m))=>0<=m/\
  match x with
  |.val (.sl xs)=>∃z,xs[m.toNat]?=O z/\z.cells.length=P.cellsOf e/\K (.val (.ref z.cells))|.bF xs=>∃z,xs[m.toNat]?=O z/\z.cells.length=P.cellsOf e/\K (.val (.ref z.cells))
  |.view d gg off len=>gg=s.g d/\(∃xs,s.b d=O (.br e xs))/\m<len/\K (.dT d gg (P.cellsOf e) (off+m.toNat) 0)|_=>False
 |_=>False
def RE(P:ai)(op:iS)(t:an)(x y:cH)(K:cH->Prop)(G:Prop):Prop:=
 match x,y with
 |.val (.fl (.int k p)),.val (.fl (.int k' q))=>(k'=k∨kZ op=W)/\∃v,rQ op k p q=O v/\K (.val (.fl v))|.val (.fl (.bool p)),.val (.fl (.bool q))=>(P.underlying t=O .bool/\(op=.eql∨op=.neq))/\K (.val (.fl (.bool (if op=.eql then p==q else p !=q))))
 |_,_=>G
def ml(s:St)(x:ah):ag:=(nB (s.ev x)).getD undef
def BE(P:ai)(o:aC)(s:St)(K:cH->Prop):Prop:=∃v,(∀w,(execOp (ml s) o).run P w=.ok (.value v) w)/\(Vt v/\∀x∈o.op.operands,(nB (s.ev x)).isSome=W/\s.ev x≠.bF [])/\K (.val (.fl v))
def vO(P:ai)(s:St)(t:an)(xs:Z AV)(lo hi mx:V ah)(K:cH->Prop):Prop:=
 ∃e,gV P t=O e/\∃l q,mS s 0 lo=O l/\mS s xs.length hi=O q/\(0<P.cellsOf e/\(∀x∈xs,x.cells.length=P.cellsOf e)/\l<=q/\q<=xs.length)/\
  match mx with
  |none=>K (.val (.sl ((xs.drop l).take (q-l))))|some z=>hi.isSome=W/\mS s 0 (O z)=O q/\K (.bF ((xs.drop l).take (q-l)))
def LW(P:ai)(s:St)(t:an)(x:cH)(lo hi mx:V ah)(K:cH->Prop)(G:Prop):Prop:=
 match x with
 |.val (.sl xs)=>vO P s t xs lo hi mx K|.bF xs=>vO P s t xs lo hi mx K
 |.view d gg off len=>mx=Y/\∃e,gV P t=O e/\gg=s.g d/\(∃xs,s.b d=O (.br e xs))/\∃l q,mS s 0 lo=O l/\mS s len hi=O q/\(l<=q/\q<=len)/\K (.view d gg (off+l) (q-l))|_=>G
def sL(P:ai)(o:aC)(s:St)(K:cH->Prop):Prop:=
 match o.op with
 |.move x=>K (s.ev x)|.pick c x y=>∃b,s.ev c=.val (.fl (.bool b))/\K (if b then s.ev x else s.ev y)
 |.load t x=>NT P s t (s.ev x) K|.fieldAddr t x f=>BC P s t f (s.ev x) K
 |.indexAddr t x y=>BD P s t (s.ev x) (s.ev y) K|.extract x k=>∃rs r,s.ev x=.gw rs/\rs[k]?=O r/\K r
 |.field t x f=>∃off ft,kX P t f=O (off,ft)/\∃cs,s.ev x=.val (.agg cs)/\jR P ft (cs.drop off) λv=>K (.val v)|.makeFunc (.func f) first caps=>first.toList=[]/\∃xs,da s caps.toList=O xs/\K (.val (.fn f xs))
 |.makeInterface t x=>∃v,bz (s.ev x)=O v/\P.concrete t=W/\K (.val (.mR t v))|.build t parts=>∃a,kW P t=O a/\∃z,oq P t=O z/\∃ps,jh s a parts.toList=O ps/\(a.all λp=>decide (p.1+p.2<=z.cells.length))=W/\K (.val (.agg (dD z.cells ps)))
 |.slice t x lo hi mx=>LW P s t (s.ev x) lo hi mx K (mx=Y/\P.underlying t=O .string/\∃xs,s.ev x=.val (.fl (bs xs))/\∃l h,mS s 0 lo=O l/\mS s xs.length hi=O h/\(l<=h/\h<=xs.length)/\K (.val (.fl (bs ((xs.drop l).take (h-l))))))|.index t x y=>P.underlying t=O .string/\∃l,s.ev x=.val (.fl (bs l))/\∃k m,s.ev y=.val (.fl (.int k m))/\0<=m/\∃c,l[m.toNat]?=O c/\K (.val (.fl (.int .u8 c.toNat)))
 |.binOp op t x y _=>RE P op t (s.ev x) (s.ev y) K ((∃p q,s.ev x=.val (.fl (bs p))/\s.ev y=.val (.fl (bs q))/\∃v,nb op p q=O v/\K (.val (.fl v)))∨BE P o s K)|.unOp .not _ x=>∃p,s.ev x=.val (.fl (.bool p))/\K (.val (.fl (.bool (!p))))
 |.unOp .neg _ x=>∃k p,s.ev x=.val (.fl (.int k p))/\K (.val (.fl (.int k (k.wrap (0-p)))))|.convert _ _ _=>BE P o s K
 |_=>False
section
variable{P:ai}{E:cd}{w0:af}{I0:aA}{n:Nat}{o:aC}{s:St}
theorem BF(f:ba n o=W)(g:∀cs b,o.op≠.select cs b)(h:BE P o s K):∃r,K r/\∀a w I be,aJ P E w0 I0 n s a w I be->∃v,(execOp a.eval o).run P w=.ok (.value v) w/\bU P w I be s.b s.g v r:=by
 obtain⟨v,i,⟨j,k⟩,l⟩:=h;refine⟨_,l,λa w I be m=>⟨v,?_,.fl _ j⟩⟩;have p:∀x∈o.op.operands,a.eval x=ml s x:=λx e=>by
  have q1:=aM f e m;obtain⟨q,t⟩:=k x e;obtain⟨u,c⟩:=um.1 q;have z:ml s x=u:=by simp[ml,c]
  rw[z];cases d:s.ev x with
  |val y=>rw[d]at q1 c;exact LR q1 c|bF ys=>
   rw[d]at c t;cases ys with
   |nil=>grind|cons y ys=>simp[nB]at c
  |_=>rw[d]at c;simp[nB]at c
 rw[execOp_congr o g p];exact i w
theorem rS{x:ah}(c:o.op=.slice t x lo hi mx)(d:ba n o=W)(f:bz (s.ev x)=O (.sl xs))(h:vO P s t xs lo hi mx K):∃r,K r/\dZ P E w0 I0 n o s r:=by
 obtain⟨e,g,l,i,j,k,⟨m,p,q,u⟩,a⟩:=h;cases mx with
 |none=>grind [Bu]|some z=>
  obtain⟨b,v,w⟩:=a;cases hi with
  |none=>simp at b|some y=>grind [xI,mS]
theorem Es(j:ba n o=W)(h:sL P o s K):∃r,K r/\dZ P E w0 I0 n o s r:=by
 unfold sL at h;cases g:o.op<;>simp only[g]at h
 grind [move,LF]
 grind [LG]
 case load t x=>
  unfold NT at h;split at h
  .rename_i cs c;obtain⟨v,a,b⟩:=Bk (E:=E) (w0:=w0) (I0:=I0) g j c h
   grind
  .rename_i d gg sz i k c;obtain⟨H,h⟩:=h;split at h
   .rename_i cs G;exact xB g j c H G h
   .rename_i e xs G;obtain⟨a,y,b,u⟩:=h;obtain⟨v,w,A⟩:=Bm (E:=E) (w0:=w0) (I0:=I0) g j c H G a b u
    grind
   grind
  grind
 case fieldAddr t x f=>
  obtain⟨off,ft,a,b⟩:=h;obtain⟨fs,fd,L,N,rfl,rfl,Q⟩:=qx a
  grind [tl,tm]
 case indexAddr t x y=>
  obtain⟨e,a,b,u⟩:=h;split at u
  .rename_i k m I;obtain⟨w,A⟩:=u;split at A
   .rename_i xs c;obtain⟨z,B,C,D⟩:=A;exact⟨_,D,om g j (ff a) (by rw[c];rfl) I w B b C⟩
   .rename_i xs c;obtain⟨z,B,C,D⟩:=A;exact⟨_,D,om g j (ff a) (by rw[c];rfl) I w B b C⟩
   grind [rK,ff]
   grind
  grind
 case extract x k=>grind [Em]
 case field t x f=>
  obtain⟨off,ft,a,cs,b,u⟩:=h;obtain⟨v,w,A⟩:=I6 (E:=E) (w0:=w0) (I0:=I0) g j a b u
  grind
 case makeFunc fn first caps=>
  cases fn<;>simp only at h;obtain⟨h0,xs,a,b⟩:=h;have R:first=#[]:=by grind
  grind [rO]
 case makeInterface t x=>grind [to]
 case build t parts=>obtain⟨S,a,z,b,ps,u,w,A⟩:=h;exact⟨_,A,oZ g j a (.VA b) w u⟩
 case slice t x lo hi mx=>
  unfold LW at h;split at h
  .rename_i xs c;exact rS g j (by rw[c];rfl) h
  .rename_i xs c;exact rS g j (by rw[c];rfl) h
  .rename_i d gg off len c;obtain⟨rfl,e,a,b,⟨xs,u⟩,l,J,w,A,⟨B,C⟩,D⟩:=h;exact⟨_,D,lO g j a c b u w A B C⟩
  .obtain ⟨rfl,a,xs,b,l,J,u,w,⟨A,B⟩,C⟩:=h
   grind [Aj]
 case index t x y=>grind [Ai]
 case binOp op t x y t'=>
  unfold RE at h;split at h
  grind [Ag]
  grind [xJ]
  .rcases h with⟨p,q,a,b,v,u,w⟩|h
   grind [Ah]
   .exact BF j (by simp[g]) h
 grind [Bw,Bv]
 case convert t t' x=>exact BF j (by simp[g]) h
def GK(P:ai)(o:aC)(s:St)(K:cH->Prop):Prop:=sL P o s K∨xz P o s K
theorem GL(a:ba n o=W)(h:GK P o s K):∃r,K r/\dZ P E w0 I0 n o s r:=h.elim (Es a) (PH a)
end
section
variable{P:ai}{E:cd}{w0:af}{I0:aA}{n:Nat}{o:aC}{s:St}{K:St->Prop}{a:Act}{w w':af}{I I':aA}{be:Nat->V Nat}
theorem aJ.VC (h:aJ P E w0 I0 n s a w I be) {B:Nat} (b:E.fresh w0 B) (c:B<w.heap.size) (e:¬E.cf w B) (f:∀d,s.b d≠Y->be d≠O B) (g:∀i,s.a i≠Y->I.ar i≠O B):aJ P E w0 I0 n s a w (I.plus λp=>p.block=B) be:=h.Vz B ⟨b,c,e,f⟩ g
def o6(l:Z bc):Z AV:=l.map λc=>.fl (.int .u8 c.toNat)
theorem I9{src dst:an}{x:ah}(p:o.op=.convert src dst x)(A:ba n o=W)(C:P.underlying src=O .string)(D:P.underlying dst=O (.slice e))(G:P.underlying e=O (.int .u8)){l:Z bc}(d:s.ev x=.val (.fl (bs l)))(H:l.length<=maxLen)
  (J:K (s.put o.dst (.val (.sl (o6 l))))):dL P E w0 I0 n o s K:=by
 rintro a w ⟨I,be,r⟩ c0;have t:=aM A (x:=x) (by simp[p,Op.operands]) r;rw[d]at t;have e1:=bV t;have hsz:(ByteArray.mk l.toArray).size=l.length:=by simp[ByteArray.size]
 have f:=run_bytes_of_string w src dst e ⟨l.toArray⟩ C D G;rw[hsz]at f;obtain⟨cap,L⟩:∃cap,grownCap w l.length 0 e=cap:=⟨_,rfl⟩
 have u:=grownCap_ge w l.length 0 e;have y:=grownCap_le_maxLen w l.length 0 e H;rw[L]at f u y;obtain⟨b,N⟩:∃b,bytesRow ⟨l.toArray⟩ cap=b:=⟨_,rfl⟩
 have z:∀(i:Nat)(c:bc),l[i]?=O c->b[i]?=O (Value.int .u8 c.toNat):=λi c hi=>by grind [cr,bytesRow,Array.getElem?_append_left]
 rw[N]at f;refine fS (v:=.slice (O ⟨w.heap.size,0,Y⟩) l.length cap) (w':=w.drew.alloc (.cells b e (b.size,b.size+1))) (by simp[execOp,p,e1,f]) ⟨_,?_,J⟩;obtain⟨Q,R,⟨q1,S,d0,T,U⟩,_,X⟩:=r.fresh (w':=w.drew.alloc (.cells b e (b.size,b.size+1))) (o:=.cells b e (b.size,b.size+1)) rfl rfl rfl rfl;have a0:=Q.VC (B:=w.heap.size) q1 S T U (X _ rfl);refine⟨_,be,a0.put o.dst ?_⟩;refine cy.sl ⟨w.heap.size,0,Y⟩ l.length cap 1 (o6 l) (λi _=>b.getD i undef) (by simp[o6]) (by simpa[o6]using u) y (λi x d=>?_) (λi j x c d g=>?_) (λi j x c d g=>?_) (λi j x c d g=>?_)
 .simp only[o6,gu,c8]at d;obtain⟨c,_,rfl⟩:=d;simp[AV.cells,AV.wf,AV.isAgg]
 .simp only[o6,gu,c8]at d;obtain⟨q,h,rfl⟩:=d;have k:j=0:=by grind [cr,AV.cells]
  subst k;have m:=z i q h;have b0:(Addr.mk w.heap.size 0 Y).add (i*1+0)=⟨w.heap.size,i,Y⟩:=by grind [Addr.add]
  rw[b0];simp only[World.cell?,R];simp[m]
 .right;unfold Addr.add
  grind
 .simp only[o6,gu,c8]at d;obtain⟨q,h,rfl⟩:=d;have k:j=0:=by grind [cr,AV.cells]
  subst k;simp[AV.cells]at g;subst g;have m:=z i q h;simp only[my,m,gh];exact .fl _ rfl
end
end Go.Ev
