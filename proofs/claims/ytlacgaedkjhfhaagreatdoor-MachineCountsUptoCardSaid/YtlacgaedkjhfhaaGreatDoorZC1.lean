import Derived.KernelRfl
import Derived.Orders
import Derived.Below
import Derived.Laws.AppendOwn
import Derived.Laws.MakeOwn
import Derived.Laws.CopyOwn
import Derived.Laws.Rows
import Derived.Laws.Tables
import Derived.Laws.StructEq
import Derived.Laws.Strings3
import Derived.Laws.BytesString
import Derived.Laws.NewBlocks
import Derived.Shelf.Abstract
import Derived.Laws.Build
set_option linter.all false
open Option renaming some->O,none->Y
open Bool renaming true->W,false->F
namespace Go
theorem M{p:Prop}(h:p:=by omega):p:=h
theorem au{p:Prop}(h:p:=by kernel_rfl):p:=h
theorem aE{p:Prop}(h:p:=by simp):p:=h
theorem cM{p:Prop}(h:p:=by simp;omega):p:=h
theorem cd{p:Prop}(h:p:=by decide):p:=h
theorem dY{p:Prop}(h:p:=by dsimp only;omega):p:=h
theorem an{p:Prop}(h:p:=by trivial):p:=h
abbrev V.{u} (α:Type u):=Option α
abbrev Z.{u} (α:Type u):=List α
abbrev zI:=World
abbrev Jz:=Value
abbrev qm:=Operand
abbrev qK:=Program
abbrev JA:=TypeId
abbrev xW:=Unit
abbrev tl:=Bool
abbrev JC:=FuncId
abbrev NT:=UInt8
abbrev F4:=Code
abbrev JB:=Oper
abbrev Pv:=IntKind
abbrev Mc:=Addr
abbrev VQ:=BinOp
abbrev Pz:=Func
def qO:=@Array.all_eq_true'
def W7:=@Array.append_empty
def Tp:=@Array.empty_append
def Tq:=@Array.eq_empty_of_size_eq_zero
def yT:=@Array.ext
def W8:=@Array.foldl_toList
def jl:=@Array.getD_eq_getD_getElem?
def Tr:=@Array.getElem?_append_left
def qP:=@Array.getElem?_eq_getElem
def G8:=@Array.getElem?_eq_none
def h4:=@Array.getElem?_eq_some_iff
def G9:=@Array.getElem?_modify
def Ha:=@Array.getElem?_push
def Pu:=@Array.getElem?_push_lt
def Dy:=@Array.getElem?_setIfInBounds_ne
def jO:=@Array.getElem?_toList
def nP:=@Array.length_toList
def jP:=@Array.mem_of_getElem?
def Pw:=@Array.toList_append
def aI:=@Bool.and_eq_true
def Hb:=@Bool.eq_iff_iff
def iA:=@Bool.false_eq_true
def Hc:=@Bool.false_or
def qn:=@Bool.not_eq_false'
def LY:=@Bool.not_eq_true
def il:=@Bool.not_eq_true'
def M3:=@Bool.not_false
def kb:=@Bool.not_true
def x4:=@Bool.or_eq_false_iff
def kS:=@Bool.or_eq_true
def Hd:=@Bool.or_false
def oO:=@Bool.true_and
def Px:=@Go.ByteArray.toList_eq
def LZ:=@Classical.byContradiction
def He:=@Classical.choose_spec
def lG:=@Int.eq_ofNat_of_zero_le
def lH:=@Int.le_refl
def M4:=@Int.natCast_nonneg
def x6:=@Int.not_le
def iB:=@Int.not_lt
def dV:=@Int.toNat_natCast
def qQ:=@List.all_cons
def cS:=@List.all_eq_true
def uD:=@List.any_eq_false
def uE:=@List.append_assoc
def zK:=@List.append_nil
def Dz:=@List.cons.injEq
def qR:=@List.cons_append
def Hf:=@List.count_append
def V3:=@List.dropLast_concat_getLast
def Hg:=@List.drop_drop
def x7:=@List.drop_eq_getElem_cons
def Py:=@List.drop_of_length_le
def uF:=@List.drop_zero
def nQ:=@List.eq_nil_of_length_eq_zero
def VO:=@List.eq_of_mem_replicate
def sC:=@List.ext_getElem?
def L6:=@List.filterMap_append
def DA:=@List.filterMap_cons
def zL:=@List.filter_cons
def L7:=@List.find?_cons
def qS:=@List.flatMap_append
def sD:=@List.flatMap_cons
def DB:=@List.flatMap_nil
def L8:=@List.foldl_append
def sE:=@List.foldl_cons
def qo:=@List.getD_eq_getElem?_getD
def fx:=@List.getElem?_append_left
def im:=@List.getElem?_append_right
def L9:=@List.getElem?_cons_succ
def gT:=@List.getElem?_cons_zero
def kT:=@List.getElem?_drop
def bS:=@List.getElem?_eq_getElem
def uG:=@List.getElem?_eq_none
def aY:=@List.getElem?_eq_some_iff
def dC:=@List.getElem?_map
def zM:=@List.getElem?_mapIdx
def x8:=@List.getElem?_range
def zN:=@List.getElem?_replicate
def qp:=@List.getElem?_set
def zO:=@List.getElem?_set_ne
def Hh:=@List.getElem?_set_self
def gf:=@List.getElem?_take
def zP:=@List.getElem?_toArray
def gw:=@List.getElem_mem
def gX:=@List.getElem_of_mem
def PA:=@List.getLast?_eq_getElem?
def Ma:=@List.isEmpty_iff
def ey:=@List.length_append
def ec:=@List.length_cons
def zQ:=@List.length_drop
def PB:=@List.length_dropLast
def Hi:=@List.length_filter_le
def dd:=@List.length_map
def kU:=@List.length_nil
def Mb:=@List.length_pos_iff
def Uh:=@List.length_set
def x9:=@List.length_singleton
def jE:=@List.length_take
def kZ:=@List.map_append
def qT:=@List.map_congr_left
def dy:=@List.map_cons
def wF:=@List.map_drop
def zS:=@List.map_id
def s5:=@List.map_map
def qU:=@List.map_nil
def mZ:=@List.map_take
def dR:=@List.mem_append
def cT:=@List.mem_cons
def s6:=@List.mem_cons_of_mem
def EV:=@List.mem_cons_self
def JN:=@List.mem_filterMap
def EW:=@List.mem_flatMap
def kc:=@List.mem_iff_getElem?
def dP:=@List.mem_map
def EX:=@List.mem_map_of_mem
def bF:=@List.mem_of_getElem?
def zT:=@List.mem_of_mem_drop
def s7:=@List.mem_of_mem_take
def px:=@List.mem_range
def iC:=@List.mem_singleton
def wG:=@List.mem_toArray
def oy:=@List.nil_append
def EY:=@List.nodup_append
def lV:=@List.nodup_cons
def EZ:=@List.nodup_iff_pairwise_ne
def s8:=@List.not_mem_nil
def JO:=@List.pairwise_iff_getElem
def JP:=@List.range_eq_range'
def s9:=@List.set_cons_zero
def zU:=@List.set_set
def oz:=@List.size_toArray
def zV:=@List.take_append_drop
def ah:=@List.take_append_getElem
def JQ:=@List.take_append_of_le_length
def lW:=@List.take_length
def dh:=@List.take_of_length_le
def PC:=@List.take_succ_eq_append_getElem
def qV:=@List.take_zero
def JR:=@List.zip_cons_cons
def jd:=@Nat.add_assoc
def jF:=@Nat.add_comm
def eO:=@Nat.add_mul
def lX:=@Nat.add_zero
def py:=@Nat.beq_refl
def qW:=@Nat.ble_eq
def td:=@Nat.ble_eq_true_of_le
def fQ:=@Nat.blt_eq
def bV:=@Nat.eq_of_beq_eq_true
def k6:=@Nat.eq_of_mul_eq_mul_right
def zW:=@Nat.exists_eq_add_of_le
def je:=@Nat.le_of_lt
def a6:=@Nat.le_refl
def cO:=@Nat.le_succ
def fk:=@Nat.le_trans
def jf:=@Nat.lt_of_lt_of_le
def tf:=@Nat.lt_or_ge
def V0:=@Nat.lt_succ_of_lt
def gl:=@Nat.lt_succ_self
def qX:=@Nat.lt_trichotomy
def zX:=@Nat.min_eq_left
def tg:=@Nat.mul_comm
def fR:=@Nat.mul_le_mul_right
def zY:=@Nat.mul_one
def jG:=@Nat.one_mul
def wH:=@Nat.sub_self
def oA:=@Nat.sub_zero
def JS:=@Nat.testBit_two_pow
def cX:=@Nat.zero_add
def dS:=@Nat.zero_le
def lY:=@Nat.zero_mul
def dz:=@Ne.symm
def E6:=@Go.Oper.apart_spec
def zZ:=@Go.Oper.upon_enter
def lZ:=@Go.Oper.wp_mono
def hG:=@Option.bind_eq_some_iff
def aM:=@Option.bind_some
def Aa:=@Option.getD_none
def eP:=@Option.getD_some
def l6:=@Option.isNone_none
def l7:=@Option.isNone_some
def Ab:=@Option.isSome_iff_exists
def ck:=@Option.map_eq_some_iff
def iE:=@Option.map_none
def cj:=@Option.map_some
def cr:=@Option.some.inj
def ax:=@Option.some.injEq
def th:=@Prod.mk.inj
def bc:=@Prod.mk.injEq
def cz:=@Go.Result.andThen_ok
def b9:=@Go.Sem.run_bind
def cF:=@Go.Sem.run_pure
def ic:=@beq_eq_false_iff_ne
def gH:=@beq_iff_eq
def tj:=@beq_self_eq_true
def bq:=@cond_false
def bf:=@cond_true
def bH:=@congrArg
def kd:=@decide_eq_false
def cY:=@decide_eq_false_iff_not
def jg:=@decide_eq_true
def aU:=@decide_eq_true_eq
def iF:=@dif_pos
def cG:=@if_false
def ai:=@if_neg
def aj:=@if_pos
def ca:=@if_true
def qY:=@of_decide_eq_false
def di:=@of_decide_eq_true
def ef:=@Go.run_underlying
def oB:=@Go.setRow_heap
def na:=@Go.setRow_other
def ke:=@true_and
def pz:=@Go.wp_region
end Go
namespace Go.Ev
open Go
variable{t e u t' ft:JA}{v z v2:Jz}{d k gg len sz cap l i off m f n j d' dflt:Nat}{P:qK}{y:qm}{cur:Array Jz}{w' w0 w1 w2:zI}{op:VQ}{p:Mc}{vs news:Z Jz}{lo hi mx:V qm}{du:TypeDesc}{α:Type}{be bo:Nat->V Nat}{A:V Mc}{args:Array qm}{argTypes:Array JA}{b:tl}{a:Act}{g:Nat->Nat}{fs:Array Field}{fd:Field}{k':Pv}{base:Nat->Prop}{ds:Z Deferred}{fr:Nat×Nat}{next:Act->zI->Prop}{Q:Exit->Act->zI->Prop}{parts:Array (Nat×qm)}{u':Nat->tl}
inductive AV where
 |fl (v:Value)
 |sl (xs:List AV)
 |ref (cs:List AV)
 |fn (f:FuncId) (caps:List AV)
 |agg (cs:List AV)
 |mQ (t:TypeId) (v:AV)
 |ptr (i off:Nat)
 |view (i sz len:Nat)
 |mp (i:Nat)
 |gx
 |lT (f:FuncId) (first:List AV)
 deriving Inhabited
variable{xs ys caps:Z AV}{K:AV->Prop}{c:AV}
def AV.cells:AV->Z AV
 |.agg cs=>cs|v=>[v]
def AV.isAgg:AV->tl
 |.agg _=>W|_=>F
def AV.wf (x:AV):Prop:=∀c∈x.cells,c.isAgg=F
def Tk(v:Jz):Prop:=v.oneCell'=W
structure aD where
 mem:Addr->Prop
 ar:Nat->Option Nat
variable{I' I0:aD}
instance:CoeFun aD λ_=>Addr->Prop:=⟨aD.mem⟩
def gh(w w':zI)(B:Nat):Prop:=∀cur t fr,w.heap[B]?=O (.cells cur t fr)->∃a,w'.heap[B]?=O (.cells a t fr)/\a.size=cur.size
theorem gh.refl (w:zI) (B:Nat):gh w w B:=λcur _ _ h=>⟨cur,h,rfl⟩
theorem gh.trans {w:zI} {B:Nat} (h:gh w w1 B) (h':gh w1 w2 B):gh w w2 B:=λcur t fr a=>by obtain⟨b,h1,c⟩:=h cur t fr a;obtain⟨d,e,f⟩:=h' b t fr h1;exact⟨d,e,f.trans c⟩
structure dD(w w':World)(I I':aD):Prop where
 mem:∀p,I p->I' p
 ar:∀i B,I.ar i=O B->I'.ar i=O B
 cell:∀p v,I p->w.cell? p=O v->w'.cell? p=O v
 iq:∀B,gh w w' B
theorem dD.refl (w:zI) (I:aD):dD w w I I:=⟨λ_ h=>h,λ_ _ h=>h,λ_ _ _ h=>h,gh.refl w⟩
theorem dD.sub {w:zI} {I:aD} (h:∀p,I p->I' p) (a:∀i B,I.ar i=O B->I'.ar i=O B):dD w w I I':=⟨h,a,λ_ _ _ h=>h,gh.refl w⟩
theorem dD.world {w:zI} {I:aD} (a:∀p v,I p->w.cell? p=O v->w'.cell? p=O v) (b:∀B,gh w w' B):dD w w' I I:=⟨λ_ h=>h,λ_ _ h=>h,a,b⟩
theorem dD.trans {w:zI} {I b c:aD} (h:dD w w1 I b) (h':dD w1 w2 b c):dD w w2 I c:=⟨λp a=>h'.mem p (h.mem p a),λi B hi=>h'.ar i B (h.ar i B hi),λp v a hv=>h'.cell p v (h.mem p a) (h.cell p v a hv),λB=>(h.iq B).trans (h'.iq B)⟩
def aD.plus (I:aD) (f:Mc->Prop):aD:=⟨λp=>I p∨f p,I.ar⟩
theorem dD.plus (w:zI) (I:aD) (f:Mc->Prop):dD w w I (I.plus f):=.sub (λ_ h=>.inl h) (λ_ _ h=>h)
inductive cq(w:World)(I:aD):Value->AV->Prop
 |fl (v:Value) (h:Tk v):cq w I v (.fl v)
 |eU (c:Nat):cq w I (.slice Y 0 c) (.sl [])
 |sl (a:Addr) (n cap sz:Nat) (xs:List AV) (cv:Nat->Nat->Value) (hn:n=xs.length) (ahb:xs.length<=cap) (acz:cap<=maxLen)
   (hsz:∀(i:Nat)(x:AV),xs[i]?=O x->x.cells.length=sz/\x.wf)
   (hc:∀(i j:Nat)(x c:AV),xs[i]?=O x->x.cells[j]?=O c->w.cell? (a.add (i*sz+j))=O (cv i j))
   (hI:∀(i j:Nat)(x c:AV),xs[i]?=O x->x.cells[j]?=O c->I (a.add (i*sz+j)))
   (hr:∀(i j:Nat)(x c:AV),xs[i]?=O x->x.cells[j]?=O c->cq w I (cv i j) c):cq w I (.slice (O a) n cap) (.sl xs)
 |ref (p:Addr) (cs:List AV) (cv:Nat->Value)
   (hc:∀(j:Nat)(c:AV),cs[j]?=O c->w.cell? (p.add j)=O (cv j))
   (hI:∀(j:Nat)(c:AV),cs[j]?=O c->I (p.add j))
   (hr:∀(j:Nat)(c:AV),cs[j]?=O c->cq w I (cv j) c):cq w I (.pointer (O p)) (.ref cs)
 |fn (f:FuncId) (vs:Array Value) (caps:List AV) (hl:vs.size=caps.length)
   (hr:∀(j:Nat)(c:AV),caps[j]?=O c->cq w I (vs.getD j undef) c):cq w I (.func (.func f) #[] vs) (.fn f caps)
 |agg (vs:Array Value) (cs:List AV) (hl:vs.size=cs.length)
   (hr:∀(j:Nat)(c:AV),cs[j]?=O c->cq w I (vs.getD j undef) c):cq w I (.agg vs) (.agg cs)
 |mQ (t:TypeId) (v:Value) (x:AV) (hr:cq w I v x):cq w I (.iface t v) (.mQ t x)
 |ptr (i off B:Nat) (h:I.ar i=O B):cq w I (.pointer (O ⟨B,off,Y⟩)) (.ptr i off)
 |view (i sz len B cap:Nat) (e:TypeId) (cur:Array Value) (A:Option Addr) (h:I.ar i=O B) (hw:w.heap[B]?=O (.cells cur e (0,0))) (hs:cur.size=cap*sz) (hl:len<=cap) (hA:0<cap->A=O ⟨B,0,Y⟩):cq w I (.slice A len cap) (.view i sz len)
 |kV (i sz:Nat) (A:Option Addr) (cap:Nat) (acz:cap<=maxLen) (hi:i%1000<2):cq w I (.slice A 0 cap) (.view i sz 0)
 |mp (i B:Nat) (h:I.ar i=O B):cq w I (.map (O B)) (.mp i)
 |gx (A:Option Addr):cq w I (.slice A 0 0) .gx
 |lT (f:FuncId) (vs:Array Value) (first:List AV) (hl:vs.size=first.length)
   (hr:∀(j:Nat)(c:AV),first[j]?=O c->cq w I (vs.getD j undef) c):cq w I (.func (.func f) vs #[]) (.lT f first)
theorem cq.mono {w:zI} {I:aD} (G:dD w w' I I') {a:AV} (h:cq w I v a):cq w' I' v a:=by
 induction h with
 |fl v h=>exact .fl v h|eU c=>exact .eU c
 |sl a n cap sz xs m q r s u o k l b=>exact .sl a n cap sz xs m q r s u (λi j x c h1 g=>G.cell _ _ (k i j x c h1 g) (o i j x c h1 g)) (λi j x c h1 g=>G.mem _ (k i j x c h1 g)) b|ref p cs m o k l b=>exact .ref p cs m (λj c h=>G.cell _ _ (k j c h) (o j c h)) (λj c h=>G.mem _ (k j c h)) b
 |fn f vs caps d l b=>exact .fn f vs caps d b|agg vs cs d l b=>exact .agg vs cs d b
 |mQ t v x l b=>exact .mQ t v x b|ptr i off B h=>exact .ptr i off B (G.ar i B h)
 |view i sz len B cap e cur A h y z d C=>obtain⟨D,h1,g⟩:=G.iq B cur e (0,0) y;exact .view i sz len B cap e D A (G.ar i B h) h1 (g.trans z) d C|kV i sz A cap h hi=>exact .kV i sz A cap h hi|mp i B h=>exact .mp i B (G.ar i B h)
 |gx A=>exact .gx A|lT f vs first d l b=>exact .lT f vs first d b
inductive Ob where
 |cells (cs:List AV)
 |bi (e:TypeId) (xs:List AV)
 |map (es:List (AV×AV)) (c:Option (List Nat×Nat):=Y)
 deriving Inhabited
variable{a':Nat->V Ob}
inductive cy where
 |none
 |val (v:AV)
 |bM (xs:List AV)
 |dT (d g sz i k:Nat)
 |view (d g off len:Nat)
 |fK (rs:List cy)
 deriving Inhabited
variable{r:cy}
inductive Bx where
 |cells (cs:List cy)
 |bi (e:TypeId) (xs:List AV)
 deriving Inhabited
structure St where
 r:Nat->cy
 b:Nat->Option Bx
 g:Nat->Nat
 a:Nat->Option Ob:=λ_=>Y
 u:Nat->Bool:=λ_=>F
 df:List AV:=[]
variable{X:AV->St->Prop}
def aa{α:Type}(f:Nat->α)(d:Nat)(v:α):Nat->α:=λt=>if t=d then v else f t
@[simp] theorem bK(f:Nat->α)(d:Nat)(v:α):aa f d v d=v:=by simp[aa]
theorem aJ(f:Nat->α){t:Nat}(v:α)(h:t≠d):aa f d v t=f t:=by simp[aa,h]
def St.put (s:St) (dst:V Nat) (v:cy):St:=
 match dst with
 |some d=>{s with r:=aa s.r d v}|none=>s
@[simp] theorem St.qZ (s:St) (d:Nat) (v:cy):s.put (O d) v={s with r:=aa s.r d v}:=rfl
def dM:Jz->AV
 |.slice Y 0 0=>.sl []|v=>.fl v
def ct:Jz->cy
 |.slice Y 0 0=>.bM []|.agg cs=>.val (.agg (cs.toList.map dM))
 |v=>.val (.fl v)
def St.ev (s:St):qm->cy
 |.tmp t=>s.r t|.const v=>ct v
 |.global g=>.val (.fl (.pointer (O ⟨g,0,Y⟩)))|.func f=>.val (.fn f [])
structure cm where
 h5:World->Prop
 cB:World->Nat->Prop
 jm:∀w w',h5 w->(∀b,cB w b->w'.heap[b]?=w.heap[b]?)->h5 w'/\∀b,cB w' b->cB w b
 lt:∀w b,h5 w->cB w b->b<w.heap.size
 tm:Nat->Option (Option Nat):=λ_=>Y
 dc:Bool:=W
 ro:Nat->Option (Ob×Nat):=λ_=>Y
 it:Nat:=0
 df:List AV:=[]
variable{E:cm}
def cm.plain (E:cm):cm:={h5:=E.h5,cB:=E.cB,jm:=E.jm,lt:=E.lt,it:=E.it}
def cm.JT (E:cm) (B:Nat):Prop:=∃d,E.tm d=O (O B)
theorem cm.eG (E:cm) (B:Nat):¬E.plain.JT B:=λ⟨_,h⟩=>by cases h
def cm.fresh (E:cm) (w0:zI) (B:Nat):Prop:=w0.heap.size<=B∨E.JT B
structure eL(E:cm)(w0:World)(I0:aD)(w:World)(I:aD):Prop where
 os:w.os=w0.os
 tape:w.tape=w0.tape
 output:w.output=w0.output
 size:w0.heap.size<=w.heap.size
 block:∀k,k<w0.heap.size->¬E.cB w0 k->¬E.JT k->w.heap[k]?=w0.heap[k]?
 cB:∀b,E.cB w b->E.cB w0 b∨w0.heap.size<=b
 h5:E.h5 w
 qG:∀p,I0 p->I p
 ar:∀i B,I0.ar i=O B->I.ar i=O B
 NU:E.dc=W->I.ar=I0.ar
 iq:∀B,gh w0 w B
 new:∀p,I p->I0 p∨E.fresh w0 p.block
 lt:∀p,I p->p.block<w.heap.size
 off:∀p,I p->¬E.cB w p.block
section
variable(P:qK)(w:zI)(I:aD)(be:Nat->V Nat)(b:Nat->V Bx)(g:Nat->Nat)
def eg(d off len:Nat)(v:Jz):Prop:=
 match b d with
 |some (.bi e xs)=>
  off+len<=xs.length/\
  match be d with
  |none=>∃A,v=.slice A len 0|some B=>∃cur cap A,w.heap[B]?=O (.cells cur e (0,0))/\cur.size=cap*P.cellsOf e/\v=.slice A len (cap-off)/\(off<cap->A=O ⟨B,off*P.cellsOf e,Y⟩)
 |_=>True
def b4(v:Jz):cy->Prop
 |.none=>True|.val a=>cq w I v a
 |.bM xs=>cq w I v (.sl xs)/\∃A,v=.slice A xs.length xs.length|.dT d gg sz i k=>gg<=g d/\(gg=g d->b d≠Y->∃B,be d=O B/\v=.pointer (O ⟨B,i*sz+k,Y⟩))
 |.view d gg off len=>gg<=g d/\(gg=g d->eg P w be b d off len v)|.fK rs=>∃vs:Array Jz,v=.tuple vs/\vs.size=rs.length/\∀(j:Nat)(r:cy),rs[j]?=O r->
   match r with
   |.none=>True|.val a=>cq w I (vs.getD j undef) a
   |.view d gg off len=>gg<=g d/\(gg=g d->eg P w be b d off len (vs.getD j undef))|_=>False
def ie(d:Nat):Bx->Prop
 |.cells cs=>∃B cur t,be d=O B/\w.heap[B]?=O (.cells cur t (0,0))/\cur.size=cs.length/\∀(j:Nat)(c:cy),cs[j]?=O c->b4 P w I be b g (cur.getD j undef) c|.bi e xs=>0<P.cellsOf e/\xs.length<=maxLen/\(∀(i:Nat)(x:AV),xs[i]?=O x->x.cells.length=P.cellsOf e/\x.wf)/\
  match be d with
  |none=>xs=[]|some B=>∃cur cap,w.heap[B]?=O (.cells cur e (0,0))/\cur.size=cap*P.cellsOf e/\cap<=maxLen/\xs.length<=cap/\∀(i j:Nat)(x c:AV),xs[i]?=O x->x.cells[j]?=O c->cq w I (cur.getD (i*P.cellsOf e+j) undef) c
end
def oP(P:qK)(w:zI)(I:aD)(B:Nat):Ob->Prop
 |.cells cs=>∃cur t,w.heap[B]?=O (.cells cur t (0,0))/\cur.size=cs.length/\∀(j:Nat)(c:AV),cs[j]?=O c->cq w I (cur.getD j undef) c|.bi e xs=>0<P.cellsOf e/\xs.length<=maxLen/\(∀(i:Nat)(x:AV),xs[i]?=O x->x.cells.length=P.cellsOf e/\x.wf)/\∃cur cap,w.heap[B]?=O (.cells cur e (0,0))/\cur.size=cap*P.cellsOf e/\cap<=maxLen/\xs.length<=cap/\∀(i j:Nat)(x c:AV),xs[i]?=O x->x.cells[j]?=O c->cq w I (cur.getD (i*P.cellsOf e+j) undef) c
 |.map d c=>∃a b,w.heap[B]?=O (.map a b)/\a.size=d.length/\(∀p,c=O p->a.toList.map (·.born)=p.1/\b=p.2)/\
   (∀(j:Nat)(x:MapEntry),a[j]?=O x->x.born<b/\∀(f:Nat)(g:MapEntry),a[f]?=O g->g.born=x.born->f=j)/\
   ∀(j:Nat)(e:AV×AV),d[j]?=O e->∃x,a[j]?=O x/\cq w I x.key e.1/\cq w I x.val e.2
def Ob.bare:Ob->Ob
 |.map a _=>.map a|x=>x
theorem oP.bare {w:zI} {I:aD} {B:Nat} {x:Ob} (h:oP P w I B x):oP P w I B x.bare:=by
 cases x with
 |map f c=>obtain⟨a,clock,h1,b,_,d,e⟩:=h;exact⟨a,clock,h1,b,(λ_ h=>by cases h),d,e⟩
 |_=>exact h
def mj:V Ob->V Ob
 |some x=>O x.bare|none=>Y
theorem ya{x:V Ob}{cs:Z AV}(h:mj x=O (.cells cs)):x=O (.cells cs):=by
 cases x with
 |none=>cases h
 |some y=>cases y<;>simp[mj,Ob.bare]at h;rw[h]
theorem DC{x:V Ob}(h:mj x=O (.bi e xs)):x=O (.bi e xs):=by
 cases x with
 |none=>cases h
 |some y=>cases y<;>simp[mj,Ob.bare]at h;rw[h.1,h.2]
theorem NV{x:V Ob}{a:Z (AV×AV)}(h:mj x=O (.map a)):∃c,x=O (.map a c):=by
 cases x with
 |none=>cases h
 |some y=>
  cases y with
  |map b c=>simp only[mj,Ob.bare,ax,Ob.map.injEq]at h;exact ⟨c,by rw[h.1]⟩|_=>cases h
theorem JU{x:V Ob}{y:Ob}(h:mj x=O y):∃z,x=O z/\z.bare=y:=by
 cases x with
 |none=>cases h
 |some z=>exact ⟨z,rfl,by simpa[mj]using h⟩
theorem oP.cK {w:zI} {I:aD} {B:Nat} {x:Ob} (h:oP P w I B x) (G:dD w w' I I') (d:w'.heap[B]?=w.heap[B]?):oP P w' I' B x:=by
 cases x with
 |cells cs=>obtain⟨cur,t,h1,a,b⟩:=h;exact⟨cur,t,d.trans h1,a,λj c f=>(b j c f).mono G⟩|bi e xs=>obtain⟨h1,a,b,cur,cap,g,k,l,m,n⟩:=h;exact⟨h1,a,b,cur,cap,d.trans g,k,l,m,λi j x c o f=>(n i j x c o f).mono G⟩
 |map v c=>obtain⟨p,clock,h1,a,q,b,g⟩:=h;refine⟨p,clock,d.trans h1,a,q,b,λj e r=>?_⟩;obtain⟨x,q1,s,u⟩:=g j e r;exact⟨x,q1,s.mono G,u.mono G⟩
structure my(P:Program)(E:cm)(w0 w:World)(I:aD)(a:Nat->Option Ob)(u:Nat->Bool)(T:Nat->Prop):Prop where
 hC:∀i x,a i=O x->∃B,I.ar i=O B/\oP P w I B x
 inj:∀i j B,a i≠Y->a j≠Y->I.ar i=O B->I.ar j=O B->i=j
 bU:∀i B,a i≠Y->I.ar i=O B->E.fresh w0 B/\B<w.heap.size/\(∀p,I p->p.block≠B)/\¬E.cB w B/\¬T B
 un:∀i,u i=F->I.ar i=Y
 ro:∀i x,E.ro i=O x->a i=O x.1/\I.ar i=O x.2
theorem my.cK {w:zI} {I:aD} {a:Nat->V Ob} {u:Nat->tl} {T m:Nat->Prop} (h:my P E w0 w I a u T) (G:dD w w' I I') (d:I'.ar=I.ar)
  (n:∀i B,a i≠Y->I.ar i=O B->w'.heap[B]?=w.heap[B]?) (o:w.heap.size<=w'.heap.size) (r:∀p,I' p->I p∨∀i,a i≠Y->I.ar i≠O p.block)
  (s:∀b,b<w.heap.size->E.cB w' b->E.cB w b) (t:∀B,m B->T B∨∀i,a i≠Y->I.ar i≠O B):my P E w0 w' I' a u m:=by
 refine⟨λi x f=>?_,λi j B h1 c g k=>?_,λi B hi l=>?_,λi hi=>by rw[d];exact h.un i hi,λi x f=>⟨(h.ro i x f).1,by rw[d];exact (h.ro i x f).2⟩⟩
 .obtain ⟨B,h1,c⟩:=h.hC i x f;exact⟨B,by rw[d];exact h1,c.cK G (n i B (by simp[f]) h1)⟩
 .rw[d]at g k;exact h.inj i j B h1 c g k
 .rw[d]at l;obtain⟨h1,c,g,k,v⟩:=h.bU i B hi l;refine⟨h1,jf c o,λp y e=>?_,λz=>k (s B c z),λA=>?_⟩
  .rcases r p y with q|q
   .exact g p q e
   .exact q i hi (by rw[e];exact l)
  .rcases t B A with q|q
   .exact v q
   .exact q i hi l
def pA(w:zI)(I:aD)(ds:Z Deferred)(df:Z AV):Prop:=ds.length=df.length/\∀(j:Nat)(d:Deferred)(x:AV),ds[j]?=O d->df[j]?=O x->∃f vs caps,x=.fn f caps/\d.target=.fn (.func f) vs/\d.args=#[]/\cq w I (.func (.func f) #[] vs) x
theorem pA.mono {w:zI} {I:aD} (G:dD w w' I I') {df:Z AV} (h:pA w I ds df):pA w' I' ds df:=⟨h.1,λj d x a b=>by obtain ⟨f,vs,caps,q1,c,e,g⟩:=h.2 j d x a b;exact ⟨f,vs,caps,q1,c,e,g.mono G⟩⟩
theorem pA.nil {w:zI} {I:aD}:pA w I [] []:=⟨rfl,λj d x h=>by simp at h⟩
theorem pA.JV {w:zI} {I:aD} (h:pA w I ds []):ds=[]:=nQ h.1
structure aL(P:Program)(E:cm)(w0:World)(I0:aD)(n:Nat)(s:St)(a:Act)(w:World)(I:aD)(be:Nat->Option Nat):Prop where
 since:eL E w0 I0 w I
 size:a.tmps.size=n
 defers:pA w I a.defers s.df
 cu:∀t,t<n->b4 P w I be s.b s.g (a.tmps.getD t undef) (s.r t)
 bG:∀d x,s.b d=O x->ie P w I be s.b s.g d x
 inj:∀d d' B,s.b d≠Y->s.b d'≠Y->be d=O B->be d'=O B->d=d'
 bU:∀d B,s.b d≠Y->be d=O B->E.fresh w0 B/\B<w.heap.size/\(∀p,I p->p.block≠B)/\¬E.cB w B
 sF:∀(d:Nat)(bo:Option Nat),E.tm d=O bo->s.g d=0->s.b d≠Y->be d=bo
 bb:my P E w0 w I s.a s.u (λB=>∃d,s.b d≠Y/\be d=O B)
def gi(P:qK)(E:cm)(w0:zI)(I0:aD)(n:Nat)(s:St)(a:Act)(w:zI):Prop:=∃I be,aL P E w0 I0 n s a w I be
section
variable{P:qK}{E:cm}{w0:zI}{I0:aD}{n:Nat}{s:St}{a:Act}{w:zI}{I:aD}{be:Nat->V Nat}
theorem aL.put (h:aL P E w0 I0 n s a w I be) (dst:V Nat) (c:b4 P w I be s.b s.g v r):aL P E w0 I0 n (s.put dst r) (a.put dst v) w I be:=by
 cases dst with
 |none=>exact h|some d=>
  refine⟨h.since,by simpa[Act.put]using h.size,h.defers,λt b=>?_,h.bG,h.inj,h.bU,h.sF,h.bb⟩;simp only[Act.put,St.put,aa];by_cases e:t=d
  .subst e;have f:t<a.tmps.size:=by rw[h.size];exact b
   simpa[f]using c
  .have e':d≠t:=λx=>e x.symm;simpa[e,Dy e']using h.cu t b
theorem lv(h:Tk v):cq w I v (dM v):=by
 unfold dM;split
 .exact .eU 0
 .exact .fl v h
def uH:Jz->tl
 |.agg cs=>cs.all λv=>v.oneCell'|.tuple _=>F
 |_=>W
theorem uI(h:uH v=W):b4 P w I be s.b s.g v (ct v):=by
 unfold ct;split
 .exact ⟨.eU 0,Y,rfl⟩
 .rename_i cs;refine .agg cs _ aE λj c a=>?_;simp only[uH,qO]at h;simp only[dC,jO,ck]at a;obtain⟨v,hv,rfl⟩:=a;have b:v∈cs:=jP hv;have:=h v b;simp only[jl,hv,eP];exact lv this
 .rename_i e d;refine .fl v ?_;cases v<;>first|rfl|(simp[uH]at h;done)|(exact absurd rfl (d _))
def bW:qm->tl
 |.const v=>uH v|_=>W
theorem aL.ev (h:aL P E w0 I0 n s a w I be) (x:qm) (b:bW x=W) (d:∀t,x=.tmp t->t<n):b4 P w I be s.b s.g (a.eval x) (s.ev x):=by
 cases x with
 |tmp t=>exact h.cu t (d t rfl)|const v=>exact uI b
 |global g=>exact .fl _ rfl|func f=>exact .fn f #[] [] rfl (λj c e=>by simp at e)
end
section
variable{P:qK}{w w':zI}{I I':aD}{be CT:Nat->V Nat}{b b':Nat->V Bx}{g g':Nat->Nat}
def ff(P:qK)(w w':zI)(be CT:Nat->V Nat)(b b':Nat->V Bx)(d:Nat):Prop:=(b' d≠Y->b d≠Y/\CT d=be d)/\∀off len v,eg P w be b d off len v->eg P w' CT b' d off len v
theorem b4.cK (G:dD w w' I I') (l:∀d,g d<g' d∨(g' d=g d/\ff P w w' be CT b b' d))
  (h:b4 P w I be b g v r):b4 P w' I' CT b' g' v r:=by
 have hv:∀(d gg off len:Nat)(v:Jz),(gg<=g d/\(gg=g d->eg P w be b d off len v))->(gg<=g' d/\(gg=g' d->eg P w' CT b' d off len v)):=by
  rintro d gg off len v ⟨f,c⟩;rcases l d with m|⟨n,_,o⟩
  .exact ⟨M,λe=>M⟩
  .exact ⟨M,λe=>o _ _ _ (c M)⟩
 cases r with
 |none=>trivial|val a=>exact cq.mono G h
 |bM xs=>exact ⟨cq.mono G h.1,h.2⟩|dT d gg sz i k=>
  obtain⟨f,c⟩:=h;rcases l d with m|⟨n,p,_⟩
  .exact ⟨M,λe=>M⟩
  .refine ⟨M,λe q=>?_⟩;obtain⟨s,t⟩:=p q;rw[t];exact c M s
 |view d gg off len=>exact hv d gg off len v h|fK rs=>
  obtain⟨vs,f,c,u⟩:=h;refine⟨vs,f,c,λj r x=>?_⟩;have:=u j r x;cases r with
  |none=>trivial|val a=>exact cq.mono G this
  |view d gg off len=>exact hv d gg off len _ this|bM xs=>exact this
  |dT d gg sz i k=>exact this|fK rs=>exact this
theorem ie.cK (G:dD w w' I I') (p:∀d,g d<g' d∨(g' d=g d/\ff P w w' be CT b b' d))
  {x:Bx} (n:CT d=be d) (o:∀B,be d=O B->w'.heap[B]?=w.heap[B]?) (h:ie P w I be b g d x):ie P w' I' CT b' g' d x:=by
 cases x with
 |cells cs=>obtain⟨B,cur,t,h1,f,k,a⟩:=h;exact⟨B,cur,t,by rw[n];exact h1,(o B h1).trans f,k,λj c l=>b4.cK G p (a j c l)⟩|bi e xs=>
  obtain⟨h1,f,k,a⟩:=h;refine⟨h1,f,k,?_⟩;rw[n];cases m:be d with
  |none=>simpa[m]using a|some B=>simp only[m]at a;obtain⟨cur,cap,q,r,s,u,v⟩:=a;exact⟨cur,cap,(o B m).trans q,r,s,u,λi j x c y l=>cq.mono G (v i j x c y l)⟩
theorem ff.h6 (f:b' d=b d) (g:CT d=be d) (j:∀B,b d≠Y->be d=O B->w'.heap[B]?=w.heap[B]?):ff P w w' be CT b b' d:=by
 refine⟨λh=>⟨by rwa[<-f],g⟩,λoff len v h=>?_⟩;unfold eg at h⊢;rw[f,g];cases i:b d with
 |none=>simp|some x=>
  cases x with
  |cells cs=>simp|bi e xs=>
   simp only[i]at h⊢;refine⟨h.1,?_⟩;have a:=h.2;cases c:be d with
   |none=>simpa[c]using a|some B=>simp only[c]at a⊢;obtain⟨cur,cap,A,k,l⟩:=a;exact⟨cur,cap,A,(j B (by simp[i]) c).trans k,l⟩
theorem dw(h:w'.heap[p.block]?=w.heap[p.block]?):w'.cell? p=w.cell? p:=by simp[World.cell?,h]
end
section
variable{P:qK}{E:cm}{w0:zI}{I0:aD}{n:Nat}{s:St}{a:Act}{w w':zI}{I I':aD}{be CT:Nat->V Nat}
theorem eL.step (h:eL E w0 I0 w I) (r:w'.os=w.os) (s:w'.tape=w.tape) (t:w'.output=w.output) (j:w.heap.size<=w'.heap.size) (Mloc:Nat->Prop)
  (l:∀k,k<w.heap.size->¬Mloc k->w'.heap[k]?=w.heap[k]?) (m:∀k,Mloc k->E.fresh w0 k/\¬E.cB w k) (u:∀B,gh w w' B) (v:∀p,I p->I' p) (n:I'.ar=I.ar) (f:∀p,I' p->I p∨(E.fresh w0 p.block/\p.block<w'.heap.size/\¬E.cB w p.block)):eL E w0 I0 w' I':=by
 have c:=E.jm w w' h.h5 (λb d=>l b (E.lt w b h.h5 d) (λg=>(m b g).2 d));refine⟨r.trans h.os,s.trans h.tape,t.trans h.output,fk h.size j,λk o e q=>?_,λb d=>h.cB b (c.2 b d),c.1,λp a=>v p (h.qG p a),λi B hi=>by rw[n];exact h.ar i B hi,λx=>n.trans (h.NU x),λB=>(h.iq B).trans (u B),λp a=>?_,λp a=>?_,λp a e=>?_⟩
 .rw[l k (jf o h.size) (λg=>by
   rcases(m k g).1 with h1|h1
   .omega
   .exact q h1)]
  exact h.block k o e q
 .rcases f p a with h1|⟨h1,_⟩
  .exact h.new p h1
  .exact .inr h1
 .rcases f p a with h1|⟨_,h1,_⟩
  .exact jf (h.lt p h1) j
  .exact h1
 .rcases f p a with h1|⟨_,_,h1⟩
  .exact h.off p h1 (c.2 _ e)
  .exact h1 (c.2 _ e)
theorem Ac(h:∀k,k<w.heap.size->w'.heap[k]?=w.heap[k]?)(B:Nat):gh w w' B:=λcur t fr a=>by have b:B<w.heap.size:=(h4.1 a).1;exact⟨cur,(h B b).trans a,rfl⟩
theorem rW{b:Nat}{d:Array Jz}(h:∀k,k≠b->k<w.heap.size->w'.heap[k]?=w.heap[k]?)(h0:w.heap[b]?=O (.cells cur t fr))(h1:w'.heap[b]?=O (.cells d t fr))(f:d.size=cur.size)(B:Nat):gh w w' B:=λc t' g a=>by
 by_cases e:B=b
 .subst e;rw[h0]at a;simp only[ax,Obj.cells.injEq]at a;obtain⟨rfl,rfl,rfl⟩:=a;exact⟨d,h1,f⟩
 .exact ⟨c,(h B e (h4.1 a).1).trans a,rfl⟩
theorem aL.Ad (h:aL P E w0 I0 n s a w I be) (c:∀k,k<w.heap.size->(∀d,s.b d≠Y->be d≠O k)->w'.heap[k]?=w.heap[k]?):∀p v,I p->w.cell? p=O v->w'.cell? p=O v:=by intro p v b hv;rw[dw (c p.block (h.since.lt p b) (λd e f=>(h.bU d p.block e f).2.2.1 p b rfl))];exact hv
theorem eL.nR (h:eL E w0 I0 w I) (a:∀b,E.cB w b->w'.heap[b]?=w.heap[b]?) (b:Nat):E.cB w' b->E.cB w b:=(E.jm w w' h.h5 a).2 b
theorem aL.fS (h:aL P E w0 I0 n s a w I be) {T:Nat->Prop} (G:dD w w' I I') (g:I'.ar=I.ar) (Mloc:Nat->Prop) (j:∀i B,s.a i≠Y->I.ar i=O B->¬Mloc B)
  (e:∀k,k<w.heap.size->¬Mloc k->w'.heap[k]?=w.heap[k]?) (l:w.heap.size<=w'.heap.size) (m:∀k,Mloc k->¬E.cB w k)
  (o:∀p,I' p->I p∨∀i,s.a i≠Y->I.ar i≠O p.block) (q:∀B,T B->(∃d,s.b d≠Y/\be d=O B)∨∀i,s.a i≠Y->I.ar i≠O B):my P E w0 w' I' s.a s.u T:=by
 refine h.bb.cK G g (λi B hi f=>?_) l o (λb c r=>?_) q
 .exact e B (h.bb.bU i B hi f).2.1 (j i B hi f)
 .exact h.since.nR (λb c=>e b (E.lt w b h.since.h5 c) (λt=>m b t c)) b r
theorem aL.grow (h:aL P E w0 I0 n s a w I be) (m:w'.os=w.os) (o:w'.tape=w.tape) (p:w'.output=w.output) (j:w.heap.size<=w'.heap.size)
  (c:∀k,k<w.heap.size->w'.heap[k]?=w.heap[k]?):aL P E w0 I0 n s a w' I be:=by
 have q:=h.since.step (I':=I) m o p j (λ_=>False) (λk e _=>c k e) (λk e=>e.elim) (Ac c) (λ_ h=>h) rfl (λ_ h=>.inl h);have i:dD w w' I I:=.world (h.Ad (w':=w') (λk e _=>c k e)) (Ac c);have f:∀d B,s.b d≠Y->be d=O B->w'.heap[B]?=w.heap[B]?:=λd B g f=>c B (h.bU d B g f).2.1;have g:∀d,s.g d<s.g d∨(s.g d=s.g d/\ff P w w' be be s.b s.b d):=λd=>.inr ⟨rfl,.h6 rfl rfl (λB r=>f d B r)⟩;refine⟨q,h.size,h.defers.mono i,λt u=>(h.cu t u).cK i g,λd x l=>(h.bG d x l).cK i g rfl (λB=>f d B (by simp[l])),h.inj,λd B g f=>?_,h.sF,h.fS i rfl (λ_=>False) (λ_ _ _ _ h=>h) (λk e _=>c k e) j (λ_ h=>h.elim) (λ_ h=>.inl h) (λ_ h=>.inl h)⟩;obtain⟨v,D,y,z⟩:=h.bU d B g f;refine⟨v,M,y,λA=>z ?_⟩;exact(E.jm w w' h.since.h5 (λb C=>c b (E.lt w b h.since.h5 C))).2 B A
theorem aL.nb (h:aL P E w0 I0 n s a w I be) (d:Nat) (x:Bx) (bo:V Nat)
  (A:ie P w I (aa be d bo) (aa s.b d (O x)) (aa s.g d (s.g d+1)) d x)
  (v:∀B,bo=O B->E.fresh w0 B/\B<w.heap.size/\(∀p,I p->p.block≠B)/\¬E.cB w B/\∀d',d'≠d->s.b d'≠Y->be d'≠O B)
  (C:∀B,bo=O B->∀i,s.a i≠Y->I.ar i≠O B):
  aL P E w0 I0 n {s with b:=aa s.b d (O x),g:=aa s.g d (s.g d+1)} a w I (aa be d bo):=by
 have z:∀d',s.g d'<aa s.g d (s.g d+1) d'∨(aa s.g d (s.g d+1) d'=s.g d'/\ff P w w be (aa be d bo) s.b (aa s.b d (O x)) d'):=by
  intro d';by_cases e:d'=d
  .subst e;left;simp
  .right;exact⟨aJ _ _ e,.h6 (aJ _ _ e) (aJ _ _ e) (λ_ _ _=>rfl)⟩
 refine⟨h.since,h.size,h.defers,λt D=>(h.cu t D).cK (.refl _ _) z,λd' G r=>?_,λy u B k f c l=>?_,λd' B o j=>?_,λd' B k f c=>by
  by_cases e:d'=d
  .subst e;simp at f
  .simp only[aJ _ _ e]at f c⊢;exact h.sF d' B k f c,?_⟩
 .by_cases e:d'=d
  .subst e;simp only[bK,ax]at r;subst r;exact A
  .simp only[aJ _ _ e]at r;exact(h.bG d' G r).cK (.refl _ _) z (aJ _ _ e) (λ_ _=>rfl)
 .by_cases q:y=d
  .by_cases m:u=d
   .rw[q,m]
   .subst q;simp only[bK]at c;simp only[aJ _ _ m]at f l;exact absurd l ((v B c).2.2.2.2 u m f)
  .by_cases m:u=d
   .subst m;simp only[bK]at l;simp only[aJ _ _ q]at k c;exact absurd c ((v B l).2.2.2.2 y q k)
   .simp only[aJ _ _ q]at k c;simp only[aJ _ _ m]at f l;exact h.inj y u B k f c l
 .by_cases e:d'=d
  .subst e;simp only[bK]at j;obtain⟨k,f,c,l,_⟩:=v B j;exact⟨k,f,c,l⟩
  .simp only[aJ _ _ e]at o j;exact h.bU d' B o j
 .refine h.fS (.refl _ _) rfl (λ_=>False) (λ_ _ _ _ h=>h) (λ_ _ _=>rfl) (a6 _) (λ_ h=>h.elim) (λ_ h=>.inl h) ?_;rintro B ⟨d',o,j⟩;by_cases e:d'=d
  .subst e;simp only[bK]at j;exact .inr λi hi=>C B j i hi
  .simp only[aJ _ _ e]at o j;exact .inl ⟨d',o,j⟩
theorem aL.drop (h:aL P E w0 I0 n s a w I be) (d:Nat):aL P E w0 I0 n {s with b:=aa s.b d Y} a w I be:=by
 have l:∀d',s.g d'<s.g d'∨(s.g d'=s.g d'/\ff P w w be be s.b (aa s.b d Y) d'):=by
  intro d';refine .inr ⟨rfl,?_⟩;by_cases e:d'=d
  .subst e;exact⟨λh=>by simp at h,λoff len v _=>by simp[eg]⟩
  .exact .h6 (aJ _ _ e) rfl (λ_ _ _=>rfl)
 refine⟨h.since,h.size,h.defers,λt p=>(h.cu t p).cK (.refl _ _) l,λd' q j=>?_,λm o B f g i r=>?_,λd' B c k=>?_,λd' B f g i=>by
  by_cases e:d'=d
  .subst e;simp at i
  .simp only[aJ _ _ e]at i;exact h.sF d' B f g i,?_⟩
 .by_cases e:d'=d
  .subst e;simp at j
  .simp only[aJ _ _ e]at j;exact(h.bG d' q j).cK (.refl _ _) l rfl (λ_ _=>rfl)
 .have u:m≠d:=λe=>by subst e;simp at f
  have x:o≠d:=λe=>by subst e;simp at g
  simp only[aJ _ _ u]at f;simp only[aJ _ _ x]at g;exact h.inj m o B f g i r
 .have e:d'≠d:=λe=>by subst e;simp at c
  simp only[aJ _ _ e]at c;exact h.bU d' B c k
 .refine h.fS (.refl _ _) rfl (λ_=>False) (λ_ _ _ _ h=>h) (λ_ _ _=>rfl) (a6 _) (λ_ h=>h.elim) (λ_ h=>.inl h) ?_;rintro B ⟨d',c,k⟩;have e:d'≠d:=λe=>by subst e;simp at c
  simp only[aJ _ _ e]at c;exact .inl ⟨d',c,k⟩
theorem aL.uJ (h:aL P E w0 I0 n s a w I be) (d:Nat) (x g:Bx) (B:Nat) (q:s.b d=O x) (i:be d=O B) (cur b:Array Jz) (t:JA)
  (j:w.heap[B]?=O (.cells cur t (0,0))) (y:b.size=cur.size) (c:(∃cs r,x=.cells cs/\g=.cells r)∨(∃e xs l,x=.bi e xs/\g=.bi e l/\l.length=xs.length)):
  dD w (w.setRow B b) I I/\∀d',s.g d'<s.g d'∨(s.g d'=s.g d'/\ff P w (w.setRow B b) be be s.b (aa s.b d (O g)) d'):=by
 have m:s.b d≠Y:=by simp[q]
 obtain⟨N,Q,z,R⟩:=h.bU d B m i;have o:∀k,k≠B->(w.setRow B b).heap[k]?=w.heap[k]?:=λk c=>na w B k b c;have u:=oB w B cur b t (0,0) j;refine⟨.world (λp v C hv=>by rw[dw (o p.block (z p C))];exact hv) (rW (λk c _=>o k c) j u y),λd'=>.inr ⟨rfl,?_⟩⟩;by_cases e:d'=d
 .subst e;refine⟨λ_=>⟨m,rfl⟩,λoff len v hv=>?_⟩;unfold eg at hv⊢;simp only[bK,q,i]at hv⊢;rcases c with⟨cs,r,rfl,rfl⟩|⟨e,xs,l,rfl,rfl,S⟩
  .trivial
  .simp only at hv⊢;obtain⟨T,U,cap,A,f,X,D⟩:=hv;rw[j]at f;injection f with f;injection f with G H;subst G H;exact⟨M,b,cap,A,u,M,D⟩
 .exact .h6 (aJ _ _ e) rfl (λB' J K=>o B' (λL=>e (h.inj d' d B J m (by rw[K,L]) i)))
theorem aL.gm (h:aL P E w0 I0 n s a w I be) (d:Nat) (x f:Bx) (B:Nat) (v:s.b d=O x) (r:be d=O B) (cur g:Array Jz) (t:JA)
  (K:w.heap[B]?=O (.cells cur t (0,0))) (L:g.size=cur.size) (c:(∃cs N,x=.cells cs/\f=.cells N)∨(∃e xs D,x=.bi e xs/\f=.bi e D/\D.length=xs.length))
  (Q:ie P (w.setRow B g) I be (aa s.b d (O f)) s.g d f):
  aL P E w0 I0 n {s with b:=aa s.b d (O f)} a (w.setRow B g) I be:=by
 have j:s.b d≠Y:=by simp[v]
 obtain⟨R,h0,i0,z⟩:=h.bU d B j r;have u:∀k,k≠B->(w.setRow B g).heap[k]?=w.heap[k]?:=λk c=>na w B k g c;obtain⟨m,G⟩:=h.uJ d x f B v r cur g t K L c;have S:=h.since.step (w':=w.setRow B g) (I':=I) rfl rfl rfl aE (λk=>k=B) (λk _ c=>u k c) (λk c=>by subst c;exact ⟨R,z⟩) m.iq (λ_ h=>h) rfl (λ_ h=>.inl h);have T:∀b,E.cB (w.setRow B g) b->E.cB w b:=(E.jm w _ h.since.h5 (λb U=>u b (λe=>z (e▸U)))).2;have l:∀d',aa s.b d (O f) d'≠Y->s.b d'≠Y:=λd' A=>by
  by_cases e:d'=d
  .subst e;exact j
  .simpa only[aJ _ _ e]using A
 refine⟨S,h.size,h.defers.mono m,λt X=>(h.cu t X).cK m G,λd' y o=>?_,λH J B' h1 p C a0=>?_,λd' B' l q=>?_,λd' B' h1 p C=>h.sF d' B' h1 p (by
  by_cases e:d'=d
  .subst e;simp[v]
  .simpa only[aJ _ _ e]using C),h.fS m rfl (λk=>k=B) (λi B' hi q e=>by subst e;exact (h.bb.bU i _ hi q).2.2.2.2 ⟨d,j,r⟩) (λk _ c=>u k c) aE (λk c=>by subst c;exact z) (λ_ h=>.inl h) (λB' ⟨d',h1,p⟩=>.inl ⟨d',l d' h1,p⟩)⟩
 .by_cases e:d'=d
  .subst e;simp only[bK,ax]at o;subst o;exact Q
  .simp only[aJ _ _ e]at o;exact(h.bG d' y o).cK m G rfl (λB' q=>u B' (λb0=>e (h.inj d' d B (by simp[o]) j (by rw[q,b0]) r)))
 .have l:∀d',aa s.b d (O f) d'≠Y->s.b d'≠Y:=λd' A=>by
   by_cases e:d'=d
   .subst e;exact j
   .simpa only[aJ _ _ e]using A
  exact h.inj H J B' (l H h1) (l J p) C a0
 .have c0:s.b d'≠Y:=by
   by_cases e:d'=d
   .subst e;exact j
   .simpa only[aJ _ _ e]using l
  obtain⟨q1,d0,e0,f0⟩:=h.bU d' B' c0 q;exact⟨q1,by simpa using d0,e0,λg0=>f0 (T _ g0)⟩
theorem aL.Ts (h:aL P E w0 I0 n s a w I be) (Mloc:Nat->Prop) (f:∀B,Mloc B->E.fresh w0 B/\(∀p,I p->p.block≠B)/\¬E.cB w B/\∀d,s.b d≠Y->be d≠O B) (z:∀i B,s.a i≠Y->I.ar i=O B->¬Mloc B) (o:∀B,gh w w' B)
  (A:w'.os=w.os) (C:w'.tape=w.tape) (D:w'.output=w.output) (q:w.heap.size<=w'.heap.size)
  (g:∀k,k<w.heap.size->¬Mloc k->w'.heap[k]?=w.heap[k]?):aL P E w0 I0 n s a w' I be:=by
 have G:=h.since.step (I':=I) A C D q Mloc g (λk l=>⟨(f k l).1,(f k l).2.2.1⟩) o (λ_ h=>h) rfl (λ_ h=>.inl h);have m:dD w w' I I:=.world (λp v r hv=>by rw[dw (g p.block (h.since.lt p r) (λj=>(f _ j).2.1 p r rfl))];exact hv) o;have c:∀d B,s.b d≠Y->be d=O B->w'.heap[B]?=w.heap[B]?:=λd B e c=>g B (h.bU d B e c).2.1 (λj=>(f _ j).2.2.2 d e c);have e:∀d,s.g d<s.g d∨(s.g d=s.g d/\ff P w w' be be s.b s.b d):=λd=>.inr ⟨rfl,.h6 rfl rfl (λB H=>c d B H)⟩;refine⟨G,h.size,h.defers.mono m,λt J=>(h.cu t J).cK m e,λd x u=>(h.bG d x u).cK m e rfl (λB=>c d B (by simp[u])),h.inj,λd B e c=>?_,h.sF,h.fS m rfl Mloc z g q (λk l=>(f k l).2.2.1) (λ_ h=>.inl h) (λ_ h=>.inl h)⟩;obtain⟨K,R,L,N⟩:=h.bU d B e c;refine⟨K,M,L,λQ=>N ?_⟩;exact(E.jm w w' h.since.h5 (λb y=>g b (E.lt w b h.since.h5 y) (λj=>(f b j).2.2.1 y))).2 B Q
theorem aL.acA (h:aL P E w0 I0 n s a w I be) (B:Nat) (f:E.fresh w0 B/\B<w.heap.size/\¬E.cB w B/\∀d,s.b d≠Y->be d≠O B) (j:∀i,s.a i≠Y->I.ar i≠O B):
  aL P E w0 I0 n s a w (I.plus λp=>p.block=B) be:=by
 have k:=h.since.step (w':=w) (I':=I.plus λp=>p.block=B) rfl rfl rfl (a6 _) (λ_=>False) (λ_ _ _=>rfl) (λ_ l=>l.elim) (gh.refl w) (λ_ h=>.inl h) rfl
  (by
    rintro p (b|rfl)
    .exact .inl b
    .exact .inr ⟨f.1,f.2.1,f.2.2.1⟩)
 have c:∀d,s.g d<s.g d∨(s.g d=s.g d/\ff P w w be be s.b s.b d):=λd=>.inr ⟨rfl,.h6 rfl rfl (λ_ _ _=>rfl)⟩;refine⟨k,h.size,h.defers.mono (.plus _ _ _),λt m=>(h.cu t m).cK (.plus _ _ _) c,λd x o=>(h.bG d x o).cK (.plus _ _ _) c rfl (λB _=>rfl),h.inj,λd B' c g=>?_,h.sF,h.fS (.plus _ _ _) rfl (λ_=>False) (λ_ _ _ _ h=>h) (λ_ _ _=>rfl) (a6 _) (λ_ h=>h.elim) (λp b=>b.imp id λe i hi=>by rw[e];exact j i hi) (λ_ h=>.inl h)⟩;obtain⟨q,r,u,v⟩:=h.bU d B' c g;refine⟨q,r,λp b=>?_,v⟩;rcases b with b|b
 .exact u p b
 .intro e;exact f.2.2.2 d c (by rw[g,<-e,b])
theorem pB{w:zI}{B:Nat}(a:w.heap[B]?=O (.cells cur t fr))(k:Nat):w.cell? ⟨B,k,Y⟩=cur[k]?:=cell_of_row w B k cur t fr a
theorem dW(B o k:Nat):(⟨B,o,Y⟩:Mc).add k=⟨B,o+k,Y⟩:=by
 unfold Addr.add;split
 .subst_vars;rfl
 .rfl
theorem getD_some(h:k<cur.size):cur[k]?=O (cur.getD k undef):=by simp[h]
theorem pC(hi:i<len)(b:len<=cap)(c:j<sz):i*sz+j<cap*sz:=by have a:(i+1)*sz<=cap*sz:=fR _ M;rw[eO]at a;omega
theorem uL{I':aD}(u:s.b d=O (.bi e xs))(b:ie P w I be s.b s.g d (.bi e xs))(hv:eg P w be s.b d off len v)
  (y:dD w w I I') (z:∀B,be d=O B->∀p:Mc,p.block=B->I' p):cq w I' v (.sl ((xs.drop off).take len)):=by
 obtain⟨C,U,n,g⟩:=b;unfold eg at hv;simp only[u]at hv;obtain⟨D,hv⟩:=hv;cases l:be d with
 |none=>
  simp only[l]at hv g;subst g;obtain⟨A,rfl⟩:=hv;have m:len=0:=by simp at D;omega
  subst m;cases A with
  |none=>exact .eU 0|some a=>exact .sl a 0 0 0 _ (λ_ _=>undef) aE aE (by simp[maxLen]) (λi x b=>by simp at b) (λi j x c b=>by simp at b) (λi j x c b=>by simp at b) (λi j x c b=>by simp at b)
 |some B=>
  simp only[l]at hv g;obtain⟨cur,cap,A,hw,hs,rfl,E⟩:=hv;obtain⟨X,h,k,G,hm,H,J⟩:=g;rw[hw]at k;injection k with k;injection k with K a0;subst K;have L:h=cap:=by have:=hs.symm.trans G;exact(k6 C this).symm
  subst L;by_cases N:off<h
  .obtain rfl:=E N;have Q:((xs.drop off).take len).length=len:=cM;have o:∀(i j:Nat)(x c:AV),((xs.drop off).take len)[i]?=O x->x.cells[j]?=O c->xs[off+i]?=O x/\off*P.cellsOf e+(i*P.cellsOf e+j)=(off+i)*P.cellsOf e+j/\(off+i)*P.cellsOf e+j<cur.size:=by
    intro i j x c b f;rw[gf]at b;split at b
    .rw[kT]at b;have R:off+i<xs.length:=(aY.1 b).1;have S:j<P.cellsOf e:=by rw[<-(n _ _ b).1];exact (aY.1 f).1
     refine⟨b,by rw[eO];omega,?_⟩;rw[hs];exact pC R H S
    .cases b
   refine .sl _ len (h-off) (P.cellsOf e) _ (λi j=>cur.getD ((off+i)*P.cellsOf e+j) undef) Q.symm M M (λi x b=>?_) (λi j x c b f=>?_) (λi j x c b f=>?_) (λi j x c b f=>?_)
   .rw[gf]at b;split at b
    .rw[kT]at b;exact n _ _ b
    .cases b
   .obtain ⟨q,r,t⟩:=o i j x c b f;rw[dW,r,pB hw,getD_some t]
   .rw[dW];exact z B l _ rfl
   .obtain ⟨q,r,t⟩:=o i j x c b f;exact(J _ _ x c q f).mono y
  .have m:len=0:=M;subst m;have T:h-off=0:=M;rw[T];cases A with
   |none=>exact .eU 0|some a=>exact .sl a 0 0 0 _ (λ_ _=>undef) aE aE (by simp[maxLen]) (λi x b=>by simp at b) (λi j x c b=>by simp at b) (λi j x c b=>by simp at b) (λi j x c b=>by simp at b)
end
def k7(P:qK)(t:JA):V tl:=
 match P.underlying t with
 |some (.struct _)|some (.array _ _)=>O W|some _=>O F
 |none=>Y
theorem oQ(h:k7 P t=O b)(w:zI):(isAgg t).run P w=.ok b w:=by
 unfold k7 at h;cases a:P.underlying t with
 |none=>simp[a]at h|some d=>unfold isAgg;rw[b9,ef a w];cases d<;>simp_all
theorem fT(h:P.cellsOf t=k)(a:0<k)(w:zI):(sizeOf t).run P w=.ok k w:=by
 unfold Program.cellsOf at h;cases hi:P.info? t with
 |none=>simp[hi]at h;omega|some i=>simp[hi]at h;simp[sizeOf,typeInfo,hi,h]
theorem add_add(a:Mc)(i j:Nat):(a.add i).add j=a.add (i+j):=by unfold Addr.add;by_cases hi:i=0<;>by_cases b:j=0<;>simp[hi,b,jd]
theorem add_zero(a:Mc):a.add 0=a:=by simp[Addr.add]
theorem F2{w:zI}(a:∀(j:Nat)(v:Jz),vs[j]?=O v->w.cell? (p.add j)=O v)
   (d:k7 P t=O b) (e:0<P.cellsOf t) (f:P.cellsOf t<=vs.length):
  (loadVar t p).run P w=.ok (if b then .agg (vs.take (P.cellsOf t)).toArray else vs.headD undef) w:=by
 unfold loadVar;rw[b9,oQ d];simp only[cz];cases b with
 |true=>
  simp only[ca];have c:(loadCells p (vs.take (P.cellsOf t)).length).run P w=.ok (vs.take (P.cellsOf t)).toArray w:=
   run_loadCells_list (P:=P) w p (vs.take (P.cellsOf t)) (λj v hv=>by
    rw[gf]at hv;split at hv
    .exact a j v hv
    .cases hv)
  have g:(vs.take (P.cellsOf t)).length=P.cellsOf t:=cM;rw[g]at c;rw[b9,fT rfl e];simp only[cz];rw[b9,c];rfl
 |false=>
  cases vs with
  |nil=>simp at f;omega|cons v h=>have:=a 0 v rfl;rw[add_zero]at this;simp[this]
def kf(w:zI)(I:aD)(p:Mc)(cs:Z AV)(vs:Z Jz):Prop:=vs.length=cs.length/\(∀(j:Nat)(v:Jz),vs[j]?=O v->w.cell? (p.add j)=O v)/\∀(j:Nat)(v:Jz)(c:AV),vs[j]?=O v->cs[j]?=O c->cq w I v c
theorem kf.drop {w:zI} {I:aD} {cs:Z AV} (h:kf w I p cs vs) (k:Nat):kf w I (p.add k) (cs.drop k) (vs.drop k):=by
 refine⟨by simp[h.1],λj v hv=>?_,λj v c hv a=>?_⟩
 .rw[kT]at hv;rw[add_add];exact h.2.1 _ _ hv
 .rw[kT]at hv a;exact h.2.2 _ _ _ hv a
theorem Ae{w:zI}{I:aD}{cs:Z AV}(f:Nat->Jz)(e:∀(j:Nat)(c:AV),cs[j]?=O c->w.cell? (p.add j)=O (f j))(g:∀(j:Nat)(c:AV),cs[j]?=O c->cq w I (f j) c):
  kf w I p cs ((List.range cs.length).map f):=by
 refine⟨aE,λj v hv=>?_,λj v c hv d=>?_⟩
 .simp only[dC,ck]at hv;obtain⟨k,a,rfl⟩:=hv;have b:j<cs.length:=by have:=(aY.1 a).1;simpa using this
  rw[x8 b]at a;injection a with a;subst a;exact e j cs[j] (bS b)
 .simp only[dC,ck]at hv;obtain⟨k,a,rfl⟩:=hv;have b:=(aY.1 d).1;rw[x8 b]at a;injection a with a;subst a;exact g j c d
theorem cq.NW {w:zI} {I:aD} {cs:Z AV} (h:cq w I v (.ref cs)):∃p vs,v=.pointer (O p)/\kf w I p cs vs:=by
 cases h with
 |ref p cs a b d c=>exact ⟨p,_,rfl,Ae a b c⟩
theorem Af(f:Nat->Jz)(a:j<n):((List.range n).map f)[j]?=O (f j):=by simp[a]
def jh(P:qK)(t:JA)(cs:Z AV)(K:AV->Prop):Prop:=
 0<P.cellsOf t/\P.cellsOf t<=cs.length/\
 match k7 P t with
 |some W=>K (.agg (cs.take (P.cellsOf t)))|some F=>K (cs.headD (.fl undef))
 |none=>False
theorem pD{cs:Z AV}(h:jh P t cs K):∃y,K y/\jh P t cs (·=y):=by
 obtain⟨h1,d,a⟩:=h;cases c:k7 P t with
 |none=>simp[c]at a|some b=>cases b with
  |true=>simp only[c]at a;exact ⟨_,a,h1,d,by simp only[c]⟩|false=>simp only[c]at a;exact ⟨_,a,h1,d,by simp only[c]⟩
theorem mz{w:zI}{I:aD}{cs:Z AV}(a:kf w I p cs vs)(h:jh P t cs K):
  ∃v x,(loadVar t p).run P w=.ok v w/\cq w I v x/\K x:=by
 obtain⟨l,g,d⟩:=h;cases f:k7 P t with
 |none=>simp[f]at d|some b=>
  have i:=F2 a.2.1 f l (by rw[a.1];exact g);cases b with
  |true=>
   simp only[f]at d;refine⟨_,_,i,?_,d⟩;simp only[ca];refine .agg _ _ (by simp[a.1]) λj c e=>?_;rw[gf]at e;split at e
   .rename_i m;have k:j<vs.length:=by rw[a.1];exact (aY.1 e).1
    have:=a.2.2 j vs[j] c (bS k) e;simpa[gf,m,k]using this
   .cases e
  |false=>
   simp only[f]at d;refine⟨_,_,i,?_,d⟩;cases cs with
   |nil=>simp at g;omega|cons c n=>
    cases vs with
    |nil=>simp[kf]at a|cons v o=>exact a.2.2 0 v c rfl rfl
def dE(P:qK)(E:cm)(w0:zI)(I0:aD)(n:Nat)(o:JB)(s:St)(K:St->Prop):Prop:=∀a w,gi P E w0 I0 n s a w->∀b,o.wp P a w (λa' w'=>∃s',gi P E w0 I0 n s' a' w'/\K s') b
theorem fm{o:JB}{w:zI}(h:(execOp a.eval o).run P w=.ok (.value v) w')(b:next (a.put o.dst v) w'):o.wp P a w next Q:=by unfold Oper.wp;rw[h];exact b
section
variable{P:qK}{E:cm}{w0:zI}{I0:aD}{n:Nat}{o:JB}{s:St}{K:St->Prop}
def aW(n:Nat)(o:JB):tl:=o.op.operands.all λx=>bW x&&match x with|.tmp t=>decide (t<n)|_=>W
theorem aG(b:aW n o=W){x:qm}(c:x∈o.op.operands){w:zI}{I:aD}(h:aL P E w0 I0 n s a w I be):b4 P w I be s.b s.g (a.eval x) (s.ev x):=by have:=qO.1 b x c;simp only[aI]at this;refine h.ev x this.1 λt d=>?_;subst d;simpa using this.2
def dQ(P:qK)(E:cm)(w0:zI)(I0:aD)(n:Nat)(o:JB)(s:St)(r:cy):Prop:=∀a w I be,aL P E w0 I0 n s a w I be->∃v,(execOp a.eval o).run P w=.ok (.value v) w/\b4 P w I be s.b s.g v r
theorem jQ(r:cy)(c:K (s.put o.dst r))(h:∀a w I be,aL P E w0 I0 n s a w I be->∃v,(execOp a.eval o).run P w=.ok (.value v) w/\b4 P w I be s.b s.g v r):dE P E w0 I0 n o s K:=by rintro a w ⟨I,be,b⟩ e;obtain⟨v,d,hv⟩:=h a w I be b;exact fm d ⟨_,⟨I,be,b.put o.dst hv⟩,c⟩
theorem JW{x:qm}(b:o.op=.move x)(c:aW n o=W):dQ P E w0 I0 n o s (s.ev x):=λa w I be d=>⟨a.eval x,by simp[execOp,b],aG c (by simp[b,Op.operands]) d⟩
theorem E7{x:qm}(b:o.op=.assign x)(c:aW n o=W):dQ P E w0 I0 n o s (s.ev x):=λa w I be d=>⟨a.eval x,by simp[execOp,b],aG c (by simp[b,Op.operands]) d⟩
theorem cb{w:zI}{I:aD}{u:Jz}(h:cq w I v (.fl u)):v=u:=by cases h;rfl
theorem JX{c x:qm}(d:o.op=.pick c x y)(e:aW n o=W)(i:s.ev c=.val (.fl (.bool b))):dQ P E w0 I0 n o s (if b then s.ev x else s.ev y):=
 λa w I be f=>by
  have g:=aG e (x:=c) (by simp[d,Op.operands]) f;have j:=aG e (x:=x) (by simp[d,Op.operands]) f;have k:=aG e (x:=y) (by simp[d,Op.operands]) f;rw[i]at g;have h:=cb g;cases b with
  |true=>exact ⟨a.eval x,by simp[execOp,d,h,asBool],j⟩|false=>exact ⟨a.eval y,by simp[execOp,d,h,asBool],k⟩
theorem CY{x:qm}(b:o.op=.extract x k)(f:aW n o=W){rs:Z cy}(g:s.ev x=.fK rs)(c:rs[k]?=O r):dQ P E w0 I0 n o s r:=
 λa w I be h=>by
  have d:=aG f (x:=x) (by simp[b,Op.operands]) h;rw[g]at d;obtain⟨vs,e1,e2,i⟩:=d;have j:k<vs.size:=by rw[e2];exact (aY.1 c).1
  have e:=i k r c;refine⟨vs.getD k undef,?_,?_⟩
  .simp[execOp,b,e1,Instr.extract,j]
  .cases r<;>first|exact e|trivial|exact e.elim
theorem Ag{x:qm}(d:o.op=.load t x)(e:aW n o=W){cs:Z AV}(f:s.ev x=.val (.ref cs)){K:AV->Prop}(b:jh P t cs K):∃v,K v/\dQ P E w0 I0 n o s (.val v):=by
 have g:∀(a:Act)(w:zI)(I:aD)(be:Nat->V Nat),aL P E w0 I0 n s a w I be->∀K:AV->Prop,jh P t cs K->∃v y,(execOp a.eval o).run P w=.ok (.value v) w/\cq w I v y/\K y:=by intro a w I be c K b;have h1:=aG e (x:=x) (by simp[d,Op.operands]) c;rw[f]at h1;obtain⟨p,vs,e1,h⟩:=cq.NW h1;obtain⟨v,y,i,j,k⟩:=mz h b;exact⟨v,y,by simp[execOp,d,e1,Instr.loadAt,Instr.sureAddr,i],j,k⟩
 obtain⟨y,l,m⟩:=pD b;refine⟨y,l,λa w I be c=>?_⟩;obtain⟨v,r,h1,q,rfl⟩:=g a w I be c _ m;exact⟨v,h1,q⟩
end
def bu:cy->V AV
 |.val v=>O v|.bM xs=>O (.sl xs)
 |_=>Y
def cZ:Z cy->V (Z AV)
 |[]=>O []|r::rs=>match bu r,cZ rs with
  |some x,O xs=>O (x::xs)|_,_=>Y
theorem dN{w:zI}{I:aD}{b:Nat->V Bx}{x:AV}(h:b4 P w I be b g v r)(a:bu r=O x):cq w I v x:=by
 cases r<;>simp[bu]at a
 .subst a;exact h
 .subst a;exact h.1
theorem q4:∀{rs:Z cy}{xs:Z AV},cZ rs=O xs->xs.length=rs.length/\∀(j:Nat)(r:cy)(x:AV),rs[j]?=O r->xs[j]?=O x->bu r=O x
 |[],xs,h=>by simp[cZ]at h;subst h;simp|r::rs,xs,h=>by
  simp only[cZ]at h;cases a:bu r with
  |none=>simp[a]at h|some y=>
   cases b:cZ rs with
   |none=>simp[a,b]at h|some ys=>
    simp only[a,b,ax]at h;subst h;obtain⟨e,f⟩:=q4 b;refine⟨by simp[e],λj g i c d=>?_⟩;cases j with
    |zero=>simp at c d;subst c d;exact a|succ j=>exact f j g i (by simpa using c) (by simpa using d)
def iG(P:qK)(t:JA)(cs:Z cy)(K:cy->Prop):Prop:=
 0<P.cellsOf t/\P.cellsOf t<=cs.length/\
 match k7 P t with
 |some W=>∃xs,cZ (cs.take (P.cellsOf t))=O xs/\K (.val (.agg xs))|some F=>K (cs.headD .none)
 |none=>False
def JY(P:qK)(w:zI)(I:aD)(be:Nat->V Nat)(b:Nat->V Bx)(g:Nat->Nat)(p:Mc)(cs:Z cy)(vs:Z Jz):Prop:=vs.length=cs.length/\(∀(j:Nat)(v:Jz),vs[j]?=O v->w.cell? (p.add j)=O v)/\∀(j:Nat)(v:Jz)(c:cy),vs[j]?=O v->cs[j]?=O c->b4 P w I be b g v c
section
variable{P:qK}{E:cm}{w0:zI}{I0:aD}{n:Nat}{o:JB}{s:St}{K:St->Prop}{w:zI}{I:aD}{be:Nat->V Nat}{b:Nat->V Bx}{g:Nat->Nat}
theorem q5{cs:Z cy}{K:cy->Prop}(a:JY P w I be b g p cs vs)(h:iG P t cs K):
  ∃v r,(loadVar t p).run P w=.ok v w/\b4 P w I be b g v r/\K r:=by
 obtain⟨u,i,d⟩:=h;cases e:k7 P t with
 |none=>simp[e]at d|some q=>
  have k:=F2 a.2.1 e u (by rw[a.1];exact i);cases q with
  |true=>
   simp only[e]at d;obtain⟨xs,x,y⟩:=d;obtain⟨l,z⟩:=q4 x;refine⟨_,_,k,?_,y⟩;simp only[ca];refine cq.agg _ _ (by simp[a.1,l]) λj c m=>?_;have n:j<(cs.take (P.cellsOf t)).length:=by rw[<-l];exact (aY.1 m).1
   have o:j<P.cellsOf t:=by simp at n;omega
   have f:j<cs.length:=by simp at n;omega
   have s:j<vs.length:=by rw[a.1];exact f
   have A:(cs.take (P.cellsOf t))[j]?=O cs[j]:=by simp[o,f]
   have B:=a.2.2 j vs[j] cs[j] (bS s) (bS f);have C:=dN B (z j _ _ A m);simpa[gf,o,s]using C
  |false=>
   simp only[e]at d;refine⟨_,_,k,?_,d⟩;cases cs with
   |nil=>simp at i;omega|cons c D=>
    cases vs with
    |nil=>simp[JY]at a|cons v E=>exact a.2.2 0 v c rfl rfl
theorem Ah{cs:Z cy}{B:Nat}(h:ie P w I be b g d (.cells cs))(i:be d=O B)(k:Nat):∃cur t,w.heap[B]?=O (.cells cur t (0,0))/\cur.size=cs.length/\JY P w I be b g ⟨B,k,Y⟩ (cs.drop k) (cur.toList.drop k):=by
 obtain⟨B',cur,t,h1,a,e,l⟩:=h;rw[i]at h1;injection h1 with h1;subst h1;refine⟨cur,t,a,e,by simp[e],λj v hv=>?_,λj v c hv f=>?_⟩
 .rw[dW,pB a];simpa[kT]using hv
 .rw[kT]at hv f;have:=l _ _ f;rw[jO]at hv;simpa[hv]using this
theorem yb{B:Nat}(h:ie P w I be b g d (.bi e xs))(l:be d=O B){x:AV}(a:xs[i]?=O x):
  ∃vs,kf w I ⟨B,i*P.cellsOf e,Y⟩ x.cells vs:=by
 obtain⟨r,s,m,k⟩:=h;simp only[l]at k;obtain⟨cur,cap,hw,hs,hm,n,o⟩:=k;refine⟨_,Ae (λj=>cur.getD (i*P.cellsOf e+j) undef) (λj c f=>?_) (λj c f=>o i j x c a f)⟩;have p:j<P.cellsOf e:=by rw[<-(m _ _ a).1];exact (aY.1 f).1
 have q:i<xs.length:=(aY.1 a).1;rw[dW,pB hw,getD_some];rw[hs];exact pC q n p
theorem uM{cs:Z cy}{K:cy->Prop}(h:iG P t cs K):∃y,K y/\iG P t cs (·=y):=by
 obtain⟨h1,d,a⟩:=h;cases c:k7 P t with
 |none=>simp[c]at a|some b=>cases b with
  |true=>simp only[c]at a;obtain⟨xs,e,f⟩:=a;exact⟨_,f,h1,d,by simp only[c];exact ⟨xs,e,rfl⟩⟩|false=>simp only[c]at a;exact ⟨_,a,h1,d,by simp only[c]⟩
theorem wI{x:qm}(b:o.op=.load t x)(g:aW n o=W)(h:s.ev x=.dT d gg sz i k)(j:gg=s.g d){cs:Z cy}(c:s.b d=O (.cells cs)){K:cy->Prop}(l:iG P t (cs.drop (i*sz+k)) K):
  ∃r,K r/\dQ P E w0 I0 n o s r:=by
 obtain⟨y,m,p⟩:=uM l;refine⟨y,m,λa w I be e=>?_⟩;have f:=aG g (x:=x) (by simp[b,Op.operands]) e;rw[h]at f;obtain⟨B,q,e1⟩:=f.2 j (by simp[c]);obtain⟨cur,t',hw,hs,u⟩:=Ah (e.bG d _ c) q (i*sz+k);obtain⟨v,r,z,A,rfl⟩:=q5 u p;exact⟨v,by simp[execOp,b,e1,Instr.loadAt,Instr.sureAddr,z],A⟩
theorem Ai{x:qm}(b:o.op=.load t x)(j:aW n o=W)(l:s.ev x=.dT d gg sz i k)(m:gg=s.g d)(c:s.b d=O (.bi e xs))(p:sz=P.cellsOf e){y:AV}(q:xs[i]?=O y){K:AV->Prop}(u:jh P t (y.cells.drop k) K):
  ∃r,K r/\dQ P E w0 I0 n o s (.val r):=by
 obtain⟨z,hz,A⟩:=pD u;refine⟨z,hz,λa w I be f=>?_⟩;have g:=aG j (x:=x) (by simp[b,Op.operands]) f;rw[l]at g;obtain⟨B,C,e1⟩:=g.2 m (by simp[c]);subst p;obtain⟨vs,D⟩:=yb (f.bG d _ c) C q;have h:=D.drop k;rw[dW]at h;obtain⟨v,J,G,H,rfl⟩:=mz h A;exact⟨v,by simp[execOp,b,e1,Instr.loadAt,Instr.sureAddr,G],H⟩
theorem q6(a:P.underlying t=O (.struct fs))(b:fs[f]?=O fd)(c:0<P.cellsOf fd.type)(p:Mc)(w:zI):
  (Instr.fieldAt t (.pointer (O p)) f).run P w=.ok (.pointer (O (p.add fd.offset))) w:=by
 have h0:¬P.cellsOf fd.type=0:=M;simp[Instr.fieldAt,ef a,b,Instr.sureAddr,fieldPlace,fT rfl c,h0]
theorem cq.PD {w:zI} {I:aD} {cs:Z AV} (h:cq w I v (.ref cs)):∃p,v=.pointer (O p)/\∀k,cq w I (.pointer (O (p.add k))) (.ref (cs.drop k)):=by
 cases h with
 |ref p cs a b d e=>
  refine⟨p,rfl,λk=>.ref _ _ (λj=>a (k+j)) (λj c h=>?_) (λj c h=>?_) (λj c h=>?_)⟩<;>rw[kT]at h
  .rw[add_add];exact b _ _ h
  .rw[add_add];exact d _ _ h
  .exact e _ _ h
theorem tp(h:b4 P w I be b g v (.dT d gg sz i k))(a:gg=g d)(c:b d≠Y):∃B,be d=O B/\v=.pointer (O ⟨B,i*sz+k,Y⟩):=h.2 a c
theorem sv{x:qm}(b:o.op=.fieldAddr t x f)(d:aW n o=W)(e:P.underlying t=O (.struct fs))(g:fs[f]?=O fd)(h:0<P.cellsOf fd.type)
  {cs:Z AV} (i:s.ev x=.val (.ref cs)):dQ P E w0 I0 n o s (.val (.ref (cs.drop fd.offset))):=
 λa w I be j=>by have c:=aG d (x:=x) (by simp[b,Op.operands]) j;rw[i]at c;obtain⟨p,e1,k⟩:=cq.PD c;exact⟨.pointer (O (p.add fd.offset)),by simp[execOp,b,e1,q6 e g h],k _⟩
theorem sw{x:qm}(c:o.op=.fieldAddr t x f)(e:aW n o=W)(g:P.underlying t=O (.struct fs))(h:fs[f]?=O fd)(j:0<P.cellsOf fd.type)
  (l:s.ev x=.dT d gg sz i k) (m:gg=s.g d) (p:s.b d≠Y):dQ P E w0 I0 n o s (.dT d gg sz i (k+fd.offset)):=
 λa w I be q=>by have b:=aG e (x:=x) (by simp[c,Op.operands]) q;rw[l]at b;obtain⟨B,r,e1⟩:=tp b m p;refine⟨.pointer (O ((⟨B,i*sz+k,Y⟩:Mc).add fd.offset)),by simp[execOp,c,e1,q6 g h j],b.1,λ_ _=>⟨B,r,?_⟩⟩;rw[dW,jd]
theorem kg(a:P.underlying t=O (.slice e))(b:0<P.cellsOf e)(p:Mc)(len cap:Nat)(k:Pv)(m:Int)(h0:0<=m)(c:m<len)(w:zI):
  (Instr.indexAt t (.slice (O p) len cap) (.int k m)).run P w=.ok (.pointer (O (p.add (m.toNat*P.cellsOf e)))) w:=by
 simp[Instr.indexAt,asIntOf,ef a,fT rfl b,h0,c]
theorem nc{x:qm}(d:o.op=.indexAddr t x y)(f:aW n o=W)(l:P.underlying t=O (.slice e)){k:Pv}{m:Int}
  (q:bu (s.ev x)=O (.sl xs)) (r:s.ev y=.val (.fl (.int k m))) (h0:0<=m) {z:AV} (b:xs[m.toNat]?=O z) (u:0<P.cellsOf e) (A:z.cells.length=P.cellsOf e):dQ P E w0 I0 n o s (.val (.ref z.cells)):=
 λa w I be g=>by
  have B:=dN (aG f (x:=x) (by simp[d,Op.operands]) g) q;have i:=aG f (x:=y) (by simp[d,Op.operands]) g;rw[r]at i;have e2:=cb i;have C:m.toNat<xs.length:=(aY.1 b).1;generalize hv:a.eval x=v at*;cases B with
  |eU c=>simp at C|sl p D cap sz xs G Q R S H J K L=>
   have N:=(H _ _ b).1;have:sz=P.cellsOf e:=by rw[<-A,N]
   subst this;refine⟨.pointer (O (p.add (m.toNat*P.cellsOf e))),?_,.ref _ _ (λj=>G m.toNat j) (λj c h=>?_) (λj c h=>?_) (λj c h=>?_)⟩
   .simp[execOp,d,hv,e2,kg l u p D cap k m h0 M]
   .rw[add_add];exact J _ _ _ _ b h
   .rw[add_add];exact K _ _ _ _ b h
   .exact L _ _ _ _ b h
theorem lx{d gg off len:Nat}{v:Jz}(h:b4 P w I be b g v (.view d gg off len))(a:gg=g d){e:JA}{xs:Z AV}(c:b d=O (.bi e xs)):
  off+len<=xs.length/\match be d with
   |none=>∃A,v=.slice A len 0|some B=>∃cur cap A,w.heap[B]?=O (.cells cur e (0,0))/\cur.size=cap*P.cellsOf e/\v=.slice A len (cap-off)/\(off<cap->A=O ⟨B,off*P.cellsOf e,Y⟩):=by
 have:=h.2 a;unfold eg at this;rw[c]at this;exact this
theorem q7{x:qm}(f:o.op=.indexAddr t x y)(l:aW n o=W)(u:P.underlying t=O (.slice e)){k:Pv}{m:Int}
  (v:s.ev x=.view d gg off len) (z:gg=s.g d) (p:s.b d=O (.bi e xs)) (C:s.ev y=.val (.fl (.int k m))) (h0:0<=m) (D:m<len):dQ P E w0 I0 n o s (.dT d gg (P.cellsOf e) (off+m.toNat) 0):=
 λa w I be g=>by
  have h:=aG l (x:=x) (by simp[f,Op.operands]) g;rw[v]at h;have q:=aG l (x:=y) (by simp[f,Op.operands]) g;rw[C]at q;have e2:=cb q;have G:=g.bG d _ p;obtain⟨H,hv⟩:=lx h z p;obtain⟨r,R,S,b⟩:=G;cases i:be d with
  |none=>simp only[i]at b;subst b;simp at H;omega|some B=>
   simp only[i]at hv b;obtain⟨cur,cap,A,hw,J,e1,K⟩:=hv;obtain⟨T,j,c,L,U,X,_⟩:=b;rw[hw]at c;injection c with c;injection c with q1 a0;subst q1;have N:j=cap:=(k6 r (J.symm.trans L)).symm;subst N;have Q:off<j:=M;obtain rfl:=K Q;refine⟨.pointer (O ((⟨B,off*P.cellsOf e,Y⟩:Mc).add (m.toNat*P.cellsOf e))),?_,h.1,λ_ _=>⟨B,i,?_⟩⟩
   .simp[execOp,f,e1,e2,kg u r _ len (j-off) k m h0 D]
   .rw[dW,eO,lX]
end
def St.jn (s:St) (d:Nat) (cs:Z cy):St:={s with r:=aa s.r d (.dT d (s.g d+1) 0 0 0),b:=aa s.b d (O (.cells cs)),g:=aa s.g d (s.g d+1)}
def St.cH (s:St) (d:Nat) (e:JA) (xs:Z AV):St:={s with r:=aa s.r d (.view d (s.g d+1) 0 xs.length),b:=aa s.b d (O (.bi e xs)),g:=aa s.g d (s.g d+1)}
section
variable{P:qK}{E:cm}{w0:zI}{I0:aD}{n:Nat}{s:St}{a:Act}{w w':zI}{I:aD}{be:Nat->V Nat}
theorem Hj{h:Array Obj}{o:Obj}(a:k<h.size):(h.push o)[k]?=h[k]?:=by rw[Ha,ai M]
theorem DD(d:Nat)(x:Bx)(bo:V Nat):∀d',s.g d'<aa s.g d (s.g d+1) d'∨(aa s.g d (s.g d+1) d'=s.g d'/\ff P w w be (aa be d bo) s.b (aa s.b d (O x)) d'):=by
 intro d';by_cases e:d'=d
 .subst e;left;simp
 .right;exact⟨aJ _ _ e,.h6 (aJ _ _ e) (aJ _ _ e) (λ_ _ _=>rfl)⟩
theorem aL.fresh (h:aL P E w0 I0 n s a w I be) {o:Obj} (j:w'.os=w.os) (l:w'.tape=w.tape) (m:w'.output=w.output) (d:w'.heap=w.heap.push o):
  aL P E w0 I0 n s a w' I be/\w'.heap[w.heap.size]?=O o/\
  (E.fresh w0 w.heap.size/\w.heap.size<w'.heap.size/\(∀p,I p->p.block≠w.heap.size)/\¬E.cB w' w.heap.size/\∀d',s.b d'≠Y->be d'≠O w.heap.size)/\dD w w' I I/\∀B,O w.heap.size=O B->∀i,s.a i≠Y->I.ar i≠O B:=by
 have y:w'.heap.size=w.heap.size+1:=by rw[d];simp
 have c:∀k,k<w.heap.size->w'.heap[k]?=w.heap[k]?:=λk f=>by rw[d];exact Hj f
 have h':=h.grow j l m M c;refine⟨h',by rw[d];simp,⟨.inl h.since.size,M,λp q e=>?_,λr=>?_,λd' t u=>?_⟩,.world (h.Ad (λk f _=>c k f)) (Ac c),λB g i hi v=>?_⟩
 .have:=h.since.lt p q;omega
 .have:=(E.jm w w' h.since.h5 (λb x=>c b (E.lt w b h.since.h5 x))).2 _ r;have:=E.lt w _ h.since.h5 this;omega
 .have:=(h.bU d' _ t u).2.1;omega
 .have:=(h.bb.bU i _ hi v).2.1;injection g with g;omega
theorem aL.jn (h:aL P E w0 I0 n s a w I be) (d:Nat) (i:w'.os=w.os) (k:w'.tape=w.tape) (l:w'.output=w.output) (g:w'.heap=w.heap.push (.cells cur t))
  (cs:Z cy) (m:cur.size=cs.length) (o:∀(j:Nat)(c:cy),cs[j]?=O c->b4 P w I be s.b s.g (cur.getD j undef) c):
  aL P E w0 I0 n (s.jn d cs) (a.put (O d) (.pointer (O ⟨w.heap.size,0,Y⟩))) w' I (aa be d (O w.heap.size)):=by
 obtain⟨h',p,b,q,u⟩:=h.fresh i k l g;have x:∀d',s.g d'<s.g d'∨(s.g d'=s.g d'/\ff P w w' be be s.b s.b d'):=λd'=>.inr ⟨rfl,.h6 rfl rfl (λB f e=>by rw[g];exact Hj (h.bU d' B f e).2.1)⟩;have y:ie P w' I (aa be d (O w.heap.size)) (aa s.b d (O (.cells cs))) (aa s.g d (s.g d+1)) d (.cells cs):=⟨w.heap.size,cur,t,bK _ _ _,p,m,λj c z=>((o j c z).cK q x).cK (.refl _ _) (DD d _ _)⟩
 have A:=h'.nb d (.cells cs) (O w.heap.size) y (λB e=>by injection e with e;subst e;exact ⟨b.1,b.2.1,b.2.2.1,b.2.2.2.1,λd' _ f=>b.2.2.2.2 d' f⟩) u;have:=A.put (O d) (v:=.pointer (O ⟨w.heap.size,0,Y⟩)) (r:=.dT d (s.g d+1) 0 0 0) ⟨aE,λ_ _=>⟨w.heap.size,aE,aE⟩⟩;exact this
def kW(P:qK)(e:JA)(xs:Z AV):Prop:=∀x∈xs,x.cells.length=P.cellsOf e/\x.wf
theorem aL.cH (h:aL P E w0 I0 n s a w I be) (d:Nat) (o:w'.os=w.os) (p:w'.tape=w.tape) (q:w'.output=w.output) (t:w'.heap=w.heap.push (.cells cur e))
  (xs:Z AV) (u:0<P.cellsOf e) (g:cur.size=cap*P.cellsOf e) (k:cap<=maxLen) (l:xs.length<=cap) (y:kW P e xs)
  (z:∀(i j:Nat)(x c:AV),xs[i]?=O x->x.cells[j]?=O c->cq w I (cur.getD (i*P.cellsOf e+j) undef) c):
  aL P E w0 I0 n (s.cH d e xs) (a.put (O d) (.slice (O ⟨w.heap.size,0,Y⟩) xs.length cap)) w' I (aa be d (O w.heap.size)):=by
 obtain⟨h',m,b,A,C⟩:=h.fresh o p q t;have D:ie P w' I (aa be d (O w.heap.size)) (aa s.b d (O (.bi e xs))) (aa s.g d (s.g d+1)) d (.bi e xs):=by refine⟨u,fk l k,λi x hi=>y x (bF hi),?_⟩;simp only[bK];exact⟨cur,cap,m,g,k,l,λi j x c G H=>(z i j x c G H).mono A⟩
 have J:=h'.nb d (.bi e xs) (O w.heap.size) D (λB f=>by injection f with f;subst f;exact ⟨b.1,b.2.1,b.2.2.1,b.2.2.2.1,λd' _ K=>b.2.2.2.2 d' K⟩) C;have:=J.put (O d) (v:=.slice (O ⟨w.heap.size,0,Y⟩) xs.length cap) (r:=.view d (s.g d+1) 0 xs.length) ⟨aE,λ_=>by unfold eg;simp only[bK];exact⟨M,cur,cap,O ⟨w.heap.size,0,Y⟩,m,g,aE,λ_=>aE⟩⟩;exact this
theorem aL.Aj (h:aL P E w0 I0 n s a w I be) (d:Nat) (e:JA) (c:0<P.cellsOf e) (A:V Mc):
  aL P E w0 I0 n (s.cH d e []) (a.put (O d) (.slice A 0 0)) w I (aa be d Y):=by
 have f:ie P w I (aa be d Y) (aa s.b d (O (.bi e []))) (aa s.g d (s.g d+1)) d (.bi e []):=⟨c,aE,λi x hi=>by simp at hi,by simp only[bK]⟩
 have g:=h.nb d (.bi e []) Y f (λB b=>by cases b) (λB b=>by cases b);exact g.put (O d) (v:=.slice A 0 0) (r:=.view d (s.g d+1) 0 0) ⟨aE,λ_=>by unfold eg;simp only[bK];exact⟨aE,A,rfl⟩⟩
end
section
variable{P:qK}{E:cm}{w0:zI}{I0:aD}{n:Nat}{o:JB}{s:St}{K:St->Prop}
def gY:cy->V (Z cy)
 |.val v=>O (v.cells.map .val)|.bM xs=>O [.bM xs]
 |.dT d g sz i k=>O [.dT d g sz i k]|.view d g off len=>O [.view d g off len]
 |_=>Y
theorem kh{w:zI}{I:aD}{b:Nat->V Bx}{cs:Z cy}(h:b4 P w I be b g v r)(m:gY r=O cs)
  (C:∀d gg sz i k,r=.dT d gg sz i k->gg=g d/\b d≠Y) (D:∀d gg off len,r=.view d gg off len->gg=g d/\∃e xs,b d=O (.bi e xs)):
  v.cells.size=cs.length/\∀(j:Nat)(c:cy),cs[j]?=O c->b4 P w I be b g (v.cells.getD j undef) c:=by
 have one:∀(r:cy)(hv:v.cells=#[v]),b4 P w I be b g v r->v.cells.size=[r].length/\∀(j:Nat)(c:cy),[r][j]?=O c->b4 P w I be b g (v.cells.getD j undef) c:=by
  intro r hv h;rw[hv];refine⟨aE,λj c o=>?_⟩;cases j with
  |zero=>simp at o;subst o;simpa using h|succ j=>simp at o
 cases r with
 |val x=>
  simp only[gY,ax]at m;subst m;have h':cq w I v x:=h;cases h' with
  |fl v E=>exact one _ (by cases v<;>first|rfl|(simp[Tk,Value.oneCell']at E)) h
  |eU c=>exact one _ rfl h|sl a n cap sz xs G L N Q R H J m=>exact one _ rfl h
  |ref p cs G H J m=>exact one _ rfl h|fn f vs caps s m=>exact one _ rfl h
  |mQ t v x m=>exact one _ rfl h|ptr i off B q=>exact one _ rfl h
  |view i sz len B cap e cur A q S T s U=>exact one _ rfl h|kV i sz A cap h _=>exact one _ rfl h
  |mp i B q=>exact one _ rfl h|gx A=>exact one _ rfl h
  |lT f vs first s m=>exact one _ rfl h|agg vs cs s m=>simp only[AV.cells,Value.cells];refine⟨by simp[s],λj c o=>?_⟩;simp only[dC,ck]at o;obtain⟨x,K,rfl⟩:=o;exact m j x K
 |bM xs=>simp only[gY,ax]at m;subst m;obtain⟨A,rfl⟩:=h.2;exact one _ rfl h|dT d gg sz i k=>simp only[gY,ax]at m;subst m;obtain⟨y,z⟩:=C _ _ _ _ _ rfl;obtain⟨B,_,rfl⟩:=tp h y z;exact one _ rfl h
 |view d gg off len=>
  simp only[gY,ax]at m;subst m;obtain⟨y,e,xs,z⟩:=D _ _ _ _ rfl;obtain⟨_,u⟩:=lx h y z;have:∃A l c,v=.slice A l c:=by
   cases q:be d with
   |none=>rw[q]at u;obtain ⟨A,rfl⟩:=u;exact ⟨_,_,_,rfl⟩|some B=>rw[q]at u;obtain ⟨_,_,A,_,_,rfl,_⟩:=u;exact ⟨_,_,_,rfl⟩
  obtain⟨A,l,c,rfl⟩:=this;exact one _ rfl h
 |none=>simp[gY]at m|fK rs=>simp[gY]at m
def PE(s:St):cy->Prop
 |.dT d gg _ _ _=>gg=s.g d/\s.b d≠Y|.view d gg _ _=>gg=s.g d/\∃e xs,s.b d=O (.bi e xs)
 |_=>True
theorem DE{x:qm}(c:o.op=.box t x)(g:aW n o=W)(h:o.dst=O d){cs:Z cy}(j:gY (s.ev x)=O cs)(b:PE s (s.ev x))(l:K (s.jn d cs)):dE P E w0 I0 n o s K:=by
 rintro a w ⟨I,be,f⟩ u;have m:=aG g (x:=x) (by simp[c,Op.operands]) f;have p:(execOp a.eval o).run P w=.ok (.value (.pointer (O ⟨w.heap.size,0,Y⟩))) (w.alloc (.cells (a.eval x).cells t)):=by simp[execOp,c,Instr.box,newVar,newRow]
 refine fm p ⟨_,⟨I,aa be d (O w.heap.size),?_⟩,l⟩;rw[h];obtain⟨q,r⟩:=kh m j (λd gg sz i k e=>by rw[e]at b;exact b) (λd gg off len e=>by rw[e]at b;exact b);exact f.jn (w':=w.alloc (.cells (a.eval x).cells t)) d rfl rfl rfl rfl _ q r
end
structure Tl(P:Program)(w:World)(I:aD)(sz:Nat)(v:Value)(ys:List AV)(news:List Value):Prop where
 len:∀w1,(Builtin.lenOf v).run P w1=.ok ys.length w1
 cells:∀w1,w1.heap=w.heap->∀m,m<=ys.length->(Builtin.firstCells sz m v).run P w1=.ok (news.take (m*sz)).toArray w1
 size:news.length=ys.length*sz
 one:∀u∈news,u.oneCell'=W
 W9:∀(i j:Nat)(y c:AV),ys[i]?=O y->y.cells[j]?=O c->cq w I (news.getD (i*sz+j) undef) c
theorem Md{w:zI}{I:aD}(h:cq w I v c)(a:c.isAgg=F):v.oneCell'=W:=by cases h<;>first|assumption|rfl|(simp[AV.isAgg]at a)
section
variable{P:qK}{w:zI}{I:aD}
theorem Me{a:Mc}(f:Nat->Jz)(s:n=ys.length)(l:∀y∈ys,y.cells.length=sz/\y.wf)
  (o:∀(i j:Nat)(y c:AV),ys[i]?=O y->y.cells[j]?=O c->w.cell? (a.add (i*sz+j))=O (f (i*sz+j))/\cq w I (f (i*sz+j)) c):
  Tl P w I sz (.slice (O a) n cap) ys ((List.range (ys.length*sz)).map f):=by
 have p:∀k,k<ys.length*sz->∃(y c:AV),ys[k/sz]?=O y/\y.cells[k%sz]?=O c/\(k/sz)*sz+k%sz=k:=by
  intro k d;have q:0<sz:=Nat.pos_of_ne_zero (λe=>by subst e;simp at d);have h1:k/sz<ys.length:=by rw[Nat.div_lt_iff_lt_mul q];exact d
  have b:=bS h1;have g:k%sz<ys[k/sz].cells.length:=by rw[(l _ (gw h1)).1];exact Nat.mod_lt _ q
  exact⟨_,_,b,bS g,by rw[tg];exact Nat.div_add_mod k sz⟩
 subst s;refine⟨λw1=>rfl,λw1 t m x=>?_,aE,λu z=>?_,λi j y c h1 b=>?_⟩
 .have G:m*sz<=ys.length*sz:=fR _ x;have A:(((List.range (ys.length*sz)).map f).take (m*sz)).length=m*sz:=by rw[jE,dd,List.length_range];omega
  have B:∀(j:Nat)(v:Jz),(((List.range (ys.length*sz)).map f).take (m*sz))[j]?=O v->w1.cell? (a.add j)=O v:=by
   intro j v hv;rw[gf]at hv;split at hv
   .rename_i H;have r:j<ys.length*sz:=M;rw[Af f r]at hv;injection hv with hv;subst hv;obtain⟨y,c,h1,b,g⟩:=p j r;have h:=(o _ _ y c h1 b).1;rw[g]at h;simpa[World.cell?,t]using h
   .cases hv
  have:=run_loadCells_list (P:=P) w1 a _ B;rw[A]at this;simpa[Builtin.firstCells]using this
 .obtain ⟨k,d,rfl⟩:=dP.1 z;have d:=px.1 d;obtain⟨y,c,h1,b,g⟩:=p k d;have h:=(o _ _ y c h1 b).2;rw[g]at h;exact Md h ((l _ (bF h1)).2 c (bF b))
 .have C:i<ys.length:=(aY.1 h1).1;have D:j<sz:=by rw[<-(l _ (bF h1)).1];exact (aY.1 b).1
  have E:=pC C (a6 _) D;have:=(o i j y c h1 b).2;simpa[E]using this
theorem Hk(sz:Nat)(l c:Nat)(a:l=0):Tl P w I sz (.slice Y l c) [] []:=by
 subst a;refine⟨λw1=>rfl,λw1 _ m b=>?_,aE,aE,λi j y c h=>by simp at h⟩;have:m=0:=by simpa using b
 subst this;simp[Builtin.firstCells]
theorem DF(sz:Nat)(A:V Mc)(c:Nat):Tl P w I sz (.slice A 0 c) [] []:=by
 cases A with
 |none=>exact Hk sz 0 c rfl|some a=>
  refine⟨λw1=>rfl,λw1 _ m b=>?_,aE,aE,λi j y c h=>by simp at h⟩;have:m=0:=by simpa using b
  subst this;simp[Builtin.firstCells,loadCells,loadCellsFrom]
theorem Ak(h:cq w I v (.sl ys))(o:∀y∈ys,y.cells.length=sz):∃news,Tl P w I sz v ys news:=by
 cases h with
 |eU c=>exact ⟨[],Hk sz 0 c rfl⟩|sl a n cap b xs p d A B f q C r=>
  cases ys with
  |nil=>simp at d;subst d;exact⟨[],DF sz _ _⟩|cons y D=>
   have e:b=sz:=by rw[<-(f 0 y rfl).1];exact o y aE
   subst e;refine⟨_,Me (λk=>p (k/b) (k%b)) d (λz s=>?_) (λi j z c g l=>?_)⟩
   .obtain ⟨i,hi,rfl⟩:=gX s;exact f i _ (bS hi)
   .have m:j<b:=by rw[<-(f _ _ g).1];exact (aY.1 l).1
    have t:0<b:=M;have u:(i*b+j)/b=i:=by rw[tg,Nat.mul_add_div t,Nat.div_eq_of_lt m];omega
    have x:(i*b+j)%b=j:=by rw[tg,Nat.mul_add_mod,Nat.mod_eq_of_lt m]
    simp only[u,x];exact⟨q i j z c g l,r i j z c g l⟩
theorem Al{b:Nat->V Bx}(h:b4 P w I be b g v (.view d gg off len))(s:gg=g d)(t:b d=O (.bi e xs))
  (u:ie P w I be b g d (.bi e xs)):∃news,Tl P w I (P.cellsOf e) v ((xs.drop off).take len) news:=by
 obtain⟨x,hv⟩:=lx h s t;obtain⟨z,R,m,f⟩:=u;have empty:∀A c,len=0->v=.slice A len c->∃news,Tl P w I (P.cellsOf e) v ((xs.drop off).take len) news:=by rintro A c rfl rfl;exact⟨[],by simpa using DF (P:=P) (w:=w) (I:=I) (P.cellsOf e) A c⟩
 cases n:be d with
 |none=>
  simp only[n]at hv f;subst f;obtain⟨A,rfl⟩:=hv;have:len=0:=by simp at x;omega
  exact empty A 0 this rfl
 |some B=>
  simp only[n]at hv f;obtain⟨cur,cap,A,hw,o,e1,C⟩:=hv;obtain⟨S,p,l,D,T,E,G⟩:=f;rw[hw]at l;injection l with l;injection l with q1 U;subst q1;have H:p=cap:=(k6 z (o.symm.trans D)).symm;subst H;by_cases J:off<p
  .obtain rfl:=C J;have K:((xs.drop off).take len).length=len:=cM;rw[e1];refine⟨_,Me (λk=>cur.getD (off*P.cellsOf e+k) undef) K.symm (λy L=>?_) (λi j y c a q=>?_)⟩
   .obtain ⟨i,hi,rfl⟩:=gX L;have:=bS hi;rw[gf]at this;split at this
    .rw[kT]at this;exact m _ _ this
    .cases this
   .rw[gf]at a;split at a
    .rw[kT]at a;have N:off+i<xs.length:=(aY.1 a).1;have Q:j<P.cellsOf e:=by rw[<-(m _ _ a).1];exact (aY.1 q).1
     have r:off*P.cellsOf e+(i*P.cellsOf e+j)=(off+i)*P.cellsOf e+j:=by rw[eO];omega
     refine⟨?_,?_⟩
     .rw[dW,pB hw,getD_some];rw[o,r];exact pC N E Q
     .rw[r];exact G _ _ _ _ a q
    .cases a
  .have:len=0:=M;exact empty A _ this e1
theorem CZ{ty:JA}{i:TypeInfo}(b:P.underlying t=O (.slice e))(c:P.underlying u=O du)(d:(∃q,du=.slice q)∨du=.string)(hi:P.info? e=O i)
  {g:Nat} (f:w.heap[g]?=O (.cells cur e (0,0))) (hlen:(Builtin.lenOf v).run P w=.ok m w) (h:(Builtin.firstCells i.size m v).run P w=.ok news.toArray w)
  (j:∀u∈news,u.oneCell'=W) (k:n+m<=cap) (l:n*i.size+news.length<=cur.size):
  (Builtin.append_ #[t,u] ty #[.slice (O ⟨g,0,Y⟩) n cap,v]).run P w=.ok (.slice (O ⟨g,0,Y⟩) (n+m) cap) (w.setRow g (cur.toList.take (n*i.size)++news++cur.toList.drop (n*i.size+news.length)).toArray):=by
 have a:=run_storeCells_at P g (n*i.size) e news 0 cur w f (by simpa using l) j;simp only[lX]at a;rcases d with⟨q,rfl⟩|rfl<;>
  simp[Builtin.append_,ef b,ef c,sizeOf,typeInfo,hi,hlen,k,h,dW,a]
theorem l8{ty:JA}{i:TypeInfo}(a:P.underlying t=O (.slice e))(b:P.underlying u=O du)(c:(∃q,du=.slice q)∨du=.string)(hi:P.info? e=O i)
   (hlen:(Builtin.lenOf v).run P w=.ok 0 w) (d:(Builtin.firstCells i.size 0 v).run P w=.ok #[] w):
  (Builtin.append_ #[t,u] ty #[.slice A 0 0,v]).run P w=.ok (.slice A 0 0) w:=by
 rcases c with⟨q,rfl⟩|rfl<;>cases A<;>
  simp[Builtin.append_,ef a,ef b,sizeOf,typeInfo,hi,hlen,d,storeCells]
theorem q8{ty:JA}{i:TypeInfo}(a:P.underlying t=O (.slice e))(b:P.underlying u=O du)(c:(∃q,du=.slice q)∨du=.string)(hi:P.info? e=O i)(hz:i.zero=O z)
   {olds:Z Jz} (hlen:(Builtin.lenOf v).run P w=.ok m w) (d:(Builtin.firstCells i.size m v).run P w.drew=.ok news.toArray w.drew)
  (f:(Builtin.firstCells i.size n (.slice A n cap)).run P w.drew=.ok olds.toArray w.drew) (k:cap<n+m) (l:((n+m:Nat):Int)<=9223372036854775807) (o:Builtin.nextslicecap (n+m) cap*i.bytes<=281474976710656):
  (Builtin.append_ #[t,u] ty #[.slice A n cap,v]).run P w=.ok (.slice (O ⟨w.heap.size,0,Y⟩) (n+m) (grownCap w (n+m) cap e)) (w.drew.alloc (.cells (olds.toArray++news.toArray++Builtin.zeroCells z.cells (grownCap w (n+m) cap e-(n+m))) e)):=by
 have g:¬(n+m<=cap):=M;have h:¬(9223372036854775807<((n:Int)+(m:Int))):=M;have j:¬(281474976710656<Builtin.nextslicecap (n+m) cap*i.bytes):=M;rcases c with⟨q,rfl⟩|rfl<;>
  (simp[Builtin.append_,ef a,ef b,sizeOf,typeInfo,zeroValue,hi,hz,hlen,g,h,j,Question.forced,d,f,newRow,grownCap]
   try(congr 2;apply Array.ext';simp[uE]))
end
theorem tq{i:TypeInfo}(hi:P.info? e=O i):P.bytesOf e=i.bytes:=by simp[Program.bytesOf,hi]
theorem rX{i:TypeInfo}(hi:P.info? e=O i):P.cellsOf e=i.size:=by simp[Program.cellsOf,hi]
section
variable{P:qK}{E:cm}{w0:zI}{I0:aD}{n:Nat}{s:St}{a:Act}{w w':zI}{I:aD}{be:Nat->V Nat}
theorem tr(n:∀(i j:Nat)(x c:AV),xs[i]?=O x->x.cells[j]?=O c->cq w I (cur.getD (i*sz+j) undef) c)
  (o:∀x∈xs,x.cells.length=sz) (p:k=xs.length) (v:k*sz<=cur.size) (q:news.length=ys.length*sz)
  (r:∀(i j:Nat)(y c:AV),ys[i]?=O y->y.cells[j]?=O c->cq w I (news.getD (i*sz+j) undef) c) (s:∀y∈ys,y.cells.length=sz) (d:Z Jz):
  ∀(i j:Nat)(x c:AV),(xs++ys)[i]?=O x->x.cells[j]?=O c->cq w I ((cur.toList.take (k*sz)++news++d).toArray.getD (i*sz+j) undef) c:=by
 subst p;intro i j x c a b;have e:(cur.toList.take (xs.length*sz)).length=xs.length*sz:=cM;by_cases hi:i<xs.length
 .rw[fx hi]at a;have f:j<sz:=by rw[<-o x (bF a)];exact (aY.1 b).1
  have g:=pC hi (a6 _) f;have h:=n i j x c a b;have l:(cur.toList.take (xs.length*sz)++news++d).toArray.getD (i*sz+j) undef=cur.getD (i*sz+j) undef:=by simp only[jl,zP,uE];rw[fx (by rw[e];exact g),gf,aj g,jO]
  rw[l];exact h
 .have m:xs.length<=i:=M;rw[im m]at a;have f:j<sz:=by rw[<-s x (bF a)];exact (aY.1 b).1
  have t:i-xs.length<ys.length:=(aY.1 a).1;have g:=pC t (a6 _) f;have h:=r _ j x c a b;have u:i*sz+j=xs.length*sz+((i-xs.length)*sz+j):=by rw[Nat.sub_mul];have:xs.length*sz<=i*sz:=fR _ m;omega
  have l:(cur.toList.take (xs.length*sz)++news++d).toArray.getD (i*sz+j) undef=news.getD ((i-xs.length)*sz+j) undef:=by simp only[jl,zP,uE,qo];rw[im (by rw[e,u];omega),e,fx (by rw[q];omega)];congr 2;omega
  rw[l];exact h
theorem uN(a:kW P e xs)(b:kW P e ys):kW P e (xs++ys):=by
 intro x c;rcases dR.1 c with h|h
 .exact a x h
 .exact b x h
theorem aL.append (h:aL P E w0 I0 n s a w I be) {ty:JA} {i:TypeInfo} (c0:P.underlying t=O (.slice e)) (d0:P.underlying u=O du) (e0:(∃q,du=.slice q)∨du=.string) (hi:P.info? e=O i) (Q0:i.zero=O z) (R0:z.cells.size=i.size)
  (d d' k:Nat) (hv:b4 P w I be s.b s.g v (.view d' gg 0 k)) (D0:gg=s.g d') (f0:s.b d'=O (.bi e xs)) (f:Tl P w I (P.cellsOf e) v2 ys news) (m0:kW P e ys) (n0:k+ys.length<=maxLen) (S0:(k+ys.length)*P.bytesOf e<=140737488355328):
  ∃T w' CT,(Builtin.append_ #[t,u] ty #[v,v2]).run P w=.ok T w'/\aL P E w0 I0 n (({s with b:=aa s.b d' Y}:St).cH d e (xs.take k++ys)) (a.put (O d) T) w' I CT:=by
 have T0:=h.bG d' _ f0;have U:s.b d'≠Y:=by simp[f0]
 obtain⟨N,U0,E0,X⟩:=T0;obtain⟨G0,g0⟩:=lx hv D0 f0;have h0:=h.drop d';have Q:(xs.take k).length=k:=cM;have o0:kW P e (xs.take k):=λx g=>by
  obtain⟨j,X0,rfl⟩:=gX g;have:=bS X0;rw[gf]at this;split at this
  .exact E0 _ _ this
  .cases this
 have H0:=uN o0 m0;have G:=rX hi;have a1:=tq hi;have R:(xs.take k++ys).length=k+ys.length:=by rw[ey,Q]
 have out:∀(A:V Mc)(cap:Nat)(olds:Z Jz),v=.slice A k cap->(∀w1,w1.heap=w.heap->(Builtin.firstCells (P.cellsOf e) k v).run P w1=.ok olds.toArray w1)->olds.length=k*P.cellsOf e->
   (∀(i j:Nat)(x c:AV),(xs.take k)[i]?=O x->x.cells[j]?=O c->cq w I (olds.getD (i*P.cellsOf e+j) undef) c)->cap<k+ys.length->
   ∃T w' CT,(Builtin.append_ #[t,u] ty #[v,v2]).run P w=.ok T w'/\aL P E w0 I0 n (({s with b:=aa s.b d' Y}:St).cH d e (xs.take k++ys)) (a.put (O d) T) w' I CT:=by
  intro A cap olds e1 b1 p0 c1 i0;have q0:=growslice_fits i0 (a1▸S0);have C:=f.cells w.drew rfl ys.length (a6 _);rw[dh (by rw[f.size];exact a6 _)]at C;have H:=q8 (w:=w) (ty:=ty) c0 d0 e0 hi Q0 (A:=A) (n:=k) (cap:=cap) (m:=ys.length) (v:=v2) (olds:=olds) (news:=news) (f.len w) (by rw[<-G];exact C) (by rw[<-G,<-e1];exact b1 w.drew rfl) i0 (by simp only[maxLen]at n0;omega) q0;have d1:=grownCap_ge w (k+ys.length) cap e;have r0:grownCap w (k+ys.length) cap e<=maxLen:=grownCap_le_maxLen w (k+ys.length) cap e n0;have a0:(olds.toArray++news.toArray++Builtin.zeroCells z.cells (grownCap w (k+ys.length) cap e-(k+ys.length))).size=grownCap w (k+ys.length) cap e*P.cellsOf e:=by simp only[Array.size_append,oz,size_zeroCells,R0,p0,f.size,<-G,<-eO];congr 1;omega
  have J0:=h0.cH (w':=w.drew.alloc (.cells (olds.toArray++news.toArray++Builtin.zeroCells z.cells (grownCap w (k+ys.length) cap e-(k+ys.length))) e)) d rfl rfl rfl rfl (xs.take k++ys) N a0 r0 (by rw[R];exact d1) H0
   (λi j x c g s0=>by
     have:=tr (w:=w) (I:=I) (sz:=P.cellsOf e) (k:=k) (xs:=xs.take k) (ys:=ys) (cur:=olds.toArray) (news:=news) (λi j x c l J=>by simpa using c1 i j x c l J) (λx g=>(o0 x g).1) Q.symm (by simp[p0]) f.size f.W9 (λy S=>(m0 y S).1) (Builtin.zeroCells z.cells (grownCap w (k+ys.length) cap e-(k+ys.length))).toList i j x c g s0;rw[dh (by simp[p0])]at this;have f1:(olds.toArray.toList++news++(Builtin.zeroCells z.cells (grownCap w (k+ys.length) cap e-(k+ys.length))).toList).toArray=olds.toArray++news.toArray++Builtin.zeroCells z.cells (grownCap w (k+ys.length) cap e-(k+ys.length)):=by apply Array.ext';simp
     rw[f1]at this;exact this)
  refine⟨_,_,aa be d (O w.heap.size),by rw[e1];exact H,?_⟩;rw[R]at J0;exact J0
 obtain⟨olds,pE⟩:=Al hv D0 f0 ⟨N,U0,E0,X⟩;simp only[uF]at pE;have K0:∀w1,w1.heap=w.heap->(Builtin.firstCells (P.cellsOf e) k v).run P w1=.ok olds.toArray w1:=λw1 g1=>by have:=pE.cells w1 g1 k (by rw[Q];exact a6 _);rwa[dh (by rw[pE.size,Q];exact a6 _)]at this
 have L0:olds.length=k*P.cellsOf e:=by rw[pE.size,Q]
 cases K:be d' with
 |none=>
  simp only[K]at g0 X;subst X;obtain⟨A,e1⟩:=g0;have t0:k=0:=by simp at G0;exact G0
  subst t0;by_cases S:ys=[]
  .subst S;have u0:news=[]:=nQ (by rw[f.size];simp);subst u0;have C:=f.cells w rfl 0 (a6 _);have H:=l8 (w:=w) (ty:=ty) c0 d0 e0 hi (A:=A) (v:=v2) (f.len w) (by rw[<-G];simpa using C);exact⟨_,_,aa be d Y,by rw[e1];exact H,by simpa using h0.Aj d e N A⟩
  .exact out A 0 olds e1 K0 L0 (λi j x c l J=>pE.W9 i j x c l J) (by have:=Mb.2 S;omega)
 |some B=>
  simp only[K]at g0 X;obtain⟨cur,cap,A,hw,a0,e1,i1⟩:=g0;obtain⟨D1,o,j0,j1,r0,E1,k1⟩:=X;rw[hw]at j0;injection j0 with j0;injection j0 with q1 G1;subst q1;have i0:o=cap:=(k6 N (a0.symm.trans j1)).symm;subst i0;simp only[oA]at e1;by_cases v0:k+ys.length<=o
  .by_cases l1:0<o
   .have N0:=i1 l1;simp only[lY]at N0;subst N0;obtain⟨o1,o2,o3,x0⟩:=h.bU d' B U K;have C:=f.cells w rfl ys.length (a6 _);rw[dh (by rw[f.size];exact a6 _)]at C;have q0:k*i.size+news.length<=cur.size:=by rw[f.size,a0,<-G,<-eO];exact fR _ v0
    have H:=CZ (w:=w) (ty:=ty) c0 d0 e0 hi (n:=k) (cap:=o) hw (f.len w) (by rw[<-G];exact C) f.one v0 q0;have m1:=h0.Ts (w':=w.setRow B (cur.toList.take (k*i.size)++news++cur.toList.drop (k*i.size+news.length)).toArray) (λb=>b=B)
     (λb y0=>by subst y0;exact ⟨o1,o3,x0,λb0 l0 n1=>by
       by_cases L:b0=d'
       .subst L;simp at l0
       .simp only[aJ _ _ L]at l0;exact L (h.inj b0 d' _ l0 U n1 K)⟩) (λi B' hi D e=>by subst e;exact (h.bb.bU i _ hi D).2.2.2.2 ⟨d',U,K⟩)
     (rW (λk A0 _=>na w B k _ A0) hw (oB w B cur _ e (0,0) hw) (by simp only[oz,ey,jE,zQ,nP];omega)) rfl rfl rfl aE (λb H1 p1=>na w B b _ p1)
    have B0:=oB w B cur (cur.toList.take (k*i.size)++news++cur.toList.drop (k*i.size+news.length)).toArray e (0,0) hw;have r1:dD w (w.setRow B (cur.toList.take (k*i.size)++news++cur.toList.drop (k*i.size+news.length)).toArray) I I:=.world (λp v s1 hv=>by rw[dw (na w B p.block _ (o3 p s1))];exact hv) (rW (λk A0 _=>na w B k _ A0) hw B0 (by simp only[oz,ey,jE,zQ,nP];omega));have P0:(cur.toList.take (k*i.size)++news++cur.toList.drop (k*i.size+news.length)).toArray.size=o*P.cellsOf e:=by simp only[oz,ey,jE,zQ,nP];omega
    have g:ie P (w.setRow B (cur.toList.take (k*i.size)++news++cur.toList.drop (k*i.size+news.length)).toArray) I (aa be d (O B)) (aa (aa s.b d' Y) d (O (.bi e (xs.take k++ys)))) (aa s.g d (s.g d+1)) d (.bi e (xs.take k++ys)):=by
     refine⟨N,by rw[R];exact n0,λi x hi=>H0 x (bF hi),?_⟩;simp only[bK];refine⟨_,o,B0,P0,r0,by rw[R];exact v0,λi2 j x c g s0=>?_⟩;have:=tr (w:=w) (I:=I) (sz:=P.cellsOf e) (k:=k) (xs:=xs.take k) (ys:=ys) (cur:=cur) (news:=news)
      (λi j x c l J=>by
        rw[gf]at l;split at l
        .exact k1 i j x c l J
        .cases l) (λx g=>(o0 x g).1) Q.symm (by rw[a0];exact fR _ M) f.size f.W9 (λy S=>(m0 y S).1) (cur.toList.drop (k*i.size+news.length)) i2 j x c g s0
     rw[G]at this⊢;exact this.mono r1
    have t1:∀b,E.cB (w.setRow B (cur.toList.take (k*i.size)++news++cur.toList.drop (k*i.size+news.length)).toArray) b->E.cB w b:=(E.jm w _ h.since.h5 (λb y0=>na w B b _ (λe=>x0 (e▸y0)))).2;have u1:=m1.nb d (.bi e (xs.take k++ys)) (O B) g (λB' D=>by
     injection D with D;subst D;refine⟨o1,by simpa using o2,o3,λv1=>x0 (t1 _ v1),λb0 l0 C0 x1=>?_⟩;by_cases L:b0=d'
     .subst L;simp at C0
     .simp only[aJ _ _ L]at C0;exact L (h.inj b0 d' _ C0 U x1 K)) (λB' D i hi y1=>by
     injection D with D;subst D;exact(h.bb.bU i _ hi y1).2.2.2.2 ⟨d',U,K⟩)
    have A1:=u1.put (O d) (v:=.slice (O ⟨B,0,Y⟩) (k+ys.length) o) (r:=.view d (s.g d+1) 0 (k+ys.length)) ⟨aE,λ_=>by unfold eg;simp only[bK];exact⟨by rw[R];omega,_,o,O ⟨B,0,Y⟩,B0,P0,aE,λ_=>aE⟩⟩;refine⟨_,_,aa be d (O B),by rw[e1];exact H,?_⟩;unfold St.cH;rw[R];exact A1
   .have t0:k=0:=M;have B1:ys=[]:=nQ M;have C1:o=0:=M;subst t0 B1 C1;have u0:news=[]:=nQ (by rw[f.size];simp);subst u0;have C:=f.cells w rfl 0 (a6 _);have H:=l8 (w:=w) (ty:=ty) c0 d0 e0 hi (A:=A) (v:=v2) (f.len w) (by rw[<-G];simpa using C);exact⟨_,_,aa be d Y,by rw[e1];exact H,by simpa using h0.Aj d e N A⟩
  .exact out A o olds e1 K0 L0 (λi j x c l J=>pE.W9 i j x c l J) M
theorem aL.JZ (h:aL P E w0 I0 n s a w I be) {ty:JA} {i:TypeInfo} (C:P.underlying t=O (.slice e)) (D:P.underlying u=O du) (G:(∃q,du=.slice q)∨du=.string) (hi:P.info? e=O i) (T:i.zero=O z) (U:z.cells.size=i.size)
  (d:Nat) (hv:b4 P w I be s.b s.g v (.bM xs)) (H:0<P.cellsOf e) (r:kW P e xs) (b:Tl P w I (P.cellsOf e) v2 ys news) (J:kW P e ys) (X:xs=[]∨ys≠[]) (K:xs.length+ys.length<=maxLen) (a0:(xs.length+ys.length)*P.bytesOf e<=140737488355328):
  ∃L w' CT,(Builtin.append_ #[t,u] ty #[v,v2]).run P w=.ok L w'/\aL P E w0 I0 n (s.cH d e (xs++ys)) (a.put (O d) L) w' I CT:=by
 obtain⟨b0,A,g⟩:=hv;have c0:=uN r J;have l:=rX hi;have d0:=tq hi;have N:(xs++ys).length=xs.length+ys.length:=ey;by_cases o:ys=[]
 .subst o;have e0:xs=[]:=by rcases X with h|h<;>first|exact h|exact absurd rfl h
  subst e0;have f0:news=[]:=nQ (by rw[b.size];simp);subst f0;have p:=b.cells w rfl 0 (a6 _);simp only[kU]at g;have B:=l8 (w:=w) (ty:=ty) C D G hi (A:=A) (v:=v2) (b.len w) (by rw[<-l];simpa using p);exact⟨_,_,aa be d Y,by rw[g];exact B,by simpa using h.Aj d e H A⟩
 .have Q:xs.length<xs.length+ys.length:=by have:=Mb.2 o;omega
  obtain⟨olds,pE⟩:=Ak (P:=P) b0 (λx f=>(r x f).1);have g0:=growslice_fits Q (d0▸a0);have p:=b.cells w.drew rfl ys.length (a6 _);rw[dh (by rw[b.size];exact a6 _)]at p;have R:=pE.cells w.drew rfl xs.length (a6 _);rw[dh (by rw[pE.size];exact a6 _),g]at R;have B:=q8 (w:=w) (ty:=ty) C D G hi T (A:=A) (n:=xs.length) (cap:=xs.length) (m:=ys.length) (v:=v2) (olds:=olds) (news:=news) (b.len w) (by rw[<-l];exact p) (by rw[<-l];exact R) Q (by simp only[maxLen]at K;omega) g0;have h0:=grownCap_ge w (xs.length+ys.length) xs.length e;have i0:grownCap w (xs.length+ys.length) xs.length e<=maxLen:=grownCap_le_maxLen w (xs.length+ys.length) xs.length e K;have j0:(olds.toArray++news.toArray++Builtin.zeroCells z.cells (grownCap w (xs.length+ys.length) xs.length e-(xs.length+ys.length))).size=grownCap w (xs.length+ys.length) xs.length e*P.cellsOf e:=by simp only[Array.size_append,oz,size_zeroCells,U,pE.size,b.size,<-l,<-eO];congr 1;omega
  have S:=h.cH (w':=w.drew.alloc (.cells (olds.toArray++news.toArray++Builtin.zeroCells z.cells (grownCap w (xs.length+ys.length) xs.length e-(xs.length+ys.length))) e)) d rfl rfl rfl rfl (xs++ys) H j0 i0 (by rw[N];exact h0) c0
   (λi j x c f l0=>by
     have:=tr (w:=w) (I:=I) (sz:=P.cellsOf e) (k:=xs.length) (xs:=xs) (ys:=ys) (cur:=olds.toArray) (news:=news) (λi j x c m0 n0=>by simpa using pE.W9 i j x c m0 n0) (λx f=>(r x f).1) rfl (by simp[pE.size]) b.size b.W9 (λy o=>(J y o).1) (Builtin.zeroCells z.cells (grownCap w (xs.length+ys.length) xs.length e-(xs.length+ys.length))).toList i j x c f l0;rw[dh (by simp[pE.size])]at this;have o0:(olds.toArray.toList++news++(Builtin.zeroCells z.cells (grownCap w (xs.length+ys.length) xs.length e-(xs.length+ys.length))).toList).toArray=olds.toArray++news.toArray++Builtin.zeroCells z.cells (grownCap w (xs.length+ys.length) xs.length e-(xs.length+ys.length)):=by apply Array.ext';simp
     rw[o0]at this;exact this)
  refine⟨_,_,aa be d (O w.heap.size),by rw[g];exact B,?_⟩;rw[N]at S;exact S
end
def iH(P:qK)(s:St)(e:JA):cy->V (Z AV)
 |.val (.sl ys)=>O ys|.val .gx=>O []
 |.bM ys=>O ys|.val (.fl (.string b))=>if P.cellsOf e=1 then O (b.data.toList.map λx=>.fl (.int .u8 x.toNat))else Y
 |.view d gg off len=>match s.b d with
  |some (.bi e' xs)=>if e'=e/\gg=s.g d then O ((xs.drop off).take len)else Y|_=>Y
 |.val (.view i sz len)=>match s.a i with
  |some (.bi e' xs)=>if e'=e/\sz=P.cellsOf e/\len<=xs.length then O (xs.take len)else Y|_=>Y
 |_=>Y
section
variable{P:qK}{E:cm}{w0:zI}{I0:aD}{n:Nat}{o:JB}{s:St}{K:St->Prop}{a:Act}{w:zI}{I:aD}{be:Nat->V Nat}
theorem V2{b:ByteArray}:Tl P w I 1 (.string b) (b.data.toList.map λx=>.fl (.int .u8 x.toNat)) (b.data.toList.map λx=>.int .u8 x.toNat):=by
 refine⟨λw1=>by simp[Builtin.lenOf],λw1 h m f=>?_,aE,by simp[Value.oneCell'],λi j y c d a=>?_⟩
 .have k:m<=b.data.size:=by simpa using f
  simp only[Builtin.firstCells,cF,zY];congr 1;apply Array.ext';simp[ByteArray.extract,ByteArray.copySlice]
 .simp only[dC,ck]at d;obtain⟨x,g,rfl⟩:=d;simp only[AV.cells]at a;cases j with
  |succ j=>simp at a|zero=>
   simp at a;subst a;have e:(b.data.toList.map λx=>Value.int .u8 x.toNat).getD (i*1+0) undef=.int .u8 x.toNat:=by rw[zY,lX,qo,dC,g];rfl
   rw[e];exact .fl _ rfl
theorem wJ(t:aL P E w0 I0 n s a w I be)(h:b4 P w I be s.b s.g v r)(b:iH P s e r=O ys)(z:kW P e ys):∃news,Tl P w I (P.cellsOf e) v ys news:=by
 cases r with
 |val x=>
  cases x with
  |sl zs=>simp only[iH,ax]at b;subst b;exact Ak h (λy b=>(z y b).1)|gx=>
   simp only[iH,ax]at b;subst b;refine Ak (ys:=[]) ?_ (λy b=>by cases b);cases(show cq w I v .gx from h)with
   |gx A=>
    cases A with
    |none=>exact .eU 0|some a=>exact .sl a 0 0 0 [] (λ_ _=>undef) rfl (a6 _) (dS _) (λi x h=>by simp at h) (λi j x c h=>by simp at h) (λi j x c h=>by simp at h) (λi j x c h=>by simp at h)
  |fl u=>
   cases u<;>simp only[iH,reduceCtorEq]at b;split at b
   .rename_i g;injection b with b;subst b;have f:=cb h;subst f;rw[g];exact⟨_,V2⟩
   .cases b
  |view i sz len=>
   simp only[iH]at b;cases m:s.a i with
   |none=>simp[m]at b|some x=>
    cases x with
    |cells cs=>simp[m]at b|map b0=>simp[m]at b
    |bi e' xs=>
     simp only[m]at b;split at b
     .rename_i g;obtain⟨rfl,rfl,c0⟩:=g;injection b with b;subst b;obtain⟨B,H,J⟩:=t.bb.hC i _ m;cases(show cq w I v (.view i (P.cellsOf e') len)from h)with
      |view _ _ _ B' cap p cur A o C D d0 K=>
       rw[H]at o;injection o with o;subst o;obtain⟨q1,L,N,G⟩:=J;have Q:=G;obtain⟨e0,q,l,R,f0,g0,h0⟩:=G;rw[C]at l;injection l with l;injection l with l S;subst l S;have T:q=cap:=k6 q1 (R.symm.trans D);subst T;have f:ie P w I (λ_=>O B) (λ_=>O (.bi p xs)) (λ_=>0) 0 (.bi p xs):=⟨q1,L,N,Q⟩
       have hv:b4 P w I (λ_=>O B) (λ_=>O (.bi p xs)) (λ_=>0) (.slice A len q) (.view 0 0 0 len):=⟨a6 _,λ_=>⟨M,cur,q,A,C,D,aE,λg=>by simpa using K g⟩⟩
       have:=Al hv rfl rfl f;simpa using this
      |kV _ _ A cap U _=>
       have X:cq w I (.slice A 0 cap) (.sl []):=by
        cases A with
        |none=>exact .eU cap|some a=>exact .sl a 0 cap 0 [] (λ_ _=>undef) rfl (dS _) U (λi x h=>by simp at h) (λi j x c h=>by simp at h) (λi j x c h=>by simp at h) (λi j x c h=>by simp at h)
       have:=Ak (P:=P) (sz:=P.cellsOf e') X (λy b=>by simp at b);simpa using this
     .cases b
  |_=>simp[iH]at b
 |bM zs=>simp only[iH,ax]at b;subst b;exact Ak h.1 (λy b=>(z y b).1)|view d gg off len=>
  simp only[iH]at b;cases f:s.b d with
  |none=>simp[f]at b|some bx=>
   cases bx with
   |cells cs=>simp[f]at b|bi e' xs=>
    simp only[f]at b;split at b
    .rename_i g;obtain⟨rfl,a0⟩:=g;injection b with b;subst b;exact Al h a0 f (t.bG d _ f)
    .cases b
 |none=>simp[iH]at b|dT d gg sz i k=>simp[iH]at b
 |fK rs=>simp[iH]at b
def ly(P:qK)(u:JA):tl:=
 match P.underlying u with
 |some (.slice _)|some .string=>W|_=>F
theorem uO(h:ly P u=W):∃du,P.underlying u=O du/\((∃q,du=.slice q)∨du=.string):=by
 unfold ly at h;split at h
 .rename_i q a;exact ⟨_,a,.inl ⟨_,rfl⟩⟩
 .rename_i a;exact ⟨_,a,.inr rfl⟩
 .cases h
def uP(P:qK)(e:JA):Prop:=0<P.cellsOf e/\∃i z,P.info? e=O i/\i.zero=O z/\z.cells.size=i.size
theorem fL{b:Builtin}(c:o.op=.call {callee:=.builtin b,args:=args,argTypes:=argTypes})(a:Act):
  ∃cs,execOp a.eval o=builtin b argTypes o.type cs (args.map a.eval):=by
 exact⟨_,by simp only[execOp,c,resolve,invoke];rfl⟩
theorem nS{x:qm}(f:o.op=.call {callee:=.builtin .append,args:=#[x,y],argTypes:=#[t,u]})(g:aW n o=W)(l:o.dst=O d)
  (m:P.underlying t=O (.slice e)) (p:ly P u=W) (q:uP P e) (r:s.ev x=.view d' gg 0 k) (A:gg=s.g d') (B:s.b d'=O (.bi e xs)) (C:iH P s e (s.ev y)=O ys)
  (h:kW P e ys) (D:k+ys.length<=maxLen) (G:(k+ys.length)*P.bytesOf e<=140737488355328) (H:K (({s with b:=aa s.b d' Y}:St).cH d e (xs.take k++ys))):dE P E w0 I0 n o s K:=by
 rintro a w ⟨I,be,c⟩ a0;obtain⟨du,J,L⟩:=uO p;obtain⟨b0,i,z,hi,hz,N⟩:=q;have j:=aG g (x:=x) (by simp[f,Op.operands,Call.operands]) c;have Q:=aG g (x:=y) (by simp[f,Op.operands,Call.operands]) c;rw[r]at j;obtain⟨news,R⟩:=wJ c Q C h;obtain⟨S,w',CT,T,U⟩:=c.append (ty:=o.type) m J L hi hz N d d' k j A B R h D G;refine fm (v:=S) (w':=w') ?_ ⟨_,⟨I,CT,by rw[l];exact U⟩,H⟩;obtain⟨cs,X⟩:=fL f a;rw[X];simp[builtin,T]
theorem nT{x:qm}(c:o.op=.call {callee:=.builtin .append,args:=#[x,y],argTypes:=#[t,u]})(f:aW n o=W)(j:o.dst=O d)
  (k:P.underlying t=O (.slice e)) (l:ly P u=W) (m:uP P e) (p:s.ev x=.bM xs) (q:kW P e xs) (r:iH P s e (s.ev y)=O ys)
  (g:kW P e ys) (A:xs=[]∨ys≠[]) (B:xs.length+ys.length<=maxLen) (C:(xs.length+ys.length)*P.bytesOf e<=140737488355328) (D:K (s.cH d e (xs++ys))):dE P E w0 I0 n o s K:=by
 rintro a w ⟨I,be,b⟩ X;obtain⟨du,G,H⟩:=uO l;obtain⟨J,i,z,hi,hz,L⟩:=m;have h:=aG f (x:=x) (by simp[c,Op.operands,Call.operands]) b;have N:=aG f (x:=y) (by simp[c,Op.operands,Call.operands]) b;rw[p]at h;obtain⟨news,Q⟩:=wJ b N r g;obtain⟨R,w',CT,S,T⟩:=b.JZ (ty:=o.type) k G H hi hz L d h J q Q g A B C;refine fm (v:=R) (w':=w') ?_ ⟨_,⟨I,CT,by rw[j];exact T⟩,D⟩;obtain⟨cs,U⟩:=fL c a;rw[U];simp[builtin,S]
def gy(s:St):cy->V Nat
 |.val (.sl xs)=>O xs.length|.bM xs=>O xs.length
 |.val (.fl (.string b))=>O b.size|.view d gg _ len=>match s.b d with
  |some (.bi _ _)=>if gg=s.g d then O len else Y|_=>Y
 |_=>Y
theorem wK{x:qm}{t:JA}(q:o.op=.call {callee:=.builtin .len,args:=#[x],argTypes:=#[t]})(C:aW n o=W)(L:ly P t=W){m:Nat}(b:gy s (s.ev x)=O m)
  (h:match s.ev x with|.val (.fl _)=>P.underlying t=O .string|_=>∃e,P.underlying t=O (.slice e)):dQ P E w0 I0 n o s (.val (.fl (.int .i64 m))):=by
 intro a w I be D;have j:=aG C (x:=x) (by simp[q,Op.operands,Call.operands]) D;refine⟨.int .i64 m,?_,.fl _ rfl⟩;obtain⟨cs,G⟩:=fL q a;rw[G];have slice:∀(e:JA)(A:V Mc)(c:Nat),P.underlying t=O (.slice e)->a.eval x=.slice A m c->(builtin .len #[t] o.type cs #[a.eval x]).run P w=.ok (.value (.int .i64 m)) w:=by intro e A c f l;simp[builtin,Builtin.len_,ef f,l,goInt]
 simp only[List.map_toArray,dy,qU];generalize N:s.ev x=r at*;cases r with
 |val y=>
  cases y with
  |sl xs=>
   simp only[gy,ax]at b;subst b;obtain⟨e,f⟩:=h;have H:cq w I (a.eval x) (.sl xs):=j;generalize hv:a.eval x=v at*;cases H with
   |eU c=>exact slice e Y c f rfl|sl p Q cap sz xs R J S T U X a0 b0=>subst J;exact slice e _ _ f rfl
  |fl u=>
   cases u<;>simp only[gy,reduceCtorEq]at b;injection b with b
   subst b;have g:=cb j;simp[builtin,Builtin.len_,ef h,g,goInt]
  |_=>simp[gy]at b
 |bM xs=>simp only[gy,ax]at b;subst b;obtain⟨e,f⟩:=h;obtain⟨A,l⟩:=j.2;exact slice e A _ f l|view d gg off len=>
  simp only[gy]at b;obtain⟨e,f⟩:=h;cases g:s.b d with
  |none=>simp[g]at b|some bx=>
   cases bx with
   |cells cs=>simp[g]at b|bi e' xs=>
    simp only[g]at b;split at b
    .rename_i K;injection b with b;subst b;obtain⟨_,hv⟩:=lx j K g;cases z:be d with
     |none=>rw[z]at hv;obtain ⟨A,hv⟩:=hv;exact slice e A _ f hv|some B=>rw[z]at hv;obtain ⟨_,_,A,_,_,hv,_⟩:=hv;exact slice e A _ f hv
    .cases b
 |none=>simp[gy]at b|dT d gg sz i k=>simp[gy]at b
 |fK rs=>simp[gy]at b
end
def bd{α:Type}(cs:Z α)(k:Nat)(vs:Z α):Z α:=cs.take k++vs++cs.drop (k+vs.length)
theorem bI{cs vs:Z α}(h:k+vs.length<=cs.length):(bd cs k vs).length=cs.length:=by simp[bd];omega
theorem cD{cs vs:Z α}(h:k+vs.length<=cs.length)(j:Nat):(bd cs k vs)[j]?=if j<k then cs[j]? else if j<k+vs.length then vs[j-k]? else cs[j]?:=by
 have a:(cs.take k).length=k:=cM;unfold bd;by_cases b:j<k
 .rw[aj b,uE,fx (by rw[a];exact b),gf,aj b]
 .rw[ai b];by_cases c:j<k+vs.length
  .rw[aj c,uE,im (by rw[a];omega),a,fx M]
  .rw[ai c,uE,im (by rw[a];omega),a,im M,kT];congr 1;omega
def E8:cy->Prop
 |.val x=>x.wf|.bM _=>True
 |.dT _ _ _ _ _=>True|.view _ _ _ _=>True
 |_=>False
section
variable{P:qK}{E:cm}{w0:zI}{I0:aD}{n:Nat}{o:JB}{s:St}{K:St->Prop}{a:Act}{w:zI}{I:aD}{be:Nat->V Nat}{b:Nat->V Bx}{g:Nat->Nat}
theorem J6(h:b4 P w I be b g v (.view d gg off len))(i:gg=g d)(j:b d=O (.bi e xs)):∃A l c,v=.slice A l c:=by
 obtain⟨_,a⟩:=lx h i j;cases f:be d with
 |none=>rw[f]at a;obtain ⟨A,rfl⟩:=a;exact ⟨_,_,_,rfl⟩|some B=>rw[f]at a;obtain ⟨_,_,A,_,_,rfl,_⟩:=a;exact ⟨_,_,_,rfl⟩
theorem pF(h:b4 P w I be b g v r)(y:E8 r)
  (E:∀d gg sz i k,r=.dT d gg sz i k->gg=g d/\b d≠Y) (G:∀d gg off len,r=.view d gg off len->gg=g d/\∃e xs,b d=O (.bi e xs)):∀u∈v.cells.toList,u.oneCell'=W:=by
 cases r with
 |val x=>
  have h':cq w I v x:=h;have H:x.wf:=y;cases h' with
  |fl v J=>
   intro u m;cases v<;>first
    |(simp[Tk,Value.oneCell']at J;done)
    |(simp[Value.cells]at m;subst m;rfl)
  |agg vs cs z o=>intro u m;simp only[Value.cells,Array.mem_toList_iff]at m;obtain⟨j,K,rfl⟩:=Array.getElem_of_mem m;have C:j<cs.length:=M;have q:=o j cs[j] (bS C);have s:=Md q (H _ (gw C));simpa[K]using s|eU c=>intro u m;simp[Value.cells]at m;subst m;rfl|sl a n cap sz xs L R S T U N Q o=>intro u m;simp[Value.cells]at m;subst m;rfl
  |ref p cs L N Q o=>intro u m;simp[Value.cells]at m;subst m;rfl|fn f vs caps z o=>intro u m;simp[Value.cells]at m;subst m;rfl
  |mQ t v x o=>intro u m;simp[Value.cells]at m;subst m;rfl|ptr i off B D=>intro u m;simp[Value.cells]at m;subst m;rfl
  |view i sz len B cap e cur A D X a0 z b0=>intro u m;simp[Value.cells]at m;subst m;rfl|kV i sz A cap h _=>intro u m;simp[Value.cells]at m;subst m;rfl
  |mp i B D=>intro u m;simp[Value.cells]at m;subst m;rfl|gx A=>intro u m;simp[Value.cells]at m;subst m;rfl
  |lT f vs first z o=>intro u m;simp[Value.cells]at m;subst m;rfl
 |bM xs=>obtain ⟨A,rfl⟩:=h.2;intro u m;simp[Value.cells]at m;subst m;rfl|dT d gg sz i k=>obtain⟨q,s⟩:=E _ _ _ _ _ rfl;obtain⟨B,_,rfl⟩:=tp h q s;intro u m;simp[Value.cells]at m;subst m;rfl
 |view d gg off len=>obtain⟨q,e,xs,s⟩:=G _ _ _ _ rfl;obtain⟨A,l,c,rfl⟩:=J6 h q s;intro u m;simp[Value.cells]at m;subst m;rfl|none=>exact y.elim|fK rs=>exact y.elim
theorem iU{B:Nat}{T:JA}(b:w.heap[B]?=O (.cells cur T (0,0)))(c:v.cells.size=P.cellsOf t)(h0:0<P.cellsOf t)(d:∀u∈v.cells.toList,u.oneCell'=W)(e:k+v.cells.size<=cur.size):
  (storeVar t ⟨B,k,Y⟩ v).run P w=.ok () (w.setRow B (bd cur.toList k v.cells.toList).toArray):=by
 have a:=run_storeCells_at P B k T v.cells.toList 0 cur w b (by simpa using e) d;simp only[lX]at a;simp[storeVar,fT c.symm M,a,bd]
theorem jH{o:JB}{a:Act}{w:zI}(h:(execOp a.eval o).run P w=.ok .skip w')(b:next (a.put o.dst undef) w'):o.wp P a w next Q:=by unfold Oper.wp;rw[h];exact b
theorem fo(h:k+vs.length<=cur.size)(j:Nat):(bd cur.toList k vs).toArray.getD j undef=if j<k then cur.getD j undef else if j<k+vs.length then vs.getD (j-k) undef else cur.getD j undef:=by
 simp only[jl,zP,qo];rw[cD (by simpa using h)];split
 .simp
 .split
  .rfl
  .simp
theorem ir{p x:qm}(u:o.op=.store t p x)(C:aW n o=W)(R:o.dst=Y){cs vs:Z cy}(S:s.ev p=.dT d gg sz i k)(U:gg=s.g d)(l:s.b d=O (.cells cs))
  (X:gY (s.ev x)=O vs) (m:PE s (s.ev x)) (a0:E8 (s.ev x)) (h0:0<P.cellsOf t) (b0:vs.length=P.cellsOf t) (D:i*sz+k+vs.length<=cs.length)
  (c0:K {s with b:=aa s.b d (O (.cells (bd cs (i*sz+k) vs)))}):dE P E w0 I0 n o s K:=by
 rintro a w ⟨I,be,h⟩ m0;have G:=aG C (x:=p) (by simp[u,Op.operands]) h;have H:=aG C (x:=x) (by simp[u,Op.operands]) h;rw[S]at G;obtain⟨B,q,e1⟩:=tp G U (by simp[l]);have J:∀d gg sz i k,s.ev x=.dT d gg sz i k->gg=s.g d/\s.b d≠Y:=λd gg sz i k e=>by rw[e]at m;exact m
 have L:∀d gg off len,s.ev x=.view d gg off len->gg=s.g d/\∃e xs,s.b d=O (.bi e xs):=λd gg off len e=>by rw[e]at m;exact m
 obtain⟨N,d0⟩:=kh H X J L;have e0:=pF H a0 J L;obtain⟨B',cur,T,r,hw,f0,Q⟩:=h.bG d _ l;rw[q]at r;injection r with r;subst r;have v:i*sz+k+(a.eval x).cells.size<=cur.size:=M;have g0:=iU (P:=P) (t:=t) hw (by rw[N,b0]) h0 e0 v;have y:(bd cur.toList (i*sz+k) (a.eval x).cells.toList).toArray.size=cur.size:=by rw[oz,bI (by simpa using v)];simp
 obtain⟨i0,j0⟩:=h.uJ d _ (.cells (bd cs (i*sz+k) vs)) B l q cur _ T hw y (.inl ⟨_,_,rfl,rfl⟩);refine jH (w':=w.setRow B (bd cur.toList (i*sz+k) (a.eval x).cells.toList).toArray) ?_ ⟨_,⟨I,be,?_⟩,c0⟩
 .simp[execOp,u,e1,Instr.storeAt,Instr.sureAddr,g0]
 .rw[R];refine h.gm d _ (.cells (bd cs (i*sz+k) vs)) B l q cur _ T hw y (.inl ⟨_,_,rfl,rfl⟩) ⟨B,_,T,q,oB w B cur _ T (0,0) hw,by rw[y,bI D,f0],λj c f=>?_⟩;refine b4.cK (w:=w) (I:=I) (be:=be) (b:=s.b) (g:=s.g) i0 j0 ?_;rw[cD D]at f;rw[fo (by simpa using v)];have l0:(a.eval x).cells.toList.length=vs.length:=by simpa using N
  rw[l0];split at f
  .rename_i z;rw[aj z];exact Q j c f
  .rename_i z;rw[ai z];split at f
   .rename_i A;rw[aj A];have:=d0 _ c f;simpa[qo]using this
   .rename_i A;rw[ai A];exact Q j c f
def fZ(x:AV)(k:Nat)(vs:Z AV):AV:=
 match x with
 |.agg cs=>.agg (bd cs k vs)|_=>vs.headD x
theorem yU{p x:qm}(J:o.op=.store t p x)(a0:aW n o=W)(p0:o.dst=Y){v y:AV}(q0:s.ev p=.dT d gg sz i k)(r0:gg=s.g d)(A:s.b d=O (.bi e xs))
  (s0:sz=P.cellsOf e) (t0:bu (s.ev x)=O v) (L:v.wf) (h0:0<P.cellsOf t) (u0:v.cells.length=P.cellsOf t) (q:xs[i]?=O y) (C:k+v.cells.length<=y.cells.length) (b0:y.isAgg=W∨(k=0/\v.isAgg=F))
  (v0:K {s with b:=aa s.b d (O (.bi e (xs.set i (fZ y k v.cells))))}):dE P E w0 I0 n o s K:=by
 rintro a w ⟨I,be,z⟩ Q0;have c0:=aG a0 (x:=p) (by simp[J,Op.operands]) z;have d0:=dN (aG a0 (x:=x) (by simp[J,Op.operands]) z) t0;rw[q0]at c0;obtain⟨B,D,e1⟩:=tp c0 r0 (by simp[A]);have x0:(a.eval x).cells.size=v.cells.length/\(∀u∈(a.eval x).cells.toList,u.oneCell'=W)/\∀(j:Nat)(c:AV),v.cells[j]?=O c->cq w I ((a.eval x).cells.getD j undef) c:=by have e0:=kh (P:=P) (be:=be) (b:=s.b) (g:=s.g) (r:=.val v) (cs:=v.cells.map .val) d0 rfl (λ_ _ _ _ _ h=>by cases h) (λ_ _ _ _ h=>by cases h);have f:=pF (P:=P) (be:=be) (b:=s.b) (g:=s.g) (r:=.val v) d0 L (λ_ _ _ _ _ h=>by cases h) (λ_ _ _ _ h=>by cases h);refine⟨by simpa using e0.1,f,λj c m=>?_⟩;have:=e0.2 j (.val c) (by simp[m]);exact this
 obtain⟨f0,y0,A0⟩:=x0;obtain⟨B0,C0,G,g0⟩:=z.bG d _ A;simp only[D]at g0;obtain⟨cur,cap,hw,D0,E0,G0,N⟩:=g0;have i0:i<xs.length:=(aY.1 q).1;have H0:=(G i y q).1;have J0:(i+1)*P.cellsOf e<=cap*P.cellsOf e:=fR _ M;rw[eO,jG]at J0;subst s0;have Q:i*P.cellsOf e+k+(a.eval x).cells.size<=cur.size:=M;have K0:=iU (P:=P) (t:=t) hw (by rw[f0,u0]) h0 y0 Q;have R:(bd cur.toList (i*P.cellsOf e+k) (a.eval x).cells.toList).toArray.size=cur.size:=by rw[oz,bI (by simpa using Q)];simp
 have H:(xs.set i (fZ y k v.cells)).length=xs.length:=aE;obtain⟨L0,R0⟩:=z.uJ d _ (.bi e (xs.set i (fZ y k v.cells))) B A D cur _ e hw R (.inr ⟨_,_,_,rfl,rfl,H⟩);have S:(fZ y k v.cells).cells=bd y.cells k v.cells/\(fZ y k v.cells).wf:=by
  cases j0:y with
  |agg cs=>
   have T:=(G i y q).2;rw[j0]at T C;refine⟨rfl,λc m=>?_⟩;simp only[fZ,AV.cells,bd,dR]at m;rcases m with(m|m)|m
   .exact T c (s7 m)
   .exact L c m
   .exact T c (zT m)
  |_=>
   rw[j0]at b0 C;obtain⟨rfl,l0⟩:=b0.resolve_left (by simp[AV.isAgg]);have:v.cells=[v]:=by cases v<;>first|rfl|(simp[AV.isAgg]at l0)
   rw[this];refine⟨?_,?_⟩
   .cases v<;>first|rfl|(simp[AV.isAgg]at l0)
   .simpa[fZ]using L
 refine jH (w':=w.setRow B (bd cur.toList (i*P.cellsOf e+k) (a.eval x).cells.toList).toArray) ?_ ⟨_,⟨I,be,?_⟩,v0⟩
 .simp[execOp,J,e1,Instr.storeAt,Instr.sureAddr,K0]
 .rw[p0];refine z.gm d _ (.bi e (xs.set i (fZ y k v.cells))) B A D cur _ e hw R (.inr ⟨_,_,_,rfl,rfl,H⟩) ⟨B0,by rw[H];exact C0,λi2 m0 f=>?_,?_⟩
  .rw[qp]at f;split at f
   .rename_i l;subst l;try rw[aj i0]at f
    injection f with f;subst f;refine⟨?_,S.2⟩;rw[S.1,bI C,H0]
   .exact G _ _ f
  .simp only[D];refine⟨_,cap,oB w B cur _ e (0,0) hw,by rw[R,D0],E0,by rw[H];exact G0,λi2 j m0 c f l=>?_⟩;refine cq.mono (w:=w) (I:=I) L0 ?_;rw[fo (by simpa using Q)];have N0:(a.eval x).cells.toList.length=v.cells.length:=by simpa using f0
   rw[N0];rw[qp]at f;split at f
   .rename_i U;subst U;try rw[aj i0]at f
    injection f with f;subst f;rw[S.1,cD C]at l;by_cases q1:j<k
    .rw[aj M];rw[aj q1]at l;exact N i j y c q l
    .rw[ai q1]at l;rw[ai M];by_cases n0:j<k+v.cells.length
     .rw[aj n0]at l;rw[aj M];have:=A0 _ c l;have P0:i*P.cellsOf e+j-(i*P.cellsOf e+k)=j-k:=M;rw[P0];simpa[qo]using this
     .rw[ai n0]at l;rw[ai M];exact N i j y c q l
   .rename_i U;have S0:j<P.cellsOf e:=by rw[<-(G _ _ f).1];exact (aY.1 l).1
    have o0:=N i2 j m0 c f l;rcases Nat.lt_or_gt_of_ne U with X|X
    .have:(i+1)*P.cellsOf e<=i2*P.cellsOf e:=fR _ X;rw[eO,jG]at this;rw[ai M,ai M];exact o0
    .have:(i2+1)*P.cellsOf e<=i*P.cellsOf e:=fR _ X;rw[eO,jG]at this;rw[aj M];exact o0
end
def nf:Jz->AV
 |.agg cs=>.agg (cs.toList.map dM)|v=>dM v
theorem wL(h:v.oneCell'=W):(dM v).isAgg=F:=by unfold dM;split<;>rfl
theorem yV(v:Jz):(dM v).cells=[dM v]:=by unfold dM;split<;>rfl
theorem pG(h:(z.cells.all λv=>v.oneCell')=W):(nf z).cells=z.cells.toList.map dM/\(nf z).wf:=by
 have d:∀v∈z.cells,v.oneCell'=W:=λv hv=>qO.1 h v hv;have a:(nf z).cells=z.cells.toList.map dM:=by
  cases z<;>first
   |exact yV _
   |rfl
 refine⟨a,λc b=>?_⟩;rw[a]at b;obtain⟨v,hv,rfl⟩:=dP.1 b;exact wL (d v (by simpa using hv))
section
variable{P:qK}{E:cm}{w0:zI}{I0:aD}{n:Nat}{o:JB}{s:St}{K:St->Prop}{a:Act}{w:zI}{I:aD}{be:Nat->V Nat}{b:Nat->V Bx}{g:Nat->Nat}
theorem PF(h:(z.cells.all λv=>v.oneCell')=W)(j:Nat)(a:(nf z).cells[j]?=O c):cq w I (z.cells.getD j undef) c:=by rw[(pG h).1,dC,ck]at a;obtain⟨v,hv,rfl⟩:=a;rw[jO]at hv;have b:=qO.1 h v (jP hv);simp only[jl,hv,eP];exact lv b
theorem yc(v:Array Jz)(off:Nat):∀(cells:Array Jz)(l:Z (Jz×Nat))(k:Nat),(∀(q:Nat)(x:Jz×Nat),l[q]?=O x->x.2=k+q)->off+k+l.length<=cells.size->
  (l.foldl (λcs(p:Jz×Nat)=>cs.setIfInBounds (off+p.2) p.1) cells).toList=bd cells.toList (off+k) (l.map (·.1))
 |cells,[],k,_,_=>by simp[bd]|cells,x::l,k,h,a=>by
  have h0:x.2=k:=by have:=h 0 x rfl;omega
  have c:=yc v off (cells.setIfInBounds (off+k) x.1) l (k+1) (λq y d=>by have:=h (q+1) y (by simpa using d);omega) (by simp at a⊢;omega);simp only[sE,h0];rw[c];simp only[ec]at a;apply sC;intro q;rw[cD cM,cD cM];simp only[dy,ec,dd,Array.toList_setIfInBounds];by_cases q1:q<off+k
  .rw[aj M,aj q1,zO M]
  .by_cases e:q=off+k
   .subst e;rw[aj M,ai M,aj M];rw[Hh cM];simp
   .rw[ai M,ai q1];by_cases b:q<off+k+(l.length+1)
    .rw[aj M,aj b];obtain⟨m,f⟩:∃m,q-(off+k)=m+1:=⟨q-(off+k)-1,M⟩
     rw[f,L9];congr 1;omega
    .rw[ai M,ai b,zO M]
theorem PG(a v:Array Jz)(off:Nat)(h:off+v.size<=a.size):
  (v.zipIdx.foldl (λcs(x:Jz×Nat)=>cs.setIfInBounds (off+x.2) x.1) a).toList=bd a.toList off v.toList:=by
 rw[<-W8];have:=yc v off a v.zipIdx.toList 0 (λq x b=>by simp only[Array.toList_zipIdx,List.getElem?_zipIdx,ck]at b;obtain⟨y,_,rfl⟩:=b;simp) (by simpa using h);rw[this];congr 1;simp
theorem wM(d:Nat->V (Nat×Nat)):∀(parts:Z (Nat×Jz))(a:Array Jz)(b:Z Nat),b.length=parts.length->
  (∀(q:Nat)(p:Nat×Jz)(off:Nat),parts[q]?=O p->b[q]?=O off->d p.1=O (off,p.2.cells.size)/\off+p.2.cells.size<=a.size)->
  ∃cs:Array Jz,Instr.fill d a parts=O cs/\cs.toList=(parts.zip b).foldl (λl x=>bd l x.2 x.1.2.cells.toList) a.toList
 |[],a,b,c,_=>⟨a,rfl,aE⟩|(i,v)::parts,a,[],c,_=>by simp at c
 |(i,v)::parts,a,off::b,c,h=>by
  obtain⟨f,e⟩:=h 0 (i,v) off rfl rfl;simp only at f e;have g:=PG a v.cells off e;have j:(v.cells.zipIdx.foldl (λcs(x:Jz×Nat)=>cs.setIfInBounds (off+x.2) x.1) a).size=a.size:=by rw[<-nP,g,bI (by simpa using e)];simp
  obtain⟨cs,k,m⟩:=wM d parts (v.cells.zipIdx.foldl (λcs(x:Jz×Nat)=>cs.setIfInBounds (off+x.2) x.1) a) b (by simpa using c) (λq p n o r=>by have:=h (q+1) p n (by simpa using o) (by simpa using r);rw[j];exact this);refine⟨cs,?_,?_⟩
  .unfold Instr.fill;simp only[f];rw[ai cM];exact k
  .rw[m,g];rfl
end
def ga(P:qK)(t:JA):V JA:=
 match P.underlying t with
 |some (.slice e)=>O e|_=>Y
theorem eH(h:ga P t=O e):P.underlying t=O (.slice e):=by unfold ga at h;split at h<;>simp_all
def ki(P:qK)(t:JA):V (Z (Nat×Nat)):=
 match P.underlying t with
 |some (.struct fs)=>fs.toList.mapM λf=>(P.info? f.type).map λi=>(f.offset,i.size)|some (.array n e)=>if 0<P.cellsOf e then O ((List.range n).map λj=>(j*P.cellsOf e,P.cellsOf e))else Y
 |_=>Y
def kj(P:qK)(t:JA)(f:Nat):V (Nat×JA):=
 match P.underlying t with
 |some (.struct fs)=>(fs[f]?).bind λfd=>if 0<P.cellsOf fd.type then O (fd.offset,fd.type)else Y|_=>Y
theorem pH(h:kj P t f=O (off,ft)):∃fs fd,P.underlying t=O (.struct fs)/\fs[f]?=O fd/\fd.offset=off/\fd.type=ft/\0<P.cellsOf fd.type:=by
 unfold kj at h;split at h
 .rename_i fs b;cases a:fs[f]? with
  |none=>simp[a]at h|some fd=>
   simp only[a,aM]at h;split at h
   .rename_i c;simp only[ax,bc]at h;exact⟨fs,fd,b,a,h.1,h.2,c⟩
   .cases h
 .cases h
def ng(P:qK)(t:JA):V AV:=
 match P.info? t with
 |some i=>match i.zero with
  |some z=>if(z.cells.all λv=>v.oneCell')&&z.cells.size==i.size then O (nf z)else Y|none=>Y
 |none=>Y
theorem q9{x:AV}(h:ng P t=O x):∃i z,P.info? t=O i/\i.zero=O z/\(z.cells.all λv=>v.oneCell')=W/\z.cells.size=i.size/\x=nf z:=by
 unfold ng at h;cases hi:P.info? t with
 |none=>simp[hi]at h|some i=>
  cases hz:i.zero with
  |none=>simp[hi,hz]at h|some z=>
   simp only[hi,hz]at h;split at h
   .rename_i a;simp only[aI,gH]at a;injection h with h;exact⟨i,z,rfl,hz,a.1,a.2,h.symm⟩
   .cases h
def tt(P:qK)(e:JA):tl:=decide (0<P.cellsOf e)&&(ng P e).isSome
theorem Hl(h:tt P e=W):uP P e:=by simp only[tt,aI,aU]at h;obtain⟨x,a⟩:=Ab.1 h.2;obtain⟨i,z,b,c,_,d,_⟩:=q9 a;exact⟨h.1,i,z,b,c,d⟩
section
variable{P:qK}{E:cm}{w0:zI}{I0:aD}{n:Nat}{o:JB}{s:St}{K:St->Prop}{a:Act}{w:zI}{I:aD}{be:Nat->V Nat}{b:Nat->V Bx}{g:Nat->Nat}
def k8(w:zI)(I:aD)(vs:Z Jz)(cs:Z AV):Prop:=vs.length=cs.length/\∀(j:Nat)(v:Jz)(c:AV),vs[j]?=O v->cs[j]?=O c->cq w I v c
theorem k8.Zp {us:Z Jz} {cs ds:Z AV} (h:k8 w I vs cs) (h':k8 w I us ds) (d:k+us.length<=vs.length):k8 w I (bd vs k us) (bd cs k ds):=by
 have e:k+ds.length<=cs.length:=by have:=h.1;have:=h'.1;omega
 refine⟨by rw[bI d,bI e,h.1],λj v c hv a=>?_⟩;rw[cD d]at hv;rw[cD e,<-h'.1]at a;split at hv
 .rename_i q;rw[aj q]at a;exact h.2 j v c hv a
 .rename_i q;rw[ai q]at a;split at hv
  .rename_i b;rw[aj b]at a;exact h'.2 _ v c hv a
  .rename_i b;rw[ai b]at a;exact h.2 j v c hv a
theorem rY{x:AV}(h:cq w I v x):k8 w I v.cells.toList x.cells:=by have a:=kh (P:=default) (be:=λ_=>Y) (b:=λ_=>Y) (g:=λ_=>0) (r:=.val x) (cs:=x.cells.map .val) h rfl (λ_ _ _ _ _ h=>by cases h) (λ_ _ _ _ h=>by cases h);refine⟨by simpa using a.1,λj u c d e=>?_⟩;have:=a.2 j (.val c) (by simp[e]);rw[jO]at d;simpa[d,b4]using this
theorem yd{α β:Type}:∀(ps:Z (α×β)),(ps.map (·.1)).zip (ps.map (·.2))=ps
 |[]=>rfl|p::ps=>by simp[yd ps]
def dj(cs:Z AV):Z (Nat×AV)->Z AV
 |[]=>cs|(off,x)::a=>dj (bd cs off x.cells) a
theorem ra:∀(parts:Z (Nat×Jz))(a:Z Nat)(xs:Z AV)(vs:Z Jz)(cs:Z AV),k8 w I vs cs->a.length=parts.length->xs.length=parts.length->
  (∀(q:Nat)(p:Nat×Jz)(x:AV),parts[q]?=O p->xs[q]?=O x->cq w I p.2 x)->(∀(q:Nat)(off:Nat)(p:Nat×Jz),a[q]?=O off->parts[q]?=O p->off+p.2.cells.size<=vs.length)->
  k8 w I ((parts.zip a).foldl (λl x=>bd l x.2 x.1.2.cells.toList) vs) (dj cs (a.zip xs))
 |[],[],[],vs,cs,h,_,_,_,_=>h|p::parts,off::a,x::xs,vs,cs,h,b,c,f,g=>by have j:=f 0 p x rfl rfl;have i:=g 0 off p rfl rfl;have m:=h.Zp (rY j) (k:=off) (by rw[nP];exact i);have n:(bd vs off p.2.cells.toList).length=vs.length:=bI (by rw[nP];exact i);exact ra parts a xs _ _ m (by simpa using b) (by simpa using c) (λq d o e r=>f (q+1) d o (by simpa using e) (by simpa using r)) (λq s d t e=>by rw[n];exact g (q+1) s d (by simpa using t) (by simpa using e))
 |p::parts,[],xs,_,_,_,b,_,_,_=>by simp at b|p::parts,off::a,[],_,_,_,_,c,_,_=>by simp at c
 |[],off::a,xs,_,_,_,b,_,_,_=>by simp at b|[],[],x::xs,_,_,_,_,c,_,_=>by simp at c
def iu(s:St)(pl:Z (Nat×Nat)):Z (Nat×qm)->V (Z (Nat×AV))
 |[]=>O []|(i,x)::a=>match pl[i]?,bu (s.ev x),iu s pl a with
  |some (off,sz),O v,O r=>if v.cells.length=sz then O ((off,v)::r)else Y|_,_,_=>Y
theorem uQ{pl:Z (Nat×Nat)}:∀{ps:Z (Nat×qm)}{r:Z (Nat×AV)},iu s pl ps=O r->r.length=ps.length/\
  ∀(q:Nat)(p:Nat×qm)(y:Nat×AV),ps[q]?=O p->r[q]?=O y->pl[p.1]?=O (y.1,y.2.cells.length)/\bu (s.ev p.2)=O y.2
 |[],r,h=>by simp[iu]at h;subst h;simp|(i,x)::k,r,h=>by
  simp only[iu]at h;split at h
  .rename_i off sz v l c d e;split at h
   .rename_i f;injection h with h;subst h;obtain⟨g,j⟩:=uQ e;refine⟨by simp[g],λq p y a b=>?_⟩;cases q with
    |zero=>simp at a b;subst a b;exact ⟨by rw[f];exact c,d⟩|succ q=>exact j q p y (by simpa using a) (by simpa using b)
   .cases h
  .cases h
def Hm(v:Jz)(c:AV):Prop:=c=dM v∨(v=.slice Y 0 0/\c=.gx)
theorem wN{w:zI}{I:aD}(h:v.oneCell'=W)(a:Hm v c):cq w I v c:=by
 rcases a with rfl|⟨rfl,rfl⟩
 .exact lv h
 .exact .gx Y
def ZC(P:qK)(t:JA)(b:Z AV):Prop:=∃i a,P.info? t=O i/\i.zero=O a/\(a.cells.all λv=>v.oneCell')=W/\a.cells.size=i.size/\b.length=a.cells.size/\∀(j:Nat)(v:Jz)(c:AV),a.cells[j]?=O v->b[j]?=O c->Hm v c
theorem ZC.Tt {P:qK} {z:AV} (h:ng P t=O z):ZC P t z.cells:=by obtain⟨i,d,h1,e,a,f,rfl⟩:=q9 h;refine⟨i,d,h1,e,a,f,by rw[(pG a).1];simp,λj v c hv b=>?_⟩;rw[(pG a).1,dC,jO,hv]at b;simp only[cj,ax]at b;exact .inl b.symm
theorem Am(f g:Nat->V (Nat×Nat)):∀(parts:Z (Nat×Jz))(a:Array Jz),(∀p∈parts,f p.1=g p.1)->Instr.fill f a parts=Instr.fill g a parts
 |[],a,_=>rfl|(i,v)::parts,a,h=>by have h0:=h (i,v) aE;have b:=λa=>Am f g parts a λp c=>h p (by simp[c]);simp only at h0;unfold Instr.fill;simp only[h0,b]
theorem nU(D:o.op=.build t parts)(b0:aW n o=W){pl:Z (Nat×Nat)}(g:ki P t=O pl){m:Z AV}(c0:ZC P t m)(d0:(pl.all λp=>decide (p.1+p.2<=m.length))=W)
  {ps:Z (Nat×AV)} (e0:iu s pl parts.toList=O ps):dQ P E w0 I0 n o s (.val (.agg (dj m ps))):=by
 intro a w I be f0;obtain⟨i,k,hi,J,g0,B0,h0,i0⟩:=c0;obtain⟨G,K⟩:=uQ e0;let d:Z (Nat×Jz):=parts.toList.map λp=>(p.1,a.eval p.2)
 have L:∀(q:Nat)(p:Nat×qm)(y:Nat×AV),parts.toList[q]?=O p->ps[q]?=O y->cq w I (a.eval p.2) y.2:=λq p y b l=>dN (aG b0 (x:=p.2) (by simp only[D,Op.operands,wG,dP];simpa using⟨p.1,jP (by simpa using b)⟩) f0) (K q p y b l).2;have j0:∀{v:Jz}{x:AV},cq w I v x->v.cells.size=x.cells.length:=λh=>by simpa using(rY h).1
 have l0:∀(p:Nat×Nat),p∈pl->p.1+p.2<=k.cells.size:=λp b=>by have:=cS.1 d0 p b;simp only[aU]at this;omega
 have H:∀(q:Nat)(p:Nat×Jz)(off:Nat),d[q]?=O p->(ps.map (·.1))[q]?=O off->pl[p.1]?=O (off,p.2.cells.size)/\off+p.2.cells.size<=k.cells.size:=by intro q p off b Q;simp only[d,dC,ck]at b Q;obtain⟨r,u,rfl⟩:=b;obtain⟨y,l,rfl⟩:=Q;have R:=(K q r y u l).1;have m0:=j0 (L q r y u l);simp only;rw[m0];exact⟨R,l0 _ (bF R)⟩
 obtain⟨cs,S,n0⟩:=wM (λi=>pl[i]?) d k.cells (ps.map (·.1)) (by simp[d,G]) H;have o0:k8 w I k.cells.toList m:=⟨by simpa using h0.symm,λj v c hv z=>by rw[jO]at hv;exact wN (qO.1 g0 v (jP hv)) (i0 j v c hv z)⟩
 have A:=ra d (ps.map (·.1)) (ps.map (·.2)) k.cells.toList m o0 (by simp[d,G]) (by simp[d,G])
  (λq p x b T=>by simp only[d,dC,ck]at b T;obtain⟨r,u,rfl⟩:=b;obtain⟨y,l,rfl⟩:=T;exact L q r y u l)
  (λq off p q0 b=>by have:=(H q p off b q0).2;simpa using this)
 rw[yd,<-n0]at A;have U:(parts.map λ(p:Nat×qm)=>(p.1,a.eval p.2)).toList=d:=by simp[d]
 refine⟨.agg cs,?_,?_⟩
 .unfold ki at g;cases B:P.underlying t with
  |none=>simp[B]at g|some du=>
   cases du<;>simp only[B,reduceCtorEq]at g
   .rename_i N e;split at g
    .rename_i r0;simp only[ax]at g;subst g;have s0:Instr.fill (λi=>O (i*P.cellsOf e,P.cellsOf e)) k.cells d=O cs:=by
      rw[<-S];refine Am _ _ d k.cells λp b=>?_;obtain⟨q,X⟩:=kc.1 b;have t0:q<(ps.map (·.1)).length:=by have:=(aY.1 X).1;simp only[d,dd]at this⊢;omega
      have:=(H q p _ X (bS t0)).1;simp only[dC,ck]at this;obtain⟨j,C,_⟩:=this;have u0:=(aY.1 C)
      obtain⟨a0,v0⟩:=u0;simp only[List.getElem_range]at v0;simp only[List.length_range]at a0;simp[a0]
     simp only[execOp,D,Instr.build,b9,zeroValue,typeInfo,run_program,cz,hi,J,ef B,cF,fT (P:=P) rfl r0,U];rw[s0];rfl
    .cases g
   .rename_i fs;have x0:=run_places (P:=P) w fs.toList pl g;have y0:(fs.mapM λf=>(do pure (f.offset,<-sizeOf f.type):Sem (Nat×Nat))).run P w=.ok pl.toArray w:=by rw[Array.mapM_eq_mapM_toList,Sem.run_map];have:(fs.toList.mapM λf=>(do pure (f.offset,<-sizeOf f.type):Sem (Nat×Nat))).run P w=.ok pl w:=x0;rw[this];rfl
    simp only[execOp,D,Instr.build,b9,zeroValue,typeInfo,run_program,cz,hi,J,ef B,cF];rw[y0];simp only[cz,U];have A0:(λx:Nat=>pl.toArray[x]?)=λi:Nat=>pl[i]?:=by funext i;simp
    rw[A0,S];rfl
 .refine .agg cs _ (by simpa using A.1) λj c z=>?_;have C:j<cs.size:=by have:=A.1;have C0:=(aY.1 z).1;simp at this;omega
  have:=A.2 j cs[j] c (by simp[C]) z;simpa[C]using this
def cP(s:St):Z qm->V (Z AV)
 |[]=>O []|x::a=>match bu (s.ev x),cP s a with
  |some v,O r=>O (v::r)|_,_=>Y
theorem lz:∀{ps:Z qm}{r:Z AV},cP s ps=O r->r.length=ps.length/\∀(q:Nat)(p:qm)(y:AV),ps[q]?=O p->r[q]?=O y->bu (s.ev p)=O y
 |[],r,h=>by simp[cP]at h;subst h;simp|x::g,r,h=>by
  simp only[cP]at h;split at h
  .rename_i v i c d;injection h with h;subst h;obtain⟨e,f⟩:=lz d;refine⟨by simp[e],λq p y a b=>?_⟩;cases q with
   |zero=>simp at a b;subst a b;exact c|succ q=>exact f q p y (by simpa using a) (by simpa using b)
  .cases h
theorem J7:∀(vs:Z (Z Jz))(k:Nat)(cur:Z Jz),(∀v∈vs,v.length=sz)->(k+vs.length)*sz<=cur.length->
  ∀(i j:Nat)(v:Z Jz),vs[i]?=O v->j<sz->((vs.zipIdx k).foldl (λl x=>bd l (x.2*sz) x.1) cur)[(k+i)*sz+j]?=v[j]?:=by
 have m:∀(vs:Z (Z Jz))(k:Nat)(cur:Z Jz),(∀v∈vs,v.length=sz)->(k+vs.length)*sz<=cur.length->∀q,q<k*sz->((vs.zipIdx k).foldl (λl x=>bd l (x.2*sz) x.1) cur)[q]?=cur[q]?:=by
  intro vs;induction vs with
  |nil=>intro k cur _ _ q _;rfl|cons v vs c=>intro k cur hv d q n;have p:=hv v aE;have f:(k+1)*sz<=(k+(v::vs).length)*sz:=fR _ (by rw[ec];omega);rw[eO k 1,jG]at f;have a:k*sz+v.length<=cur.length:=M;simp only[List.zipIdx_cons,sE];rw[c (k+1) _ (λu b=>hv u (by simp[b])) (by rw[bI a];simpa[jd,jF 1]using d) q (by rw[eO];omega),cD a,aj n]
 intro vs;induction vs with
 |nil=>intro k cur _ _ i j v h;simp at h|cons u vs c=>
  intro k cur hv d i j v h o;have r:=hv u aE;have f:(k+1)*sz<=(k+(u::vs).length)*sz:=fR _ (by rw[ec];omega);rw[eO k 1,jG]at f;have a:k*sz+u.length<=cur.length:=M;have g:(k+1+vs.length)*sz<=(bd cur (k*sz) u).length:=by rw[bI a];simpa[jd,jF 1]using d
  simp only[List.zipIdx_cons,sE];cases i with
  |zero=>simp at h;subst h;simp only[lX];rw[m vs (k+1) _ (λu b=>hv u (by simp[b])) g _ (by rw[eO];omega),cD a,ai M,aj M];congr 1;omega|succ i=>have:=c (k+1) (bd cur (k*sz) u) (λu b=>hv u (by simp[b])) g i j v (by simpa using h) o;rw[<-this];congr 1;have e:k+1+i=k+(i+1):=M;rw[e]
theorem oR(c0:o.op=.buildSlice t len parts)(r0:aW n o=W)(s0:o.dst=O d)(t0:ga P t=O e)(u0:tt P e=W)
  (d0:parts.toList.map (·.1)=List.range len) (P0:len*P.cellsOf e<=16777216) (A:cP s (parts.toList.map (·.2))=O xs) (R:kW P e xs) (v0:K (s.cH d e xs)):dE P E w0 I0 n o s K:=by
 rintro a w ⟨I,be,e0⟩ Q0;obtain⟨f0,i,z,hi,x0,R0⟩:=Hl u0;have y0:=eH t0;have H:=rX hi;obtain⟨A0,B0⟩:=lz A;have S:parts.size=len:=by have:=bH List.length d0;simpa using this
 have g0:xs.length=len:=by rw[A0];simp[S]
 let r:Z (Nat×Jz):=parts.toList.map λp=>(p.1,a.eval p.2)
 have i0:∀(q:Nat)(p:Nat×qm)(y:AV),parts.toList[q]?=O p->xs[q]?=O y->cq w I (a.eval p.2) y:=λq p y b B=>dN (aG r0 (x:=p.2) (by simp only[c0,Op.operands,wG,dP];simpa using⟨p.1,jP (by simpa using b)⟩) e0) (B0 q p.2 y (by simp only[dC,b,cj]) B);have C0:∀{v:Jz}{x:AV},cq w I v x->v.cells.size=x.cells.length:=λh=>by simpa using(rY h).1
 have J:∀(q:Nat)(p:Nat×qm),parts.toList[q]?=O p->p.1=q/\q<len:=by
  intro q p b;have f:(parts.toList.map (·.1))[q]?=O p.1:=by simp only[dC,b,cj]
  rw[d0]at f;have m:q<len:=by simpa using(aY.1 f).1
  rw[x8 m]at f;injection f with f;exact⟨f.symm,m⟩
 have L:∀(q:Nat)(p:Nat×qm),parts.toList[q]?=O p->(a.eval p.2).cells.size=P.cellsOf e:=by intro q p b;obtain⟨_,C⟩:=J q p b;have B:xs[q]?=O xs[q]:=bS M;rw[C0 (i0 q p _ b B)];exact(R _ (gw _)).1
 let g:Array Jz:=(Array.range (len*P.cellsOf e)).map ((if len*P.cellsOf e=0 then#[]else z.cells)[·%(if len*P.cellsOf e=0 then(#[]:Array Jz)else z.cells).size]!);have N:g.size=len*P.cellsOf e:=by simp[g]
 obtain⟨cs,D0,j0⟩:=wM (λi=>O (i*P.cellsOf e,P.cellsOf e)) r g (parts.toList.map λp=>p.1*P.cellsOf e) (by simp[r]) (by intro q p off b l0;simp only[r,dC,ck]at b l0;obtain⟨m0,T,rfl⟩:=b;obtain⟨S0,Q,rfl⟩:=l0;rw[T]at Q;injection Q with Q;subst Q;have f:=L q m0 T;obtain⟨m,D⟩:=J q m0 T;simp only;rw[f];refine⟨rfl,?_⟩;rw[N,m];have:(q+1)*P.cellsOf e<=len*P.cellsOf e:=fR _ D;rw[eO,jG]at this;exact this);have n0:(r.zip (parts.toList.map λp=>p.1*P.cellsOf e)).foldl (λl x=>bd l x.2 x.1.2.cells.toList) g.toList=((parts.toList.map λp=>(a.eval p.2).cells.toList).zipIdx 0).foldl (λl x=>bd l (x.2*P.cellsOf e) x.1) g.toList:=by
  have gen:∀(ps:Z (Nat×qm))(k:Nat)(l:Z Jz),(∀(q:Nat)(p:Nat×qm),ps[q]?=O p->p.1=k+q)->
    ((ps.map λp=>(p.1,a.eval p.2)).zip (ps.map λp=>p.1*P.cellsOf e)).foldl (λl x=>bd l x.2 x.1.2.cells.toList) l=((ps.map λp=>(a.eval p.2).cells.toList).zipIdx k).foldl (λl x=>bd l (x.2*P.cellsOf e) x.1) l:=by
   intro ps;induction ps with
   |nil=>intro k l _;rfl|cons p ps U=>intro k l h;have h0:=h 0 p rfl;simp only[dy,JR,sE,List.zipIdx_cons];rw[h0,lX];exact U (k+1) _ (λq E0 G0=>by have:=h (q+1) E0 (by simpa using G0);omega)
  exact gen parts.toList 0 g.toList (λq p b=>by rw[(J q p b).1];omega)
 have H0:cs.size=len*P.cellsOf e:=by
  have f:∀(l:Z (Z Jz×Nat))(c:Z Jz),(∀x∈l,x.2*P.cellsOf e+x.1.length<=c.length)->(l.foldl (λl x=>bd l (x.2*P.cellsOf e) x.1) c).length=c.length:=by
   intro l;induction l with
   |nil=>intro c _;rfl|cons x l U=>intro c h;have A:=h x aE;have hw:=bI A;simp only[sE];rw[U _ (λy B=>by rw[hw];exact h y (by simp[B])),hw]
  have m:=bH List.length j0;rw[n0,f]at m
  .simpa[N]using m
  .intro x A;obtain⟨q,C⟩:=kc.1 A;simp only[List.getElem?_zipIdx,dC,ck]at C;obtain⟨_,⟨p,b,rfl⟩,rfl⟩:=C;obtain⟨_,D⟩:=J q p b;simp only[cX,nP,N,L q p b];have:(q+1)*P.cellsOf e<=len*P.cellsOf e:=fR _ D;rw[eO,jG]at this;exact this
 refine fm (v:=.slice (O ⟨w.heap.size,0,Y⟩) len len) (w':=w.alloc (.cells cs e)) ?_ ⟨_,⟨I,aa be d (O w.heap.size),?_⟩,v0⟩
 .have J0:¬(len*i.size>2^24):=by rw[<-H];omega
  have G:(parts.map λ(p:Nat×qm)=>(p.1,a.eval p.2)).toList=r:=by simp[r]
  have u:=D0;simp only[H]at u;simp only[execOp,c0,Instr.buildSlice,b9,ef y0,cz,sizeOf,typeInfo,run_program,hi,cF,J0,cG,G];by_cases h0:len*i.size=0
  .have X:g=(Array.range (len*i.size)).map ((#[]:Array Jz)[·%(#[]:Array Jz).size]!):=by simp only[g,H,h0,ca]
   rw[X]at u;simp only[h0,ca,b9,cF,cz]at u⊢;rw[u];simp[newRow]
  .have X:g=(Array.range (len*i.size)).map (z.cells[·%z.cells.size]!):=by simp only[g,H,h0,cG]
   rw[X]at u;simp only[h0,cG,b9,zeroValue,typeInfo,run_program,cz,hi,x0,cF];rw[u];simp[newRow]
 .rw[s0];have o0:=e0.cH (w':=w.alloc (.cells cs e)) d rfl rfl rfl rfl xs f0 (cap:=len) H0 (by simp only[maxLen];have:len<=len*P.cellsOf e:=Nat.le_mul_of_pos_right _ f0;omega) M R (λi2 j x c f m=>by
   have K0:i2<len:=by rw[<-g0];exact (aY.1 f).1
   have q0:j<P.cellsOf e:=by rw[<-(R x (bF f)).1];exact (aY.1 m).1
   obtain⟨a0,G⟩:∃p,parts.toList[i2]?=O p:=⟨_,bS (by simp[S,K0])⟩
   have L0:=i0 i2 _ x G f;have hw:=J7 (sz:=P.cellsOf e) (parts.toList.map λp=>(a.eval p.2).cells.toList) 0 g.toList
    (λv hv=>by obtain⟨p,b,rfl⟩:=dP.1 hv;obtain⟨q,C⟩:=kc.1 b;rw[nP];exact L q p C)
    (by simp[N,S]) i2 j (a.eval a0.2).cells.toList (by simp only[dC,G,cj]) q0
   rw[<-n0,<-j0,cX]at hw;have b0:j<(a.eval a0.2).cells.size:=by rw[L i2 _ G];exact q0
   have D:=(rY L0).2 j _ c (bS (by simpa using b0)) m;have N0:cs.getD (i2*P.cellsOf e+j) undef=(a.eval a0.2).cells.toList[j]'(by simpa using b0):=by rw[jl,<-jO,hw,bS (by simpa using b0)];rfl
   rw[N0];exact D)
  rw[g0]at o0;exact o0
theorem kk(d:aW n o=W)(e:aL P E w0 I0 n s a w I be){ps:Z qm}(f:∀x∈ps,x∈o.op.operands){r:Z AV}(h:cP s ps=O r):k8 w I (ps.map a.eval) r:=by obtain⟨g,i⟩:=lz h;refine⟨by simp[g],λj v c hv k=>?_⟩;simp only[dC,ck]at hv;obtain⟨p,b,rfl⟩:=hv;exact dN (aG d (f p (bF b)) e) (i j p c b k)
theorem rb{f:JC}{caps:Array qm}(e:o.op=.makeFunc (.func f) #[] caps)(i:aW n o=W)(b:cP s caps.toList=O xs):dQ P E w0 I0 n o s (.val (.fn f xs)):=
 λa w I be k=>by
  have d:=kk i k (ps:=caps.toList) (λx b=>by simp[e,Op.operands];simpa using b) b;refine⟨.func (.func f) #[] (caps.map a.eval),by simp[execOp,e,Instr.makeFunc],.fn f _ _ (by simpa using d.1) λj c g=>?_⟩;have h:j<caps.size:=by have:=d.1;have l:=(aY.1 g).1;simp at this;omega
  have:=d.2 j (a.eval caps[j]) c (by simp[h]) g;simpa[h]using this
theorem sx{x:qm}(b:o.op=.makeInterface t x)(c:aW n o=W)(d:P.concrete t=W){v:AV}(e:bu (s.ev x)=O v):dQ P E w0 I0 n o s (.val (.mQ t v)):=λa w I be f=>by have g:=dN (aG c (x:=x) (by simp[b,Op.operands]) f) e;exact⟨.iface t (a.eval x),by simp[execOp,b,run_makeInterface _ t _ d],.mQ t _ _ g⟩
theorem Hn{x:qm}(i:o.op=.field t x f)(p:aW n o=W)(z:kj P t f=O (off,ft)){cs:Z AV}(r:s.ev x=.val (.agg cs))
  {K:AV->Prop} (A:jh P ft (cs.drop off) K):∃v,K v/\dQ P E w0 I0 n o s (.val v):=by
 obtain⟨fs,fd,hu,u,rfl,rfl,D⟩:=pH z;obtain⟨B,y,d⟩:=A;cases g:k7 P fd.type with
 |none=>simp[g]at d|some q=>
  cases q with
  |true=>
   simp only[g]at d;refine⟨_,d,λa w I be k=>?_⟩;have h:=aG p (x:=x) (by simp[i,Op.operands]) k;rw[r]at h;generalize hv:a.eval x=v at*;cases h with
   |agg vs cs C l=>
    have m:fd.offset+P.cellsOf fd.type<=vs.size:=by simp at y;omega
    refine⟨.agg (vs.extract fd.offset (fd.offset+P.cellsOf fd.type)),?_,.agg _ _ cM λj c b=>?_⟩
    .simp[execOp,i,hv,Instr.field,ef hu,u,part,oQ g,fT rfl B,asAgg]
    .rw[gf]at b;split at b
     .rename_i G;rw[kT]at b;have:=l _ c b;have H:fd.offset+j<vs.size:=M;have e:(vs.extract fd.offset (fd.offset+P.cellsOf fd.type)).getD j undef=vs.getD (fd.offset+j) undef:=by simp only[jl,Array.getElem?_extract];rw[aj M]
      rw[e];exact this
     .cases b
  |false=>
   simp only[g]at d;refine⟨_,d,λa w I be k=>?_⟩;have h:=aG p (x:=x) (by simp[i,Op.operands]) k;rw[r]at h;generalize hv:a.eval x=v at*;cases h with
   |agg vs cs C l=>
    have m:fd.offset<vs.size:=by simp at y;omega
    refine⟨vs[fd.offset],?_,?_⟩
    .simp[execOp,i,hv,Instr.field,ef hu,u,part,oQ g,m,asAgg]
    .have b:cs[fd.offset]?=O cs[fd.offset]:=bS M;have e:(cs.drop fd.offset).headD (.fl undef)=cs[fd.offset]:=by rw[x7 M];rfl
     rw[e];have:=l _ _ b;simpa[m,b4]using this
def lU(s:St)(dflt:Nat):V qm->V Nat
 |none=>O dflt|some x=>match s.ev x with
  |.val (.fl (.int _ m))=>if 0<=m then O m.toNat else Y|_=>Y
theorem An(h:lU s dflt Y=O l):l=dflt:=by simp[lU]at h;exact h.symm
theorem Ao(d:aW n o=W)(e:aL P E w0 I0 n s a w I be){x:qm}(f:x∈o.op.operands)(h:lU s dflt (O x)=O l):∃k,a.eval x=.int k l:=by
 unfold lU at h;simp only at h;cases b:s.ev x with
 |val y=>
  cases y with
  |fl v=>
   cases v with
   |int k m=>
    simp only[b]at h;split at h
    .rename_i h0;injection h with h;have c:=aG d f e;rw[b]at c;exact⟨k,by rw[cb c];congr 1;omega⟩
    .cases h
   |_=>simp[b]at h
  |_=>simp[b]at h
 |_=>simp[b]at h
theorem nh{k:Pv}{y:Nat}{code:BoundsCode}(h:l<=y):(Instr.sliceBound (.int k l) y code).run P w=.ok l w:=by have a:(0:Int)<=l/\(l:Int)<=y:=M;simp[Instr.sliceBound,asIntOf,a]
theorem qq(c:aW n o=W)(d:aL P E w0 I0 n s a w I be)(b:∀x,lo=O x∨hi=O x∨mx=O x->x∈o.op.operands){h:Nat}{q:tl}
  (f:lU s 0 lo=O l) (g:lU s len hi=O h) (i:lU s cap mx=O m) (j:l<=h) (p:h<=m) (r:m<=cap) (t:mx=Y∨hi≠Y):
  (Instr.sliceBounds q len cap (lo.map a.eval) (hi.map a.eval) (mx.map a.eval)).run P w=.ok (l,h,m) w:=by
 have u:lo=Y/\l=0∨∃x k,lo=O x/\a.eval x=.int k l:=by
  cases lo with
  |none=>exact .inl ⟨rfl,An f⟩|some x=>obtain ⟨k,e⟩:=Ao c d (b x (.inl rfl)) f;exact .inr ⟨x,k,rfl,e⟩
 have v:hi=Y/\h=len∨∃x k,hi=O x/\a.eval x=.int k h:=by
  cases hi with
  |none=>exact .inl ⟨rfl,An g⟩|some x=>obtain ⟨k,e⟩:=Ao c d (b x (.inr (.inl rfl))) g;exact .inr ⟨x,k,rfl,e⟩
 have A:mx=Y/\m=cap∨∃x k,mx=O x/\a.eval x=.int k m:=by
  cases mx with
  |none=>exact .inl ⟨rfl,An i⟩|some x=>obtain ⟨k,e⟩:=Ao c d (b x (.inr (.inr rfl))) i;exact .inr ⟨x,k,rfl,e⟩
 clear f g i b;have B:∀(k:Pv)(code:BoundsCode),(Instr.sliceBound (.int k l) h code).run P w=.ok l w:=λk code=>nh j;have C:∀(k:Pv)(code:BoundsCode),(Instr.sliceBound (.int k h) m code).run P w=.ok h w:=λk code=>nh p;have D:∀(k:Pv)(code:BoundsCode),(Instr.sliceBound (.int k m) cap code).run P w=.ok m w:=λk code=>nh r;rcases A with⟨rfl,rfl⟩|⟨z,G,rfl,H⟩<;>rcases v with⟨rfl,rfl⟩|⟨y,J,rfl,K⟩<;>rcases u with⟨rfl,rfl⟩|⟨x,kx,rfl,ex⟩<;>
  first
  |(exfalso;rcases t with h|h<;>simp at h;done)
  |simp[Instr.sliceBounds, *]
theorem lI(b:aW n o=W)(c:aL P E w0 I0 n s a w I be)(d:P.underlying t=O (.slice e))(f:0<P.cellsOf e)(g:∀x,lo=O x∨hi=O x∨mx=O x->x∈o.op.operands){h:Nat}
  (i:lU s 0 lo=O l) (j:lU s len hi=O h) (k:lU s cap mx=O m) (p:l<=h) (r:h<=m) (u:m<=cap) (v:mx=Y∨hi≠Y):
  (Instr.sliceAt t (.slice A len cap) (lo.map a.eval) (hi.map a.eval) (mx.map a.eval)).run P w=.ok (.slice (if m=l then A else A.map (·.add (l*P.cellsOf e))) (h-l) (m-l)) w:=by
 have y:=qq (q:=W) b c g i j k p r u v;simp only[Instr.sliceAt,Instr.slice,b9,ef d,cz,y,fT rfl f,cF]
theorem yW(A:V Mc)(c:Nat)(d:c<=maxLen):cq w I (.slice A 0 c) (.sl []):=by
 cases A with
 |none=>exact .eU c|some a=>exact .sl a 0 c 0 _ (λ_ _=>undef) rfl aE d (λi x b=>by simp at b) (λi j x c b=>by simp at b) (λi j x c b=>by simp at b) (λi j x c b=>by simp at b)
theorem Mf{a:Mc}(k:cq w I (.slice (O a) len cap) (.sl xs))(o:∀x∈xs,x.cells.length=P.cellsOf e){h:Nat}(y:l<=h)(z:h<=xs.length)(A:h<=m)(B:m<=cap)(C:cap<=maxLen):
  cq w I (.slice (if m=l then O a else(O a).map (·.add (l*P.cellsOf e))) (h-l) (m-l)) (.sl ((xs.drop l).take (h-l))):=by
 by_cases h0:h=l
 .subst h0;simp only[wH,qV];exact yW _ _ M
 .have p:¬m=l:=M;simp only[p,cG,cj];cases k with
  |sl a' n D sz _ q E G H f r s t=>
   have u:sz=P.cellsOf e:=by have v:xs[0]?=O xs[0]:=bS M;rw[<-(f 0 _ v).1];exact o _ (gw _)
   subst u;have d:∀(i:Nat)(x:AV),((xs.drop l).take (h-l))[i]?=O x->xs[l+i]?=O x:=by
    intro i x hi;rw[gf]at hi;split at hi
    .rwa[kT]at hi
    .cases hi
   have g:∀i j,(a.add (l*P.cellsOf e)).add (i*P.cellsOf e+j)=a.add ((l+i)*P.cellsOf e+j):=λi j=>by rw[add_add,eO];congr 1;omega
   refine .sl _ _ _ (P.cellsOf e) _ (λi j=>q (l+i) j) cM cM M (λi x hi=>f _ _ (d i x hi)) (λi j x c hi b=>?_) (λi j x c hi b=>?_) (λi j x c hi b=>?_)
   .rw[g];exact r _ _ _ _ (d i x hi) b
   .rw[g];exact s _ _ _ _ (d i x hi) b
   .exact t _ _ _ _ (d i x hi) b
theorem re(h:cq w I v (.sl xs)):∃A cap,v=.slice A xs.length cap/\xs.length<=cap/\(A=Y->xs=[]):=by
 cases h with
 |eU c=>exact ⟨Y,c,rfl,aE,λ_=>rfl⟩|sl a n cap sz xs e b d f g i j k=>subst b;exact ⟨O a,cap,rfl,d,λh=>by cases h⟩
theorem Ap{x:qm}(c:o.op=.slice t x lo hi Y)(d:aW n o=W)(k:ga P t=O e)(p:0<P.cellsOf e)(q:bu (s.ev x)=O (.sl xs))(r:∀x∈xs,x.cells.length=P.cellsOf e)
  {h:Nat} (u:lU s 0 lo=O l) (v:lU s xs.length hi=O h) (f:l<=h) (g:h<=xs.length):dQ P E w0 I0 n o s (.val (.sl ((xs.drop l).take (h-l)))):=
 λa w I be i=>by
  have b:=dN (aG d (x:=x) (by simp[c,Op.operands]) i) q;obtain⟨A,cap,e1,H,z⟩:=re b;have j:=lI (P:=P) d i (w:=w) (A:=A) (cap:=cap) (mx:=Y) (eH k) p (λy B=>by rcases B with h|h|h<;>simp[c,Op.operands,h]) u v (by simp[lU]) f M (a6 _) (.inl rfl);refine⟨_,by simp only[execOp,c,e1,b9,iE]at j⊢;rw[j];rfl,?_⟩;rw[e1]at b;cases A with
  |none=>
   have:=z rfl;subst this;have C:h=0:=by simpa using g
   have D:l=0:=M;subst C D;simp only[List.drop_nil,List.take_nil,iE,ite_self];exact .eU _
  |some J=>
   have G:cap<=maxLen:=by generalize xs.length=m at b;cases b;assumption
   exact Mf b r f g M (a6 _) G
theorem wO{x z:qm}(c:o.op=.slice t x lo (O y) (O z))(f:aW n o=W)(p:ga P t=O e)(q:0<P.cellsOf e)(r:bu (s.ev x)=O (.sl xs))(u:∀x∈xs,x.cells.length=P.cellsOf e)
  {h:Nat} (v:lU s 0 lo=O l) (B:lU s 0 (O y)=O h) (d:lU s 0 (O z)=O h) (g:l<=h) (i:h<=xs.length):dQ P E w0 I0 n o s (.bM ((xs.drop l).take (h-l))):=
 λa w I be j=>by
  have b:=dN (aG f (x:=x) (by simp[c,Op.operands]) j) r;obtain⟨A,cap,e1,K,C⟩:=re b;have k:=lI (P:=P) f j (w:=w) (A:=A) (len:=xs.length) (cap:=cap) (hi:=O y) (mx:=O z) (eH p) q (λy D=>by rcases D with h|h|h<;>simp[c,Op.operands,h]) v B d g (a6 _) M (.inr aE);have G:((xs.drop l).take (h-l)).length=h-l:=cM;refine⟨_,by simp only[execOp,c,e1,b9,cj]at k⊢;rw[k];rfl,?_,by rw[G];exact ⟨_,rfl⟩⟩;rw[e1]at b;cases A with
  |none=>
   have:=C rfl;subst this;have H:h=0:=by simpa using i
   have J:l=0:=M;subst H J;simp only[List.drop_nil,List.take_nil,iE,ite_self];exact .eU _
  |some L=>
   have d:cap<=maxLen:=by generalize xs.length=m at b;cases b;assumption
   exact Mf b u g i (a6 _) M d
theorem k9{x:qm}(f:o.op=.slice t x lo hi Y)(q:aW n o=W)(u:ga P t=O e)(J:s.ev x=.view d gg off len)(K:gg=s.g d)(g:s.b d=O (.bi e xs))
  {h:Nat} (v:lU s 0 lo=O l) (z:lU s len hi=O h) (C:l<=h) (a0:h<=len):dQ P E w0 I0 n o s (.view d gg (off+l) (h-l)):=
 λa w I be i=>by
  have j:=aG q (x:=x) (by simp[f,Op.operands]) i;rw[J]at j;obtain⟨r,b0,c0,k⟩:=i.bG d _ g;obtain⟨D,hv⟩:=lx j K g;have G:∀y,lo=O y∨hi=O y∨(Y:V qm)=O y->y∈o.op.operands:=λy L=>by rcases L with h|h|h<;>simp[f,Op.operands,h]
  cases m:be d with
  |none=>
   simp only[m]at hv k;obtain⟨A,e1⟩:=hv;subst k;have N:len=0:=by simp at D;omega
   have Q:h=0:=M;have R:l=0:=M;subst N Q R;have b:=lI (P:=P) q i (w:=w) (A:=A) (cap:=0) (mx:=Y) (eH u) r G v z (by simp[lU]) C (a6 _) (a6 _) (.inl rfl);refine⟨_,by simp only[execOp,f,e1,b9,iE]at b⊢;rw[b];rfl,j.1,λ_=>?_⟩;unfold eg;simp only[g,m];exact⟨by simp at D⊢;omega,A,aE⟩
  |some B=>
   simp only[m]at hv k;obtain⟨cur,cap,A,hw,H,e1,S⟩:=hv;obtain⟨d0,c,p,T,e0,f0,_⟩:=k;rw[hw]at p;injection p with p;injection p with q1 g0;subst q1;have U:c=cap:=(k6 r (H.symm.trans T)).symm;subst U;have b:=lI (P:=P) q i (w:=w) (A:=A) (cap:=c-off) (mx:=Y) (eH u) r G v z (by simp[lU]) C M (a6 _) (.inl rfl);refine⟨_,by simp only[execOp,f,e1,b9,iE]at b⊢;rw[b];rfl,j.1,λ_=>?_⟩;unfold eg;simp only[g,m];refine⟨M,cur,c,(if c-off=l then A else A.map (·.add (l*P.cellsOf e))),hw,H,?_,?_⟩
   .congr 1;omega
   .intro h0;have X:¬c-off=l:=M;rw[ai X,S M];simp only[cj,dW,eO]
end
abbrev bs(l:Z NT):Jz:=.string ⟨l.toArray⟩
def rf(op:VQ)(k:Pv)(x y:Int):V Jz:=
 match op with
 |.add=>O (.int k (k.wrap (x+y)))|.sub=>O (.int k (k.wrap (x-y)))
 |.mul=>O (.int k (k.wrap (x*y)))|.quo=>if y=0 then Y else O (.int k (k.wrap (x.tdiv y)))
 |.rem=>if y=0 then Y else O (.int k (x.tmod y))|.and=>O (.int k (k.wrap (BitVec.ofInt k.bits x&&&BitVec.ofInt k.bits y).toNat))
 |.or=>O (.int k (k.wrap (BitVec.ofInt k.bits x|||BitVec.ofInt k.bits y).toNat))
 |.xor=>O (.int k (k.wrap (BitVec.ofInt k.bits x^^^BitVec.ofInt k.bits y).toNat))|.andNot=>O (.int k (k.wrap (BitVec.ofInt k.bits x&&&~~~BitVec.ofInt k.bits y).toNat))
 |.shl=>if y<0 then Y else O (.int k (k.wrap (x*2^(min y.toNat k.bits))))|.shr=>if y<0 then Y else O (.int k (x.fdiv (2^(min y.toNat k.bits))))
 |.eql=>O (.bool (x==y))|.neq=>O (.bool (x !=y))
 |.lss=>O (.bool (decide (x<y)))|.leq=>O (.bool (decide (x<=y)))
 |.gtr=>O (.bool (decide (x>y)))|.geq=>O (.bool (decide (x≥y)))
def kl:VQ->tl
 |.shl|.shr=>W|_=>F
def l9(op:VQ)(x y:Z NT):V Jz:=
 match op with
 |.add=>if x.length+y.length<=maxLen then O (bs (x++y))else Y|.eql=>O (.bool (x==y))
 |.neq=>O (.bool (x !=y))|.lss=>O (.bool (Op.bytesLess x y))
 |.leq=>O (.bool (Op.bytesLess x y||x==y))|.gtr=>O (.bool (!(Op.bytesLess x y||x==y)))
 |.geq=>O (.bool (!Op.bytesLess x y))|_=>Y
section
variable{P:qK}{E:cm}{w0:zI}{I0:aD}{n:Nat}{o:JB}{s:St}{K:St->Prop}{a:Act}{w:zI}{I:aD}{be:Nat->V Nat}{b:Nat->V Bx}{g:Nat->Nat}
theorem yX{x:qm}{k:Pv}{p q:Int}:(eqGuard op t x y (.int k p) (.int k' q)).run P w=.ok () w:=by cases op<;>rfl
theorem yY{x:qm}{p q:ByteArray}:(eqGuard op t x y (.string p) (.string q)).run P w=.ok () w:=by cases op<;>rfl
theorem oS{x:qm}{p q:tl}:(eqGuard op t x y (.bool p) (.bool q)).run P w=.ok () w:=by cases op<;>rfl
theorem J8{k:Pv}{p q:Int}(b:k'=k∨kl op=W)(h:rf op k p q=O v):(binOp op t (.int k p) (.int k' q)).run P w=.ok v w:=by
 cases op<;>simp only[rf,ax]at h<;>
  first
  |(have a:k'=k:=b.resolve_right (by simp[kl])
    subst a h;simp[binOp,Op.intArith,Op.intBits,Op.intCmp];done)
  |(split at h
    .cases h
    .rename_i c;injection h with h;first
     |(have a:k'=k:=b.resolve_right (by simp[kl])
       subst a h;simp[binOp,Op.intDiv,c];done)
     |(subst h
       simp[binOp,Op.shift,c];done))
theorem yZ{x:qm}(b:o.op=.binOp op t x y t')(c:aW n o=W){k:Pv}{p q:Int}(g:s.ev x=.val (.fl (.int k p)))(h:s.ev y=.val (.fl (.int k' q)))(i:k'=k∨kl op=W)(hv:rf op k p q=O v):dQ P E w0 I0 n o s (.val (.fl v)):=
 λa w I be d=>by
  have e:=aG c (x:=x) (by simp[b,Op.operands]) d;have f:=aG c (x:=y) (by simp[b,Op.operands]) d;rw[g]at e;rw[h]at f;refine⟨v,?_,.fl _ ?_⟩
  .simp only[execOp,b,cb e,cb f,b9,yX,cz,J8 i hv,cF]
  .cases op<;>simp only[rf,ax]at hv<;>first
    |(subst hv;rfl)
    |(split at hv
      .cases hv
      .injection hv with hv;subst hv;rfl)
theorem J9{p q:Z NT}(h:l9 op p q=O v):(binOp op t (bs p) (bs q)).run P w=.ok v w:=by
 have e:∀l:Z NT,(ByteArray.mk l.toArray).toList=l:=λl=>ByteArray.toList_mk l;have one:∀op,(op≠.add)->l9 op p q=O v->(binOp op t (bs p) (bs q)).run P w=.ok v w:=by
  intro op a h;cases op<;>simp only[l9,ax,reduceCtorEq]at h<;>first
   |(subst h;simp[bs,binOp,Op.stringOp,e];done)
   |exact absurd rfl a
   |(subst h;simp only[bs,binOp,Op.stringOp,e,cF];simp[bne])
 cases op with
 |add=>
  simp only[l9]at h;split at h
  .rename_i b;injection h with h;subst h;have c:¬(((p.length+q.length:Nat):Int)>IntKind.i64.max):=by simp only[maxLen]at b;simp[IntKind.max,IntKind.signed,IntKind.bits];omega
   have d:(ByteArray.mk p.toArray).size=p.length:=by simp[ByteArray.size]
   have f:(ByteArray.mk q.toArray).size=q.length:=by simp[ByteArray.size]
   have g:ByteArray.mk p.toArray++ByteArray.mk q.toArray=ByteArray.mk (p++q).toArray:=by apply ByteArray.ext;simp
   simp only[bs,binOp,Op.stringOp,d,f,c,cG,cF,g]
  .cases h
 |_=>exact one _ aE h
theorem Ka{p q:Z NT}(h:l9 op p q=O v):Tk v:=by
 cases op<;>simp only[l9,ax,reduceCtorEq]at h<;>first
  |(subst h;rfl)
  |(split at h
    .injection h with h;subst h;rfl
    .cases h)
theorem O0{x:qm}(b:o.op=.binOp op t x y t')(c:aW n o=W){p q:Z NT}(g:s.ev x=.val (.fl (bs p)))(h:s.ev y=.val (.fl (bs q)))(hv:l9 op p q=O v):dQ P E w0 I0 n o s (.val (.fl v)):=λa w I be d=>by have e:=aG c (x:=x) (by simp[b,Op.operands]) d;have f:=aG c (x:=y) (by simp[b,Op.operands]) d;rw[g]at e;rw[h]at f;refine⟨v,?_,.fl _ (Ka hv)⟩;have i:=J9 (P:=P) (w:=w) (t:=t) hv;have j:(eqGuard op t x y (bs p) (bs q)).run P w=.ok () w:=yY;simp only[execOp,b,cb e,cb f,b9,j,cz,i,cF]
def Kb:AV->V Jz
 |.fl v=>O v|_=>Y
def oC:AV->V Jz
 |.fl v=>O v|.agg cs=>(cs.mapM Kb).map λvs=>.agg vs.toArray
 |_=>Y
def mB:cy->V Jz
 |.val x=>oC x|.bM []=>O (.slice Y 0 0)
 |_=>Y
theorem Kc{u:Jz}{x:AV}(h:cq w I v x)(a:oC x=O u):v=u:=by
 cases h with
 |fl v hv=>simpa[oC]using a|agg vs cs s m=>
  simp only[oC,ck]at a;obtain⟨us,n,rfl⟩:=a;congr 1;have gen:∀(cs:Z AV)(us:Z Jz),cs.mapM Kb=O us->us.length=cs.length/\∀(j:Nat)(c:AV),cs[j]?=O c->∃u,us[j]?=O u/\c=.fl u:=by
   intro cs;induction cs with
   |nil=>intro us h;simp at h;subst h;simp|cons c cs o=>
    intro us h;simp only[List.mapM_cons]at h;cases c with
    |fl v=>
     simp only[Kb,Option.bind_eq_bind,aM]at h;cases b:cs.mapM Kb with
     |none=>simp[b]at h|some p=>
      simp only[b,aM,Option.pure_def,ax]at h;subst h;obtain⟨g,d⟩:=o p b;refine⟨by simp[g],λj c f=>?_⟩;cases j with
      |zero=>simp at f;subst f;exact ⟨v,rfl,rfl⟩|succ j=>simpa using d j c (by simpa using f)
    |_=>simp[Kb]at h
  obtain⟨g,d⟩:=gen cs us n;apply yT
  .simp;omega
  .intro j q t;have i:j<cs.length:=M;obtain⟨u,hu,e⟩:=d j cs[j] (bS i);have k:=m j cs[j] (bS i);rw[e]at k;have l:=cb k;simp only[jl,qP q,eP]at l;rw[l];have r:j<us.length:=M;rw[bS r]at hu;injection hu with hu;simp[hu]
 |_=>simp[oC]at a
theorem Aq{x:qm}(b:o.op=.unOp .not t x)(d:aW n o=W){p:tl}(e:s.ev x=.val (.fl (.bool p))):dQ P E w0 I0 n o s (.val (.fl (.bool (!p)))):=λa w I be f=>by have c:=aG d (x:=x) (by simp[b,Op.operands]) f;rw[e]at c;exact⟨.bool (!p),by simp[execOp,b,cb c,Op.unary],.fl _ rfl⟩
theorem Ar{x:qm}(b:o.op=.unOp .neg t x)(d:aW n o=W){k:Pv}{p:Int}(e:s.ev x=.val (.fl (.int k p))):dQ P E w0 I0 n o s (.val (.fl (.int k (k.wrap (0-p))))):=λa w I be f=>by have c:=aG d (x:=x) (by simp[b,Op.operands]) f;rw[e]at c;exact⟨.int k (k.wrap (0-p)),by simp[execOp,b,cb c,Op.unary,Op.intArith],.fl _ rfl⟩
theorem wP{x:qm}(b:o.op=.binOp op t x y t')(f:aW n o=W)(h:P.underlying t=O .bool)(i:op=.eql∨op=.neq){p q:tl}(j:s.ev x=.val (.fl (.bool p)))(k:s.ev y=.val (.fl (.bool q))):dQ P E w0 I0 n o s (.val (.fl (.bool (if op=.eql then p==q else p !=q)))):=
 λa w I be g=>by
  have c:=aG f (x:=x) (by simp[b,Op.operands]) g;have d:=aG f (x:=y) (by simp[b,Op.operands]) g;rw[j]at c;rw[k]at d;refine⟨_,?_,.fl _ rfl⟩;have he:(Op.equal t (.bool p) (.bool q)).run P w=.ok (p==q) w:=run_equalIn_bool' w 9999 t p q h;rcases i with rfl|rfl
  .have e:binOp .eql t (.bool p) (.bool q)=(do pure (.bool (<-Op.equal t (.bool p) (.bool q)))):=rfl;simp only[execOp,b,cb c,cb d,b9,oS,cz,e,he,cF,ca]
  .have e:binOp .neq t (.bool p) (.bool q)=(do pure (.bool (!(<-Op.equal t (.bool p) (.bool q))))):=rfl;simp only[execOp,b,cb c,cb d,b9,oS,cz,e,he,cF];rfl
theorem y6{x:qm}(b:o.op=.index t x y)(d:aW n o=W)(j:P.underlying t=O .string){l:Z NT}{k:Pv}{m:Int}(p:s.ev x=.val (.fl (bs l)))(q:s.ev y=.val (.fl (.int k m)))(h0:0<=m){c:NT}(f:l[m.toNat]?=O c):dQ P E w0 I0 n o s (.val (.fl (.int .u8 c.toNat))):=
 λa w I be g=>by
  have h:=aG d (x:=x) (by simp[b,Op.operands]) g;have i:=aG d (x:=y) (by simp[b,Op.operands]) g;rw[p]at h;rw[q]at i;have r:m.toNat<l.length:=(aY.1 f).1;have e:(ByteArray.mk l.toArray)[m.toNat]?=O c:=by
   have u:m.toNat<(ByteArray.mk l.toArray).size:=by simpa[ByteArray.size]using r
   rw[ByteArray.getElem?_lt' _ _ u];congr 1;have:=(aY.1 f).2;simpa[ByteArray.getElem_eq_getElem_data]using this
  exact⟨.int .u8 c.toNat,by simp[execOp,b,cb h,cb i,bs,Instr.index,asIntOf,ef j,h0,e],.fl _ rfl⟩
theorem Kd(l:Z NT)(i j:Nat):Value.string ((ByteArray.mk l.toArray).extract i j)=bs ((l.drop i).take (j-i)):=by rw[ByteArray.extract_mk]
theorem y7{x:qm}(b:o.op=.slice t x lo hi Y)(c:aW n o=W)(g:P.underlying t=O .string){xs:Z NT}(i:s.ev x=.val (.fl (bs xs))){h:Nat}(j:lU s 0 lo=O l)(k:lU s xs.length hi=O h)(p:l<=h)(r:h<=xs.length):dQ P E w0 I0 n o s (.val (.fl (bs ((xs.drop l).take (h-l))))):=
 λa w I be d=>by
  have e:=aG c (x:=x) (by simp[b,Op.operands]) d;rw[i]at e;have e1:=cb e;have u:(ByteArray.mk xs.toArray).size=xs.length:=by simp[ByteArray.size]
  have f:=qq (P:=P) (w:=w) (q:=F) (len:=xs.length) (cap:=xs.length) (m:=xs.length) (mx:=Y) c d (λy v=>by rcases v with h|h|h<;>simp[b,Op.operands,h]) j k (by simp[lU]) p r (a6 _) (.inl rfl);refine⟨_,?_,.fl _ rfl⟩;simp only[iE]at f;simp only[execOp,b,e1,bs,Instr.sliceAt,Instr.slice,b9,ef g,cz,iE,Option.isSome_none,iA,cG,cF,u,f,Kd]
end
inductive RV where
 |v (x:AV)
 |bU (e:TypeId) (xs:List AV)
 deriving Inhabited
inductive ni where
 |ret (rs:List RV)
 |dO (x:AV)
 deriving Inhabited
variable{out:ni}
def ml(P:qK)(E:cm)(w:zI)(I:aD)(base:Nat->Prop)(bo:V Nat)(v:Jz):RV->Prop
 |.v x=>cq w I v x|.bU e xs=>0<P.cellsOf e/\xs.length<=maxLen/\kW P e xs/\
  match bo with
  |none=>xs=[]/\∃A,v=.slice A 0 0|some B=>base B/\B<w.heap.size/\(∀p,I p->p.block≠B)/\¬E.cB w B/\∃cur cap,w.heap[B]?=O (.cells cur e (0,0))/\cur.size=cap*P.cellsOf e/\cap<=maxLen/\xs.length<=cap/\(∃A,v=.slice A xs.length cap/\(0<cap->A=O ⟨B,0,Y⟩))/\∀(i j:Nat)(x c:AV),xs[i]?=O x->x.cells[j]?=O c->cq w I (cur.getD (i*P.cellsOf e+j) undef) c
def nj(P:qK)(E:cm)(w:zI)(I:aD)(base:Nat->Prop)(bo:Nat->V Nat)(v:Jz):Z RV->Prop
 |[r]=>ml P E w I base (bo 0) v r|rs=>∃vs:Array Jz,v=.tuple vs/\vs.size=rs.length/\∀(j:Nat)(r:RV),rs[j]?=O r->ml P E w I base (bo j) (vs.getD j undef) r
def Ho(P:qK)(E:cm)(w0:zI)(I0:aD)(w:zI)(a:Nat->V Ob)(u:Nat->tl):ni->Ending->Prop
 |.ret rs,e=>∃v I bo,e=.returned v/\eL E w0 I0 w I/\nj P E w I (E.fresh w0) bo v rs/\(∀j b B,bo j=O B->bo b=O B->j=b)/\(∀j B,bo j=O B->E.fresh w0 B)/\my P E w0 w I a u (λB=>∃j,bo j=O B)|.dO x,e=>∃v I,e=.panicked [{v:=v,recovered:=F}]/\eL E w0 I0 w I/\cq w I v x/\my P E w0 w I a u (λ_=>False)
def qH:Nat->V Ob:=λ_=>Y
def km:Nat->tl:=λ_=>W
theorem my.none {w:zI} {I:aD} {T:Nat->Prop} (a:∀i,E.ro i=.none):my P E w0 w I qH km T:=⟨λi x h=>(by cases h),λi j B h=>(h rfl).elim,λi B h=>(h rfl).elim,λi h=>(by cases h),λi x h=>(by rw[a]at h;cases h)⟩
def cm.dn (E:cm) (a:Nat->V Ob) (I0:aD):cm:={h5:=E.h5,cB:=E.cB,jm:=E.jm,lt:=E.lt,tm:=λi=>if(a i).isSome then O (I0.ar i)else Y,dc:=F,it:=E.it}
theorem cm.gI {a:Nat->V Ob} {B:Nat}:(E.dn a I0).JT B↔∃i,a i≠.none/\I0.ar i=O B:=by
 constructor
 .rintro ⟨i,hi⟩;simp only[cm.dn]at hi;split at hi
  .rename_i h;exact⟨i,λe=>(by rw[e]at h;cases h),(by simpa using hi)⟩
  .cases hi
 .rintro ⟨i,hi,b⟩;refine⟨i,?_⟩;simp only[cm.dn];rw[aj (by cases h:a i with|none=>exact absurd h hi|some x=>rfl),b]
def nm(P:qK)(E:cm)(f:JC)(args:Z AV)(out:ni):Prop:=Go.Proofs.Enters P f/\∀(w0:zI)(I0:aD)(vs:Array Jz),E.h5 w0->(∀p,I0 p->p.block<w0.heap.size/\¬E.cB w0 p.block)->k8 w0 I0 vs.toList args->Calls P f vs w0 λe w=>Ho P E.plain w0 I0 w qH km out e
def np(P:qK)(E:cm)(f:JC)(args:Z AV)(a:Nat->V Ob)(u:Nat->tl)(out:ni)(a':Nat->V Ob)(u':Nat->tl):Prop:=Go.Proofs.Enters P f/\∀(w0:zI)(I0:aD)(vs:Array Jz),E.h5 w0->(∀p,I0 p->p.block<w0.heap.size/\¬E.cB w0 p.block)->my P (E.dn a I0) w0 w0 I0 a u (λ_=>False)->k8 w0 I0 vs.toList args->Calls P f vs w0 λe w=>Ho P (E.dn a I0) w0 I0 w a' u' out e
theorem cm.fp {w:zI} {B:Nat} (h:E.plain.fresh w B):w.heap.size<=B:=h.resolve_right (E.eG B)
theorem eL.trans {w:zI} {I:aD} (h:eL E w0 I0 w I) (h':eL E w I w' I'):eL E w0 I0 w' I':=by
 refine⟨h'.os.trans h.os,h'.tape.trans h.tape,h'.output.trans h.output,fk h.size h'.size,λk c d e=>?_,λb g=>?_,h'.h5,λp a=>h'.qG p (h.qG p a),λi B hi=>h'.ar i B (h.ar i B hi),λf=>(h'.NU f).trans (h.NU f),λB=>(h.iq B).trans (h'.iq B),λp a=>?_,h'.lt,h'.off⟩
 .rw[h'.block k (jf c h.size) (λj=>by rcases h.cB k j with h1|h1;exact d h1;omega) e];exact h.block k c d e
 .rcases h'.cB b g with h1|h1
  .exact h.cB b h1
  .exact .inr (fk h.size h1)
 .rcases h'.new p a with h1|h1|h1
  .exact h.new p h1
  .exact .inr (.inl (fk h.size h1))
  .exact .inr (.inr h1)
theorem eL.Tu {w:zI} {I:aD} (h:eL E.plain w I w' I'):eL E w I w' I':=⟨h.os,h.tape,h.output,h.size,λk a b _=>h.block k a b (E.eG k),h.cB,h.h5,h.qG,h.ar,λ_=>h.NU rfl,h.iq,λp c=>(h.new p c).imp id (λh=>h.imp id (λh=>(E.eG _ h).elim)),h.lt,h.off⟩
theorem eL.refl {w:zI} {I:aD} (hinv:E.h5 w) (a:∀p,I p->p.block<w.heap.size/\¬E.cB w p.block):eL E w I w I:=⟨rfl,rfl,rfl,a6 _,λ_ _ _ _=>rfl,λ_ h=>.inl h,hinv,λ_ h=>h,λ_ _ h=>h,λ_=>rfl,gh.refl w,λ_ h=>.inl h,λp h=>(a p h).1,λp h=>(a p h).2⟩
section
variable{P:qK}{E:cm}{w0:zI}{I0:aD}{n:Nat}{o:JB}{s:St}{K:St->Prop}{a:Act}{w w':zI}{I I':aD}{be:Nat->V Nat}{b:Nat->V Bx}{g:Nat->Nat}
theorem aL.As (h:aL P E w0 I0 n s a w I be) (h':eL E.plain w I w' I'):aL P E w0 I0 n s a w' I' be:=by
 have y:I'.ar=I.ar:=h'.NU rfl;have k:∀d B,s.b d≠Y->be d=O B->w'.heap[B]?=w.heap[B]?:=λd B g k=>by obtain⟨_,l,_,f⟩:=h.bU d B g k;exact h'.block B l f (E.eG B)
 have o:dD w w' I I':=⟨h'.qG,h'.ar,λp v j hv=>by rw[dw (h'.block p.block (h.since.lt p j) (h.since.off p j) (E.eG _))];exact hv,h'.iq⟩
 have g:∀d,s.g d<s.g d∨(s.g d=s.g d/\ff P w w' be be s.b s.b d):=λd=>.inr ⟨rfl,.h6 rfl rfl (λB q=>k d B q)⟩;have z:∀B,B<w.heap.size->¬E.cB w B->¬E.cB w' B:=λB k f m=>by
  rcases h'.cB B m with c|c
  .exact f c
  .omega
 refine⟨h.since.trans h'.Tu,h.size,h.defers.mono o,λt A=>(h.cu t A).cK o g,λd x u=>(h.bG d x u).cK o g rfl (λB=>k d B (by simp[u])),h.inj,λd B g C=>?_,h.sF,
  h.bb.cK o y (λi B hi r=>by
   obtain⟨_,l,_,f,_⟩:=h.bb.bU i B hi r;exact h'.block B l f (E.eG B)) h'.size (λp j=>by
   rcases h'.new p j with c|c|c
   .exact .inl c
   .refine .inr λi hi r=>?_;have:=(h.bb.bU i _ hi r).2.1;omega
   .exact (E.eG _ c).elim) (λb D m=>LZ λq=>z b D q m) (λ_ h=>.inl h)⟩
 obtain⟨G,l,H,f⟩:=h.bU d B g C;refine⟨G,jf l h'.size,λp j e=>?_,λm=>?_⟩
 .rcases h'.new p j with c|c|c
  .exact H p c e
  .omega
  .exact (E.eG _ c).elim
 .rcases h'.cB B m with c|c
  .exact f c
  .omega
def St.gJ (s:St) (id:Nat):RV->cy×St
 |.v x=>(.val x,s)|.bU e xs=>(.view id (s.g id+1) 0 xs.length,{s with b:=aa s.b id (O (.bi e xs)),g:=aa s.g id (s.g id+1)})
theorem aL.gJ (h:aL P E w0 I0 n s a w I be) (id:Nat) {bo:V Nat} {r:RV} (l:ml P E w I base bo v r) (m:∀B,base B->E.fresh w0 B)
  (o:∀B,bo=O B->∀d',d'≠id->s.b d'≠Y->be d'≠O B) (p:∀B,bo=O B->∀i,s.a i≠Y->I.ar i≠O B):
  ∃CT,aL P E w0 I0 n (s.gJ id r).2 a w I CT/\b4 P w I CT (s.gJ id r).2.b (s.gJ id r).2.g v (s.gJ id r).1/\(∀d',d'≠id->CT d'=be d'/\(s.gJ id r).2.b d'=s.b d')/\(∀v j,b4 P w I be s.b s.g v j->b4 P w I CT (s.gJ id r).2.b (s.gJ id r).2.g v j)/\((s.gJ id r).2.b id=s.b id/\CT id=be id∨CT id=bo):=by
 cases r with
 |v x=>exact ⟨be,h,l,λ_ _=>⟨rfl,rfl⟩,λ_ _ h=>h,.inl ⟨rfl,rfl⟩⟩|bU e xs=>
  obtain⟨q,t,u,b⟩:=l;have y:ie P w I (aa be id bo) (aa s.b id (O (.bi e xs))) (aa s.g id (s.g id+1)) id (.bi e xs):=by
   refine⟨q,t,λi x hi=>u x (bF hi),?_⟩;rw[bK];cases bo with
   |none=>exact b.1|some B=>obtain⟨_,_,_,_,cur,cap,q1,c,d,f,_,k⟩:=b;exact⟨cur,cap,q1,c,d,f,k⟩
  have z:=h.nb id (.bi e xs) bo y (λB C=>by subst C;obtain⟨q1,c,d,f,_⟩:=b;exact⟨m B q1,c,d,f,λd' g D=>o B rfl d' g D⟩) p;refine⟨aa be id bo,z,⟨by simp[St.gJ],λ_=>?_⟩,λd' g=>⟨aJ _ _ g,aJ _ _ g⟩,λv j G=>G.cK (.refl _ _) (DD id _ _),.inr (bK _ _ _)⟩;simp only[St.gJ];unfold eg;simp only[bK];cases bo with
  |none=>obtain⟨rfl,A,rfl⟩:=b;exact⟨aE,A,rfl⟩|some B=>obtain⟨_,_,_,_,cur,cap,q1,c,d,f,⟨A,H,k⟩,_⟩:=b;exact⟨M,cur,cap,A,q1,c,by simpa using H,λJ=>by simpa using k J⟩
def JK(d j:Nat):Nat:=1000*(d+1)+j
def St.cp (s:St) (d:Nat):Nat->Z RV->Z cy×St
 |_,[]=>([],s)|j,r::rs=>((s.gJ (JK d j) r).1::((s.gJ (JK d j) r).2.cp d (j+1) rs).1,((s.gJ (JK d j) r).2.cp d (j+1) rs).2)
def Mg:cy->Prop
 |.val _=>True|.view _ _ _ _=>True
 |_=>False
theorem Hq(s:St)(id:Nat)(r:RV):Mg (s.gJ id r).1:=by cases r<;>trivial
theorem aL.cp (A:∀B,base B->E.fresh w0 B) (C:∀j D B,bo j=O B->bo D=O B->j=D) (d:Nat):∀(rs:Z RV)(j:Nat)(s:St)(be:Nat->V Nat)(vs:Z Jz),aL P E w0 I0 n s a w I be->(∀k B,bo k=O B->∀i,s.a i≠Y->I.ar i≠O B)->
  vs.length=rs.length->(∀(k:Nat)(v:Jz)(r:RV),vs[k]?=O v->rs[k]?=O r->ml P E w I base (bo (j+k)) v r)->(∀k,j<=k->∀B,bo k=O B->∀d',s.b d'≠Y->be d'=O B->∃k',j<=k'/\d'=JK d k')->
  (∀k,j<=k->∀B,bo k=O B->∀k',j<=k'->s.b (JK d k')≠Y->be (JK d k')≠O B)->
  ∃CT,aL P E w0 I0 n (s.cp d j rs).2 a w I CT/\(s.cp d j rs).1.length=rs.length/\(∀(k:Nat)(v:Jz)(r:cy),vs[k]?=O v->(s.cp d j rs).1[k]?=O r->b4 P w I CT (s.cp d j rs).2.b (s.cp d j rs).2.g v r/\Mg r)/\(∀v g,b4 P w I be s.b s.g v g->b4 P w I CT (s.cp d j rs).2.b (s.cp d j rs).2.g v g)
 |[],j,s,be,vs,h,p,t,u,x,m=>⟨be,h,rfl,λk v r G l=>by simp[St.cp]at l,λ_ _ h=>h⟩|r::rs,j,s,be,[],h,p,t,u,x,m=>by simp at t
 |r::rs,j,s,be,v::vs,h,p,t,u,x,m=>by
  obtain⟨K,L,N,H,Q,R⟩:=h.gJ (JK d j) (bo:=bo j) (u 0 v r rfl rfl) A (λB f d' b0 c b=>by obtain⟨k',y,rfl⟩:=x j (a6 _) B f d' c b;exact m j (a6 _) B f k' y c b) (p j);have S:∀k k',k≠k'->JK d k≠JK d k':=λk k' h e=>by simp only[JK]at e;omega
  obtain⟨T,U,X,a0,J⟩:=aL.cp A C d rs (j+1) (s.gJ (JK d j) r).2 K vs L (by cases r<;>exact p) (by simpa using t)
   (λk z g hv l=>by have:=u (k+1) z g (by simpa using hv) (by simpa using l);simpa[jd,jF 1]using this)
   (λk G B f d' c b=>by
     by_cases e:d'=JK d j
     .subst e;rcases R with⟨q1,o⟩|q
      .rw[q1]at c;rw[o]at b;exact absurd b (m k M B f j (a6 _) c)
      .rw[q]at b;have:=C k j B f b;omega
     .obtain ⟨q1,o⟩:=H d' e;rw[q1]at b;rw[o]at c;obtain⟨k',y,rfl⟩:=x k M B f d' c b;exact absurd b (m k M B f k' y c))
   (λk G B f k' y c b=>by obtain⟨q1,o⟩:=H (JK d k') (S _ _ M);rw[q1]at b;rw[o]at c;exact m k M B f k' M c b)
  refine⟨T,U,by simp[St.cp,X],λk z g hv l=>?_,λv g h'=>J _ _ (Q _ _ h')⟩;cases k with
  |zero=>simp[St.cp]at hv l;subst hv l;exact⟨J _ _ N,Hq _ _ _⟩|succ k=>exact a0 k z g (by simpa using hv) (by simpa[St.cp]using l)
def St.take (s:St) (dst:V Nat):Z RV->St
 |[r]=>match dst with
  |some d=>((s.gJ d r).2).put (O d) (s.gJ d r).1|none=>s
 |rs=>match dst with
  |some d=>((s.cp d 0 rs).2).put (O d) (.fK (s.cp d 0 rs).1)|none=>s
theorem aL.take (h:aL P E w0 I0 n s a w I be) {rs:Z RV} (b:nj P E w I base bo v rs) (u:∀j o B,bo j=O B->bo o=O B->j=o)
  (p:∀B,base B->E.fresh w0 B) (l:∀k B,bo k=O B->∀d',s.b d'≠Y->be d'≠O B) (q:∀k B,bo k=O B->∀i,s.a i≠Y->I.ar i≠O B) (dst:V Nat):∃CT,aL P E w0 I0 n (s.take dst rs) (a.put dst v) w I CT:=by
 have many:∀rs:Z RV,(∃vs:Array Jz,v=.tuple vs/\vs.size=rs.length/\∀(j:Nat)(r:RV),rs[j]?=O r->ml P E w I base (bo j) (vs.getD j undef) r)->∀d,∃CT,aL P E w0 I0 n (((s.cp d 0 rs).2).put (O d) (.fK (s.cp d 0 rs).1)) (a.put (O d) v) w I CT:=by
  rintro rs ⟨vs,rfl,m,y⟩ d;obtain⟨CT,g1,g2,g3,_⟩:=aL.cp p u d rs 0 s be vs.toList h q (by simpa using m) (λk D r hv g=>by
    have:=y k r g;rw[jO]at hv;simpa[hv]using this)
   (λk _ B c d' f z=>absurd z (l k B c d' f)) (λk _ B c k' _ f=>l k B c _ f)
  refine⟨CT,g1.put (O d) ⟨vs,rfl,by rw[g2];exact m,λj r g=>?_⟩⟩;have t:j<vs.size:=by rw[m,<-g2];exact (aY.1 g).1
  have:=g3 j vs[j] r (by simp[t]) g;have e:vs.getD j undef=vs[j]:=by simp[t]
  rw[e];cases r with
  |val x=>exact this.1|view d gg off len=>exact this.1
  |none=>exact this.2.elim|bM xs=>exact this.2.elim
  |dT d gg sz i k=>exact this.2.elim|fK rs=>exact this.2.elim
 match rs,b with
 |[r],b=>
  cases dst with
  |none=>exact ⟨be,h⟩|some d=>obtain⟨CT,h1,A,_⟩:=h.gJ d (bo:=bo 0) b p (λB c d' _ f=>l 0 B c d' f) (q 0);exact⟨CT,h1.put (O d) A⟩
 |[],b=>
  cases dst with
  |none=>exact ⟨be,h⟩|some d=>exact many [] b d
 |r::C::rs,b=>
  cases dst with
  |none=>exact ⟨be,h⟩|some d=>exact many (r::C::rs) b d
def nq(P:qK)(E:cm)(w0:zI)(I0:aD)(n:Nat)(o:JB)(s:St)(K:St->Prop)(X:AV->St->Prop):Prop:=∀a w,gi P E w0 I0 n s a w->∀b:Exit->Act->zI->Prop,(∀(x:AV)(v:Jz)(s':St)(a':Act)(w':zI)(I':aD)(CT:Nat->V Nat),X x s'->aL P E w0 I0 n s' a' w' I' CT->cq w' I' v x->b (.panic [{v:=v,recovered:=F}]) a' w')->o.wp P a w (λa' w'=>∃s',gi P E w0 I0 n s' a' w'/\K s') b
def NX(out:ni)(K:Z RV->Prop)(X:AV->Prop):Prop:=
 match out with
 |.ret rs=>K rs|.dO y=>X y
def iI(s:St)(x:qm):V (JC×Z AV):=
 match s.ev x with
 |.val (.fn f caps)=>O (f,caps)|_=>Y
theorem PH{x:qm}(e:o.op=.call {callee:=.value x,args:=args,argTypes:=argTypes})(i:aW n o=W){f:JC}(b:iI s x=O (f,caps))(m:cP s args.toList=O xs)
  (p:Go.Proofs.Enters P f) (k:aL P E w0 I0 n s a w I be):∃vs:Array Jz,(execOp a.eval o).run P w=.ok (.enter f vs) w/\k8 w I vs.toList (xs++caps):=by
 have l:=aG i (x:=x) (by simp[e,Op.operands,Call.operands]) k;have q:s.ev x=.val (.fn f caps):=by
  unfold iI at b;split at b
  .rename_i G H h;simp only[ax,bc]at b;rw[h,b.1,b.2]
  .cases b
 rw[q]at l;obtain⟨vs,e1,J,r⟩:∃vs:Array Jz,a.eval x=.func (.func f) #[] vs/\vs.size=caps.length/\∀(j:Nat)(c:AV),caps[j]?=O c->cq w I (vs.getD j undef) c:=by
  have t:cq w I (a.eval x) (.fn f caps):=l;generalize a.eval x=u at*;cases t with
  |fn f vs caps z A=>exact ⟨vs,rfl,z,A⟩
 have g:=kk i k (ps:=args.toList) (λy B=>by simp[e,Op.operands,Call.operands];exact .inr (by simpa using B)) m;refine⟨(args.map a.eval)++vs,?_,by have:=g.1;simp at this⊢;omega,λj v c hv d=>?_⟩
 .simp only[execOp,e,resolve,e1,Deferred.ofValue,b9,cF,cz,invoke,Tp,p ((args.map a.eval)++vs) w]
 .have C:(args.map a.eval).toList.length=xs.length:=by have:=g.1;simpa using this
  simp only[Pw]at hv;by_cases D:j<xs.length
  .rw[fx M]at hv;rw[fx D]at d;exact g.2 j v c (by simpa using hv) d
  .rw[im M]at hv;rw[im M]at d;have:=r _ c d;rw[C,jO]at hv;simpa[hv]using this
theorem aL.uR (h:aL P E w0 I0 n s a w I be) (J:E.dc=F) (K:∀i,E.ro i=Y) {T:Nat->Prop} (h':eL (E.dn s.a I) w I w' I') (r:my P (E.dn s.a I) w w' I' a' u' T):aL P E w0 I0 n {s with a:=a',u:=u'} a w' I' be:=by
 have m:∀B,(E.dn s.a I).JT B->E.fresh w0 B/\∀d,s.b d≠Y->be d≠O B:=λB c=>by obtain⟨i,hi,o⟩:=cm.gI.1 c;obtain⟨q1,_,_,_,L⟩:=h.bb.bU i B hi o;exact⟨q1,λd f l=>L ⟨d,f,l⟩⟩
 have N:∀p,I p->¬(E.dn s.a I).JT p.block:=λp g c=>by obtain⟨i,hi,o⟩:=cm.gI.1 c;exact(h.bb.bU i _ hi o).2.2.1 p g rfl
 have D:∀B,(E.dn s.a I).fresh w B->E.fresh w0 B:=λB c=>by
  rcases c with c|c
  .exact .inl (fk h.since.size c)
  .exact (m B c).1
 have c:∀d B,s.b d≠Y->be d=O B->w'.heap[B]?=w.heap[B]?:=λd B f c=>by obtain⟨_,z,_,A⟩:=h.bU d B f c;exact h'.block B z A (λQ=>(m B Q).2 d f c)
 have C:dD w w' I I':=⟨h'.qG,h'.ar,λp v g hv=>by rw[dw (h'.block p.block (h.since.lt p g) (h.since.off p g) (N p g))];exact hv,h'.iq⟩
 have f:∀d,s.g d<s.g d∨(s.g d=s.g d/\ff P w w' be be s.b s.b d):=λd=>.inr ⟨rfl,.h6 rfl rfl (λB R=>c d B R)⟩;have S:eL E w0 I0 w' I':=by
  refine⟨h'.os.trans h.since.os,h'.tape.trans h.since.tape,h'.output.trans h.since.output,fk h.since.size h'.size,λk G y H=>?_,λb U=>?_,h'.h5,λp g=>h'.qG p (h.since.qG p g),λi B hi=>h'.ar i B (h.since.ar i B hi),λq=>(by rw[J]at q;cases q),λB=>(h.since.iq B).trans (h'.iq B),λp g=>?_,h'.lt,h'.off⟩
  .rw[h'.block k (jf G h.since.size) (λX=>by rcases h.since.cB k X with h1|h1;exact y h1;omega) (λa0=>by
    rcases(m k a0).1 with h1|h1
    .omega
    .exact H h1)]
   exact h.since.block k G y H
  .rcases h'.cB b U with h1|h1
   .exact h.since.cB b h1
   .exact .inr (fk h.since.size h1)
  .rcases h'.new p g with h1|h1
   .exact h.since.new p h1
   .exact .inr (D _ h1)
 refine⟨S,h.size,h.defers.mono C,λt b0=>(h.cu t b0).cK C f,λd x q=>(h.bG d x q).cK C f rfl (λB=>c d B (by have c0:s.b d=O x:=q;rw[c0];exact λh=>by cases h)),h.inj,λd B f l=>?_,h.sF,⟨r.hC,r.inj,λi B hi o=>?_,r.un,λi x h=>(by rw[K]at h;cases h)⟩⟩
 .obtain ⟨h1,z,d0,A⟩:=h.bU d B f l;refine⟨h1,jf z h'.size,λp g e=>?_,λy=>?_⟩
  .rcases h'.new p g with j|j|j
   .exact d0 p j e
   .omega
   .rw[e]at j;exact (m B j).2 d f l
  .rcases h'.cB B y with j|j
   .exact A j
   .omega
 .obtain ⟨q1,e0,f0,g0,_⟩:=r.bU i B hi o;refine⟨D B q1,e0,f0,g0,?_⟩;rintro⟨d,f,l⟩;have:=(h.bU d B f l).2.1;rcases q1 with q1|q1
  .omega
  .exact (m B q1).2 d f l
theorem rh{x:qm}(C:o.op=.call {callee:=.value x,args:=args,argTypes:=argTypes})(D:aW n o=W)(q:E.dc=F)(r:∀i,E.ro i=Y){f:JC}(G:iI s x=O (f,caps))(H:cP s args.toList=O xs)
  (J:np P E f (xs++caps) s.a s.u out a' u') (t:NX out (λrs=>K (({s with a:=a',u:=u'}:St).take o.dst rs)) (λy=>X y {s with a:=a',u:=u'})):nq P E w0 I0 n o s K X:=by
 rintro a w ⟨I,be,b⟩ j0 L;obtain⟨N,Q⟩:=J;obtain⟨vs,R,S⟩:=PH C D G H N b;have T:my P (E.dn s.a I) w w I s.a s.u (λ_=>False):=⟨b.bb.hC,b.bb.inj,λi B hi d=>by obtain⟨q1,U,a0,b0,l0⟩:=b.bb.bU i B hi d;exact⟨.inr (cm.gI.2 ⟨i,hi,d⟩),U,a0,b0,id⟩,b.bb.un,λi x h=>by cases h⟩
 have c0:=Q w I vs b.since.h5 (λp g=>⟨b.since.lt p g,b.since.off p g⟩) T S;unfold Oper.wp;rw[R];simp only[zZ];refine c0.mono λe w' g=>?_;cases out with
 |ret rs=>
  obtain⟨v,I',bo,rfl,m,d0,e0,f0,j⟩:=g;have g0:=b.uR q r m j;have h0:∀k B,bo k=O B->∀d',s.b d'≠Y->be d'≠O B:=λk B c d' z A=>by
   have m0:=(b.bU d' B z A).2.1;rcases f0 k B c with l|l
   .omega
   .obtain ⟨i,hi,d⟩:=cm.gI.1 l;exact(b.bb.bU i B hi d).2.2.2.2 ⟨d',z,A⟩
  obtain⟨CT,l⟩:=g0.take d0 e0 (λB c=>by
   rcases c with c|c
   .exact .inl (fk b.since.size c)
   .obtain ⟨i,hi,d⟩:=cm.gI.1 c;exact(b.bb.bU i B hi d).1) h0 (λk B c i hi d=>(j.bU i B hi d).2.2.2.2 ⟨k,c⟩) o.dst
  exact⟨_,⟨I',CT,l⟩,t⟩
 |dO y=>obtain⟨v,I',rfl,m,i0,j⟩:=g;exact L y v _ a w' I' be t (b.uR q r m j) i0
theorem tu{x:qm}(r:o.op=.call {callee:=.value x,args:=args,argTypes:=argTypes})(z:aW n o=W){f:JC}(d:iI s x=O (f,caps))(H:cP s args.toList=O xs)
  (J:nm P E f (xs++caps) out) (A:NX out (λrs=>K (s.take o.dst rs)) (λy=>X y s)):nq P E w0 I0 n o s K X:=by
 rintro a w ⟨I,be,b⟩ q0 L;obtain⟨N,Q⟩:=J;have C:=aG z (x:=x) (by simp[r,Op.operands,Call.operands]) b;have R:s.ev x=.val (.fn f caps):=by
  unfold iI at d;split at d
  .rename_i r0 s0 h;simp only[ax,bc]at d;rw[h,d.1,d.2]
  .cases d
 rw[R]at C;obtain⟨vs,e1,t0,S⟩:∃vs:Array Jz,a.eval x=.func (.func f) #[] vs/\vs.size=caps.length/\∀(j:Nat)(c:AV),caps[j]?=O c->cq w I (vs.getD j undef) c:=by
  have T:cq w I (a.eval x) (.fn f caps):=C;generalize a.eval x=u at*;cases T with
  |fn f vs caps U a0=>exact ⟨vs,rfl,U,a0⟩
 have t:=kk z b (ps:=args.toList) (λy b0=>by simp[r,Op.operands,Call.operands];exact .inr (by simpa using b0)) H;have c0:k8 w I ((args.map a.eval)++vs).toList (xs++caps):=by
  refine⟨by have:=t.1;simp at this⊢;omega,λj v c hv g=>?_⟩;have d0:(args.map a.eval).toList.length=xs.length:=by have:=t.1;simpa using this
  simp only[Pw]at hv;by_cases e0:j<xs.length
  .rw[fx M]at hv;rw[fx e0]at g;exact t.2 j v c (by simpa using hv) g
  .rw[im M]at hv;rw[im M]at g;have:=S _ c g;rw[d0,jO]at hv;simpa[hv]using this
 have g:=Q w I ((args.map a.eval)++vs) b.since.h5 (λp l=>⟨b.since.lt p l,b.since.off p l⟩) c0;have f0:(execOp a.eval o).run P w=.ok (.enter f ((args.map a.eval)++vs)) w:=by simp only[execOp,r,resolve,e1,Deferred.ofValue,b9,cF,cz,invoke,Tp,N ((args.map a.eval)++vs) w]
 unfold Oper.wp;rw[f0];simp only[zZ];refine g.mono λe w' l=>?_;cases out with
 |ret rs=>
  obtain⟨v,I',bo,rfl,q,g0,h0,D,_⟩:=l;have i0:=b.As q;have j0:∀k B,bo k=O B->∀d',s.b d'≠Y->be d'≠O B:=λk B m d' l0 m0=>by have n0:=(b.bU d' B l0 m0).2.1;have:=cm.fp (D k B m);omega
  obtain⟨CT,o0⟩:=i0.take g0 h0 (λB m=>.inl (fk b.since.size (cm.fp m))) j0 (λk B m i hi G=>by rw[q.NU rfl]at G;have n0:=(b.bb.bU i B hi G).2.1;have:=cm.fp (D k B m);omega) o.dst;exact⟨_,⟨I',CT,o0⟩,A⟩
 |dO y=>obtain⟨v,I',rfl,q,p0,_⟩:=l;exact L y v s a w' I' be A (b.As q) p0
end
section
variable{P:qK}{E:cm}{w0:zI}{I0:aD}{n:Nat}{o:JB}{s:St}{K:St->Prop}{a:Act}{w w':zI}{I I':aD}{be:Nat->V Nat}
end
section
variable{P:qK}{E:cm}{w0:zI}{I0:aD}{n:Nat}{o:JB}{s:St}{K:St->Prop}{a:Act}{w w':zI}{I I':aD}{be:Nat->V Nat}{b:Nat->V Bx}{g:Nat->Nat}
theorem Hr{ty:JA}{B q:Nat}{T:JA}(b:P.underlying t=O (.slice e))(c:0<P.cellsOf e)(d:w.heap[B]?=O (.cells cur T (0,0)))
   (hlen:(Builtin.lenOf v).run P w=.ok k w) (f:m=min k len) (g:(Builtin.firstCells (P.cellsOf e) m v).run P w=.ok news.toArray w) (h:∀u∈news,u.oneCell'=W) (i:q+news.length<=cur.size):
  (Builtin.copy_ #[t,u] ty #[.slice (O ⟨B,q,Y⟩) len cap,v]).run P w=.ok (.int .i64 m) (w.setRow B (bd cur.toList q news).toArray):=by
 have a:=run_storeCells_at P B q T news 0 cur w d (by simpa using i) h;simp only[lX]at a;have j:Nat.min k len=m:=f.symm;simp[Builtin.copy_,ef b,hlen,j,fT rfl c,g,a,goInt,bd]
theorem O3{ty:JA}(a:P.underlying t=O (.slice e))(b:0<P.cellsOf e)
   (hlen:(Builtin.lenOf v).run P w=.ok k w) (c:(Builtin.firstCells (P.cellsOf e) 0 v).run P w=.ok #[] w):
  (Builtin.copy_ #[t,u] ty #[.slice A 0 cap,v]).run P w=.ok (.int .i64 0) w:=by
 have d:Nat.min k 0=0:=Nat.min_eq_right (dS _);cases A<;>simp[Builtin.copy_,ef a,hlen,fT rfl b,c,goInt,storeCells]
theorem Ke{x:qm}(N:o.op=.call {callee:=.builtin .copy,args:=#[x,y],argTypes:=#[t,u]})(d0:aW n o=W)(n0:ga P t=O e)(o0:s.ev x=.view d gg off len)(p0:gg=s.g d)(k:s.b d=O (.bi e xs))
  (q0:iH P s e (s.ev y)=O ys) (Q:kW P e ys)
  (e0:K (St.put {s with b:=aa s.b d (O (.bi e (bd xs off (ys.take (min ys.length len)))))} o.dst (.val (.fl (.int .i64 (min ys.length len:Nat)))))):dE P E w0 I0 n o s K:=by
 rintro a w ⟨I,be,g⟩ r0;have f0:=aG d0 (x:=x) (by simp[N,Op.operands,Call.operands]) g;have f:=aG d0 (x:=y) (by simp[N,Op.operands,Call.operands]) g;rw[o0]at f0;obtain⟨news,i⟩:=wJ g f q0 Q;have q:=eH n0;have s0:=g.bG d _ k;obtain⟨z,t0,C,D⟩:=s0;obtain⟨u0,hv⟩:=lx f0 p0 k;obtain⟨cs,g0⟩:=fL N a;have h0:∀A c,len=0->a.eval x=.slice A len c->o.wp P a w (λa' w'=>∃s',gi P E w0 I0 n s' a' w'/\K s') r0:=by
  rintro A c rfl e1;have G:=i.cells w rfl 0 (dS _);simp only[lY,qV]at G;have R:=O3 (P:=P) (w:=w) (t:=t) (u:=u) (ty:=o.type) (A:=A) (cap:=c) q z (i.len w) G;refine fm (v:=.int .i64 0) (w':=w) (by rw[g0];simp[builtin,e1,R]) ⟨_,?_,e0⟩;have v0:bd xs off (ys.take (min ys.length 0))=xs:=by simp[bd]
  have x0:({s with b:=aa s.b d (O (.bi e xs))}:St)=s:=by
   have:aa s.b d (O (.bi e xs))=s.b:=by funext t;by_cases h:t=d<;>simp[aa,h,k]
   rw[this]
  rw[v0,x0];exact⟨I,be,g.put o.dst (v:=.int .i64 0) (r:=.val (.fl (.int .i64 ((min ys.length 0:Nat):Int)))) (by rw[Nat.min_zero];exact .fl _ rfl)⟩
 cases l:be d with
 |none=>simp only[l]at hv D;obtain⟨A,e1⟩:=hv;subst D;exact h0 A 0 (by simp at u0;omega) e1|some B=>
  simp only[l]at hv D;obtain⟨cur,cap,A,hw,S,e1,y0⟩:=hv;obtain⟨N0,m,H,A0,B0,C0,i0⟩:=D;rw[hw]at H;injection H with H;injection H with q1 P0;subst q1;have D0:m=cap:=(k6 z (S.symm.trans A0)).symm;subst D0;by_cases E0:off<m
  .obtain rfl:=y0 E0;have j0:min ys.length len<=ys.length:=Nat.min_le_left _ _;have G:=i.cells w rfl (min ys.length len) j0;have l0:(news.take (min ys.length len*P.cellsOf e)).length=min ys.length len*P.cellsOf e:=by rw[jE,i.size];have:=fR (P.cellsOf e) j0;omega
   have G0:(off+min ys.length len)*P.cellsOf e<=m*P.cellsOf e:=fR _ M;have T:off*P.cellsOf e+(news.take (min ys.length len*P.cellsOf e)).length<=cur.size:=by rw[l0,S,<-eO];exact G0
   have R:=Hr (P:=P) (w:=w) (t:=t) (u:=u) (ty:=o.type) (len:=len) (cap:=m-off) q z hw (i.len w) rfl G (λu q=>i.one u (s7 q)) T;have U:(bd cur.toList (off*P.cellsOf e) (news.take (min ys.length len*P.cellsOf e))).toArray.size=cur.size:=by rw[oz,bI (by simpa using T)];simp
   have wC:(ys.take (min ys.length len)).length=min ys.length len:=aE;have X:off+(ys.take (min ys.length len)).length<=xs.length:=by rw[wC];omega
   have J:(bd xs off (ys.take (min ys.length len))).length=xs.length:=bI X;obtain⟨H0,Q0⟩:=g.uJ d _ (.bi e (bd xs off (ys.take (min ys.length len)))) B k l cur _ e hw U (.inr ⟨_,_,_,rfl,rfl,J⟩);have J0:=g.gm d _ (.bi e (bd xs off (ys.take (min ys.length len)))) B k l cur _ e hw U (.inr ⟨_,_,_,rfl,rfl,J⟩) ⟨z,by rw[J];exact t0,λi2 p f=>?_,?_⟩
   .refine fm (v:=.int .i64 (min ys.length len:Nat)) (w':=w.setRow B (bd cur.toList (off*P.cellsOf e) (news.take (min ys.length len*P.cellsOf e))).toArray) (by rw[g0];simp[builtin,e1];rw[R];rfl) ⟨_,⟨I,be,J0.put o.dst (r:=.val (.fl (.int .i64 (min ys.length len:Nat)))) (.fl _ rfl)⟩,e0⟩
   .rw[cD X]at f;split at f
    .exact C _ _ f
    .split at f
     .rw[gf]at f;split at f
      .exact Q p (bF f)
      .cases f
     .exact C _ _ f
   .simp only[l];refine⟨_,m,oB w B cur _ e (0,0) hw,by rw[U,S],B0,by rw[J];exact C0,λi2 j p c f L=>?_⟩;refine cq.mono (w:=w) (I:=I) H0 ?_;rw[fo (by simpa using T),l0];rw[cD X,wC]at f;have R0:j<P.cellsOf e:=by
     have:p.cells.length=P.cellsOf e:=by
      split at f
      .exact (C _ _ f).1
      .split at f
       .rw[gf]at f;split at f
        .exact (Q p (bF f)).1
        .cases f
       .exact (C _ _ f).1
     rw[<-this];exact (aY.1 L).1
    by_cases a0:i2<off
    .rw[aj a0]at f;have m0:(i2+1)*P.cellsOf e<=off*P.cellsOf e:=fR _ a0;rw[eO,jG]at m0;rw[aj M];exact i0 _ _ _ _ f L
    .rw[ai a0]at f;have m0:off*P.cellsOf e<=i2*P.cellsOf e:=fR _ M;rw[ai M];by_cases b0:i2<off+min ys.length len
     .rw[aj b0,gf,aj M]at f;have c0:(i2+1)*P.cellsOf e<=(off+min ys.length len)*P.cellsOf e:=fR _ b0;rw[eO,jG,eO]at c0;rw[aj M];have K0:=i.W9 _ j p c f L;have L0:i2*P.cellsOf e+j-off*P.cellsOf e=(i2-off)*P.cellsOf e+j:=by rw[Nat.sub_mul];omega
      rw[L0,qo,gf,aj (by rw[Nat.sub_mul];omega),<-qo];exact K0
     .rw[ai b0]at f;have c0:(off+min ys.length len)*P.cellsOf e<=i2*P.cellsOf e:=fR _ M;rw[eO]at c0;rw[ai M];exact i0 _ _ _ _ f L
  .exact h0 A _ M e1
def St.Au (s:St) (d d':Nat) (e:JA) (xs:Z AV) (len:Nat):St:=(({s with b:=aa s.b d' Y}:St)).cH d e (xs.take len)
theorem aL.Au (h:aL P E w0 I0 n s a w I be) (d d':Nat) (hv:b4 P w I be s.b s.g v (.view d' gg 0 len)) (z:gg=s.g d') (p:s.b d'=O (.bi e xs)):
  ∃CT,aL P E w0 I0 n (s.Au d d' e xs len) (a.put (O d) v) w I CT:=by
 have q:s.b d'≠Y:=by simp[p]
 obtain⟨C,S,D,k⟩:=h.bG d' _ p;obtain⟨T,l⟩:=lx hv z p;have G:=h.drop d';have m:(xs.take len).length=len:=cM;have H:ie P w I (aa be d (be d')) (aa (aa s.b d' Y) d (O (.bi e (xs.take len)))) (aa s.g d (s.g d+1)) d (.bi e (xs.take len)):=by
  refine⟨C,by rw[m];omega,λi x hi=>?_,?_⟩
  .rw[gf]at hi;split at hi
   .exact D _ _ hi
   .cases hi
  .rw[bK];cases b:be d' with
   |none=>simp only[b]at k;subst k;simp|some B=>
    simp only[b]at k;obtain⟨cur,cap,q1,f,g,o,J⟩:=k;refine⟨cur,cap,q1,f,g,by rw[m];omega,λi j x c hi K=>?_⟩;rw[gf]at hi;split at hi
    .exact J _ _ _ _ hi K
    .cases hi
 have L:=G.nb d (.bi e (xs.take len)) (be d') H (λB b=>by
  obtain⟨q1,f,g,o⟩:=h.bU d' B q b;refine⟨q1,f,g,o,λy U t N=>?_⟩;by_cases u:y=d'
  .subst u;simp at t
  .simp only[aJ _ _ u]at t;exact u (h.inj y d' _ t q N b)) (λB b i hi Q=>(h.bb.bU i B hi Q).2.2.2.2 ⟨d',q,b⟩)
 refine⟨aa be d (be d'),?_⟩;have R:=L.put (O d) (v:=v) (r:=.view d (s.g d+1) 0 len) ⟨aE,λ_=>by
  unfold eg;simp only[bK];refine⟨by rw[m];omega,?_⟩;cases b:be d' with
  |none=>simp only[b]at l;exact l|some B=>simp only[b]at l;obtain⟨cur,cap,A,q1,f,g,o⟩:=l;exact⟨cur,cap,A,q1,f,g,o⟩⟩
 unfold St.Au St.cH;rw[m];exact R
theorem uS{x:qm}(b:o.op=.assign x)(g:aW n o=W)(h:o.dst=O d)(i:s.ev x=.view d' gg 0 len)(j:gg=s.g d')(k:s.b d'=O (.bi e xs))(l:K (s.Au d d' e xs len)):dE P E w0 I0 n o s K:=by rintro a w ⟨I,be,c⟩ p;have f:=aG g (x:=x) (by simp[b,Op.operands]) c;rw[i]at f;obtain⟨CT,m⟩:=c.Au d d' f j k;exact fm (v:=a.eval x) (w':=w) (by simp[execOp,b]) ⟨_,⟨I,CT,by rw[h];exact m⟩,l⟩
end
end Go.Ev
