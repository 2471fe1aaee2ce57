import Derived.Orders
import Derived.Below
import Derived.Laws.AppendOwn
import Derived.Laws.MakeOwn
import Derived.Laws.CopyOwn
import Derived.Laws.Rows
import Derived.Laws.Tables
import Derived.Laws.StructEq
import Derived.Laws.Strings3
import Derived.Laws.BytesString
import Derived.Laws.NewBlocks
import Derived.Shelf.Abstract
set_option linter.all false
namespace Go
def rq:=@Array.all_eq_true'
def SR:=@Array.append_empty
def QH:=@Array.empty_append
def QJ:=@Array.eq_empty_of_size_eq_zero
def CL:=@Array.ext
def aaN:=@Array.foldl_toList
def jI:=@Array.getD_eq_getD_getElem?
def aaR:=@Array.getElem?_append_left
def sW:=@Array.getElem?_eq_getElem
def F0:=@Array.getElem?_eq_none
def eT:=@Array.getElem?_eq_some_iff
def J6:=@Array.getElem?_modify
def JG:=@Array.getElem?_push
def U4:=@Array.getElem?_push_lt
def JC:=@Array.getElem?_setIfInBounds_ne
def iW:=@Array.getElem?_toList
def pN:=@Array.length_toList
def nB:=@Array.mem_of_getElem?
def SP:=@Array.toList_append
def aD:=@Bool.and_eq_true
def Lo:=@Bool.and_self
def Bj:=@Bool.eq_iff_iff
def gB:=@Bool.false_eq_true
def yH:=@Bool.false_or
def mF:=@Bool.not_eq_false'
def hO:=@Bool.not_eq_true'
def tq:=@Bool.not_false
def fG:=@Bool.not_true
def GF:=@Bool.or_eq_false_iff
def lP:=@Bool.or_eq_true
def LM:=@Bool.or_false
def nO:=@Bool.true_and
def JP:=@Classical.byContradiction
def Eb:=@Classical.choose_spec
def BC:=@Int.eq_ofNat_of_zero_le
def Hb:=@Int.not_le
def fI:=@Int.not_lt
def x9:=@Int.toNat_natCast
def vi:=@List.all_cons
def cJ:=@List.all_eq_true
def Bh:=@List.any_eq_false
def sO:=@List.append_assoc
def GD:=@List.append_nil
def Gp:=@List.cons.injEq
def ou:=@List.cons_append
def V4:=@List.contains_cons
def LP:=@List.count_append
def Kl:=@List.drop_drop
def uY:=@List.drop_eq_getElem_cons
def He:=@List.drop_of_length_le
def CE:=@List.drop_zero
def xc:=@List.eq_nil_of_length_eq_zero
def uX:=@List.ext_getElem?
def Pc:=@List.filterMap_append
def GK:=@List.filterMap_cons
def Qg:=@List.filter_append
def CV:=@List.filter_cons
def V0:=@List.filter_cons_of_neg
def V3:=@List.filter_cons_of_pos
def P9:=@List.find?_cons
def yC:=@List.flatMap_append
def EE:=@List.flatMap_cons
def LG:=@List.flatMap_nil
def AG:=@List.foldl_cons
def xf:=@List.getD_eq_getElem?_getD
def kf:=@List.getElem?_append_left
def lF:=@List.getElem?_append_right
def SJ:=@List.getElem?_cons_succ
def ik:=@List.getElem?_cons_zero
def lA:=@List.getElem?_drop
def cq:=@List.getElem?_eq_getElem
def Bc:=@List.getElem?_eq_none
def aV:=@List.getElem?_eq_some_iff
def dd:=@List.getElem?_map
def EN:=@List.getElem?_mapIdx
def AA:=@List.getElem?_range
def TV:=@List.getElem?_replicate
def uW:=@List.getElem?_set
def JL:=@List.getElem?_set_ne
def Ot:=@List.getElem?_set_self
def fZ:=@List.getElem?_take
def FQ:=@List.getElem?_toArray
def fx:=@List.getElem_mem
def fR:=@List.getElem_of_mem
def kR:=@List.length_append
def dE:=@List.length_cons
def xi:=@List.length_drop
def Up:=@List.length_filter_le
def cM:=@List.length_map
def kS:=@List.length_nil
def SF:=@List.length_pos_iff
def OZ:=@List.length_singleton
def my:=@List.length_take
def nN:=@List.map_append
def xr:=@List.map_congr_left
def eD:=@List.map_cons
def C8:=@List.map_drop
def Kt:=@List.map_id
def xq:=@List.map_map
def vB:=@List.map_nil
def pj:=@List.map_take
def dt:=@List.mem_append
def c6:=@List.mem_cons
def tF:=@List.mem_cons_of_mem
def IA:=@List.mem_cons_self
def HH:=@List.mem_filterMap
def lK:=@List.mem_iff_getElem?
def cK:=@List.mem_map
def Jg:=@List.mem_map_of_mem
def bC:=@List.mem_of_getElem?
def Mr:=@List.mem_of_mem_drop
def CF:=@List.mem_of_mem_take
def nT:=@List.mem_range
def mX:=@List.mem_singleton
def y7:=@List.mem_toArray
def pq:=@List.nil_append
def wJ:=@List.nodup_append
def oc:=@List.nodup_cons
def Jh:=@List.nodup_iff_pairwise_ne
def NF:=@List.pairwise_iff_getElem
def Hz:=@List.range_eq_range'
def EK:=@List.set_cons_zero
def mN:=@List.size_toArray
def vO:=@List.take_append_drop
def kO:=@List.take_append_getElem
def DD:=@List.take_length
def cV:=@List.take_of_length_le
def vG:=@List.take_zero
def Mu:=@List.zip_cons_cons
def iU:=@Nat.add_assoc
def jo:=@Nat.add_comm
def ew:=@Nat.add_mul
def mL:=@Nat.add_zero
def rN:=@Nat.beq_refl
def tJ:=@Nat.ble_eq
def wI:=@Nat.ble_eq_true_of_le
def gE:=@Nat.blt_eq
def bM:=@Nat.eq_of_beq_eq_true
def o9:=@Nat.eq_of_mul_eq_mul_right
def Eo:=@Nat.exists_eq_add_of_le
def j7:=@Nat.le_of_lt
def aP:=@Nat.le_refl
def cL:=@Nat.le_succ
def dI:=@Nat.le_trans
def gC:=@Nat.lt_of_lt_of_le
def th:=@Nat.lt_or_ge
def Ik:=@Nat.lt_succ_of_lt
def D3:=@Nat.lt_succ_self
def tQ:=@Nat.lt_trichotomy
def Ix:=@Nat.min_eq_left
def vy:=@Nat.mul_comm
def fK:=@Nat.mul_le_mul_right
def yX:=@Nat.mul_one
def kF:=@Nat.one_mul
def zd:=@Nat.sub_self
def rA:=@Nat.sub_zero
def ML:=@Nat.testBit_two_pow
def cS:=@Nat.zero_add
def eC:=@Nat.zero_le
def rB:=@Nat.zero_mul
def c5:=@Ne.symm
def C1:=@Go.Oper.apart_spec
def vH:=@Go.Oper.upon_enter
def lO:=@Go.Oper.wp_mono
def Eu:=@Option.bind_eq_some_iff
def IF:=@Option.bind_none
def aU:=@Option.bind_some
def EJ:=@Option.getD_none
def dB:=@Option.getD_some
def od:=@Option.isNone_none
def kP:=@Option.isNone_some
def CG:=@Option.isSome_iff_exists
def ck:=@Option.map_eq_some_iff
def jW:=@Option.map_none
def bQ:=@Option.map_some
def dc:=@Option.some.inj
def ah:=@Option.some.injEq
def py:=@Prod.mk.inj
def aS:=@Prod.mk.injEq
def bX:=@Go.Result.andThen_ok
def bJ:=@Go.Sem.run_bind
def b9:=@Go.Sem.run_pure
def ma:=@beq_eq_false_iff_ne
def fc:=@beq_iff_eq
def wV:=@beq_self_eq_true
def bc:=@cond_false
def ba:=@cond_true
def dK:=@congrArg
def mZ:=@decide_eq_false
def bz:=@decide_eq_false_iff_not
def wy:=@decide_eq_true
def az:=@decide_eq_true_eq
def fO:=@dif_pos
def bY:=@if_false
def ai:=@if_neg
def ap:=@if_pos
def bp:=@if_true
def eF:=@of_decide_eq_true
def dr:=@Go.run_underlying
def o7:=@Go.setRow_heap
def nR:=@Go.setRow_other
def nY:=@true_and
def qd:=@Go.wp_region
end Go
namespace Go.Ev
open Go
variable{t e u:TypeId}{v z v2:Value}{d k sz gg cap len n off f j:Nat}{P:Program}{cur:Array Value}{i:TypeInfo}{w' w1 w2:World}{p:Addr}{y:Operand}{du:TypeDesc}{news vs:List Value}{be:Nat->Option Nat}{b:Bool}{g:Nat->Nat}{fs:Array Field}{fd:Field}{α:Type}{ds:List Deferred}{fr:Nat×Nat}{a:Act}{m:Int}{o:Obj}{A:Option Addr}
inductive AV where
 |fl (v:Value)
 |sl (xs:List AV)
 |ref (cs:List AV)
 |fn (f:FuncId) (caps:List AV)
 |agg (cs:List AV)
 |mI (t:TypeId) (v:AV)
 |ptr (i off:Nat)
 |view (i sz len:Nat)
 |mp (i:Nat)
 |emp
 |nz (f:FuncId) (first:List AV)
 deriving Inhabited
variable{xs ys:List AV}{K:AV->Prop}
def AV.cells:AV->List AV
 |.agg cs=>cs|v=>[v]
def AV.isAgg:AV->Bool
 |.agg _=>true|_=>false
def AV.wf (x:AV):Prop:=∀c∈x.cells,c.isAgg=false
def One(v:Value):Prop:=v.oneCell'=true
structure Cells where
 mem:Addr->Prop
 ar:Nat->Option Nat
variable{I':Cells}
instance:CoeFun Cells λ_=>Addr->Prop:=⟨Cells.mem⟩
def Shape(w w':World)(B:Nat):Prop:=∀cur t fr,w.heap[B]?=some (.cells cur t fr)->∃fE,w'.heap[B]?=some (.cells fE t fr)/\fE.size=cur.size
theorem Shape.refl (w:World) (B:Nat):Shape w w B:=λcur _ _ h=>⟨cur,h,rfl⟩
theorem Shape.trans {w:World} {B:Nat} (h:Shape w w1 B) (h':Shape w1 w2 B):Shape w w2 B:=λcur t fr hc=>by obtain⟨c1,h1,e1⟩:=h cur t fr hc;obtain⟨c2,h2,e2⟩:=h' c1 t fr h1;exact⟨c2,h2,e2.trans e1⟩
structure cH(w w':World)(I I':Cells):Prop where
 mem:∀p,I p->I' p
 ar:∀i B,I.ar i=some B->I'.ar i=some B
 cell:∀p v,I p->w.cell? p=some v->w'.cell? p=some v
 shape:∀B,Shape w w' B
theorem cH.refl (w:World) (I:Cells):cH w w I I:=⟨λ_ h=>h,λ_ _ h=>h,λ_ _ _ h=>h,Shape.refl w⟩
theorem cH.sub {w:World} {I:Cells} (h:∀p,I p->I' p) (ha:∀i B,I.ar i=some B->I'.ar i=some B):cH w w I I':=⟨h,ha,λ_ _ _ h=>h,Shape.refl w⟩
theorem cH.world {w:World} {I:Cells} (hc:∀p v,I p->w.cell? p=some v->w'.cell? p=some v) (hs:∀B,Shape w w' B):cH w w' I I:=⟨λ_ h=>h,λ_ _ h=>h,hc,hs⟩
theorem cH.trans {w:World} {I I1 I2:Cells} (h:cH w w1 I I1) (h':cH w1 w2 I1 I2):cH w w2 I I2:=⟨λp hp=>h'.mem p (h.mem p hp),λi B hi=>h'.ar i B (h.ar i B hi),λp v hp hv=>h'.cell p v (h.mem p hp) (h.cell p v hp hv),λB=>(h.shape B).trans (h'.shape B)⟩
def Cells.plus (I:Cells) (f:Addr->Prop):Cells:=⟨λp=>I p∨f p,I.ar⟩
theorem cH.plus (w:World) (I:Cells) (f:Addr->Prop):cH w w I (I.plus f):=.sub (λ_ h=>.inl h) (λ_ _ h=>h)
inductive cj(w:World)(I:Cells):Value->AV->Prop
 |fl (v:Value) (h:One v):cj w I v (.fl v)
 |fJ (c:Nat):cj w I (.slice none 0 c) (.sl [])
 |sl (a:Addr) (n cap sz:Nat) (xs:List AV) (cv:Nat->Nat->Value) (hn:n=xs.length) (gy:xs.length<=cap) (iE:cap<=maxLen)
   (dh:∀(i:Nat)(x:AV),xs[i]?=some x->x.cells.length=sz/\x.wf)
   (hc:∀(i j:Nat)(x c:AV),xs[i]?=some x->x.cells[j]?=some c->w.cell? (a.add (i*sz+j))=some (cv i j))
   (hI:∀(i j:Nat)(x c:AV),xs[i]?=some x->x.cells[j]?=some c->I (a.add (i*sz+j)))
   (hr:∀(i j:Nat)(x c:AV),xs[i]?=some x->x.cells[j]?=some c->cj w I (cv i j) c):cj w I (.slice (some a) n cap) (.sl xs)
 |ref (p:Addr) (cs:List AV) (cv:Nat->Value)
   (hc:∀(j:Nat)(c:AV),cs[j]?=some c->w.cell? (p.add j)=some (cv j))
   (hI:∀(j:Nat)(c:AV),cs[j]?=some c->I (p.add j))
   (hr:∀(j:Nat)(c:AV),cs[j]?=some c->cj w I (cv j) c):cj w I (.pointer (some p)) (.ref cs)
 |fn (f:FuncId) (vs:Array Value) (caps:List AV) (hl:vs.size=caps.length)
   (hr:∀(j:Nat)(c:AV),caps[j]?=some c->cj w I (vs.getD j undef) c):cj w I (.func (.func f) #[] vs) (.fn f caps)
 |agg (vs:Array Value) (cs:List AV) (hl:vs.size=cs.length)
   (hr:∀(j:Nat)(c:AV),cs[j]?=some c->cj w I (vs.getD j undef) c):cj w I (.agg vs) (.agg cs)
 |mI (t:TypeId) (v:Value) (x:AV) (hr:cj w I v x):cj w I (.iface t v) (.mI t x)
 |ptr (i off B:Nat) (h:I.ar i=some B):cj w I (.pointer (some ⟨B,off,none⟩)) (.ptr i off)
 |view (i sz len B cap:Nat) (e:TypeId) (cur:Array Value) (A:Option Addr) (h:I.ar i=some B) (hw:w.heap[B]?=some (.cells cur e (0,0))) (hs:cur.size=cap*sz) (hl:len<=cap) (hA:0<cap->A=some ⟨B,0,none⟩):cj w I (.slice A len cap) (.view i sz len)
 |qv (i sz:Nat) (A:Option Addr) (cap:Nat) (iE:cap<=maxLen):cj w I (.slice A 0 cap) (.view i sz 0)
 |mp (i B:Nat) (h:I.ar i=some B):cj w I (.map (some B)) (.mp i)
 |emp (A:Option Addr):cj w I (.slice A 0 0) .emp
 |nz (f:FuncId) (vs:Array Value) (first:List AV) (hl:vs.size=first.length)
   (hr:∀(j:Nat)(c:AV),first[j]?=some c->cj w I (vs.getD j undef) c):cj w I (.func (.func f) vs #[]) (.nz f first)
theorem cj.mono {w:World} {I:Cells} (G:cH w w' I I') {a:AV} (h:cj w I v a):cj w' I' v a:=by
 induction h with
 |fl v h=>exact .fl v h|fJ c=>exact .fJ c
 |sl a n cap sz xs cv hn gy iE dh hc hI' hr ih=>exact .sl a n cap sz xs cv hn gy iE dh (λi j x c h1 h2=>G.cell _ _ (hI' i j x c h1 h2) (hc i j x c h1 h2)) (λi j x c h1 h2=>G.mem _ (hI' i j x c h1 h2)) ih|ref p cs cv hc hI' hr ih=>exact .ref p cs cv (λj c h=>G.cell _ _ (hI' j c h) (hc j c h)) (λj c h=>G.mem _ (hI' j c h)) ih
 |fn f vs caps hl hr ih=>exact .fn f vs caps hl ih|agg vs cs hl hr ih=>exact .agg vs cs hl ih
 |mI t v x hr ih=>exact .mI t v x ih|ptr i off B h=>exact .ptr i off B (G.ar i B h)
 |view i sz len B cap e cur A h hw hs hl hA=>obtain⟨fE,h1,h2⟩:=G.shape B cur e (0,0) hw;exact .view i sz len B cap e fE A (G.ar i B h) h1 (h2.trans hs) hl hA|qv i sz A cap h=>exact .qv i sz A cap h|mp i B h=>exact .mp i B (G.ar i B h)
 |emp A=>exact .emp A|nz f vs first hl hr ih=>exact .nz f vs first hl ih
inductive Ob where
 |cells (cs:List AV)
 |aT (e:TypeId) (xs:List AV)
 |map (es:List (AV×AV)) (c:Option (List Nat×Nat):=none)
 deriving Inhabited
inductive br where
 |none
 |val (v:AV)
 |full (xs:List AV)
 |loc (d g sz i k:Nat)
 |view (d g off len:Nat)
 |fb (rs:List br)
 deriving Inhabited
variable{r:br}
inductive Bx where
 |cells (cs:List br)
 |aT (e:TypeId) (xs:List AV)
 deriving Inhabited
structure St where
 r:Nat->br
 b:Nat->Option Bx
 g:Nat->Nat
 a:Nat->Option Ob:=λ_=>none
 u:Nat->Bool:=λ_=>false
 df:List AV:=[]
def bF{α:Type}(f:Nat->α)(d:Nat)(v:α):Nat->α:=λt=>if t=d then v else f t
@[simp] theorem bA(f:Nat->α)(d:Nat)(v:α):bF f d v d=v:=by simp[bF]
theorem ay(f:Nat->α){t:Nat}(v:α)(h:t≠d):bF f d v t=f t:=by simp[bF,h]
def St.put (s:St) (dst:Option Nat) (v:br):St:=
 match dst with
 |some d=>{s with r:=bF s.r d v}|none=>s
@[simp] theorem St.qw (s:St) (d:Nat) (v:br):s.put (some d) v={s with r:=bF s.r d v}:=rfl
def dq:Value->AV
 |.slice none 0 0=>.sl []|v=>.fl v
def cf:Value->br
 |.slice none 0 0=>.full []|.agg cs=>.val (.agg (cs.toList.map dq))
 |v=>.val (.fl v)
def St.ev (s:St):Operand->br
 |.tmp t=>s.r t|.const v=>cf v
 |.global g=>.val (.fl (.pointer (some ⟨g,0,none⟩)))|.func f=>.val (.fn f [])
structure Env where
 inv:World->Prop
 bN:World->Nat->Prop
 stays:∀w w',inv w->(∀b,bN w b->w'.heap[b]?=w.heap[b]?)->inv w'/\∀b,bN w' b->bN w b
 lt:∀w b,inv w->bN w b->b<w.heap.size
 sG:Nat->Option (Option Nat):=λ_=>none
 fixed:Bool:=true
 ro:Nat->Option (Ob×Nat):=λ_=>none
 it:Nat:=0
 df:List AV:=[]
def Env.none_:Env:={inv:=λ_=>True,bN:=λ_ _=>False,stays:=λ_ _ _ _=>⟨trivial,λ_ h=>h⟩,lt:=λ_ _ _ h=>h.elim}
def Env.plain (E:Env):Env:={inv:=E.inv,bN:=E.bN,stays:=E.stays,lt:=E.lt,it:=E.it}
def Env.BK (E:Env) (B:Nat):Prop:=∃d,E.sG d=some (some B)
theorem Env.ep (E:Env) (B:Nat):¬E.plain.BK B:=λ⟨_,h⟩=>by cases h
def Env.fresh (E:Env) (w0:World) (B:Nat):Prop:=w0.heap.size<=B∨E.BK B
structure er(E:Env)(w0:World)(I0:Cells)(w:World)(I:Cells):Prop where
 os:w.os=w0.os
 tape:w.tape=w0.tape
 output:w.output=w0.output
 size:w0.heap.size<=w.heap.size
 block:∀k,k<w0.heap.size->¬E.bN w0 k->¬E.BK k->w.heap[k]?=w0.heap[k]?
 bN:∀b,E.bN w b->E.bN w0 b∨w0.heap.size<=b
 inv:E.inv w
 more:∀p,I0 p->I p
 ar:∀i B,I0.ar i=some B->I.ar i=some B
 L1:E.fixed=true->I.ar=I0.ar
 shape:∀B,Shape w0 w B
 new:∀p,I p->I0 p∨E.fresh w0 p.block
 lt:∀p,I p->p.block<w.heap.size
 off:∀p,I p->¬E.bN w p.block
section
variable(P:Program)(w:World)(I:Cells)(be:Nat->Option Nat)(b:Nat->Option Bx)(g:Nat->Nat)
def viewAt(d off len:Nat)(v:Value):Prop:=
 match b d with
 |some (.aT e xs)=>
  off+len<=xs.length/\
  match be d with
  |none=>∃A,v=.slice A len 0|some B=>∃cur cap A,w.heap[B]?=some (.cells cur e (0,0))/\cur.size=cap*P.cellsOf e/\v=.slice A len (cap-off)/\(off<cap->A=some ⟨B,off*P.cellsOf e,none⟩)
 |_=>True
def bD(v:Value):br->Prop
 |.none=>True|.val a=>cj w I v a
 |.full xs=>cj w I v (.sl xs)/\∃A,v=.slice A xs.length xs.length|.loc d gg sz i k=>gg<=g d/\(gg=g d->b d≠none->∃B,be d=some B/\v=.pointer (some ⟨B,i*sz+k,none⟩))
 |.view d gg off len=>gg<=g d/\(gg=g d->viewAt P w be b d off len v)|.fb rs=>∃vs:Array Value,v=.tuple vs/\vs.size=rs.length/\∀(j:Nat)(r:br),rs[j]?=some r->
   match r with
   |.none=>True|.val a=>cj w I (vs.getD j undef) a
   |.view d gg off len=>gg<=g d/\(gg=g d->viewAt P w be b d off len (vs.getD j undef))|_=>False
def fX(d:Nat):Bx->Prop
 |.cells cs=>∃B cur t,be d=some B/\w.heap[B]?=some (.cells cur t (0,0))/\cur.size=cs.length/\∀(j:Nat)(c:br),cs[j]?=some c->bD P w I be b g (cur.getD j undef) c|.aT e xs=>0<P.cellsOf e/\xs.length<=maxLen/\(∀(i:Nat)(x:AV),xs[i]?=some x->x.cells.length=P.cellsOf e/\x.wf)/\
  match be d with
  |none=>xs=[]|some B=>∃cur cap,w.heap[B]?=some (.cells cur e (0,0))/\cur.size=cap*P.cellsOf e/\cap<=maxLen/\xs.length<=cap/\∀(i j:Nat)(x c:AV),xs[i]?=some x->x.cells[j]?=some c->cj w I (cur.getD (i*P.cellsOf e+j) undef) c
end
def qx(P:Program)(w:World)(I:Cells)(B:Nat):Ob->Prop
 |.cells cs=>∃cur t,w.heap[B]?=some (.cells cur t (0,0))/\cur.size=cs.length/\∀(j:Nat)(c:AV),cs[j]?=some c->cj w I (cur.getD j undef) c|.aT e xs=>0<P.cellsOf e/\xs.length<=maxLen/\(∀(i:Nat)(x:AV),xs[i]?=some x->x.cells.length=P.cellsOf e/\x.wf)/\∃cur cap,w.heap[B]?=some (.cells cur e (0,0))/\cur.size=cap*P.cellsOf e/\cap<=maxLen/\xs.length<=cap/\∀(i j:Nat)(x c:AV),xs[i]?=some x->x.cells[j]?=some c->cj w I (cur.getD (i*P.cellsOf e+j) undef) c
 |.map es c=>∃cE clock,w.heap[B]?=some (.map cE clock)/\cE.size=es.length/\(∀p,c=some p->cE.toList.map (·.born)=p.1/\clock=p.2)/\
   (∀(j:Nat)(x:MapEntry),cE[j]?=some x->x.born<clock/\∀(j':Nat)(x':MapEntry),cE[j']?=some x'->x'.born=x.born->j'=j)/\
   ∀(j:Nat)(e:AV×AV),es[j]?=some e->∃x,cE[j]?=some x/\cj w I x.key e.1/\cj w I x.val e.2
def Ob.bare:Ob->Ob
 |.map es _=>.map es|x=>x
theorem qx.bare {w:World} {I:Cells} {B:Nat} {x:Ob} (h:qx P w I B x):qx P w I B x.bare:=by
 cases x with
 |map es c=>obtain⟨cE,clock,h1,h2,_,h3,h4⟩:=h;exact⟨cE,clock,h1,h2,(λ_ h=>by cases h),h3,h4⟩
 |_=>exact h
def nA:Option Ob->Option Ob
 |some x=>some x.bare|none=>none
theorem Aw{x:Option Ob}{cs:List AV}(h:nA x=some (.cells cs)):x=some (.cells cs):=by
 cases x with
 |none=>cases h
 |some y=>cases y<;>simp[nA,Ob.bare]at h;rw[h]
theorem FL{x:Option Ob}(h:nA x=some (.aT e xs)):x=some (.aT e xs):=by
 cases x with
 |none=>cases h
 |some y=>cases y<;>simp[nA,Ob.bare]at h;rw[h.1,h.2]
theorem Qv{x:Option Ob}{es:List (AV×AV)}(h:nA x=some (.map es)):∃c,x=some (.map es c):=by
 cases x with
 |none=>cases h
 |some y=>
  cases y with
  |map es' c=>simp only[nA,Ob.bare,ah,Ob.map.injEq]at h;exact ⟨c,by rw[h.1]⟩|_=>cases h
theorem Mc{x:Option Ob}{y:Ob}(h:nA x=some y):∃z,x=some z/\z.bare=y:=by
 cases x with
 |none=>cases h
 |some z=>exact ⟨z,rfl,by simpa[nA]using h⟩
theorem qx.dN {w:World} {I:Cells} {B:Nat} {x:Ob} (h:qx P w I B x) (G:cH w w' I I') (hB:w'.heap[B]?=w.heap[B]?):qx P w' I' B x:=by
 cases x with
 |cells cs=>obtain⟨cur,t,h1,h2,h3⟩:=h;exact⟨cur,t,hB.trans h1,h2,λj c hc=>(h3 j c hc).mono G⟩|aT e xs=>obtain⟨h1,h2,h3,cur,cap,h4,h5,h6,h7,h8⟩:=h;exact⟨h1,h2,h3,cur,cap,hB.trans h4,h5,h6,h7,λi j x c hx hc=>(h8 i j x c hx hc).mono G⟩
 |map es c=>obtain⟨cE,clock,h1,h2,h2',h3,h4⟩:=h;refine⟨cE,clock,hB.trans h1,h2,h2',h3,λj e he=>?_⟩;obtain⟨x,q1,q2,q3⟩:=h4 j e he;exact⟨x,q1,q2.mono G,q3.mono G⟩
structure nQ(P:Program)(E:Env)(w0 w:World)(I:Cells)(a:Nat->Option Ob)(u:Nat->Bool)(T:Nat->Prop):Prop where
 obj:∀i x,a i=some x->∃B,I.ar i=some B/\qx P w I B x
 inj:∀i j B,a i≠none->a j≠none->I.ar i=some B->I.ar j=some B->i=j
 own:∀i B,a i≠none->I.ar i=some B->E.fresh w0 B/\B<w.heap.size/\(∀p,I p->p.block≠B)/\¬E.bN w B/\¬T B
 un:∀i,u i=false->I.ar i=none
 ro:∀i x,E.ro i=some x->a i=some x.1/\I.ar i=some x.2
theorem nQ.dN {E:Env} {w0 w:World} {I:Cells} {a:Nat->Option Ob} {u:Nat->Bool} {T T':Nat->Prop} (h:nQ P E w0 w I a u T) (G:cH w w' I I') (ha:I'.ar=I.ar)
  (et:∀i B,a i≠none->I.ar i=some B->w'.heap[B]?=w.heap[B]?) (dh:w.heap.size<=w'.heap.size) (hI:∀p,I' p->I p∨∀i,a i≠none->I.ar i≠some p.block)
  (hf:∀b,b<w.heap.size->E.bN w' b->E.bN w b) (hT:∀B,T' B->T B∨∀i,a i≠none->I.ar i≠some B):nQ P E w0 w' I' a u T':=by
 refine⟨λi x hx=>?_,λi j B h1 h2 h3 h4=>?_,λi B hi hB=>?_,λi hi=>by rw[ha];exact h.un i hi,λi x hx=>⟨(h.ro i x hx).1,by rw[ha];exact (h.ro i x hx).2⟩⟩
 ·obtain ⟨B,h1,h2⟩:=h.obj i x hx;exact⟨B,by rw[ha];exact h1,h2.dN G (et i B (by simp[hx]) h1)⟩
 ·rw[ha]at h3 h4;exact h.inj i j B h1 h2 h3 h4
 ·rw[ha]at hB;obtain⟨h1,h2,h3,h4,h5⟩:=h.own i B hi hB;refine⟨h1,gC h2 dh,λp hp e=>?_,λhb=>h4 (hf B h2 hb),λht=>?_⟩
  ·rcases hI p hp with q|q
   ·exact h3 p q e
   ·exact q i hi (by rw[e];exact hB)
  ·rcases hT B ht with q|q
   ·exact h5 q
   ·exact q i hi hB
def rn(w:World)(I:Cells)(ds:List Deferred)(df:List AV):Prop:=ds.length=df.length/\∀(j:Nat)(d:Deferred)(x:AV),ds[j]?=some d->df[j]?=some x->∃f vs caps,x=.fn f caps/\d.target=.fn (.func f) vs/\d.args=#[]/\cj w I (.func (.func f) #[] vs) x
theorem rn.mono {w:World} {I:Cells} (G:cH w w' I I') {df:List AV} (h:rn w I ds df):rn w' I' ds df:=⟨h.1,λj d x h1 h2=>by obtain ⟨f,vs,caps,q1,q2,q3,q4⟩:=h.2 j d x h1 h2;exact ⟨f,vs,caps,q1,q2,q3,q4.mono G⟩⟩
theorem rn.nil {w:World} {I:Cells}:rn w I [] []:=⟨rfl,λj d x h=>by simp at h⟩
theorem rn.of_nil {w:World} {I:Cells} (h:rn w I ds []):ds=[]:=xc h.1
structure aC(P:Program)(E:Env)(w0:World)(I0:Cells)(n:Nat)(s:St)(a:Act)(w:World)(I:Cells)(be:Nat->Option Nat):Prop where
 since:er E w0 I0 w I
 size:a.tmps.size=n
 defers:rn w I a.defers s.df
 cr:∀t,t<n->bD P w I be s.b s.g (a.tmps.getD t undef) (s.r t)
 boxes:∀d x,s.b d=some x->fX P w I be s.b s.g d x
 inj:∀d d' B,s.b d≠none->s.b d'≠none->be d=some B->be d'=some B->d=d'
 own:∀d B,s.b d≠none->be d=some B->E.fresh w0 B/\B<w.heap.size/\(∀p,I p->p.block≠B)/\¬E.bN w B
 tie:∀(d:Nat)(bo:Option Nat),E.sG d=some bo->s.g d=0->s.b d≠none->be d=bo
 aO:nQ P E w0 w I s.a s.u (λB=>∃d,s.b d≠none/\be d=some B)
def Rel(P:Program)(E:Env)(w0:World)(I0:Cells)(n:Nat)(s:St)(a:Act)(w:World):Prop:=∃I be,aC P E w0 I0 n s a w I be
section
variable{P:Program}{E:Env}{w0:World}{I0:Cells}{n:Nat}{s:St}{a:Act}{w:World}{I:Cells}{be:Nat->Option Nat}
theorem aC.put (h:aC P E w0 I0 n s a w I be) (dst:Option Nat) (hr:bD P w I be s.b s.g v r):aC P E w0 I0 n (s.put dst r) (a.put dst v) w I be:=by
 cases dst with
 |none=>exact h|some d=>
  refine⟨h.since,by simpa[Act.put]using h.size,h.defers,λt ht=>?_,h.boxes,h.inj,h.own,h.tie,h.aO⟩;simp only[Act.put,St.put,bF];by_cases e:t=d
  ·subst e;have hs:t<a.tmps.size:=by rw[h.size];exact ht
   simpa[hs]using hr
  ·have e':d≠t:=λx=>e x.symm;simpa[e,JC e']using h.cr t ht
theorem ni(h:One v):cj w I v (dq v):=by
 unfold dq;split
 ·exact .fJ 0
 ·exact .fl v h
def xd:Value->Bool
 |.agg cs=>cs.all λv=>v.oneCell'|.tuple _=>false
 |_=>true
theorem rp(h:xd v=true):bD P w I be s.b s.g v (cf v):=by
 unfold cf;split
 ·exact ⟨.fJ 0,none,rfl⟩
 ·rename_i cs;refine .agg cs _ (by simp) λj c hj=>?_;simp only[xd,rq]at h;simp only[dd,iW,ck]at hj;obtain⟨v,hv,rfl⟩:=hj;have hm:v∈cs:=nB hv;have:=h v hm;simp only[jI,hv,dB];exact ni this
 ·rename_i h1 h2;refine .fl v ?_;cases v<;>first|rfl|(simp[xd]at h;done)|(exact absurd rfl (h2 _))
def bI:Operand->Bool
 |.const v=>xd v|_=>true
theorem aC.ev (h:aC P E w0 I0 n s a w I be) (x:Operand) (hx:bI x=true) (ht:∀t,x=.tmp t->t<n):bD P w I be s.b s.g (a.eval x) (s.ev x):=by
 cases x with
 |tmp t=>exact h.cr t (ht t rfl)|const v=>exact rp hx
 |global g=>exact .fl _ rfl|func f=>exact .fn f #[] [] rfl (λj c hj=>by simp at hj)
end
section
variable{P:Program}{w w':World}{I I':Cells}{be iK:Nat->Option Nat}{b b':Nat->Option Bx}{g g':Nat->Nat}
def eu(P:Program)(w w':World)(be iK:Nat->Option Nat)(b b':Nat->Option Bx)(d:Nat):Prop:=(b' d≠none->b d≠none/\iK d=be d)/\∀off len v,viewAt P w be b d off len v->viewAt P w' iK b' d off len v
theorem bD.dN (G:cH w w' I I') (hd:∀d,g d<g' d∨(g' d=g d/\eu P w w' be iK b b' d))
  (h:bD P w I be b g v r):bD P w' I' iK b' g' v r:=by
 have hv:∀(d gg off len:Nat)(v:Value),(gg<=g d/\(gg=g d->viewAt P w be b d off len v))->(gg<=g' d/\(gg=g' d->viewAt P w' iK b' d off len v)):=by
  rintro d gg off len v ⟨h1,h2⟩;rcases hd d with eK|⟨he,_,hk⟩
  ·exact ⟨by omega,λe=>by omega⟩
  ·exact ⟨by omega,λe=>hk _ _ _ (h2 (by omega))⟩
 cases r with
 |none=>trivial|val a=>exact cj.mono G h
 |full xs=>exact ⟨cj.mono G h.1,h.2⟩|loc d gg sz i k=>
  obtain⟨h1,h2⟩:=h;rcases hd d with eK|⟨he,hb,_⟩
  ·exact ⟨by omega,λe=>by omega⟩
  ·refine ⟨by omega,λe hn=>?_⟩;obtain⟨Ax,dZ⟩:=hb hn;rw[dZ];exact h2 (by omega) Ax
 |view d gg off len=>exact hv d gg off len v h|fb rs=>
  obtain⟨vs,h1,h2,h3⟩:=h;refine⟨vs,h1,h2,λj r hj=>?_⟩;have:=h3 j r hj;cases r with
  |none=>trivial|val a=>exact cj.mono G this
  |view d gg off len=>exact hv d gg off len _ this|full xs=>exact this
  |loc d gg sz i k=>exact this|fb rs=>exact this
theorem fX.dN (G:cH w w' I I') (hd:∀d,g d<g' d∨(g' d=g d/\eu P w w' be iK b b' d))
  {x:Bx} (Sc:iK d=be d) (hB:∀B,be d=some B->w'.heap[B]?=w.heap[B]?) (h:fX P w I be b g d x):fX P w' I' iK b' g' d x:=by
 cases x with
 |cells cs=>obtain⟨B,cur,t,h1,h2,h3,h4⟩:=h;exact⟨B,cur,t,by rw[Sc];exact h1,(hB B h1).trans h2,h3,λj c hc=>bD.dN G hd (h4 j c hc)⟩|aT e xs=>
  obtain⟨h1,h2,h3,h4⟩:=h;refine⟨h1,h2,h3,?_⟩;rw[Sc];cases hq:be d with
  |none=>simpa[hq]using h4|some B=>simp only[hq]at h4;obtain⟨cur,cap,h5,h6,h7,h8,h9⟩:=h4;exact⟨cur,cap,(hB B hq).trans h5,h6,h7,h8,λi j x c hx hc=>cj.mono G (h9 i j x c hx hc)⟩
theorem eu.ib (hb:b' d=b d) (Sc:iK d=be d) (hB:∀B,b d≠none->be d=some B->w'.heap[B]?=w.heap[B]?):eu P w w' be iK b b' d:=by
 refine⟨λh=>⟨by rwa[<-hb],Sc⟩,λoff len v h=>?_⟩;unfold viewAt at h⊢;rw[hb,Sc];cases hq:b d with
 |none=>simp|some x=>
  cases x with
  |cells cs=>simp|aT e xs=>
   simp only[hq]at h⊢;refine⟨h.1,?_⟩;have h2:=h.2;cases hr:be d with
   |none=>simpa[hr]using h2|some B=>simp only[hr]at h2⊢;obtain⟨cur,cap,A,h3,h4⟩:=h2;exact⟨cur,cap,A,(hB B (by simp[hq]) hr).trans h3,h4⟩
theorem ct(h:w'.heap[p.block]?=w.heap[p.block]?):w'.cell? p=w.cell? p:=by simp[World.cell?,h]
end
section
variable{P:Program}{E:Env}{w0:World}{I0:Cells}{n:Nat}{s:St}{a:Act}{w w':World}{I I':Cells}{be iK:Nat->Option Nat}
theorem er.step (h:er E w0 I0 w I) (Ay:w'.os=w.os) (ji:w'.tape=w.tape) (mJ:w'.output=w.output) (dh:w.heap.size<=w'.heap.size) (M:Nat->Prop)
  (et:∀k,k<w.heap.size->¬M k->w'.heap[k]?=w.heap[k]?) (hM:∀k,M k->E.fresh w0 k/\¬E.bN w k) (FM:∀B,Shape w w' B) (hII:∀p,I p->I' p) (JD:I'.ar=I.ar) (jd:∀p,I' p->I p∨(E.fresh w0 p.block/\p.block<w'.heap.size/\¬E.bN w p.block)):er E w0 I0 w' I':=by
 have mK:=E.stays w w' h.inv (λb hb=>et b (E.lt w b h.inv hb) (λhm=>(hM b hm).2 hb));refine⟨Ay.trans h.os,ji.trans h.tape,mJ.trans h.output,dI h.size dh,λk hk hf hl=>?_,λb hb=>h.bN b (mK.2 b hb),mK.1,λp hp=>hII p (h.more p hp),λi B hi=>by rw[JD];exact h.ar i B hi,λhx=>JD.trans (h.L1 hx),λB=>(h.shape B).trans (FM B),λp hp=>?_,λp hp=>?_,λp hp hf=>?_⟩
 ·rw[et k (gC hk h.size) (λhm=>by
   rcases(hM k hm).1 with h1|h1
   ·omega
   ·exact hl h1)]
  exact h.block k hk hf hl
 ·rcases jd p hp with h1|⟨h1,_⟩
  ·exact h.new p h1
  ·exact .inr h1
 ·rcases jd p hp with h1|⟨_,h1,_⟩
  ·exact gC (h.lt p h1) dh
  ·exact h1
 ·rcases jd p hp with h1|⟨_,_,h1⟩
  ·exact h.off p h1 (mK.2 _ hf)
  ·exact h1 (mK.2 _ hf)
theorem Cs(h:∀k,k<w.heap.size->w'.heap[k]?=w.heap[k]?)(B:Nat):Shape w w' B:=λcur t fr hc=>by have hB:B<w.heap.size:=(eT.1 hc).1;exact⟨cur,(h B hB).trans hc,rfl⟩
theorem uh{B0:Nat}{fE:Array Value}(h:∀k,k≠B0->k<w.heap.size->w'.heap[k]?=w.heap[k]?)(h0:w.heap[B0]?=some (.cells cur t fr))(h1:w'.heap[B0]?=some (.cells fE t fr))(hs:fE.size=cur.size)(B:Nat):Shape w w' B:=λc t' fr' hc=>by
 by_cases e:B=B0
 ·subst e;rw[h0]at hc;simp only[ah,Obj.cells.injEq]at hc;obtain⟨rfl,rfl,rfl⟩:=hc;exact⟨fE,h1,hs⟩
 ·exact ⟨c,(h B e (eT.1 hc).1).trans hc,rfl⟩
theorem aC.Ct (h:aC P E w0 I0 n s a w I be) (et:∀k,k<w.heap.size->(∀d,s.b d≠none->be d≠some k)->w'.heap[k]?=w.heap[k]?):∀p v,I p->w.cell? p=some v->w'.cell? p=some v:=by intro p v hp hv;rw[ct (et p.block (h.since.lt p hp) (λd hd he=>(h.own d p.block hd he).2.2.1 p hp rfl))];exact hv
theorem er.adD (h:er E w0 I0 w I) (et:∀b,E.bN w b->w'.heap[b]?=w.heap[b]?) (b:Nat):E.bN w' b->E.bN w b:=(E.stays w w' h.inv et).2 b
theorem aC.fY (h:aC P E w0 I0 n s a w I be) {T:Nat->Prop} (G:cH w w' I I') (ha:I'.ar=I.ar) (M:Nat->Prop) (hM:∀i B,s.a i≠none->I.ar i=some B->¬M B)
  (et:∀k,k<w.heap.size->¬M k->w'.heap[k]?=w.heap[k]?) (dh:w.heap.size<=w'.heap.size) (hMf:∀k,M k->¬E.bN w k)
  (hI:∀p,I' p->I p∨∀i,s.a i≠none->I.ar i≠some p.block) (hT:∀B,T B->(∃d,s.b d≠none/\be d=some B)∨∀i,s.a i≠none->I.ar i≠some B):nQ P E w0 w' I' s.a s.u T:=by
 refine h.aO.dN G ha (λi B hi hB=>?_) dh hI (λb hb hf=>?_) hT
 ·exact et B (h.aO.own i B hi hB).2.1 (hM i B hi hB)
 ·exact h.since.adD (λb hb=>et b (E.lt w b h.since.inv hb) (λhm=>hMf b hm hb)) b hf
theorem aC.grow (h:aC P E w0 I0 n s a w I be) (Ay:w'.os=w.os) (ji:w'.tape=w.tape) (mJ:w'.output=w.output) (dh:w.heap.size<=w'.heap.size)
  (et:∀k,k<w.heap.size->w'.heap[k]?=w.heap[k]?):aC P E w0 I0 n s a w' I be:=by
 have hs:=h.since.step (I':=I) Ay ji mJ dh (λ_=>False) (λk hk _=>et k hk) (λk hk=>hk.elim) (Cs et) (λ_ h=>h) rfl (λ_ h=>.inl h);have hc:cH w w' I I:=.world (h.Ct (w':=w') (λk hk _=>et k hk)) (Cs et);have hB:∀d B,s.b d≠none->be d=some B->w'.heap[B]?=w.heap[B]?:=λd B hd hB=>et B (h.own d B hd hB).2.1;have hd:∀d,s.g d<s.g d∨(s.g d=s.g d/\eu P w w' be be s.b s.b d):=λd=>.inr ⟨rfl,.ib rfl rfl (λB hn=>hB d B hn)⟩;refine⟨hs,h.size,h.defers.mono hc,λt ht=>(h.cr t ht).dN hc hd,λd x hx=>(h.boxes d x hx).dN hc hd rfl (λB=>hB d B (by simp[hx])),h.inj,λd B hd hB=>?_,h.tie,h.fY hc rfl (λ_=>False) (λ_ _ _ _ h=>h) (λk hk _=>et k hk) dh (λ_ h=>h.elim) (λ_ h=>.inl h) (λ_ h=>.inl h)⟩;obtain⟨h1,h2,h3,h4⟩:=h.own d B hd hB;refine⟨h1,by omega,h3,λhf=>h4 ?_⟩;exact(E.stays w w' h.since.inv (λb hb=>et b (E.lt w b h.since.inv hb))).2 B hf
theorem aC.nC (h:aC P E w0 I0 n s a w I be) (d:Nat) (x:Bx) (bo:Option Nat)
  (hx:fX P w I (bF be d bo) (bF s.b d (some x)) (bF s.g d (s.g d+1)) d x)
  (Fb:∀B,bo=some B->E.fresh w0 B/\B<w.heap.size/\(∀p,I p->p.block≠B)/\¬E.bN w B/\∀d',d'≠d->s.b d'≠none->be d'≠some B)
  (Sz:∀B,bo=some B->∀i,s.a i≠none->I.ar i≠some B):
  aC P E w0 I0 n {s with b:=bF s.b d (some x),g:=bF s.g d (s.g d+1)} a w I (bF be d bo):=by
 have hd:∀d',s.g d'<bF s.g d (s.g d+1) d'∨(bF s.g d (s.g d+1) d'=s.g d'/\eu P w w be (bF be d bo) s.b (bF s.b d (some x)) d'):=by
  intro d';by_cases e:d'=d
  ·subst e;left;simp
  ·right;exact⟨ay _ _ e,.ib (ay _ _ e) (ay _ _ e) (λ_ _ _=>rfl)⟩
 refine⟨h.since,h.size,h.defers,λt ht=>(h.cr t ht).dN (.refl _ _) hd,λd' x' bV=>?_,λd1 d2 B h1 h2 h3 h4=>?_,λd' B hn hB=>?_,λd' B h1 h2 h3=>by
  by_cases e:d'=d
  ·subst e;simp at h2
  ·simp only[ay _ _ e]at h2 h3⊢;exact h.tie d' B h1 h2 h3,?_⟩
 ·by_cases e:d'=d
  ·subst e;simp only[bA,ah]at bV;subst bV;exact hx
  ·simp only[ay _ _ e]at bV;exact(h.boxes d' x' bV).dN (.refl _ _) hd (ay _ _ e) (λ_ _=>rfl)
 ·by_cases e1:d1=d
  ·by_cases e2:d2=d
   ·rw[e1,e2]
   ·subst e1;simp only[bA]at h3;simp only[ay _ _ e2]at h2 h4;exact absurd h4 ((Fb B h3).2.2.2.2 d2 e2 h2)
  ·by_cases e2:d2=d
   ·subst e2;simp only[bA]at h4;simp only[ay _ _ e1]at h1 h3;exact absurd h3 ((Fb B h4).2.2.2.2 d1 e1 h1)
   ·simp only[ay _ _ e1]at h1 h3;simp only[ay _ _ e2]at h2 h4;exact h.inj d1 d2 B h1 h2 h3 h4
 ·by_cases e:d'=d
  ·subst e;simp only[bA]at hB;obtain⟨h1,h2,h3,h4,_⟩:=Fb B hB;exact⟨h1,h2,h3,h4⟩
  ·simp only[ay _ _ e]at hn hB;exact h.own d' B hn hB
 ·refine h.fY (.refl _ _) rfl (λ_=>False) (λ_ _ _ _ h=>h) (λ_ _ _=>rfl) (aP _) (λ_ h=>h.elim) (λ_ h=>.inl h) ?_;rintro B ⟨d',hn,hB⟩;by_cases e:d'=d
  ·subst e;simp only[bA]at hB;exact .inr λi hi=>Sz B hB i hi
  ·simp only[ay _ _ e]at hn hB;exact .inl ⟨d',hn,hB⟩
theorem aC.drop (h:aC P E w0 I0 n s a w I be) (d:Nat):aC P E w0 I0 n {s with b:=bF s.b d none} a w I be:=by
 have hd:∀d',s.g d'<s.g d'∨(s.g d'=s.g d'/\eu P w w be be s.b (bF s.b d none) d'):=by
  intro d';refine .inr ⟨rfl,?_⟩;by_cases e:d'=d
  ·subst e;exact⟨λh=>by simp at h,λoff len v _=>by simp[viewAt]⟩
  ·exact .ib (ay _ _ e) rfl (λ_ _ _=>rfl)
 refine⟨h.since,h.size,h.defers,λt ht=>(h.cr t ht).dN (.refl _ _) hd,λd' x' bV=>?_,λd1 d2 B h1 h2 h3 h4=>?_,λd' B hn hB=>?_,λd' B h1 h2 h3=>by
  by_cases e:d'=d
  ·subst e;simp at h3
  ·simp only[ay _ _ e]at h3;exact h.tie d' B h1 h2 h3,?_⟩
 ·by_cases e:d'=d
  ·subst e;simp at bV
  ·simp only[ay _ _ e]at bV;exact(h.boxes d' x' bV).dN (.refl _ _) hd rfl (λ_ _=>rfl)
 ·have e1:d1≠d:=λe=>by subst e;simp at h1
  have e2:d2≠d:=λe=>by subst e;simp at h2
  simp only[ay _ _ e1]at h1;simp only[ay _ _ e2]at h2;exact h.inj d1 d2 B h1 h2 h3 h4
 ·have e:d'≠d:=λe=>by subst e;simp at hn
  simp only[ay _ _ e]at hn;exact h.own d' B hn hB
 ·refine h.fY (.refl _ _) rfl (λ_=>False) (λ_ _ _ _ h=>h) (λ_ _ _=>rfl) (aP _) (λ_ h=>h.elim) (λ_ h=>.inl h) ?_;rintro B ⟨d',hn,hB⟩;have e:d'≠d:=λe=>by subst e;simp at hn
  simp only[ay _ _ e]at hn;exact .inl ⟨d',hn,hB⟩
theorem aC.xe (h:aC P E w0 I0 n s a w I be) (d:Nat) (x x':Bx) (B:Nat) (hx:s.b d=some x) (hB:be d=some B) (cur fE:Array Value) (t:TypeId)
  (hw:w.heap[B]?=some (.cells cur t (0,0))) (dh:fE.size=cur.size) (hk:(∃cs qy,x=.cells cs/\x'=.cells qy)∨(∃e xs om,x=.aT e xs/\x'=.aT e om/\om.length=xs.length)):
  cH w (w.setRow B fE) I I/\∀d',s.g d'<s.g d'∨(s.g d'=s.g d'/\eu P w (w.setRow B fE) be be s.b (bF s.b d (some x')) d'):=by
 have uP:s.b d≠none:=by simp[hx]
 obtain⟨Sd,Zr,Md,ho4⟩:=h.own d B uP hB;have qz:∀k,k≠B->(w.setRow B fE).heap[k]?=w.heap[k]?:=λk hk=>nR w B k fE hk;have uV:=o7 w B cur fE t (0,0) hw;refine⟨.world (λp v hp hv=>by rw[ct (qz p.block (Md p hp))];exact hv) (uh (λk hk _=>qz k hk) hw uV dh),λd'=>.inr ⟨rfl,?_⟩⟩;by_cases e:d'=d
 ·subst e;refine⟨λ_=>⟨uP,rfl⟩,λoff len v hv=>?_⟩;unfold viewAt at hv⊢;simp only[bA,hx,hB]at hv⊢;rcases hk with⟨cs,qy,rfl,rfl⟩|⟨e,xs,om,rfl,rfl,hl⟩
  ·trivial
  ·simp only at hv⊢;obtain⟨h1,am7,cap,A,h2,h3,h4⟩:=hv;rw[hw]at h2;injection h2 with h2;injection h2 with h5 h6;subst h5 h6;exact⟨by omega,fE,cap,A,uV,by omega,h4⟩
 ·exact .ib (ay _ _ e) rfl (λB' hn cZ=>qz B' (λeB=>e (h.inj d' d B hn uP (by rw[cZ,eB]) hB)))
theorem aC.gR (h:aC P E w0 I0 n s a w I be) (d:Nat) (x x':Bx) (B:Nat) (hx:s.b d=some x) (hB:be d=some B) (cur fE:Array Value) (t:TypeId)
  (hw:w.heap[B]?=some (.cells cur t (0,0))) (dh:fE.size=cur.size) (hk:(∃cs qy,x=.cells cs/\x'=.cells qy)∨(∃e xs om,x=.aT e xs/\x'=.aT e om/\om.length=xs.length))
  (bV:fX P (w.setRow B fE) I be (bF s.b d (some x')) s.g d x'):
  aC P E w0 I0 n {s with b:=bF s.b d (some x')} a (w.setRow B fE) I be:=by
 have uP:s.b d≠none:=by simp[hx]
 obtain⟨Sd,Zr,Md,ho4⟩:=h.own d B uP hB;have qz:∀k,k≠B->(w.setRow B fE).heap[k]?=w.heap[k]?:=λk hk=>nR w B k fE hk;obtain⟨hc,hd⟩:=h.xe d x x' B hx hB cur fE t hw dh hk;have hs:=h.since.step (w':=w.setRow B fE) (I':=I) rfl rfl rfl (by simp) (λk=>k=B) (λk _ hk=>qz k hk) (λk hk=>by subst hk;exact ⟨Sd,ho4⟩) hc.shape (λ_ h=>h) rfl (λ_ h=>.inl h);have Az:∀b,E.bN (w.setRow B fE) b->E.bN w b:=(E.stays w _ h.since.inv (λb hb=>qz b (λe=>ho4 (e▸hb)))).2;have hn:∀d',bF s.b d (some x') d'≠none->s.b d'≠none:=λd' hh=>by
  by_cases e:d'=d
  ·subst e;exact uP
  ·simpa only[ay _ _ e]using hh
 refine⟨hs,h.size,h.defers.mono hc,λt ht=>(h.cr t ht).dN hc hd,λd' y hy=>?_,λd1 d2 B' h1 h2 h3 h4=>?_,λd' B' hn cZ=>?_,λd' B' h1 h2 h3=>h.tie d' B' h1 h2 (by
  by_cases e:d'=d
  ·subst e;simp[hx]
  ·simpa only[ay _ _ e]using h3),h.fY hc rfl (λk=>k=B) (λi B' hi cZ e=>by subst e;exact (h.aO.own i _ hi cZ).2.2.2.2 ⟨d,uP,hB⟩) (λk _ hk=>qz k hk) (by simp) (λk hk=>by subst hk;exact ho4) (λ_ h=>.inl h) (λB' ⟨d',h1,h2⟩=>.inl ⟨d',hn d' h1,h2⟩)⟩
 ·by_cases e:d'=d
  ·subst e;simp only[bA,ah]at hy;subst hy;exact bV
  ·simp only[ay _ _ e]at hy;exact(h.boxes d' y hy).dN hc hd rfl (λB' cZ=>qz B' (λeB=>e (h.inj d' d B (by simp[hy]) uP (by rw[cZ,eB]) hB)))
 ·have hn:∀d',bF s.b d (some x') d'≠none->s.b d'≠none:=λd' hh=>by
   by_cases e:d'=d
   ·subst e;exact uP
   ·simpa only[ay _ _ e]using hh
  exact h.inj d1 d2 B' (hn d1 h1) (hn d2 h2) h3 h4
 ·have E0:s.b d'≠none:=by
   by_cases e:d'=d
   ·subst e;exact uP
   ·simpa only[ay _ _ e]using hn
  obtain⟨q1,q2,q3,q4⟩:=h.own d' B' E0 cZ;exact⟨q1,by simpa using q2,q3,λhf=>q4 (Az _ hf)⟩
theorem aC.WL (h:aC P E w0 I0 n s a w I be) (M:Nat->Prop) (hM:∀B,M B->E.fresh w0 B/\(∀p,I p->p.block≠B)/\¬E.bN w B/\∀d,s.b d≠none->be d≠some B) (hMa:∀i B,s.a i≠none->I.ar i=some B->¬M B) (FM:∀B,Shape w w' B)
  (Ay:w'.os=w.os) (ji:w'.tape=w.tape) (mJ:w'.output=w.output) (dh:w.heap.size<=w'.heap.size)
  (et:∀k,k<w.heap.size->¬M k->w'.heap[k]?=w.heap[k]?):aC P E w0 I0 n s a w' I be:=by
 have hs:=h.since.step (I':=I) Ay ji mJ dh M et (λk hk=>⟨(hM k hk).1,(hM k hk).2.2.1⟩) FM (λ_ h=>h) rfl (λ_ h=>.inl h);have hc:cH w w' I I:=.world (λp v hp hv=>by rw[ct (et p.block (h.since.lt p hp) (λhm=>(hM _ hm).2.1 p hp rfl))];exact hv) FM;have hB:∀d B,s.b d≠none->be d=some B->w'.heap[B]?=w.heap[B]?:=λd B hd hB=>et B (h.own d B hd hB).2.1 (λhm=>(hM _ hm).2.2.2 d hd hB);have hd:∀d,s.g d<s.g d∨(s.g d=s.g d/\eu P w w' be be s.b s.b d):=λd=>.inr ⟨rfl,.ib rfl rfl (λB hn=>hB d B hn)⟩;refine⟨hs,h.size,h.defers.mono hc,λt ht=>(h.cr t ht).dN hc hd,λd x hx=>(h.boxes d x hx).dN hc hd rfl (λB=>hB d B (by simp[hx])),h.inj,λd B hd hB=>?_,h.tie,h.fY hc rfl M hMa et dh (λk hk=>(hM k hk).2.2.1) (λ_ h=>.inl h) (λ_ h=>.inl h)⟩;obtain⟨h1,h2,h3,h4⟩:=h.own d B hd hB;refine⟨h1,by omega,h3,λhf=>h4 ?_⟩;exact(E.stays w w' h.since.inv (λb hb=>et b (E.lt w b h.since.inv hb) (λhm=>(hM b hm).2.2.1 hb))).2 B hf
theorem aC.stay (h:aC P E w0 I0 n s a w I be) (B:Nat) (hB:E.fresh w0 B/\B<w.heap.size/\¬E.bN w B/\∀d,s.b d≠none->be d≠some B) (hBa:∀i,s.a i≠none->I.ar i≠some B):
  aC P E w0 I0 n s a w (I.plus λp=>p.block=B) be:=by
 have hs:=h.since.step (w':=w) (I':=I.plus λp=>p.block=B) rfl rfl rfl (aP _) (λ_=>False) (λ_ _ _=>rfl) (λ_ hk=>hk.elim) (Shape.refl w) (λ_ h=>.inl h) rfl
  (by
    rintro p (hp|rfl)
    ·exact .inl hp
    ·exact .inr ⟨hB.1,hB.2.1,hB.2.2.1⟩)
 have hd:∀d,s.g d<s.g d∨(s.g d=s.g d/\eu P w w be be s.b s.b d):=λd=>.inr ⟨rfl,.ib rfl rfl (λ_ _ _=>rfl)⟩;refine⟨hs,h.size,h.defers.mono (.plus _ _ _),λt ht=>(h.cr t ht).dN (.plus _ _ _) hd,λd x hx=>(h.boxes d x hx).dN (.plus _ _ _) hd rfl (λB _=>rfl),h.inj,λd B' hd cZ=>?_,h.tie,h.fY (.plus _ _ _) rfl (λ_=>False) (λ_ _ _ _ h=>h) (λ_ _ _=>rfl) (aP _) (λ_ h=>h.elim) (λp hp=>hp.imp id λe i hi=>by rw[e];exact hBa i hi) (λ_ h=>.inl h)⟩;obtain⟨h1,h2,h3,h4⟩:=h.own d B' hd cZ;refine⟨h1,h2,λp hp=>?_,h4⟩;rcases hp with hp|hp
 ·exact h3 p hp
 ·intro e;exact hB.2.2.2 d hd (by rw[cZ,<-e,hp])
theorem rr{w:World}{B:Nat}(hw:w.heap[B]?=some (.cells cur t fr))(k:Nat):w.cell? ⟨B,k,none⟩=cur[k]?:=cell_of_row w B k cur t fr hw
theorem dJ(B o k:Nat):(⟨B,o,none⟩:Addr).add k=⟨B,o+k,none⟩:=by
 unfold Addr.add;split
 ·subst_vars;rfl
 ·rfl
theorem getD_some(h:k<cur.size):cur[k]?=some (cur.getD k undef):=by simp[h]
theorem ru{i:Nat}(hi:i<len)(hl:len<=cap)(hj:j<sz):i*sz+j<cap*sz:=by have h1:(i+1)*sz<=cap*sz:=fK _ (by omega);rw[ew]at h1;omega
theorem o8{I':Cells}(hb:s.b d=some (.aT e xs))(hx:fX P w I be s.b s.g d (.aT e xs))(hv:viewAt P w be s.b d off len v)
  (hII:cH w w I I') (hIB:∀B,be d=some B->∀p:Addr,p.block=B->I' p):cj w I' v (.sl ((xs.drop off).take len)):=by
 obtain⟨h1,h2,h3,h4⟩:=hx;unfold viewAt at hv;simp only[hb]at hv;obtain⟨hl,hv⟩:=hv;cases hq:be d with
 |none=>
  simp only[hq]at hv h4;subst h4;obtain⟨A,rfl⟩:=hv;have hl0:len=0:=by simp at hl;omega
  subst hl0;cases A with
  |none=>exact .fJ 0|some a=>exact .sl a 0 0 0 _ (λ_ _=>undef) (by simp) (by simp) (by simp[maxLen]) (λi x hx=>by simp at hx) (λi j x c hx=>by simp at hx) (λi j x c hx=>by simp at hx) (λi j x c hx=>by simp at hx)
 |some B=>
  simp only[hq]at hv h4;obtain⟨cur,cap,A,hw,hs,rfl,hA⟩:=hv;obtain⟨fE,eY,qB,iX,hm,Hs,jk⟩:=h4;rw[hw]at qB;injection qB with qB;injection qB with e1 e2;subst e1;have gy:eY=cap:=by have:=hs.symm.trans iX;exact(o9 h1 this).symm
  subst gy;by_cases hoc:off<eY
  ·obtain rfl:=hA hoc;have hlen:((xs.drop off).take len).length=len:=by simp;omega
   have key:∀(i j:Nat)(x c:AV),((xs.drop off).take len)[i]?=some x->x.cells[j]?=some c->xs[off+i]?=some x/\off*P.cellsOf e+(i*P.cellsOf e+j)=(off+i)*P.cellsOf e+j/\(off+i)*P.cellsOf e+j<cur.size:=by
    intro i j x c hx hc;rw[fZ]at hx;split at hx
    ·rw[lA]at hx;have SA:off+i<xs.length:=(aV.1 hx).1;have pM:j<P.cellsOf e:=by rw[<-(h3 _ _ hx).1];exact (aV.1 hc).1
     refine⟨hx,by rw[ew];omega,?_⟩;rw[hs];exact ru SA Hs pM
    ·cases hx
   refine .sl _ len (eY-off) (P.cellsOf e) _ (λi j=>cur.getD ((off+i)*P.cellsOf e+j) undef) hlen.symm (by omega) (by omega) (λi x hx=>?_) (λi j x c hx hc=>?_) (λi j x c hx hc=>?_) (λi j x c hx hc=>?_)
   ·rw[fZ]at hx;split at hx
    ·rw[lA]at hx;exact h3 _ _ hx
    ·cases hx
   ·obtain ⟨k1,k2,k3⟩:=key i j x c hx hc;rw[dJ,k2,rr hw,getD_some k3]
   ·rw[dJ];exact hIB B hq _ rfl
   ·obtain ⟨k1,k2,k3⟩:=key i j x c hx hc;exact(jk _ _ x c k1 hc).mono hII
  ·have hl0:len=0:=by omega
   subst hl0;have hz:eY-off=0:=by omega
   rw[hz];cases A with
   |none=>exact .fJ 0|some a=>exact .sl a 0 0 0 _ (λ_ _=>undef) (by simp) (by simp) (by simp[maxLen]) (λi x hx=>by simp at hx) (λi j x c hx=>by simp at hx) (λi j x c hx=>by simp at hx) (λi j x c hx=>by simp at hx)
end
def nS(P:Program)(t:TypeId):Option Bool:=
 match P.underlying t with
 |some (.struct _)|some (.array _ _)=>some true|some _=>some false
 |none=>none
theorem qC(h:nS P t=some b)(w:World):(isAgg t).run P w=.ok b w:=by
 unfold nS at h;cases hu:P.underlying t with
 |none=>simp[hu]at h|some d=>unfold isAgg;rw[bJ,dr hu w];cases d<;>simp_all
theorem run_sizeOf(h:P.cellsOf t=k)(hk:0<k)(w:World):(sizeOf t).run P w=.ok k w:=by
 unfold Program.cellsOf at h;cases hi:P.info? t with
 |none=>simp[hi]at h;omega|some i=>simp[hi]at h;simp[sizeOf,typeInfo,hi,h]
theorem add_add(a:Addr)(i j:Nat):(a.add i).add j=a.add (i+j):=by unfold Addr.add;by_cases hi:i=0<;>by_cases hj:j=0<;>simp[hi,hj,iU]
theorem add_zero(a:Addr):a.add 0=a:=by simp[Addr.add]
theorem sH{w:World}(hc:∀(j:Nat)(v:Value),vs[j]?=some v->w.cell? (p.add j)=some v)
   (hb:nS P t=some b) (hs:0<P.cellsOf t) (hl:P.cellsOf t<=vs.length):
  (loadVar t p).run P w=.ok (if b then .agg (vs.take (P.cellsOf t)).toArray else vs.headD undef) w:=by
 unfold loadVar;rw[bJ,qC hb];simp only[bX];cases b with
 |true=>
  simp only[bp];have Ol:(loadCells p (vs.take (P.cellsOf t)).length).run P w=.ok (vs.take (P.cellsOf t)).toArray w:=
   run_loadCells_list (P:=P) w p (vs.take (P.cellsOf t)) (λj v hv=>by
    rw[fZ]at hv;split at hv
    ·exact hc j v hv
    ·cases hv)
  have hlen:(vs.take (P.cellsOf t)).length=P.cellsOf t:=by simp;omega
  rw[hlen]at Ol;rw[bJ,run_sizeOf rfl hs];simp only[bX];rw[bJ,Ol];rfl
 |false=>
  cases vs with
  |nil=>simp at hl;omega|cons v rest=>have:=hc 0 v rfl;rw[add_zero]at this;simp[this]
def lD(w:World)(I:Cells)(p:Addr)(cs:List AV)(vs:List Value):Prop:=vs.length=cs.length/\(∀(j:Nat)(v:Value),vs[j]?=some v->w.cell? (p.add j)=some v)/\∀(j:Nat)(v:Value)(c:AV),vs[j]?=some v->cs[j]?=some c->cj w I v c
theorem lD.drop {w:World} {I:Cells} {cs:List AV} (h:lD w I p cs vs) (k:Nat):lD w I (p.add k) (cs.drop k) (vs.drop k):=by
 refine⟨by simp[h.1],λj v hv=>?_,λj v c hv hc=>?_⟩
 ·rw[lA]at hv;rw[add_add];exact h.2.1 _ _ hv
 ·rw[lA]at hv hc;exact h.2.2 _ _ _ hv hc
theorem Cu{w:World}{I:Cells}{cs:List AV}(f:Nat->Value)(h1:∀(j:Nat)(c:AV),cs[j]?=some c->w.cell? (p.add j)=some (f j))(h2:∀(j:Nat)(c:AV),cs[j]?=some c->cj w I (f j) c):
  lD w I p cs ((List.range cs.length).map f):=by
 refine⟨by simp,λj v hv=>?_,λj v c hv hc=>?_⟩
 ·simp only[dd,ck]at hv;obtain⟨k,hk,rfl⟩:=hv;have hj:j<cs.length:=by have:=(aV.1 hk).1;simpa using this
  rw[AA hj]at hk;injection hk with hk;subst hk;exact h1 j cs[j] (cq hj)
 ·simp only[dd,ck]at hv;obtain⟨k,hk,rfl⟩:=hv;have hj:=(aV.1 hc).1;rw[AA hj]at hk;injection hk with hk;subst hk;exact h2 j c hc
theorem cj.Qw {w:World} {I:Cells} {cs:List AV} (h:cj w I v (.ref cs)):∃p vs,v=.pointer (some p)/\lD w I p cs vs:=by
 cases h with
 |ref p cs cv hc hI hr=>exact ⟨p,_,rfl,Cu cv hc hr⟩
theorem Cv(f:Nat->Value)(hj:j<n):((List.range n).map f)[j]?=some (f j):=by simp[hj]
def fC(P:Program)(t:TypeId)(cs:List AV)(K:AV->Prop):Prop:=
 0<P.cellsOf t/\P.cellsOf t<=cs.length/\
 match nS P t with
 |some true=>K (.agg (cs.take (P.cellsOf t)))|some false=>K (cs.headD (.fl undef))
 |none=>False
theorem kD{cs:List AV}(h:fC P t cs K):∃y,K y/\fC P t cs (·=y):=by
 obtain⟨h1,h2,h3⟩:=h;cases hb:nS P t with
 |none=>simp[hb]at h3|some b=>cases b with
  |true=>simp only[hb]at h3;exact ⟨_,h3,h1,h2,by simp only[hb]⟩|false=>simp only[hb]at h3;exact ⟨_,h3,h1,h2,by simp only[hb]⟩
theorem oC{w:World}{I:Cells}{cs:List AV}(hc:lD w I p cs vs)(h:fC P t cs K):
  ∃v x,(loadVar t p).run P w=.ok v w/\cj w I v x/\K x:=by
 obtain⟨h1,h2,h3⟩:=h;cases hb:nS P t with
 |none=>simp[hb]at h3|some b=>
  have hr:=sH hc.2.1 hb h1 (by rw[hc.1];exact h2);cases b with
  |true=>
   simp only[hb]at h3;refine⟨_,_,hr,?_,h3⟩;simp only[bp];refine .agg _ _ (by simp[hc.1]) λj c hj=>?_;rw[fZ]at hj;split at hj
   ·rename_i eK;have WM:j<vs.length:=by rw[hc.1];exact (aV.1 hj).1
    have:=hc.2.2 j vs[j] c (cq WM) hj;simpa[fZ,eK,WM]using this
   ·cases hj
  |false=>
   simp only[hb]at h3;refine⟨_,_,hr,?_,h3⟩;cases cs with
   |nil=>simp at h2;omega|cons c rest=>
    cases vs with
    |nil=>simp[lD]at hc|cons v adE=>exact hc.2.2 0 v c rfl rfl
def Sound(P:Program)(E:Env)(w0:World)(I0:Cells)(n:Nat)(o:Oper)(s:St)(K:St->Prop):Prop:=∀a w,Rel P E w0 I0 n s a w->∀Qc,o.wp P a w (λa' w'=>∃s',Rel P E w0 I0 n s' a' w'/\K s') Qc
theorem eA{o:Oper}{w:World}{next:Act->World->Prop}{Q:Exit->Act->World->Prop}(h:(execOp a.eval o).run P w=.ok (.value v) w')(hn:next (a.put o.dst v) w'):o.wp P a w next Q:=by unfold Oper.wp;rw[h];exact hn
section
variable{P:Program}{E:Env}{w0:World}{I0:Cells}{n:Nat}{o:Oper}{s:St}{K:St->Prop}
def aJ(n:Nat)(o:Oper):Bool:=o.op.operands.all λx=>bI x&&match x with|.tmp t=>decide (t<n)|_=>true
theorem au(ax:aJ n o=true){x:Operand}(hx:x∈o.op.operands){w:World}{I:Cells}(h:aC P E w0 I0 n s a w I be):bD P w I be s.b s.g (a.eval x) (s.ev x):=by have:=rq.1 ax x hx;simp only[aD]at this;refine h.ev x this.1 λt ht=>?_;subst ht;simpa using this.2
def dm(P:Program)(E:Env)(w0:World)(I0:Cells)(n:Nat)(o:Oper)(s:St)(r:br):Prop:=∀a w I be,aC P E w0 I0 n s a w I be->∃v,(execOp a.eval o).run P w=.ok (.value v) w/\bD P w I be s.b s.g v r
theorem gI(r:br)(hK:K (s.put o.dst r))(h:∀a w I be,aC P E w0 I0 n s a w I be->∃v,(execOp a.eval o).run P w=.ok (.value v) w/\bD P w I be s.b s.g v r):Sound P E w0 I0 n o s K:=by rintro a w ⟨I,be,hR⟩ Qc;obtain⟨v,hr,hv⟩:=h a w I be hR;exact eA hr ⟨_,⟨I,be,hR.put o.dst hv⟩,hK⟩
theorem Me{x:Operand}(ho:o.op=.move x)(ax:aJ n o=true):dm P E w0 I0 n o s (s.ev x):=λa w I be hR=>⟨a.eval x,by simp[execOp,ho],au ax (by simp[ho,Op.operands]) hR⟩
theorem ry{x:Operand}(ho:o.op=.assign x)(ax:aJ n o=true):dm P E w0 I0 n o s (s.ev x):=λa w I be hR=>⟨a.eval x,by simp[execOp,ho],au ax (by simp[ho,Op.operands]) hR⟩
theorem bR{w:World}{I:Cells}{u:Value}(h:cj w I v (.fl u)):v=u:=by cases h;rfl
theorem Mf{c x:Operand}(ho:o.op=.pick c x y)(ax:aJ n o=true)(hc:s.ev c=.val (.fl (.bool b))):dm P E w0 I0 n o s (if b then s.ev x else s.ev y):=
 λa w I be hR=>by
  have h1:=au ax (x:=c) (by simp[ho,Op.operands]) hR;have h2:=au ax (x:=x) (by simp[ho,Op.operands]) hR;have h3:=au ax (x:=y) (by simp[ho,Op.operands]) hR;rw[hc]at h1;have h4:=bR h1;cases b with
  |true=>exact ⟨a.eval x,by simp[execOp,ho,h4,asBool],h2⟩|false=>exact ⟨a.eval y,by simp[execOp,ho,h4,asBool],h3⟩
theorem Fe{x:Operand}(ho:o.op=.extract x k)(ax:aJ n o=true){rs:List br}(hx:s.ev x=.fb rs)(hr:rs[k]?=some r):dm P E w0 I0 n o s r:=
 λa w I be hR=>by
  have h1:=au ax (x:=x) (by simp[ho,Op.operands]) hR;rw[hx]at h1;obtain⟨vs,e1,e2,e3⟩:=h1;have hk:k<vs.size:=by rw[e2];exact (aV.1 hr).1
  have h3:=e3 k r hr;refine⟨vs.getD k undef,?_,?_⟩
  ·simp[execOp,ho,e1,Instr.extract,hk]
  ·cases r<;>first|exact h3|trivial|exact h3.elim
theorem Cw{x:Operand}(ho:o.op=.load t x)(ax:aJ n o=true){cs:List AV}(hx:s.ev x=.val (.ref cs)){K:AV->Prop}(hK:fC P t cs K):∃v,K v/\dm P E w0 I0 n o s (.val v):=by
 have key:∀(a:Act)(w:World)(I:Cells)(be:Nat->Option Nat),aC P E w0 I0 n s a w I be->∀K:AV->Prop,fC P t cs K->∃v y,(execOp a.eval o).run P w=.ok (.value v) w/\cj w I v y/\K y:=by intro a w I be hR K hK;have h1:=au ax (x:=x) (by simp[ho,Op.operands]) hR;rw[hx]at h1;obtain⟨p,vs,e1,hc⟩:=cj.Qw h1;obtain⟨v,y,cu,dH,hk⟩:=oC hc hK;exact⟨v,y,by simp[execOp,ho,e1,Instr.loadAt,Instr.sureAddr,cu],dH,hk⟩
 obtain⟨y,hy,cI⟩:=kD hK;refine⟨y,hy,λa w I be hR=>?_⟩;obtain⟨v,y',h1,h2,rfl⟩:=key a w I be hR _ cI;exact⟨v,h1,h2⟩
end
def bh:br->Option AV
 |.val v=>some v|.full xs=>some (.sl xs)
 |_=>none
def cR:List br->Option (List AV)
 |[]=>some []|r::rs=>match bh r,cR rs with
  |some x,some xs=>some (x::xs)|_,_=>none
theorem c9{w:World}{I:Cells}{b:Nat->Option Bx}{x:AV}(h:bD P w I be b g v r)(hr:bh r=some x):cj w I v x:=by
 cases r<;>simp[bh]at hr
 ·subst hr;exact h
 ·subst hr;exact h.1
theorem sI:∀{rs:List br}{xs:List AV},cR rs=some xs->xs.length=rs.length/\∀(j:Nat)(r:br)(x:AV),rs[j]?=some r->xs[j]?=some x->bh r=some x
 |[],xs,h=>by simp[cR]at h;subst h;simp|r::rs,xs,h=>by
  simp only[cR]at h;cases h1:bh r with
  |none=>simp[h1]at h|some y=>
   cases h2:cR rs with
   |none=>simp[h1,h2]at h|some ys=>
    simp only[h1,h2,ah]at h;subst h;obtain⟨hl,hj⟩:=sI h2;refine⟨by simp[hl],λj r' x' hr hx=>?_⟩;cases j with
    |zero=>simp at hr hx;subst hr hx;exact h1|succ j=>exact hj j r' x' (by simpa using hr) (by simpa using hx)
def iL(P:Program)(t:TypeId)(cs:List br)(K:br->Prop):Prop:=
 0<P.cellsOf t/\P.cellsOf t<=cs.length/\
 match nS P t with
 |some true=>∃xs,cR (cs.take (P.cellsOf t))=some xs/\K (.val (.agg xs))|some false=>K (cs.headD .none)
 |none=>False
def Mg(P:Program)(w:World)(I:Cells)(be:Nat->Option Nat)(b:Nat->Option Bx)(g:Nat->Nat)(p:Addr)(cs:List br)(vs:List Value):Prop:=vs.length=cs.length/\(∀(j:Nat)(v:Value),vs[j]?=some v->w.cell? (p.add j)=some v)/\∀(j:Nat)(v:Value)(c:br),vs[j]?=some v->cs[j]?=some c->bD P w I be b g v c
section
variable{P:Program}{E:Env}{w0:World}{I0:Cells}{n:Nat}{o:Oper}{s:St}{K:St->Prop}{w:World}{I:Cells}{be:Nat->Option Nat}{b:Nat->Option Bx}{g:Nat->Nat}
theorem sJ{cs:List br}{K:br->Prop}(hc:Mg P w I be b g p cs vs)(h:iL P t cs K):
  ∃v r,(loadVar t p).run P w=.ok v w/\bD P w I be b g v r/\K r:=by
 obtain⟨h1,h2,h3⟩:=h;cases hb:nS P t with
 |none=>simp[hb]at h3|some q=>
  have hr:=sH hc.2.1 hb h1 (by rw[hc.1];exact h2);cases q with
  |true=>
   simp only[hb]at h3;obtain⟨xs,iY,hK⟩:=h3;obtain⟨hl,yP⟩:=sI iY;refine⟨_,_,hr,?_,hK⟩;simp only[bp];refine cj.agg _ _ (by simp[hc.1,hl]) λj c hj=>?_;have pM:j<(cs.take (P.cellsOf t)).length:=by rw[<-hl];exact (aV.1 hj).1
   have hjn:j<P.cellsOf t:=by simp at pM;omega
   have SC:j<cs.length:=by simp at pM;omega
   have WM:j<vs.length:=by rw[hc.1];exact SC
   have jl:(cs.take (P.cellsOf t))[j]?=some cs[j]:=by simp[hjn,SC]
   have h4:=hc.2.2 j vs[j] cs[j] (cq WM) (cq SC);have h5:=c9 h4 (yP j _ _ jl hj);simpa[fZ,hjn,WM]using h5
  |false=>
   simp only[hb]at h3;refine⟨_,_,hr,?_,h3⟩;cases cs with
   |nil=>simp at h2;omega|cons c rest=>
    cases vs with
    |nil=>simp[Mg]at hc|cons v adE=>exact hc.2.2 0 v c rfl rfl
theorem Cx{cs:List br}{B:Nat}(h:fX P w I be b g d (.cells cs))(hB:be d=some B)(k:Nat):∃cur t,w.heap[B]?=some (.cells cur t (0,0))/\cur.size=cs.length/\Mg P w I be b g ⟨B,k,none⟩ (cs.drop k) (cur.toList.drop k):=by
 obtain⟨B',cur,t,h1,h2,h3,h4⟩:=h;rw[hB]at h1;injection h1 with h1;subst h1;refine⟨cur,t,h2,h3,by simp[h3],λj v hv=>?_,λj v c hv hc=>?_⟩
 ·rw[dJ,rr h2];simpa[lA]using hv
 ·rw[lA]at hv hc;have:=h4 _ _ hc;rw[iW]at hv;simpa[hv]using this
theorem AB{B:Nat}(h:fX P w I be b g d (.aT e xs))(hB:be d=some B){i:Nat}{x:AV}(hx:xs[i]?=some x):
  ∃vs,lD w I ⟨B,i*P.cellsOf e,none⟩ x.cells vs:=by
 obtain⟨h1,h2,h3,h4⟩:=h;simp only[hB]at h4;obtain⟨cur,cap,hw,hs,hm,hl,jk⟩:=h4;refine⟨_,Cu (λj=>cur.getD (i*P.cellsOf e+j) undef) (λj c hc=>?_) (λj c hc=>jk i j x c hx hc)⟩;have pM:j<P.cellsOf e:=by rw[<-(h3 _ _ hx).1];exact (aV.1 hc).1
 have ui:i<xs.length:=(aV.1 hx).1;rw[dJ,rr hw,getD_some];rw[hs];exact ru ui hl pM
theorem rz{cs:List br}{K:br->Prop}(h:iL P t cs K):∃y,K y/\iL P t cs (·=y):=by
 obtain⟨h1,h2,h3⟩:=h;cases hb:nS P t with
 |none=>simp[hb]at h3|some b=>cases b with
  |true=>simp only[hb]at h3;obtain⟨xs,hx,hk⟩:=h3;exact⟨_,hk,h1,h2,by simp only[hb];exact ⟨xs,hx,rfl⟩⟩|false=>simp only[hb]at h3;exact ⟨_,h3,h1,h2,by simp only[hb]⟩
theorem yT{x:Operand}(ho:o.op=.load t x)(ax:aJ n o=true){i:Nat}(hx:s.ev x=.loc d gg sz i k)(hg:gg=s.g d){cs:List br}(hb:s.b d=some (.cells cs)){K:br->Prop}(hK:iL P t (cs.drop (i*sz+k)) K):
  ∃r,K r/\dm P E w0 I0 n o s r:=by
 obtain⟨y,hy,cI⟩:=rz hK;refine⟨y,hy,λa w I be hR=>?_⟩;have h1:=au ax (x:=x) (by simp[ho,Op.operands]) hR;rw[hx]at h1;obtain⟨B,hB,e1⟩:=h1.2 hg (by simp[hb]);obtain⟨cur,t',hw,hs,lq⟩:=Cx (hR.boxes d _ hb) hB (i*sz+k);obtain⟨v,r,cu,dH,rfl⟩:=sJ lq cI;exact⟨v,by simp[execOp,ho,e1,Instr.loadAt,Instr.sureAddr,cu],dH⟩
theorem Cy{x:Operand}(ho:o.op=.load t x)(ax:aJ n o=true){i:Nat}(hx:s.ev x=.loc d gg sz i k)(hg:gg=s.g d)(hb:s.b d=some (.aT e xs))(dh:sz=P.cellsOf e){y:AV}(hy:xs[i]?=some y){K:AV->Prop}(hK:fC P t (y.cells.drop k) K):
  ∃r,K r/\dm P E w0 I0 n o s (.val r):=by
 obtain⟨z,hz,JE⟩:=kD hK;refine⟨z,hz,λa w I be hR=>?_⟩;have h1:=au ax (x:=x) (by simp[ho,Op.operands]) hR;rw[hx]at h1;obtain⟨B,hB,e1⟩:=h1.2 hg (by simp[hb]);subst dh;obtain⟨vs,lq⟩:=AB (hR.boxes d _ hb) hB hy;have adF:=lq.drop k;rw[dJ]at adF;obtain⟨v,z',cu,dH,rfl⟩:=oC adF JE;exact⟨v,by simp[execOp,ho,e1,Instr.loadAt,Instr.sureAddr,cu],dH⟩
theorem sK(ht:P.underlying t=some (.struct fs))(hf:fs[f]?=some fd)(hs:0<P.cellsOf fd.type)(p:Addr)(w:World):
  (Instr.fieldAt t (.pointer (some p)) f).run P w=.ok (.pointer (some (p.add fd.offset))) w:=by
 have h0:¬P.cellsOf fd.type=0:=by omega
 simp[Instr.fieldAt,dr ht,hf,Instr.sureAddr,fieldPlace,run_sizeOf rfl hs,h0]
theorem cj.SD {w:World} {I:Cells} {cs:List AV} (h:cj w I v (.ref cs)):∃p,v=.pointer (some p)/\∀k,cj w I (.pointer (some (p.add k))) (.ref (cs.drop k)):=by
 cases h with
 |ref p cs cv hc hI hr=>
  refine⟨p,rfl,λk=>.ref _ _ (λj=>cv (k+j)) (λj c h=>?_) (λj c h=>?_) (λj c h=>?_)⟩<;>rw[lA]at h
  ·rw[add_add];exact hc _ _ h
  ·rw[add_add];exact hI _ _ h
  ·exact hr _ _ h
theorem vx{i:Nat}(h:bD P w I be b g v (.loc d gg sz i k))(hg:gg=g d)(hb:b d≠none):∃B,be d=some B/\v=.pointer (some ⟨B,i*sz+k,none⟩):=h.2 hg hb
theorem uQ{x:Operand}(ho:o.op=.fieldAddr t x f)(ax:aJ n o=true)(ht:P.underlying t=some (.struct fs))(hf:fs[f]?=some fd)(hs:0<P.cellsOf fd.type)
  {cs:List AV} (hx:s.ev x=.val (.ref cs)):dm P E w0 I0 n o s (.val (.ref (cs.drop fd.offset))):=
 λa w I be hR=>by have h1:=au ax (x:=x) (by simp[ho,Op.operands]) hR;rw[hx]at h1;obtain⟨p,e1,hp⟩:=cj.SD h1;exact⟨.pointer (some (p.add fd.offset)),by simp[execOp,ho,e1,sK ht hf hs],hp _⟩
theorem uR{x:Operand}(ho:o.op=.fieldAddr t x f)(ax:aJ n o=true)(ht:P.underlying t=some (.struct fs))(hf:fs[f]?=some fd)(hs:0<P.cellsOf fd.type)
  {i:Nat} (hx:s.ev x=.loc d gg sz i k) (hg:gg=s.g d) (hb:s.b d≠none):dm P E w0 I0 n o s (.loc d gg sz i (k+fd.offset)):=
 λa w I be hR=>by have h1:=au ax (x:=x) (by simp[ho,Op.operands]) hR;rw[hx]at h1;obtain⟨B,hB,e1⟩:=vx h1 hg hb;refine⟨.pointer (some ((⟨B,i*sz+k,none⟩:Addr).add fd.offset)),by simp[execOp,ho,e1,sK ht hf hs],h1.1,λ_ _=>⟨B,hB,?_⟩⟩;rw[dJ,iU]
theorem run_indexAt_slice(ht:P.underlying t=some (.slice e))(hs:0<P.cellsOf e)(p:Addr)(len cap:Nat)(k:IntKind)(m:Int)(h0:0<=m)(h1:m<len)(w:World):
  (Instr.indexAt t (.slice (some p) len cap) (.int k m)).run P w=.ok (.pointer (some (p.add (m.toNat*P.cellsOf e)))) w:=by
 simp[Instr.indexAt,asIntOf,dr ht,run_sizeOf rfl hs,h0,h1]
theorem pa{x:Operand}(ho:o.op=.indexAddr t x y)(ax:aJ n o=true)(ht:P.underlying t=some (.slice e)){k:IntKind}
  (hx:bh (s.ev x)=some (.sl xs)) (hy:s.ev y=.val (.fl (.int k m))) (h0:0<=m) {z:AV} (hz:xs[m.toNat]?=some z) (hs:0<P.cellsOf e) (dh:z.cells.length=P.cellsOf e):dm P E w0 I0 n o s (.val (.ref z.cells)):=
 λa w I be hR=>by
  have h1:=c9 (au ax (x:=x) (by simp[ho,Op.operands]) hR) hx;have h2:=au ax (x:=y) (by simp[ho,Op.operands]) hR;rw[hy]at h2;have e2:=bR h2;have hl:m.toNat<xs.length:=(aV.1 hz).1;generalize hv:a.eval x=v at*;cases h1 with
  |fJ c=>simp at hl|sl p n' cap sz xs cv hn gy iE Ht hc hI hr=>
   have hq:=(Ht _ _ hz).1;have:sz=P.cellsOf e:=by rw[<-dh,hq]
   subst this;refine⟨.pointer (some (p.add (m.toNat*P.cellsOf e))),?_,.ref _ _ (λj=>cv m.toNat j) (λj c h=>?_) (λj c h=>?_) (λj c h=>?_)⟩
   ·simp[execOp,ho,hv,e2,run_indexAt_slice ht hs p n' cap k m h0 (by omega)]
   ·rw[add_add];exact hc _ _ _ _ hz h
   ·rw[add_add];exact hI _ _ _ _ hz h
   ·exact hr _ _ _ _ hz h
theorem nj{d gg off len:Nat}{v:Value}(h:bD P w I be b g v (.view d gg off len))(hg:gg=g d){e:TypeId}{xs:List AV}(hb:b d=some (.aT e xs)):
  off+len<=xs.length/\match be d with
   |none=>∃A,v=.slice A len 0|some B=>∃cur cap A,w.heap[B]?=some (.cells cur e (0,0))/\cur.size=cap*P.cellsOf e/\v=.slice A len (cap-off)/\(off<cap->A=some ⟨B,off*P.cellsOf e,none⟩):=by
 have:=h.2 hg;unfold viewAt at this;rw[hb]at this;exact this
theorem sL{x:Operand}(ho:o.op=.indexAddr t x y)(ax:aJ n o=true)(ht:P.underlying t=some (.slice e)){k:IntKind}
  (hx:s.ev x=.view d gg off len) (hg:gg=s.g d) (hb:s.b d=some (.aT e xs)) (hy:s.ev y=.val (.fl (.int k m))) (h0:0<=m) (h1:m<len):dm P E w0 I0 n o s (.loc d gg (P.cellsOf e) (off+m.toNat) 0):=
 λa w I be hR=>by
  have h3:=au ax (x:=x) (by simp[ho,Op.operands]) hR;rw[hx]at h3;have h2:=au ax (x:=y) (by simp[ho,Op.operands]) hR;rw[hy]at h2;have e2:=bR h2;have lC:=hR.boxes d _ hb;obtain⟨hl,hv⟩:=nj h3 hg hb;obtain⟨hs,yU,jk,sg⟩:=lC;cases hB:be d with
  |none=>simp only[hB]at sg;subst sg;simp at hl;omega|some B=>
   simp only[hB]at hv sg;obtain⟨cur,cap,A,hw,jl,e1,hA⟩:=hv;obtain⟨fE,eY,qB,Cz,E1,Hs,_⟩:=sg;rw[hw]at qB;injection qB with qB;injection qB with q1 q2;subst q1;have gy:eY=cap:=(o9 hs (jl.symm.trans Cz)).symm;subst gy;have hoc:off<eY:=by omega
   obtain rfl:=hA hoc;refine⟨.pointer (some ((⟨B,off*P.cellsOf e,none⟩:Addr).add (m.toNat*P.cellsOf e))),?_,h3.1,λ_ _=>⟨B,hB,?_⟩⟩
   ·simp[execOp,ho,e1,e2,run_indexAt_slice ht hs _ len (eY-off) k m h0 h1]
   ·rw[dJ,ew,mL]
end
def St.cT (s:St) (d:Nat) (cs:List br):St:={s with r:=bF s.r d (.loc d (s.g d+1) 0 0 0),b:=bF s.b d (some (.cells cs)),g:=bF s.g d (s.g d+1)}
def St.bP (s:St) (d:Nat) (e:TypeId) (xs:List AV):St:={s with r:=bF s.r d (.view d (s.g d+1) 0 xs.length),b:=bF s.b d (some (.aT e xs)),g:=bF s.g d (s.g d+1)}
section
variable{P:Program}{E:Env}{w0:World}{I0:Cells}{n:Nat}{s:St}{a:Act}{w w':World}{I:Cells}{be:Nat->Option Nat}
theorem JF{h:Array Obj}(hk:k<h.size):(h.push o)[k]?=h[k]?:=by rw[JG,ai (by omega)]
theorem FN(d:Nat)(x:Bx)(bo:Option Nat):∀d',s.g d'<bF s.g d (s.g d+1) d'∨(bF s.g d (s.g d+1) d'=s.g d'/\eu P w w be (bF be d bo) s.b (bF s.b d (some x)) d'):=by
 intro d';by_cases e:d'=d
 ·subst e;left;simp
 ·right;exact⟨ay _ _ e,.ib (ay _ _ e) (ay _ _ e) (λ_ _ _=>rfl)⟩
theorem aC.fresh (h:aC P E w0 I0 n s a w I be) (Ay:w'.os=w.os) (ji:w'.tape=w.tape) (mJ:w'.output=w.output) (sh:w'.heap=w.heap.push o):
  aC P E w0 I0 n s a w' I be/\w'.heap[w.heap.size]?=some o/\
  (E.fresh w0 w.heap.size/\w.heap.size<w'.heap.size/\(∀p,I p->p.block≠w.heap.size)/\¬E.bN w' w.heap.size/\∀d',s.b d'≠none->be d'≠some w.heap.size)/\cH w w' I I/\∀B,some w.heap.size=some B->∀i,s.a i≠none->I.ar i≠some B:=by
 have dh:w'.heap.size=w.heap.size+1:=by rw[sh];simp
 have et:∀k,k<w.heap.size->w'.heap[k]?=w.heap[k]?:=λk hk=>by rw[sh];exact JF hk
 have h':=h.grow Ay ji mJ (by omega) et;refine⟨h',by rw[sh];simp,⟨.inl h.since.size,by omega,λp hp e=>?_,λhf=>?_,λd' hd he=>?_⟩,.world (h.Ct (λk hk _=>et k hk)) (Cs et),λB hB i hi cZ=>?_⟩
 ·have:=h.since.lt p hp;omega
 ·have:=(E.stays w w' h.since.inv (λb hb=>et b (E.lt w b h.since.inv hb))).2 _ hf;have:=E.lt w _ h.since.inv this;omega
 ·have:=(h.own d' _ hd he).2.1;omega
 ·have:=(h.aO.own i _ hi cZ).2.1;injection hB with hB;omega
theorem aC.cT (h:aC P E w0 I0 n s a w I be) (d:Nat) (Ay:w'.os=w.os) (ji:w'.tape=w.tape) (mJ:w'.output=w.output) (sh:w'.heap=w.heap.push (.cells cur t))
  (cs:List br) (hl:cur.size=cs.length) (hc:∀(j:Nat)(c:br),cs[j]?=some c->bD P w I be s.b s.g (cur.getD j undef) c):
  aC P E w0 I0 n (s.cT d cs) (a.put (some d) (.pointer (some ⟨w.heap.size,0,none⟩))) w' I (bF be d (some w.heap.size)):=by
 obtain⟨h',jd,Fb,jm,Sz⟩:=h.fresh Ay ji mJ sh;have FO:∀d',s.g d'<s.g d'∨(s.g d'=s.g d'/\eu P w w' be be s.b s.b d'):=λd'=>.inr ⟨rfl,.ib rfl rfl (λB hn hB=>by rw[sh];exact JF (h.own d' B hn hB).2.1)⟩;have hx:fX P w' I (bF be d (some w.heap.size)) (bF s.b d (some (.cells cs))) (bF s.g d (s.g d+1)) d (.cells cs):=⟨w.heap.size,cur,t,bA _ _ _,jd,hl,λj c hj=>((hc j c hj).dN jm FO).dN (.refl _ _) (FN d _ _)⟩
 have hr:=h'.nC d (.cells cs) (some w.heap.size) hx (λB hB=>by injection hB with hB;subst hB;exact ⟨Fb.1,Fb.2.1,Fb.2.2.1,Fb.2.2.2.1,λd' _ hn=>Fb.2.2.2.2 d' hn⟩) Sz;have:=hr.put (some d) (v:=.pointer (some ⟨w.heap.size,0,none⟩)) (r:=.loc d (s.g d+1) 0 0 0) ⟨by simp,λ_ _=>⟨w.heap.size,by simp,by simp⟩⟩;exact this
def gY(P:Program)(e:TypeId)(xs:List AV):Prop:=∀x∈xs,x.cells.length=P.cellsOf e/\x.wf
theorem aC.bP (h:aC P E w0 I0 n s a w I be) (d:Nat) (Ay:w'.os=w.os) (ji:w'.tape=w.tape) (mJ:w'.output=w.output) (sh:w'.heap=w.heap.push (.cells cur e))
  (xs:List AV) (hs:0<P.cellsOf e) (gy:cur.size=cap*P.cellsOf e) (iE:cap<=maxLen) (hl:xs.length<=cap) (jk:gY P e xs)
  (hc:∀(i j:Nat)(x c:AV),xs[i]?=some x->x.cells[j]?=some c->cj w I (cur.getD (i*P.cellsOf e+j) undef) c):
  aC P E w0 I0 n (s.bP d e xs) (a.put (some d) (.slice (some ⟨w.heap.size,0,none⟩) xs.length cap)) w' I (bF be d (some w.heap.size)):=by
 obtain⟨h',jd,Fb,jm,Sz⟩:=h.fresh Ay ji mJ sh;have hx:fX P w' I (bF be d (some w.heap.size)) (bF s.b d (some (.aT e xs))) (bF s.g d (s.g d+1)) d (.aT e xs):=by refine⟨hs,dI hl iE,λi x hi=>jk x (bC hi),?_⟩;simp only[bA];exact⟨cur,cap,jd,gy,iE,hl,λi j x c h1 h2=>(hc i j x c h1 h2).mono jm⟩
 have hr:=h'.nC d (.aT e xs) (some w.heap.size) hx (λB hB=>by injection hB with hB;subst hB;exact ⟨Fb.1,Fb.2.1,Fb.2.2.1,Fb.2.2.2.1,λd' _ hn=>Fb.2.2.2.2 d' hn⟩) Sz;have:=hr.put (some d) (v:=.slice (some ⟨w.heap.size,0,none⟩) xs.length cap) (r:=.view d (s.g d+1) 0 xs.length) ⟨by simp,λ_=>by unfold viewAt;simp only[bA];exact⟨by omega,cur,cap,some ⟨w.heap.size,0,none⟩,jd,gy,by simp,λ_=>by simp⟩⟩;exact this
theorem aC.CA (h:aC P E w0 I0 n s a w I be) (d:Nat) (e:TypeId) (hs:0<P.cellsOf e) (A:Option Addr):
  aC P E w0 I0 n (s.bP d e []) (a.put (some d) (.slice A 0 0)) w I (bF be d none):=by
 have hx:fX P w I (bF be d none) (bF s.b d (some (.aT e []))) (bF s.g d (s.g d+1)) d (.aT e []):=⟨hs,by simp,λi x hi=>by simp at hi,by simp only[bA]⟩
 have hr:=h.nC d (.aT e []) none hx (λB hB=>by cases hB) (λB hB=>by cases hB);exact hr.put (some d) (v:=.slice A 0 0) (r:=.view d (s.g d+1) 0 0) ⟨by simp,λ_=>by unfold viewAt;simp only[bA];exact⟨by simp,A,rfl⟩⟩
end
section
variable{P:Program}{E:Env}{w0:World}{I0:Cells}{n:Nat}{o:Oper}{s:St}{K:St->Prop}
def eZ:br->Option (List br)
 |.val v=>some (v.cells.map .val)|.full xs=>some [.full xs]
 |.loc d g sz i k=>some [.loc d g sz i k]|.view d g off len=>some [.view d g off len]
 |_=>none
theorem lE{w:World}{I:Cells}{b:Nat->Option Bx}{cs:List br}(h:bD P w I be b g v r)(hr:eZ r=some cs)
  (lC:∀d gg sz i k,r=.loc d gg sz i k->gg=g d/\b d≠none) (SE:∀d gg off len,r=.view d gg off len->gg=g d/\∃e xs,b d=some (.aT e xs)):
  v.cells.size=cs.length/\∀(j:Nat)(c:br),cs[j]?=some c->bD P w I be b g (v.cells.getD j undef) c:=by
 have one:∀(r:br)(hv:v.cells=#[v]),bD P w I be b g v r->v.cells.size=[r].length/\∀(j:Nat)(c:br),[r][j]?=some c->bD P w I be b g (v.cells.getD j undef) c:=by
  intro r hv h;rw[hv];refine⟨by simp,λj c hj=>?_⟩;cases j with
  |zero=>simp at hj;subst hj;simpa using h|succ j=>simp at hj
 cases r with
 |val x=>
  simp only[eZ,ah]at hr;subst hr;have h':cj w I v x:=h;cases h' with
  |fl v WN=>exact one _ (by cases v<;>first|rfl|(simp[One,Value.oneCell']at WN)) h
  |fJ c=>exact one _ rfl h|sl a n cap sz xs cv hn gy iE dh hc hI hr=>exact one _ rfl h
  |ref p cs cv hc hI hr=>exact one _ rfl h|fn f vs caps hl hr=>exact one _ rfl h
  |mI t v x hr=>exact one _ rfl h|ptr i off B hB=>exact one _ rfl h
  |view i sz len B cap e cur A hB hw hs hl hA=>exact one _ rfl h|qv i sz A cap h=>exact one _ rfl h
  |mp i B hB=>exact one _ rfl h|emp A=>exact one _ rfl h
  |nz f vs first hl hr=>exact one _ rfl h|agg vs cs hl hr=>simp only[AV.cells,Value.cells];refine⟨by simp[hl],λj c hj=>?_⟩;simp only[dd,ck]at hj;obtain⟨x,hx,rfl⟩:=hj;exact hr j x hx
 |full xs=>simp only[eZ,ah]at hr;subst hr;obtain⟨A,rfl⟩:=h.2;exact one _ rfl h|loc d gg sz i k=>simp only[eZ,ah]at hr;subst hr;obtain⟨h1,h2⟩:=lC _ _ _ _ _ rfl;obtain⟨B,_,rfl⟩:=vx h h1 h2;exact one _ rfl h
 |view d gg off len=>
  simp only[eZ,ah]at hr;subst hr;obtain⟨h1,e,xs,h2⟩:=SE _ _ _ _ rfl;obtain⟨_,h3⟩:=nj h h1 h2;have:∃A l c,v=.slice A l c:=by
   cases hB:be d with
   |none=>rw[hB]at h3;obtain ⟨A,rfl⟩:=h3;exact ⟨_,_,_,rfl⟩|some B=>rw[hB]at h3;obtain ⟨_,_,A,_,_,rfl,_⟩:=h3;exact ⟨_,_,_,rfl⟩
  obtain⟨A,l,c,rfl⟩:=this;exact one _ rfl h
 |none=>simp[eZ]at hr|fb rs=>simp[eZ]at hr
def alive(s:St):br->Prop
 |.loc d gg _ _ _=>gg=s.g d/\s.b d≠none|.view d gg _ _=>gg=s.g d/\∃e xs,s.b d=some (.aT e xs)
 |_=>True
theorem yV{x:Operand}(ho:o.op=.box t x)(ax:aJ n o=true)(hd:o.dst=some d){cs:List br}(hx:eZ (s.ev x)=some cs)(ha:alive s (s.ev x))(hK:K (s.cT d cs)):Sound P E w0 I0 n o s K:=by
 rintro a w ⟨I,be,hR⟩ Qc;have h1:=au ax (x:=x) (by simp[ho,Op.operands]) hR;have cu:(execOp a.eval o).run P w=.ok (.value (.pointer (some ⟨w.heap.size,0,none⟩))) (w.alloc (.cells (a.eval x).cells t)):=by simp[execOp,ho,Instr.box,newVar,newRow]
 refine eA cu ⟨_,⟨I,bF be d (some w.heap.size),?_⟩,hK⟩;rw[hd];obtain⟨h2,h3⟩:=lE h1 hx (λd gg sz i k e=>by rw[e]at ha;exact ha) (λd gg off len e=>by rw[e]at ha;exact ha);exact hR.cT (w':=w.alloc (.cells (a.eval x).cells t)) d rfl rfl rfl rfl _ h2 h3
end
structure Src(P:Program)(w:World)(I:Cells)(sz:Nat)(v:Value)(ys:List AV)(news:List Value):Prop where
 len:∀w1,(Builtin.lenOf v).run P w1=.ok ys.length w1
 cells:∀w1,w1.heap=w.heap->∀m,m<=ys.length->(Builtin.firstCells sz m v).run P w1=.ok (news.take (m*sz)).toArray w1
 size:news.length=ys.length*sz
 one:∀u∈news,u.oneCell'=true
 rep:∀(i j:Nat)(y c:AV),ys[i]?=some y->y.cells[j]?=some c->cj w I (news.getD (i*sz+j) undef) c
theorem Om{w:World}{I:Cells}{c:AV}(h:cj w I v c)(hc:c.isAgg=false):v.oneCell'=true:=by cases h<;>first|assumption|rfl|(simp[AV.isAgg]at hc)
section
variable{P:Program}{w:World}{I:Cells}
theorem Oo{a:Addr}(f:Nat->Value)(hn:n=ys.length)(dh:∀y∈ys,y.cells.length=sz/\y.wf)
  (hc:∀(i j:Nat)(y c:AV),ys[i]?=some y->y.cells[j]?=some c->w.cell? (a.add (i*sz+j))=some (f (i*sz+j))/\cj w I (f (i*sz+j)) c):
  Src P w I sz (.slice (some a) n cap) ys ((List.range (ys.length*sz)).map f):=by
 have key:∀k,k<ys.length*sz->∃(y c:AV),ys[k/sz]?=some y/\y.cells[k%sz]?=some c/\(k/sz)*sz+k%sz=k:=by
  intro k hk;have wX:0<sz:=Nat.pos_of_ne_zero (λe=>by subst e;simp at hk);have h1:k/sz<ys.length:=by rw[Nat.div_lt_iff_lt_mul wX];exact hk
  have h2:=cq h1;have h3:k%sz<ys[k/sz].cells.length:=by rw[(dh _ (fx h1)).1];exact Nat.mod_lt _ wX
  exact⟨_,_,h2,cq h3,by rw[vy];exact Nat.div_add_mod k sz⟩
 subst hn;refine⟨λw1=>rfl,λw1 hw m hm=>?_,by simp,λu hu=>?_,λi j y c h1 h2=>?_⟩
 ·have hms:m*sz<=ys.length*sz:=fK _ hm;have hl:(((List.range (ys.length*sz)).map f).take (m*sz)).length=m*sz:=by rw[my,cM,List.length_range];omega
  have jm:∀(j:Nat)(v:Value),(((List.range (ys.length*sz)).map f).take (m*sz))[j]?=some v->w1.cell? (a.add j)=some v:=by
   intro j v hv;rw[fZ]at hv;split at hv
   ·rename_i hj;have WO:j<ys.length*sz:=by omega
    rw[Cv f WO]at hv;injection hv with hv;subst hv;obtain⟨y,c,h1,h2,h3⟩:=key j WO;have h4:=(hc _ _ y c h1 h2).1;rw[h3]at h4;simpa[World.cell?,hw]using h4
   ·cases hv
  have:=run_loadCells_list (P:=P) w1 a _ jm;rw[hl]at this;simpa[Builtin.firstCells]using this
 ·obtain ⟨k,hk,rfl⟩:=cK.1 hu;have hk:=nT.1 hk;obtain⟨y,c,h1,h2,h3⟩:=key k hk;have h4:=(hc _ _ y c h1 h2).2;rw[h3]at h4;exact Om h4 ((dh _ (bC h1)).2 c (bC h2))
 ·have ui:i<ys.length:=(aV.1 h1).1;have pM:j<sz:=by rw[<-(dh _ (bC h1)).1];exact (aV.1 h2).1
  have eK:=ru ui (aP _) pM;have:=(hc i j y c h1 h2).2;simpa[eK]using this
theorem JI(sz:Nat)(l c:Nat)(hl:l=0):Src P w I sz (.slice none l c) [] []:=by
 subst hl;refine⟨λw1=>rfl,λw1 _ m hm=>?_,by simp,by simp,λi j y c h=>by simp at h⟩;have:m=0:=by simpa using hm
 subst this;simp[Builtin.firstCells]
theorem FP(sz:Nat)(A:Option Addr)(c:Nat):Src P w I sz (.slice A 0 c) [] []:=by
 cases A with
 |none=>exact JI sz 0 c rfl|some a=>
  refine⟨λw1=>rfl,λw1 _ m hm=>?_,by simp,by simp,λi j y c h=>by simp at h⟩;have:m=0:=by simpa using hm
  subst this;simp[Builtin.firstCells,loadCells,loadCellsFrom]
theorem CB(h:cj w I v (.sl ys))(dh:∀y∈ys,y.cells.length=sz):∃news,Src P w I sz v ys news:=by
 cases h with
 |fJ c=>exact ⟨[],JI sz 0 c rfl⟩|sl a n cap WQ xs cv hn gy iE Ht hc hI hr=>
  cases ys with
  |nil=>simp at hn;subst hn;exact⟨[],FP sz _ _⟩|cons y rest=>
   have e:WQ=sz:=by rw[<-(Ht 0 y rfl).1];exact dh y (by simp)
   subst e;refine⟨_,Oo (λk=>cv (k/WQ) (k%WQ)) hn (λz hz=>?_) (λi j z c h1 h2=>?_)⟩
   ·obtain ⟨i,hi,rfl⟩:=fR hz;exact Ht i _ (cq hi)
   ·have pM:j<WQ:=by rw[<-(Ht _ _ h1).1];exact (aV.1 h2).1
    have wX:0<WQ:=by omega
    have e1:(i*WQ+j)/WQ=i:=by rw[vy,Nat.mul_add_div wX,Nat.div_eq_of_lt pM];omega
    have e2:(i*WQ+j)%WQ=j:=by rw[vy,Nat.mul_add_mod,Nat.mod_eq_of_lt pM]
    simp only[e1,e2];exact⟨hc i j z c h1 h2,hr i j z c h1 h2⟩
theorem CD{b:Nat->Option Bx}(h:bD P w I be b g v (.view d gg off len))(hg:gg=g d)(hb:b d=some (.aT e xs))
  (lC:fX P w I be b g d (.aT e xs)):∃news,Src P w I (P.cellsOf e) v ((xs.drop off).take len) news:=by
 obtain⟨hl,hv⟩:=nj h hg hb;obtain⟨hs,yU,jk,sg⟩:=lC;have empty:∀A c,len=0->v=.slice A len c->∃news,Src P w I (P.cellsOf e) v ((xs.drop off).take len) news:=by rintro A c rfl rfl;exact⟨[],by simpa using FP (P:=P) (w:=w) (I:=I) (P.cellsOf e) A c⟩
 cases hB:be d with
 |none=>
  simp only[hB]at hv sg;subst sg;obtain⟨A,rfl⟩:=hv;have:len=0:=by simp at hl;omega
  exact empty A 0 this rfl
 |some B=>
  simp only[hB]at hv sg;obtain⟨cur,cap,A,hw,jl,e1,hA⟩:=hv;obtain⟨fE,eY,qB,Cz,E1,Hs,dH⟩:=sg;rw[hw]at qB;injection qB with qB;injection qB with q1 q2;subst q1;have gy:eY=cap:=(o9 hs (jl.symm.trans Cz)).symm;subst gy;by_cases hoc:off<eY
  ·obtain rfl:=hA hoc;have hlen:((xs.drop off).take len).length=len:=by simp;omega
   rw[e1];refine⟨_,Oo (λk=>cur.getD (off*P.cellsOf e+k) undef) hlen.symm (λy hy=>?_) (λi j y c h1 h2=>?_)⟩
   ·obtain ⟨i,hi,rfl⟩:=fR hy;have:=cq hi;rw[fZ]at this;split at this
    ·rw[lA]at this;exact jk _ _ this
    ·cases this
   ·rw[fZ]at h1;split at h1
    ·rw[lA]at h1;have SA:off+i<xs.length:=(aV.1 h1).1;have pM:j<P.cellsOf e:=by rw[<-(jk _ _ h1).1];exact (aV.1 h2).1
     have e2:off*P.cellsOf e+(i*P.cellsOf e+j)=(off+i)*P.cellsOf e+j:=by rw[ew];omega
     refine⟨?_,?_⟩
     ·rw[dJ,rr hw,getD_some];rw[jl,e2];exact ru SA Hs pM
     ·rw[e2];exact dH _ _ _ _ h1 h2
    ·cases h1
  ·have:len=0:=by omega
   exact empty A _ this e1
end
section
variable{P:Program}{w:World}{I:Cells}
theorem Ff{ty:TypeId}(ht:P.underlying t=some (.slice e))(hu:P.underlying u=some du)(Qx:(∃q,du=.slice q)∨du=.string)(hi:P.info? e=some i)
  {g m:Nat} (hg:w.heap[g]?=some (.cells cur e (0,0))) (hlen:(Builtin.lenOf v).run P w=.ok m w) (hf:(Builtin.firstCells i.size m v).run P w=.ok news.toArray w)
  (h1:∀u∈news,u.oneCell'=true) (AD:n+m<=cap) (ga:n*i.size+news.length<=cur.size):
  (Builtin.append_ #[t,u] ty #[.slice (some ⟨g,0,none⟩) n cap,v]).run P w=.ok (.slice (some ⟨g,0,none⟩) (n+m) cap) (w.setRow g (cur.toList.take (n*i.size)++news++cur.toList.drop (n*i.size+news.length)).toArray):=by
 have mK:=run_storeCells_at P g (n*i.size) e news 0 cur w hg (by simpa using ga) h1;simp only[mL]at mK;rcases Qx with⟨q,rfl⟩|rfl<;>
  simp[Builtin.append_,dr ht,dr hu,sizeOf,typeInfo,hi,hlen,AD,hf,dJ,mK]
theorem nU{ty:TypeId}(ht:P.underlying t=some (.slice e))(hu:P.underlying u=some du)(Qx:(∃q,du=.slice q)∨du=.string)(hi:P.info? e=some i)
   (hlen:(Builtin.lenOf v).run P w=.ok 0 w) (hf:(Builtin.firstCells i.size 0 v).run P w=.ok #[] w):
  (Builtin.append_ #[t,u] ty #[.slice A 0 0,v]).run P w=.ok (.slice A 0 0) w:=by
 rcases Qx with⟨q,rfl⟩|rfl<;>cases A<;>
  simp[Builtin.append_,dr ht,dr hu,sizeOf,typeInfo,hi,hlen,hf,storeCells]
theorem sN{ty:TypeId}(ht:P.underlying t=some (.slice e))(hu:P.underlying u=some du)(Qx:(∃q,du=.slice q)∨du=.string)(hi:P.info? e=some i)(hz:i.zero=some z)
   {m:Nat} {olds:List Value} (hlen:(Builtin.lenOf v).run P w=.ok m w) (hf:(Builtin.firstCells i.size m v).run P w.drew=.ok news.toArray w.drew)
  (hfo:(Builtin.firstCells i.size n (.slice A n cap)).run P w.drew=.ok olds.toArray w.drew) (hg:cap<n+m) (h63:((n+m:Nat):Int)<=9223372036854775807) (ga:Builtin.nextslicecap (n+m) cap*i.bytes<=281474976710656):
  (Builtin.append_ #[t,u] ty #[.slice A n cap,v]).run P w=.ok (.slice (some ⟨w.heap.size,0,none⟩) (n+m) (grownCap w (n+m) cap e)) (w.drew.alloc (.cells (olds.toArray++news.toArray++Builtin.zeroCells z.cells (grownCap w (n+m) cap e-(n+m))) e)):=by
 have hn:¬(n+m<=cap):=by omega
 have ahJ:¬(9223372036854775807<((n:Int)+(m:Int))):=by omega
 have ahK:¬(281474976710656<Builtin.nextslicecap (n+m) cap*i.bytes):=by omega
 rcases Qx with⟨q,rfl⟩|rfl<;>
  (simp[Builtin.append_,dr ht,dr hu,sizeOf,typeInfo,zeroValue,hi,hz,hlen,hn,ahJ,ahK,Question.forced,hf,hfo,newRow,grownCap]
   try(congr 2;apply Array.ext';simp[sO]))
end
theorem vz(hi:P.info? e=some i):P.bytesOf e=i.bytes:=by simp[Program.bytesOf,hi]
theorem uj(hi:P.info? e=some i):P.cellsOf e=i.size:=by simp[Program.cellsOf,hi]
section
variable{P:Program}{E:Env}{w0:World}{I0:Cells}{n:Nat}{s:St}{a:Act}{w w':World}{I:Cells}{be:Nat->Option Nat}
theorem vA(sw:∀(i j:Nat)(x c:AV),xs[i]?=some x->x.cells[j]?=some c->cj w I (cur.getD (i*sz+j) undef) c)
  (iY:∀x∈xs,x.cells.length=sz) (hk:k=xs.length) (Hs:k*sz<=cur.size) (hn:news.length=ys.length*sz)
  (dH:∀(i j:Nat)(y c:AV),ys[i]?=some y->y.cells[j]?=some c->cj w I (news.getD (i*sz+j) undef) c) (sx:∀y∈ys,y.cells.length=sz) (tail:List Value):
  ∀(i j:Nat)(x c:AV),(xs++ys)[i]?=some x->x.cells[j]?=some c->cj w I ((cur.toList.take (k*sz)++news++tail).toArray.getD (i*sz+j) undef) c:=by
 subst hk;intro i j x c hx hc;have hT:(cur.toList.take (xs.length*sz)).length=xs.length*sz:=by simp;omega
 by_cases hi:i<xs.length
 ·rw[kf hi]at hx;have pM:j<sz:=by rw[<-iY x (bC hx)];exact (aV.1 hc).1
  have eK:=ru hi (aP _) pM;have h1:=sw i j x c hx hc;have h2:(cur.toList.take (xs.length*sz)++news++tail).toArray.getD (i*sz+j) undef=cur.getD (i*sz+j) undef:=by simp only[jI,FQ,sO];rw[kf (by rw[hT];exact eK),fZ,ap eK,iW]
  rw[h2];exact h1
 ·have Oq:xs.length<=i:=by omega
  rw[lF Oq]at hx;have pM:j<sz:=by rw[<-sx x (bC hx)];exact (aV.1 hc).1
  have ui:i-xs.length<ys.length:=(aV.1 hx).1;have eK:=ru ui (aP _) pM;have h1:=dH _ j x c hx hc;have e1:i*sz+j=xs.length*sz+((i-xs.length)*sz+j):=by rw[Nat.sub_mul];have:xs.length*sz<=i*sz:=fK _ Oq;omega
  have h2:(cur.toList.take (xs.length*sz)++news++tail).toArray.getD (i*sz+j) undef=news.getD ((i-xs.length)*sz+j) undef:=by simp only[jI,FQ,sO,xf];rw[lF (by rw[hT,e1];omega),hT,kf (by rw[hn];omega)];congr 2;omega
  rw[h2];exact h1
theorem xg(h1:gY P e xs)(h2:gY P e ys):gY P e (xs++ys):=by
 intro x hx;rcases dt.1 hx with h|h
 ·exact h1 x h
 ·exact h2 x h
theorem aC.append (h:aC P E w0 I0 n s a w I be) {ty:TypeId} (ht:P.underlying t=some (.slice e)) (hu:P.underlying u=some du) (Qx:(∃q,du=.slice q)∨du=.string) (hi:P.info? e=some i) (hz:i.zero=some z) (Fg:z.cells.size=i.size)
  (d d' k:Nat) (hv:bD P w I be s.b s.g v (.view d' gg 0 k)) (hg:gg=s.g d') (hb:s.b d'=some (.aT e xs)) (gT:Src P w I (P.cellsOf e) v2 ys news) (jk:gY P e ys) (yU:k+ys.length<=maxLen) (mM:(k+ys.length)*P.bytesOf e<=140737488355328):
  ∃v' w' iK,(Builtin.append_ #[t,u] ty #[v,v2]).run P w=.ok v' w'/\aC P E w0 I0 n (({s with b:=bF s.b d' none}:St).bP d e (xs.take k++ys)) (a.put (some d) v') w' I iK:=by
 have lC:=h.boxes d' _ hb;have uP:s.b d'≠none:=by simp[hb]
 obtain⟨hs,qD,pH,sg⟩:=lC;obtain⟨hl,JJ⟩:=nj hv hg hb;have FR:=h.drop d';have FT:(xs.take k).length=k:=by simp;omega
 have iY:gY P e (xs.take k):=λx hx=>by
  obtain⟨j,hj,rfl⟩:=fR hx;have:=cq hj;rw[fZ]at this;split at this
  ·exact pH _ _ this
  ·cases this
 have cY:=xg iY jk;have oo:=uj hi;have Wt:=vz hi;have hlen:(xs.take k++ys).length=k+ys.length:=by rw[kR,FT]
 have out:∀(A:Option Addr)(cap:Nat)(olds:List Value),v=.slice A k cap->(∀w1,w1.heap=w.heap->(Builtin.firstCells (P.cellsOf e) k v).run P w1=.ok olds.toArray w1)->olds.length=k*P.cellsOf e->
   (∀(i j:Nat)(x c:AV),(xs.take k)[i]?=some x->x.cells[j]?=some c->cj w I (olds.getD (i*P.cellsOf e+j) undef) c)->cap<k+ys.length->
   ∃v' w' iK,(Builtin.append_ #[t,u] ty #[v,v2]).run P w=.ok v' w'/\aC P E w0 I0 n (({s with b:=bF s.b d' none}:St).bP d e (xs.take k++ys)) (a.put (some d) v') w' I iK:=by
  intro A cap olds e1 hfo hol Zs gy;have ga:=growslice_fits gy (Wt▸mM);have Mh:=gT.cells w.drew rfl ys.length (aP _);rw[cV (by rw[gT.size];exact aP _)]at Mh;have hr:=sN (w:=w) (ty:=ty) ht hu Qx hi hz (A:=A) (n:=k) (cap:=cap) (m:=ys.length) (v:=v2) (olds:=olds) (news:=news) (gT.len w) (by rw[<-oo];exact Mh) (by rw[<-oo,<-e1];exact hfo w.drew rfl) gy (by simp only[maxLen]at yU;omega) ga;have Oq:=grownCap_ge w (k+ys.length) cap e;have E1:grownCap w (k+ys.length) cap e<=maxLen:=grownCap_le_maxLen w (k+ys.length) cap e yU;have jl:(olds.toArray++news.toArray++Builtin.zeroCells z.cells (grownCap w (k+ys.length) cap e-(k+ys.length))).size=grownCap w (k+ys.length) cap e*P.cellsOf e:=by simp only[Array.size_append,mN,size_zeroCells,Fg,hol,gT.size,<-oo,<-ew];congr 1;omega
  have jd:=FR.bP (w':=w.drew.alloc (.cells (olds.toArray++news.toArray++Builtin.zeroCells z.cells (grownCap w (k+ys.length) cap e-(k+ys.length))) e)) d rfl rfl rfl rfl (xs.take k++ys) hs jl E1 (by rw[hlen];exact Oq) cY
   (λi j x c hx hc=>by
     have:=vA (w:=w) (I:=I) (sz:=P.cellsOf e) (k:=k) (xs:=xs.take k) (ys:=ys) (cur:=olds.toArray) (news:=news) (λi j x c h1 h2=>by simpa using Zs i j x c h1 h2) (λx hx=>(iY x hx).1) FT.symm (by simp[hol]) gT.size gT.rep (λy hy=>(jk y hy).1) (Builtin.zeroCells z.cells (grownCap w (k+ys.length) cap e-(k+ys.length))).toList i j x c hx hc;rw[cV (by simp[hol])]at this;have e2:(olds.toArray.toList++news++(Builtin.zeroCells z.cells (grownCap w (k+ys.length) cap e-(k+ys.length))).toList).toArray=olds.toArray++news.toArray++Builtin.zeroCells z.cells (grownCap w (k+ys.length) cap e-(k+ys.length)):=by apply Array.ext';simp
     rw[e2]at this;exact this)
  refine⟨_,_,bF be d (some w.heap.size),by rw[e1];exact hr,?_⟩;rw[hlen]at jd;exact jd
 obtain⟨olds,hold⟩:=CD hv hg hb ⟨hs,qD,pH,sg⟩;simp only[CE]at hold;have hof:∀w1,w1.heap=w.heap->(Builtin.firstCells (P.cellsOf e) k v).run P w1=.ok olds.toArray w1:=λw1 E3=>by have:=hold.cells w1 E3 k (by rw[FT];exact aP _);rwa[cV (by rw[hold.size,FT];exact aP _)]at this
 have Ay:olds.length=k*P.cellsOf e:=by rw[hold.size,FT]
 cases hB:be d' with
 |none=>
  simp only[hB]at JJ sg;subst sg;obtain⟨A,e1⟩:=JJ;have WS:k=0:=by simp at hl;exact hl
  subst WS;by_cases hy:ys=[]
  ·subst hy;have hn0:news=[]:=xc (by rw[gT.size];simp);subst hn0;have Mh:=gT.cells w rfl 0 (aP _);have hr:=nU (w:=w) (ty:=ty) ht hu Qx hi (A:=A) (v:=v2) (gT.len w) (by rw[<-oo];simpa using Mh);exact⟨_,_,bF be d none,by rw[e1];exact hr,by simpa using FR.CA d e hs A⟩
  ·exact out A 0 olds e1 hof Ay (λi j x c h1 h2=>hold.rep i j x c h1 h2) (by have:=SF.2 hy;omega)
 |some B=>
  simp only[hB]at JJ sg;obtain⟨cur,cap,A,hw,jl,e1,hA⟩:=JJ;obtain⟨fE,eY,qB,Cz,E1,Hs,dH⟩:=sg;rw[hw]at qB;injection qB with qB;injection qB with q1 q2;subst q1;have gy:eY=cap:=(o9 hs (jl.symm.trans Cz)).symm;subst gy;simp only[rA]at e1;by_cases AD:k+ys.length<=eY
  ·by_cases Fc:0<eY
   ·have hA':=hA Fc;simp only[rB]at hA';subst hA';obtain⟨o1,o2,o3,o4⟩:=h.own d' B uP hB;have Mh:=gT.cells w rfl ys.length (aP _);rw[cV (by rw[gT.size];exact aP _)]at Mh;have ga:k*i.size+news.length<=cur.size:=by rw[gT.size,jl,<-oo,<-ew];exact fK _ AD
    have hr:=Ff (w:=w) (ty:=ty) ht hu Qx hi (n:=k) (cap:=eY) hw (gT.len w) (by rw[<-oo];exact Mh) gT.one AD ga;have ahL:=FR.WL (w':=w.setRow B (cur.toList.take (k*i.size)++news++cur.toList.drop (k*i.size+news.length)).toArray) (λb=>b=B)
     (λb oD=>by subst oD;exact ⟨o1,o3,o4,λd2 xh hB2=>by
       by_cases ed:d2=d'
       ·subst ed;simp at xh
       ·simp only[ay _ _ ed]at xh;exact ed (h.inj d2 d' _ xh uP hB2 hB)⟩) (λi B' hi cZ e=>by subst e;exact (h.aO.own i _ hi cZ).2.2.2.2 ⟨d',uP,hB⟩)
     (uh (λk hk _=>nR w B k _ hk) hw (o7 w B cur _ e (0,0) hw) (by simp only[mN,kR,my,xi,pN];omega)) rfl rfl rfl (by simp) (λb Ax dZ=>nR w B b _ dZ)
    have uV:=o7 w B cur (cur.toList.take (k*i.size)++news++cur.toList.drop (k*i.size+news.length)).toArray e (0,0) hw;have jm:cH w (w.setRow B (cur.toList.take (k*i.size)++news++cur.toList.drop (k*i.size+news.length)).toArray) I I:=.world (λp v hp hv=>by rw[ct (nR w B p.block _ (o3 p hp))];exact hv) (uh (λk hk _=>nR w B k _ hk) hw uV (by simp only[mN,kR,my,xi,pN];omega));have adG:(cur.toList.take (k*i.size)++news++cur.toList.drop (k*i.size+news.length)).toArray.size=eY*P.cellsOf e:=by simp only[mN,kR,my,xi,pN];omega
    have hx:fX P (w.setRow B (cur.toList.take (k*i.size)++news++cur.toList.drop (k*i.size+news.length)).toArray) I (bF be d (some B)) (bF (bF s.b d' none) d (some (.aT e (xs.take k++ys)))) (bF s.g d (s.g d+1)) d (.aT e (xs.take k++ys)):=by
     refine⟨hs,by rw[hlen];exact yU,λi x hi=>cY x (bC hi),?_⟩;simp only[bA];refine⟨_,eY,uV,adG,E1,by rw[hlen];exact AD,λi2 j x c hx hc=>?_⟩;have:=vA (w:=w) (I:=I) (sz:=P.cellsOf e) (k:=k) (xs:=xs.take k) (ys:=ys) (cur:=cur) (news:=news)
      (λi j x c h1 h2=>by
        rw[fZ]at h1;split at h1
        ·exact dH i j x c h1 h2
        ·cases h1) (λx hx=>(iY x hx).1) FT.symm (by rw[jl];exact fK _ (by omega)) gT.size gT.rep (λy hy=>(jk y hy).1) (cur.toList.drop (k*i.size+news.length)) i2 j x c hx hc
     rw[oo]at this⊢;exact this.mono jm
    have Az:∀b,E.bN (w.setRow B (cur.toList.take (k*i.size)++news++cur.toList.drop (k*i.size+news.length)).toArray) b->E.bN w b:=(E.stays w _ h.since.inv (λb oD=>nR w B b _ (λe=>o4 (e▸oD)))).2;have sE:=ahL.nC d (.aT e (xs.take k++ys)) (some B) hx (λB' cZ=>by
     injection cZ with cZ;subst cZ;refine⟨o1,by simpa using o2,o3,λhf=>o4 (Az _ hf),λd2 xh WT SG=>?_⟩;by_cases ed:d2=d'
     ·subst ed;simp at WT
     ·simp only[ay _ _ ed]at WT;exact ed (h.inj d2 d' _ WT uP SG hB)) (λB' cZ i hi ly=>by
     injection cZ with cZ;subst cZ;exact(h.aO.own i _ hi ly).2.2.2.2 ⟨d',uP,hB⟩)
    have yW:=sE.put (some d) (v:=.slice (some ⟨B,0,none⟩) (k+ys.length) eY) (r:=.view d (s.g d+1) 0 (k+ys.length)) ⟨by simp,λ_=>by unfold viewAt;simp only[bA];exact⟨by rw[hlen];omega,_,eY,some ⟨B,0,none⟩,uV,adG,by simp,λ_=>by simp⟩⟩;refine⟨_,_,bF be d (some B),by rw[e1];exact hr,?_⟩;unfold St.bP;rw[hlen];exact yW
   ·have WS:k=0:=by omega
    have hy0:ys=[]:=xc (by omega);have adH:eY=0:=by omega
    subst WS hy0 adH;have hn0:news=[]:=xc (by rw[gT.size];simp);subst hn0;have Mh:=gT.cells w rfl 0 (aP _);have hr:=nU (w:=w) (ty:=ty) ht hu Qx hi (A:=A) (v:=v2) (gT.len w) (by rw[<-oo];simpa using Mh);exact⟨_,_,bF be d none,by rw[e1];exact hr,by simpa using FR.CA d e hs A⟩
  ·exact out A eY olds e1 hof Ay (λi j x c h1 h2=>hold.rep i j x c h1 h2) (by omega)
theorem aC.Mi (h:aC P E w0 I0 n s a w I be) {ty:TypeId} (ht:P.underlying t=some (.slice e)) (hu:P.underlying u=some du) (Qx:(∃q,du=.slice q)∨du=.string) (hi:P.info? e=some i) (hz:i.zero=some z) (Fg:z.cells.size=i.size)
  (d:Nat) (hv:bD P w I be s.b s.g v (.full xs)) (hs:0<P.cellsOf e) (iY:gY P e xs) (gT:Src P w I (P.cellsOf e) v2 ys news) (jk:gY P e ys) (dA:xs=[]∨ys≠[]) (yU:xs.length+ys.length<=maxLen) (mM:(xs.length+ys.length)*P.bytesOf e<=140737488355328):
  ∃v' w' iK,(Builtin.append_ #[t,u] ty #[v,v2]).run P w=.ok v' w'/\aC P E w0 I0 n (s.bP d e (xs++ys)) (a.put (some d) v') w' I iK:=by
 obtain⟨dH,A,e1⟩:=hv;have cY:=xg iY jk;have oo:=uj hi;have Wt:=vz hi;have hlen:(xs++ys).length=xs.length+ys.length:=kR;by_cases hy:ys=[]
 ·subst hy;have L2:xs=[]:=by rcases dA with h|h<;>first|exact h|exact absurd rfl h
  subst L2;have hn0:news=[]:=xc (by rw[gT.size];simp);subst hn0;have Mh:=gT.cells w rfl 0 (aP _);simp only[kS]at e1;have hr:=nU (w:=w) (ty:=ty) ht hu Qx hi (A:=A) (v:=v2) (gT.len w) (by rw[<-oo];simpa using Mh);exact⟨_,_,bF be d none,by rw[e1];exact hr,by simpa using h.CA d e hs A⟩
 ·have gy:xs.length<xs.length+ys.length:=by have:=SF.2 hy;omega
  obtain⟨olds,hold⟩:=CB (P:=P) dH (λx hx=>(iY x hx).1);have ga:=growslice_fits gy (Wt▸mM);have Mh:=gT.cells w.drew rfl ys.length (aP _);rw[cV (by rw[gT.size];exact aP _)]at Mh;have Mj:=hold.cells w.drew rfl xs.length (aP _);rw[cV (by rw[hold.size];exact aP _),e1]at Mj;have hr:=sN (w:=w) (ty:=ty) ht hu Qx hi hz (A:=A) (n:=xs.length) (cap:=xs.length) (m:=ys.length) (v:=v2) (olds:=olds) (news:=news) (gT.len w) (by rw[<-oo];exact Mh) (by rw[<-oo];exact Mj) gy (by simp only[maxLen]at yU;omega) ga;have Oq:=grownCap_ge w (xs.length+ys.length) xs.length e;have E1:grownCap w (xs.length+ys.length) xs.length e<=maxLen:=grownCap_le_maxLen w (xs.length+ys.length) xs.length e yU;have jl:(olds.toArray++news.toArray++Builtin.zeroCells z.cells (grownCap w (xs.length+ys.length) xs.length e-(xs.length+ys.length))).size=grownCap w (xs.length+ys.length) xs.length e*P.cellsOf e:=by simp only[Array.size_append,mN,size_zeroCells,Fg,hold.size,gT.size,<-oo,<-ew];congr 1;omega
  have jd:=h.bP (w':=w.drew.alloc (.cells (olds.toArray++news.toArray++Builtin.zeroCells z.cells (grownCap w (xs.length+ys.length) xs.length e-(xs.length+ys.length))) e)) d rfl rfl rfl rfl (xs++ys) hs jl E1 (by rw[hlen];exact Oq) cY
   (λi j x c hx hc=>by
     have:=vA (w:=w) (I:=I) (sz:=P.cellsOf e) (k:=xs.length) (xs:=xs) (ys:=ys) (cur:=olds.toArray) (news:=news) (λi j x c h1 h2=>by simpa using hold.rep i j x c h1 h2) (λx hx=>(iY x hx).1) rfl (by simp[hold.size]) gT.size gT.rep (λy hy=>(jk y hy).1) (Builtin.zeroCells z.cells (grownCap w (xs.length+ys.length) xs.length e-(xs.length+ys.length))).toList i j x c hx hc;rw[cV (by simp[hold.size])]at this;have e2:(olds.toArray.toList++news++(Builtin.zeroCells z.cells (grownCap w (xs.length+ys.length) xs.length e-(xs.length+ys.length))).toList).toArray=olds.toArray++news.toArray++Builtin.zeroCells z.cells (grownCap w (xs.length+ys.length) xs.length e-(xs.length+ys.length)):=by apply Array.ext';simp
     rw[e2]at this;exact this)
  refine⟨_,_,bF be d (some w.heap.size),by rw[e1];exact hr,?_⟩;rw[hlen]at jd;exact jd
end
def ic(P:Program)(s:St)(e:TypeId):br->Option (List AV)
 |.val (.sl ys)=>some ys|.val .emp=>some []
 |.full ys=>some ys|.val (.fl (.string b))=>if P.cellsOf e=1 then some (b.data.toList.map λx=>.fl (.int .u8 x.toNat))else none
 |.view d gg off len=>match s.b d with
  |some (.aT e' xs)=>if e'=e/\gg=s.g d then some ((xs.drop off).take len)else none|_=>none
 |.val (.view i sz len)=>match s.a i with
  |some (.aT e' xs)=>if e'=e/\sz=P.cellsOf e/\len<=xs.length then some (xs.take len)else none|_=>none
 |_=>none
section
variable{P:Program}{E:Env}{w0:World}{I0:Cells}{n:Nat}{o:Oper}{s:St}{K:St->Prop}{a:Act}{w:World}{I:Cells}{be:Nat->Option Nat}
theorem Mk{b:ByteArray}:Src P w I 1 (.string b) (b.data.toList.map λx=>.fl (.int .u8 x.toNat)) (b.data.toList.map λx=>.int .u8 x.toNat):=by
 refine⟨λw1=>by simp[Builtin.lenOf],λw1 hw m hm=>?_,by simp,by simp[Value.oneCell'],λi j y c h1 h2=>?_⟩
 ·have oF:m<=b.data.size:=by simpa using hm
  simp only[Builtin.firstCells,b9,yX];congr 1;apply Array.ext';simp[ByteArray.extract,ByteArray.copySlice]
 ·simp only[dd,ck]at h1;obtain⟨x,hx,rfl⟩:=h1;simp only[AV.cells]at h2;cases j with
  |succ j=>simp at h2|zero=>
   simp at h2;subst h2;have e:(b.data.toList.map λx=>Value.int .u8 x.toNat).getD (i*1+0) undef=.int .u8 x.toNat:=by rw[yX,mL,xf,dd,hx];rfl
   rw[e];exact .fl _ rfl
theorem yY(hR:aC P E w0 I0 n s a w I be)(h:bD P w I be s.b s.g v r)(hy:ic P s e r=some ys)(jk:gY P e ys):∃news,Src P w I (P.cellsOf e) v ys news:=by
 cases r with
 |val x=>
  cases x with
  |sl zs=>simp only[ic,ah]at hy;subst hy;exact CB h (λy hy=>(jk y hy).1)|emp=>
   simp only[ic,ah]at hy;subst hy;refine CB (ys:=[]) ?_ (λy hy=>by cases hy);cases(show cj w I v .emp from h)with
   |emp A=>
    cases A with
    |none=>exact .fJ 0|some a=>exact .sl a 0 0 0 [] (λ_ _=>undef) rfl (aP _) (eC _) (λi x h=>by simp at h) (λi j x c h=>by simp at h) (λi j x c h=>by simp at h) (λi j x c h=>by simp at h)
  |fl u=>
   cases u<;>simp only[ic,reduceCtorEq]at hy;split at hy
   ·rename_i hc;injection hy with hy;subst hy;have hb:=bR h;subst hb;rw[hc];exact⟨_,Mk⟩
   ·cases hy
  |view i sz len=>
   simp only[ic]at hy;cases ha:s.a i with
   |none=>simp[ha]at hy|some x=>
    cases x with
    |cells cs=>simp[ha]at hy|map es=>simp[ha]at hy
    |aT e' xs=>
     simp only[ha]at hy;split at hy
     ·rename_i hc;obtain⟨rfl,rfl,hlen⟩:=hc;injection hy with hy;subst hy;obtain⟨B,hB,hob⟩:=hR.aO.obj i _ ha;cases(show cj w I v (.view i (P.cellsOf e') len)from h)with
      |view _ _ _ B' cap e2 cur A cZ hw hs hl hA=>
       rw[hB]at cZ;injection cZ with cZ;subst cZ;obtain⟨q1,q2,q3,q4⟩:=hob;have q4':=q4;obtain⟨fE,eY,r1,r2,r3,r4,r5⟩:=q4;rw[hw]at r1;injection r1 with r1;injection r1 with r1 r1';subst r1 r1';have jn:eY=cap:=o9 q1 (r2.symm.trans hs);subst jn;have hb:fX P w I (λ_=>some B) (λ_=>some (.aT e2 xs)) (λ_=>0) 0 (.aT e2 xs):=⟨q1,q2,q3,q4'⟩
       have hv:bD P w I (λ_=>some B) (λ_=>some (.aT e2 xs)) (λ_=>0) (.slice A len eY) (.view 0 0 0 len):=⟨aP _,λ_=>⟨by omega,cur,eY,A,hw,hs,by simp,λhc=>by simpa using hA hc⟩⟩
       have:=CD hv rfl rfl hb;simpa using this
      |qv _ _ A cap yU=>
       have hr:cj w I (.slice A 0 cap) (.sl []):=by
        cases A with
        |none=>exact .fJ cap|some a=>exact .sl a 0 cap 0 [] (λ_ _=>undef) rfl (eC _) yU (λi x h=>by simp at h) (λi j x c h=>by simp at h) (λi j x c h=>by simp at h) (λi j x c h=>by simp at h)
       have:=CB (P:=P) (sz:=P.cellsOf e') hr (λy hy=>by simp at hy);simpa using this
     ·cases hy
  |_=>simp[ic]at hy
 |full zs=>simp only[ic,ah]at hy;subst hy;exact CB h.1 (λy hy=>(jk y hy).1)|view d gg off len=>
  simp only[ic]at hy;cases hb:s.b d with
  |none=>simp[hb]at hy|some bx=>
   cases bx with
   |cells cs=>simp[hb]at hy|aT e' xs=>
    simp only[hb]at hy;split at hy
    ·rename_i hc;obtain⟨rfl,hg⟩:=hc;injection hy with hy;subst hy;exact CD h hg hb (hR.boxes d _ hb)
    ·cases hy
 |none=>simp[ic]at hy|loc d gg sz i k=>simp[ic]at hy
 |fb rs=>simp[ic]at hy
def fL(P:Program)(u:TypeId):Bool:=
 match P.underlying u with
 |some (.slice _)|some .string=>true|_=>false
theorem xj(h:fL P u=true):∃du,P.underlying u=some du/\((∃q,du=.slice q)∨du=.string):=by
 unfold fL at h;split at h
 ·rename_i q hq;exact ⟨_,hq,.inl ⟨_,rfl⟩⟩
 ·rename_i hq;exact ⟨_,hq,.inr rfl⟩
 ·cases h
def xk(P:Program)(e:TypeId):Prop:=0<P.cellsOf e/\∃i z,P.info? e=some i/\i.zero=some z/\z.cells.size=i.size
theorem fU{b:Builtin}{args:Array Operand}{argTypes:Array TypeId}(ho:o.op=.call {callee:=.builtin b,args:=args,argTypes:=argTypes})(a:Act):
  ∃cs,execOp a.eval o=builtin b argTypes o.type cs (args.map a.eval):=by
 exact⟨_,by simp only[execOp,ho,resolve,invoke];rfl⟩
theorem lG{x:Operand}(ho:o.op=.call {callee:=.builtin .append,args:=#[x,y],argTypes:=#[t,u]})(ax:aJ n o=true)(hd:o.dst=some d)
  (ht:P.underlying t=some (.slice e)) (hu:fL P u=true) (he:xk P e) {d':Nat} (hx:s.ev x=.view d' gg 0 k) (hg:gg=s.g d') (hb:s.b d'=some (.aT e xs)) (hy:ic P s e (s.ev y)=some ys)
  (jk:gY P e ys) (yU:k+ys.length<=maxLen) (mM:(k+ys.length)*P.bytesOf e<=140737488355328) (hK:K (({s with b:=bF s.b d' none}:St).bP d e (xs.take k++ys))):Sound P E w0 I0 n o s K:=by
 rintro a w ⟨I,be,hR⟩ Qc;obtain⟨du,hu1,WU⟩:=xj hu;obtain⟨he1,i,z,hi,hz,Fg⟩:=he;have h1:=au ax (x:=x) (by simp[ho,Op.operands,Call.operands]) hR;have h2:=au ax (x:=y) (by simp[ho,Op.operands,Call.operands]) hR;rw[hx]at h1;obtain⟨news,gT⟩:=yY hR h2 hy jk;obtain⟨v',w',iK,cu,lr⟩:=hR.append (ty:=o.type) ht hu1 WU hi hz Fg d d' k h1 hg hb gT jk yU mM;refine eA (v:=v') (w':=w') ?_ ⟨_,⟨I,iK,by rw[hd];exact lr⟩,hK⟩;obtain⟨cs,jl⟩:=fU ho a;rw[jl];simp[builtin,cu]
theorem lH{x:Operand}(ho:o.op=.call {callee:=.builtin .append,args:=#[x,y],argTypes:=#[t,u]})(ax:aJ n o=true)(hd:o.dst=some d)
  (ht:P.underlying t=some (.slice e)) (hu:fL P u=true) (he:xk P e) (hx:s.ev x=.full xs) (iY:gY P e xs) (hy:ic P s e (s.ev y)=some ys)
  (jk:gY P e ys) (dA:xs=[]∨ys≠[]) (yU:xs.length+ys.length<=maxLen) (mM:(xs.length+ys.length)*P.bytesOf e<=140737488355328) (hK:K (s.bP d e (xs++ys))):Sound P E w0 I0 n o s K:=by
 rintro a w ⟨I,be,hR⟩ Qc;obtain⟨du,hu1,WU⟩:=xj hu;obtain⟨he1,i,z,hi,hz,Fg⟩:=he;have h1:=au ax (x:=x) (by simp[ho,Op.operands,Call.operands]) hR;have h2:=au ax (x:=y) (by simp[ho,Op.operands,Call.operands]) hR;rw[hx]at h1;obtain⟨news,gT⟩:=yY hR h2 hy jk;obtain⟨v',w',iK,cu,lr⟩:=hR.Mi (ty:=o.type) ht hu1 WU hi hz Fg d h1 he1 iY gT jk dA yU mM;refine eA (v:=v') (w':=w') ?_ ⟨_,⟨I,iK,by rw[hd];exact lr⟩,hK⟩;obtain⟨cs,jl⟩:=fU ho a;rw[jl];simp[builtin,cu]
def dV(s:St):br->Option Nat
 |.val (.sl xs)=>some xs.length|.full xs=>some xs.length
 |.val (.fl (.string b))=>some b.size|.view d gg _ len=>match s.b d with
  |some (.aT _ _)=>if gg=s.g d then some len else none|_=>none
 |_=>none
theorem uk{x:Operand}{t:TypeId}(ho:o.op=.call {callee:=.builtin .len,args:=#[x],argTypes:=#[t]})(ax:aJ n o=true)(ht:fL P t=true){m:Nat}(hx:dV s (s.ev x)=some m)
  (ga:match s.ev x with|.val (.fl _)=>P.underlying t=some .string|_=>∃e,P.underlying t=some (.slice e)):dm P E w0 I0 n o s (.val (.fl (.int .i64 m))):=by
 intro a w I be hR;have h1:=au ax (x:=x) (by simp[ho,Op.operands,Call.operands]) hR;refine⟨.int .i64 m,?_,.fl _ rfl⟩;obtain⟨cs,jl⟩:=fU ho a;rw[jl];have slice:∀(e:TypeId)(A:Option Addr)(c:Nat),P.underlying t=some (.slice e)->a.eval x=.slice A m c->(builtin .len #[t] o.type cs #[a.eval x]).run P w=.ok (.value (.int .i64 m)) w:=by intro e A c h2 h3;simp[builtin,Builtin.len_,dr h2,h3,goInt]
 simp only[List.map_toArray,eD,vB];generalize hr:s.ev x=r at*;cases r with
 |val y=>
  cases y with
  |sl xs=>
   simp only[dV,ah]at hx;subst hx;obtain⟨e,h2⟩:=ga;have Ml:cj w I (a.eval x) (.sl xs):=h1;generalize hv:a.eval x=v at*;cases Ml with
   |fJ c=>exact slice e none c h2 rfl|sl p n' cap sz xs cv hn gy iE dh hc hI Se=>subst hn;exact slice e _ _ h2 rfl
  |fl u=>
   cases u<;>simp only[dV,reduceCtorEq]at hx;injection hx with hx
   subst hx;have hb:=bR h1;simp[builtin,Builtin.len_,dr ga,hb,goInt]
  |_=>simp[dV]at hx
 |full xs=>simp only[dV,ah]at hx;subst hx;obtain⟨e,h2⟩:=ga;obtain⟨A,h3⟩:=h1.2;exact slice e A _ h2 h3|view d gg off len=>
  simp only[dV]at hx;obtain⟨e,h2⟩:=ga;cases hb:s.b d with
  |none=>simp[hb]at hx|some bx=>
   cases bx with
   |cells cs=>simp[hb]at hx|aT e' xs=>
    simp only[hb]at hx;split at hx
    ·rename_i hg;injection hx with hx;subst hx;obtain⟨_,hv⟩:=nj h1 hg hb;cases hB:be d with
     |none=>rw[hB]at hv;obtain ⟨A,hv⟩:=hv;exact slice e A _ h2 hv|some B=>rw[hB]at hv;obtain ⟨_,_,A,_,_,hv,_⟩:=hv;exact slice e A _ h2 hv
    ·cases hx
 |none=>simp[dV]at hx|loc d gg sz i k=>simp[dV]at hx
 |fb rs=>simp[dV]at hx
end
end Go.Ev
