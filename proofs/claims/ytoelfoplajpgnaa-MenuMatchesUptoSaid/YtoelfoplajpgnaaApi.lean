import Derived.Test.YtoelfoplajpgnaaEvRun
set_option linter.unusedVariables false
set_option linter.unusedSimpArgs false
set_option linter.unusedSectionVars false

namespace Go.Proofs
open Go Go.Ev

/-! ### The program's data, as Lean's own -/

abbrev Str := List UInt8
def strAV (s : Str) : AV := .fl (bs s)
def byteAV (n : Int) : AV := .fl (.int .u8 n)
def intAV (n : Int) : AV := .fl (.int .i64 n)
def boolAV (b : Bool) : AV := .fl (.bool b)

theorem byteAVs_map (l : Str) : byteAVs l = List.map byteAV (List.map (fun c => (c.toNat : Int)) l) := by simp [byteAVs, byteAV]

structure Prp where
  name : Str
  value : Str
  deriving DecidableEq, Inhabited
structure Rf where
  role : Str
  target : Int
  deriving DecidableEq, Inhabited
structure Nd where
  id : Int
  concept : Str
  parent : Int
  role : Str
  props : List Prp
  kids : List Int
  refs : List Rf
  deriving DecidableEq, Inhabited
structure Mdl where
  next : Int
  nodes : List Nd
  deriving DecidableEq, Inhabited
structure Itm where
  concept : Str
  target : Int
  deriving DecidableEq, Inhabited

def Prp.av (x : Prp) : AV := .agg [.fl (bs x.name), .fl (bs x.value)]
def Rf.av (x : Rf) : AV := .agg [.fl (bs x.role), .fl (.int .i64 x.target)]
def Nd.av (x : Nd) : AV := .agg [.fl (.int .i64 x.id), .fl (bs x.concept), .fl (.int .i64 x.parent), .fl (bs x.role), .sl (x.props.map Prp.av), .sl (x.kids.map intAV), .sl (x.refs.map Rf.av)]
def Mdl.av (x : Mdl) : AV := .agg [.fl (.int .i64 x.next), .sl (x.nodes.map Nd.av)]
def Itm.av (x : Itm) : AV := .agg [.fl (bs x.concept), .fl (.int .i64 x.target)]

theorem Prp.av_cells (x : Prp) : x.av.cells = [.fl (bs x.name), .fl (bs x.value)] := rfl
theorem Rf.av_cells (x : Rf) : x.av.cells = [.fl (bs x.role), .fl (.int .i64 x.target)] := rfl
theorem Nd.av_cells (x : Nd) : x.av.cells = [.fl (.int .i64 x.id), .fl (bs x.concept), .fl (.int .i64 x.parent), .fl (bs x.role), .sl (x.props.map Prp.av), .sl (x.kids.map intAV), .sl (x.refs.map Rf.av)] := rfl
theorem Mdl.av_cells (x : Mdl) : x.av.cells = [.fl (.int .i64 x.next), .sl (x.nodes.map Nd.av)] := rfl
theorem Itm.av_cells (x : Itm) : x.av.cells = [.fl (bs x.concept), .fl (.int .i64 x.target)] := rfl
theorem intAV_cells (n : Int) : (intAV n).cells = [.fl (.int .i64 n)] := rfl

/-- does a text begin with another one? -/
def prefixF (s p : Str) : Bool := decide (p.length ≤ s.length) && (s.take p.length == p)
def letterF (c : Int) : Bool := decide (c ≥ 65) && decide (c ≤ 90) || decide (c ≥ 97) && decide (c ≤ 122)
/-- a text without '?' at its head -/
def trimF (s p : Str) : Str := if prefixF s p then s.drop p.length else s
def indexF (l : List Int) (x : Int) : Int := match l.findIdx? (· == x) with
  | some i => i
  | none => -1

def okCh (c : Int) : Bool := letterF c || (decide (48 ≤ c) && decide (c ≤ 57)) || decide (c = 95)
def wordBody (s : Str) : Bool := decide (s.length ≤ 32) && (match s with
  | [] => false
  | c :: _ => letterF c.toNat) && s.all fun c => okCh c.toNat
def wordF (s : Str) : Bool := wordBody (trimF s [63])

theorem letter_ok {c : Int} (h : letterF c = true) : okCh c = true := by simp [okCh, h]
theorem trim63 (s : Str) : trimF s [63] = match s with
  | 63 :: r => r
  | _ => s := by
  unfold trimF prefixF
  cases s with
  | nil => rfl
  | cons c r =>
    by_cases h : c = 63
    · subst h; simp
    · simp [h]

end Go.Proofs
