/- Layer 6: rows of a table; ranges; the slots of a variable. -/
import Derived.KernelRfl
import Derived.Test.YteafckpdbmncfaaDoorF
namespace Go.Proofs.YteafckpdbmncfaaDoor
open Go Go.Sk

def I64 (x : Int) : Prop := -9223372036854775808 ≤ x ∧ x ≤ 9223372036854775807
def U8 (x : Int) : Prop := 0 ≤ x ∧ x ≤ 255
structure GSub (s : Subt) : Prop where
  t : I64 s.t
  lo : I64 s.lo
  hi : I64 s.hi
structure GComp (c : CompRow) : Prop where
  sub : I64 c.sub
  def_ : I64 c.default_
  when : c.when.length ≤ 9223372036854775807 ∧ ∀ x ∈ c.when, I64 x
structure GTy (y : Ty) : Prop where
  kind : U8 y.kind
  lits : y.lits.length ≤ 9223372036854775807
  comps : y.comps.length ≤ 9223372036854775807
  comp : ∀ c ∈ y.comps, GComp c
  parent : I64 y.parent
  first : I64 y.first
  index : I64 y.index
  elem : I64 y.elem
  disc : I64 y.disc
  def_ : I64 y.default_
  target : I64 y.target
structure GTab (t : Table) : Prop where
  ty : ∀ y ∈ t.types, GTy y
  sub : ∀ s ∈ t.subs, GSub s
  tyl : t.types.length ≤ 9223372036854775807
  subl : t.subs.length ≤ 9223372036854775807
/-- A table that is cut. -/
structure Cut (t : Table) : Prop extends GTab t where
  tyn : t.types.length ≤ 40
  subn : t.subs.length ≤ 60
  comps : ∀ y ∈ t.types, y.comps.length ≤ 20
  lits : ∀ y ∈ t.types, y.lits.length ≤ 70

abbrev zTy : Ty := Ty.mk 0 ByteArray.empty 0 0 [] 0 0 0 ByteArray.empty false 0 [] 0 0 false 0 0 0
abbrev zSub : Subt := Subt.mk 0 0 0

/-- The row of a subtype. -/
def row (t : Table) (s : Int) : Option (Ty × Subt) := match idx t.subs s with
  | none => none
  | some b => match idx t.types b.t with
    | none => none
    | some y => some (y, b)
def kindM (t : Table) (s : Int) : Int := match row t s with | some p => p.1.kind | none => 0
def scal (t : Table) (s : Int) : Bool := decide (kindM t s = 2) || decide (kindM t s = 3)
def rangeM (t : Table) (s : Int) : Int × Int × Bool := match row t s with
  | some p => bif decide (p.1.kind = 2) || decide (p.1.kind = 3) then (p.2.lo, p.2.hi, true) else (0, 0, false)
  | none => (0, 0, false)

/-- How many values, if these are from 1 to most. -/
def countM (t : Table) (s : Int) (most : Int) : Int :=
  let r := rangeM t s
  if r.2.2 = true ∧ r.1 ≤ r.2.1 ∧ r.2.1 - r.1 < most then r.2.1 - r.1 + 1 else 0
def hasM (t : Table) (s v : Int) : Bool := (rangeM t s).2.2 && decide ((rangeM t s).1 ≤ v) && decide (v ≤ (rangeM t s).2.1)
end Go.Proofs.YteafckpdbmncfaaDoor
