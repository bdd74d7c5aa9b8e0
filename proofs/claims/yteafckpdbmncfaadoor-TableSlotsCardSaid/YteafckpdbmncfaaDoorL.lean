/- Layer 6: rows of a table; ranges; the slots of a variable. -/
import Derived.KernelRfl
import Derived.Test.YteafckpdbmncfaaDoorF
namespace Go.Proofs.YteafckpdbmncfaaDoor
open Go Go.Sk

def I64 (x : Int) : Prop := -9223372036854775808 ≤ x ∧ x ≤ 9223372036854775807
def U8 (x : Int) : Prop := 0 ≤ x ∧ x ≤ 255
theorem w64 {x : Int} (h1 : -9223372036854775808 ≤ x) (h2 : x ≤ 9223372036854775807) : IntKind.i64.wrap x = x := by
  rw [IntKind.wrap_i64]; omega
theorem wu64 {x : Int} (h1 : 0 ≤ x) (h2 : x < 18446744073709551616) : IntKind.u64.wrap x = x := by
  have : IntKind.u64.wrap x = x % 18446744073709551616 := rfl
  rw [this, Int.emod_eq_of_lt h1 h2]
theorem wsub {lo hi : Int} (h1 : I64 lo) (h2 : I64 hi) (h : lo ≤ hi) : IntKind.u64.wrap (IntKind.u64.wrap hi - IntKind.u64.wrap lo) = hi - lo := by
  unfold I64 at h1 h2
  have e : ∀ x, IntKind.u64.wrap x = x % 18446744073709551616 := fun _ => rfl
  simp only [e]
  omega
theorem letkE {α β : Sort _} (k : α) (f : α → β) : letk k f = f k := Eq.trans rfl rfl
theorem obind {α β : Type} (x : α) (f : α → Option β) : Option.bind (some x) f = f x := rfl
theorem bsome (c d : Bool) : (bif c then some d else some false) = some (c && d) := by cases c <;> rfl
theorem bsome_true (c d : Bool) : (bif c then some true else some d) = some (c || d) := by cases c <;> rfl
theorem gB {α : Type} {c : Bool} {o : Option α} (h : c = true) : guardB c o = o := by subst h; rfl
theorem idx_nat {α : Type} (l : List α) (n : Nat) : idx l (n : Int) = l[n]? := by simp [idx]
theorem idx_none {α : Type} {l : List α} {i : Int} (h : i < 0 ∨ (l.length : Int) ≤ i) : idx l i = none := by
  unfold idx
  rcases h with h | h
  · rw [decide_eq_false (by omega)]; rfl
  · cases hd : decide (0 ≤ i)
    · rfl
    · have h0 := of_decide_eq_true hd
      simp only [cond_true]
      exact List.getElem?_eq_none (by omega)
theorem idx_some {α : Type} {l : List α} {i : Int} (h0 : 0 ≤ i) (h1 : i < l.length) : ∃ x, idx l i = some x ∧ x ∈ l := by
  have : i.toNat < l.length := by omega
  refine ⟨l[i.toNat], ?_, List.getElem_mem this⟩
  unfold idx
  rw [decide_eq_true h0, cond_true, List.getElem?_eq_getElem this]
theorem idx_mem {α : Type} {l : List α} {i : Int} {x : α} (h : idx l i = some x) : x ∈ l := List.mem_of_getElem? (idx_get h)

structure GSub (s : Subt) : Prop where
  t : I64 s.t
  lo : I64 s.lo
  hi : I64 s.hi
structure GComp (c : CompRow) : Prop where
  sub : I64 c.sub
  def_ : I64 c.default_
  when : c.when.length ≤ 9223372036854775807 ∧ ∀ x ∈ c.when, I64 x
structure GTy (y : Ty) : Prop where
  kind : U8 y.kind
  lits : y.lits.length ≤ 9223372036854775807
  comps : y.comps.length ≤ 9223372036854775807
  comp : ∀ c ∈ y.comps, GComp c
  parent : I64 y.parent
  first : I64 y.first
  index : I64 y.index
  elem : I64 y.elem
  disc : I64 y.disc
  def_ : I64 y.default_
  target : I64 y.target
structure GTab (t : Table) : Prop where
  ty : ∀ y ∈ t.types, GTy y
  sub : ∀ s ∈ t.subs, GSub s
  tyl : t.types.length ≤ 9223372036854775807
  subl : t.subs.length ≤ 9223372036854775807
/-- A table that is cut. -/
structure Cut (t : Table) : Prop extends GTab t where
  tyn : t.types.length ≤ 40
  subn : t.subs.length ≤ 60
  comps : ∀ y ∈ t.types, y.comps.length ≤ 20
  lits : ∀ y ∈ t.types, y.lits.length ≤ 70

abbrev zTy : Ty := Ty.mk 0 ByteArray.empty 0 0 [] 0 0 0 ByteArray.empty false 0 [] 0 0 false 0 0 0
abbrev zSub : Subt := Subt.mk 0 0 0

/-- The row of a subtype. -/
def row (t : Table) (s : Int) : Option (Ty × Subt) := match idx t.subs s with
  | none => none
  | some b => match idx t.types b.t with
    | none => none
    | some y => some (y, b)
def kindM (t : Table) (s : Int) : Int := match row t s with | some p => p.1.kind | none => 0
def scal (t : Table) (s : Int) : Bool := decide (kindM t s = 2) || decide (kindM t s = 3)
def rangeM (t : Table) (s : Int) : Int × Int × Bool := match row t s with
  | some p => bif decide (p.1.kind = 2) || decide (p.1.kind = 3) then (p.2.lo, p.2.hi, true) else (0, 0, false)
  | none => (0, 0, false)

theorem row_idx {t : Table} {s : Int} {y : Ty} {b : Subt} (h : row t s = some (y, b)) : idx t.subs s = some b ∧ idx t.types b.t = some y := by
  unfold row at h
  split at h
  · cases h
  · rename_i b' hb
    split at h
    · cases h
    · rename_i y' hy
      simp only [Option.some.injEq, Prod.mk.injEq] at h
      obtain ⟨rfl, rfl⟩ := h
      exact ⟨hb, hy⟩
theorem row_good {t : Table} (g : GTab t) {s : Int} {y : Ty} {b : Subt} (h : row t s = some (y, b)) : GTy y ∧ GSub b := by
  obtain ⟨h1, h2⟩ := row_idx h
  exact ⟨g.ty _ (idx_mem h2), g.sub _ (idx_mem h1)⟩

theorem f52_eq (l : List Subt) (i : Int) : f52 l i = some (match idx l i with | some x => (x, true) | none => (zSub, false)) := by
  unfold f52
  by_cases h : i < 0 ∨ (l.length : Int) ≤ i
  · rw [idx_none h]
    have : (decide (i < 0) || decide (i ≥ (l.length : Int))) = true := by simpa using h
    rw [this, cond_true]
  · have h' : 0 ≤ i ∧ i < (l.length : Int) := by omega
    obtain ⟨x, hx, _⟩ := idx_some h'.1 h'.2
    have : (decide (i < 0) || decide (i ≥ (l.length : Int))) = false := by simp; omega
    rw [this, hx, cond_false, obind]
theorem f49_eq (l : List Ty) (i : Int) : f49 l i = some (match idx l i with | some x => (x, true) | none => (zTy, false)) := by
  unfold f49
  by_cases h : i < 0 ∨ (l.length : Int) ≤ i
  · rw [idx_none h]
    have : (decide (i < 0) || decide (i ≥ (l.length : Int))) = true := by simpa using h
    rw [this, cond_true]
  · have h' : 0 ≤ i ∧ i < (l.length : Int) := by omega
    obtain ⟨x, hx, _⟩ := idx_some h'.1 h'.2
    have : (decide (i < 0) || decide (i ≥ (l.length : Int))) = false := by simp; omega
    rw [this, hx, cond_false, obind]

/-- The program's row. -/
theorem f40_row {t : Table} {s : Int} {y : Ty} {b : Subt} (h : row t s = some (y, b)) : f40 ⟨t⟩ s = some (y, b, true) := by
  obtain ⟨h1, h2⟩ := row_idx h
  simp [f40, f52_eq, f49_eq, h1, h2]
theorem f40_none {t : Table} {s : Int} (h : row t s = none) : ∃ b, f40 ⟨t⟩ s = some (zTy, b, false) := by
  unfold row at h
  split at h
  · rename_i h1
    exact ⟨zSub, by simp [f40, f52_eq, h1]⟩
  · rename_i b h1
    split at h
    · rename_i h2
      exact ⟨b, by simp [f40, f52_eq, f49_eq, h1, h2]⟩
    · cases h

theorem f43_eq (t : Table) (s : Int) : f43 ⟨t⟩ s = some (rangeM t s) := by
  unfold f43 rangeM
  cases h : row t s with
  | none => obtain ⟨b, e⟩ := f40_none h; simp [e]
  | some p =>
    obtain ⟨y, b⟩ := p
    rw [f40_row h]
    simp only [obind]
    cases decide (y.kind = 2) <;> cases decide (y.kind = 3) <;> rfl

theorem f51_eq (i n : Int) : f51 i n = (decide (0 ≤ i) && decide (i < n)) := rfl
theorem idx_is {α : Type} (l : List α) (i : Int) : f51 i (l.length : Int) = (idx l i).isSome := by
  rw [f51_eq]
  by_cases h : i < 0 ∨ (l.length : Int) ≤ i
  · rw [idx_none h]; simp; omega
  · have h' : 0 ≤ i ∧ i < (l.length : Int) := by omega
    obtain ⟨x, hx, _⟩ := idx_some h'.1 h'.2
    rw [hx]; simp; omega

theorem f44_eq (t : Table) (s : Int) : f44 t s = some (kindM t s) := by
  unfold f44 kindM row
  rw [idx_is]
  cases h1 : idx t.subs s with
  | none => simp
  | some b =>
    simp only [Option.isSome_some, Bool.not_true, cond_false, obind, idx_is]
    cases h2 : idx t.types b.t with
    | none => simp
    | some y => simp
theorem f64_eq (t : Table) (s : Int) : f64 ⟨t⟩ s = some (kindM t s) := by
  unfold f64 kindM
  cases h : row t s with
  | none => obtain ⟨b, e⟩ := f40_none h; simp [e]
  | some p => obtain ⟨y, b⟩ := p; rw [f40_row h]; simp
theorem f56_eq (t : Table) (s : Int) : f56 t s = some (scal t s) := by
  unfold f56 scal
  rw [f44_eq]
  simp only [obind]
  cases decide (kindM t s = 2) <;> simp
theorem f26_eq (t : Table) (s : Int) : f26 t s = some (rangeM t s) := by
  unfold f26 rangeM
  rw [f56_eq, obind]
  unfold scal kindM
  cases h : row t s with
  | none => simp
  | some p =>
    obtain ⟨y, b⟩ := p
    obtain ⟨h1, h2⟩ := row_idx h
    simp only [h1, obind]
    cases (decide (y.kind = 2) || decide (y.kind = 3)) <;> rfl
theorem range_good {t : Table} (g : GTab t) (s : Int) : I64 (rangeM t s).1 ∧ I64 (rangeM t s).2.1 := by
  have z : I64 0 := by unfold I64; omega
  unfold rangeM
  cases h : row t s with
  | none => exact ⟨z, z⟩
  | some p =>
    obtain ⟨y, b⟩ := p
    have := (row_good g h).2
    show I64 (bif decide (y.kind = 2) || decide (y.kind = 3) then (b.lo, b.hi, true) else (0, 0, false)).1 ∧ I64 (bif decide (y.kind = 2) || decide (y.kind = 3) then (b.lo, b.hi, true) else (0, 0, false)).2.1
    cases (decide (y.kind = 2) || decide (y.kind = 3))
    · exact ⟨z, z⟩
    · exact ⟨this.lo, this.hi⟩

/-- How many values, if these are from 1 to most. -/
def countM (t : Table) (s : Int) (most : Int) : Int :=
  let r := rangeM t s
  if r.2.2 = true ∧ r.1 ≤ r.2.1 ∧ r.2.1 - r.1 < most then r.2.1 - r.1 + 1 else 0
theorem countM_bd (t : Table) (s most : Int) : 0 ≤ countM t s most ∧ (0 ≤ most → countM t s most ≤ most) := by
  unfold countM
  simp only
  split <;> omega
theorem f41_eq {t : Table} (g : GTab t) (s : Int) {most : Int} (h0 : 0 ≤ most) (h1 : most ≤ 100) : f41 ⟨t⟩ s most = some (countM t s most) := by
  obtain ⟨g1, g2⟩ := range_good g s
  unfold f41 countM
  rw [f43_eq]
  simp only [obind]
  generalize rangeM t s = r at *
  obtain ⟨lo, hi, ok⟩ := r
  simp only at *
  cases ok with
  | false => simp
  | true =>
    by_cases hlh : lo ≤ hi
    · rw [wsub g1 g2 hlh, wu64 h0 (by omega)]
      by_cases hm : hi - lo < most
      · unfold I64 at g1 g2
        rw [w64 (x := hi - lo) (by omega) (by omega), w64 (x := hi - lo + 1) (by omega) (by omega)]
        have e : ((!true || decide (lo > hi)) || decide (hi - lo ≥ most)) = false := by simp; omega
        rw [e, cond_false, if_pos ⟨rfl, hlh, hm⟩]
      · have e : ((!true || decide (lo > hi)) || decide (hi - lo ≥ most)) = true := by simp; omega
        rw [e, cond_true, if_neg (by omega)]
    · have e : (!true || decide (lo > hi)) = true := by simp; omega
      rw [e, Bool.true_or, cond_true, if_neg (by omega)]
theorem f78_eq {t : Table} (g : GTab t) (s : Int) {most : Int} (h0 : 0 ≤ most) (h1 : most ≤ 100) : f78 t s most = some (decide (0 < countM t s most)) := by
  obtain ⟨g1, g2⟩ := range_good g s
  unfold f78 countM
  rw [f26_eq]
  simp only [obind]
  generalize rangeM t s = r at *
  obtain ⟨lo, hi, ok⟩ := r
  simp only at *
  cases ok with
  | false => simp
  | true =>
    by_cases hlh : lo ≤ hi
    · rw [wsub g1 g2 hlh, wu64 h0 (by omega)]
      by_cases hm : hi - lo < most
      · rw [if_pos ⟨rfl, hlh, hm⟩]
        simp [hlh, hm]; omega
      · rw [if_neg (by omega)]
        simp [hm]
    · rw [if_neg (by omega)]
      simp [hlh]

def hasM (t : Table) (s v : Int) : Bool := (rangeM t s).2.2 && decide ((rangeM t s).1 ≤ v) && decide (v ≤ (rangeM t s).2.1)
theorem f42_eq (t : Table) (s v : Int) : f42 ⟨t⟩ s v = some (hasM t s v) := by
  simp only [f42, f43_eq, obind, hasM]
theorem f45_eq (t : Table) (s v : Int) : f45 t s v = some (hasM t s v) := by
  simp only [f45, f26_eq, obind, hasM]
end Go.Proofs.YteafckpdbmncfaaDoor
