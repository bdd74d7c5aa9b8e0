/- Layer 19: the fields of an expression; soundness by the program and by the reference. -/
import Derived.KernelRfl
import Derived.Test.YtjjgmpmhfodmeaaF
namespace Go.Proofs.Ytjjgmpmhfodmeaa
open Go Go.Sk

def I64 (x : Int) : Prop := -9223372036854775808 ≤ x ∧ x ≤ 9223372036854775807
def U8 (x : Int) : Prop := 0 ≤ x ∧ x ≤ 255

theorem w64 {x : Int} (h : I64 x) : IntKind.i64.wrap x = x := by
  unfold I64 at h; rw [IntKind.wrap_i64]; omega
theorem w64' {x : Int} (h1 : -9223372036854775808 ≤ x) (h2 : x ≤ 9223372036854775807) : IntKind.i64.wrap x = x := w64 ⟨h1, h2⟩
theorem wu64 {x : Int} (h1 : 0 ≤ x) (h2 : x < 18446744073709551616) : IntKind.u64.wrap x = x := by
  have : IntKind.u64.wrap x = x % 18446744073709551616 := rfl
  rw [this, Int.emod_eq_of_lt h1 h2]

inductive GE : CE → Prop
  | mk {kind op n o off len lo hi : Int} {l : List CE} : U8 kind → U8 op → I64 n → I64 o → I64 off → I64 len → I64 lo → I64 hi → (∀ x ∈ l, GE x) → l.length ≤ 9223372036854775807 → GE ⟨kind, op, n, o, off, len, lo, hi, l⟩

theorem bsome (c d : Bool) : (bif c then some d else some false) = some (c && d) := by cases c <;> rfl
theorem bsome_true (c d : Bool) : (bif c then some true else some d) = some (c || d) := by cases c <;> rfl
theorem obind {α β : Type} (x : α) (f : α → Option β) : Option.bind (some x) f = f x := rfl
theorem f62_eq (op : Int) : f62 [16, 17, 18] op = some (decide (op = 16) || decide (op = 17) || decide (op = 18)) := by
  by_cases h1 : op = 16
  · subst h1; rfl
  · by_cases h2 : op = 17
    · subst h2; rfl
    · by_cases h3 : op = 18
      · subst h3; rfl
      · have e : f87 [16, 17, 18] op = some (-1) := by
          have w1 : IntKind.i64.wrap 1 = 1 := rfl
          have w2 : IntKind.i64.wrap 2 = 2 := rfl
          have w3 : IntKind.i64.wrap 3 = 3 := rfl
          simp [f87, f87_l1, letk, idx, h1, h2, h3, w1, w2, w3]
        simp [f62, e, h1, h2, h3]

theorem f41_eq {e : CE} (he : GE e) {lets : Int} : f41 e lets = some (f65 e lets) := by
  obtain ⟨hk, hop, hn, ho, hoff, hlen, hlo, hhi, hl, hll⟩ := he
  rename_i kind op n o off len lo hi l
  unfold U8 at hk
  unfold I64 at hn ho hoff hlen hlo hhi
  have w1 : 0 ≤ off → off < 16384 → IntKind.i64.wrap (16384 - off) = 16384 - off := fun h1 h2 => w64' (by omega) (by omega)
  have w2 : 0 ≤ off → off < 16384 → len ≤ 16384 → 1 ≤ len → IntKind.i64.wrap (off + len) = off + len := fun h1 h2 h3 h4 => w64' (by omega) (by omega)
  have w3 : 0 ≤ off → off < 16384 → IntKind.i64.wrap (off + 1) = off + 1 := fun h1 h2 => w64' (by omega) (by omega)
  have hcases : kind = 0 ∨ kind = 1 ∨ kind = 2 ∨ kind = 3 ∨ kind = 4 ∨ kind = 5 ∨ kind = 6 ∨ kind = 7 ∨ kind = 8 ∨ kind = 9 ∨ kind = 10 ∨ kind = 11 ∨ kind = 12 ∨ kind = 13 ∨ kind = 14 ∨ 15 ≤ kind := by omega
  have h0 : f64 0 = some (-1) := rfl
  have h1 : f64 1 = some 0 := rfl
  have h2 : f64 2 = some 0 := rfl
  have h3 : f64 3 = some 1 := rfl
  have h4 : f64 4 = some 1 := rfl
  have h5 : f64 5 = some 2 := rfl
  have h6 : f64 6 = some 2 := rfl
  have h7 : f64 7 = some 2 := rfl
  have h8 : f64 8 = some 3 := rfl
  have h9 : f64 9 = some 1 := rfl
  have h10 : f64 10 = some 2 := rfl
  have h11 : f64 11 = some 0 := rfl
  have h12 : f64 12 = some 0 := rfl
  have h13 : f64 13 = some 1 := rfl
  have h14 : f64 14 = some 0 := rfl
  rcases hcases with rfl | rfl | rfl | rfl | rfl | rfl | rfl | rfl | rfl | rfl | rfl | rfl | rfl | rfl | rfl | h15
  case inr.inr.inr.inr.inr.inr.inr.inr.inr.inr.inr.inr.inr.inr.inr =>
    have hw : IntKind.i64.wrap kind = kind := w64' (by omega) (by omega)
    have e : f64 kind = some (-1) := by simp [f64, hw, h15]
    have ne : ∀ k : Int, k < 15 → decide (kind = k) = false := fun k hk => decide_eq_false (by omega)
    simp only [f41, f65, letk, e, ne 1 (by decide), ne 2 (by decide), ne 3 (by decide), ne 4 (by decide), ne 5 (by decide), ne 6 (by decide), ne 7 (by decide), ne 8 (by decide), ne 9 (by decide), ne 10 (by decide), ne 11 (by decide), ne 12 (by decide), ne 13 (by decide), ne 14 (by decide), cond_false, cond_true, obind]
    congr 1
  all_goals
    simp only [f41, f65, letk, f61, f63, f81, f83, f88, f43, f44, f45, f46, f62_eq, h0, h1, h2, h3, h4, h5, h6, h7, h8, h9, h10, h11, h12, h13, h14, Int.reduceEq, decide_true, decide_false, cond_true, cond_false, obind, bsome, Option.some.injEq]
    rw [Bool.eq_iff_iff]
    simp only [Bool.and_eq_true, Bool.or_eq_true, decide_eq_true_eq, Bool.false_eq_true, iff_false, true_and, and_true, true_or, false_or]
    omega

/-! ### Soundness: the depth-first walk with a number of expressions left -/
mutual
/-- What is left behind a sound expression; none: it is not sound. -/
def snd (e : CE) (lets depth left : Int) : Option Int :=
  match e with
  | .mk kind op n o off len lo hi l =>
    if depth > 64 ∨ left ≤ 0 ∨ f65 (.mk kind op n o off len lo hi l) lets = false then none else sndL kind l 0 lets depth (left - 1)
def sndL (kind : Int) (l : List CE) (i : Int) (lets depth left : Int) : Option Int :=
  match l with
  | [] => some left
  | x :: r => match snd x (if kind = 10 ∧ i = 1 then lets + 1 else lets) (depth + 1) left with
    | none => none
    | some left' => sndL kind r (i + 1) lets depth left'
end

theorem snd_nonneg : ∀ (n : Nat), (∀ (e : CE) (lets depth left : Int) r, SizeOf.sizeOf e ≤ n → snd e lets depth left = some r → 0 ≤ r ∧ r < left) ∧ (∀ (kind : Int) (l : List CE) (i lets depth left : Int) r, SizeOf.sizeOf l ≤ n → 0 ≤ left → sndL kind l i lets depth left = some r → 0 ≤ r ∧ r ≤ left)
  | 0 => by
    constructor
    · intro e lets depth left r h; cases e; simp at h
    · intro kind l i lets depth left r h; cases l <;> simp at h
  | n + 1 => by
    obtain ⟨ih1, ih2⟩ := snd_nonneg n
    constructor
    · intro e lets depth left r hs h
      cases e with
      | mk kind op n' o off len lo hi l =>
        simp only [snd] at h
        split at h
        · cases h
        · rename_i hc
          simp only [not_or] at hc
          have := ih2 kind l 0 lets depth (left - 1) r (by simp at hs; omega) (by omega) h
          omega
    · intro kind l i lets depth left r hs h0 h
      cases l with
      | nil => simp only [sndL, Option.some.injEq] at h; omega
      | cons x r' =>
        simp only [sndL] at h
        split at h
        · cases h
        · rename_i left' hx
          have h1 := ih1 x _ _ _ _ (by simp at hs; omega) hx
          have h2 := ih2 kind r' (i + 1) lets depth left' r (by simp at hs; omega) (by omega) h
          omega

theorem GE.f41 {e : CE} (he : GE e) (lets : Int) : f41 e lets = some (f65 e lets) := f41_eq he

theorem idx_drop {α : Type} {l : List α} {i : Nat} {x : α} {r : List α} (h : l.drop i = x :: r) : idx l (i : Int) = some x := by
  have h1 : l[i]? = some x := by
    have := List.getElem?_drop (xs := l) (i := i) (j := 0)
    rw [h] at this
    simpa using this.symm
  simp [idx, h1]
theorem drop_succ {α : Type} {l : List α} {i : Nat} {x : α} {r : List α} (h : l.drop i = x :: r) : l.drop (i + 1) = r := by
  rw [← List.drop_drop, h]; rfl
theorem drop_lt {α : Type} {l : List α} {i : Nat} {x : α} {r : List α} (h : l.drop i = x :: r) : i < l.length := by
  rcases Nat.lt_or_ge i l.length with h' | h'
  · exact h'
  · rw [List.drop_of_length_le h'] at h; cases h
theorem drop_end {α : Type} {l : List α} {i : Nat} (h : l.drop i = []) : l.length ≤ i := by simpa using h

/-- The outcome of a walk by the program. -/
def Out (o : Option (Bool × Int)) (s : Option Int) : Prop := ∃ z, o = some z ∧ z.1 = s.isSome ∧ ∀ r, s = some r → z.2 = r

theorem f40_loop {may : Int → CE → Int → Int → Option (Bool × Int)} {e : CE} {lets depth : Int} {k : Int → Option (Bool × Int)} (hk : ∀ c, k c = some (true, c)) (hl0 : 0 ≤ lets) (hl1 : lets ≤ 9223372036854775807 + depth) (hd0 : 1 ≤ depth) (hd : depth ≤ 64) (hlen : e.l.length ≤ 9223372036854775807)
    (hmay : ∀ x ∈ e.l, ∀ lets' left, 0 ≤ lets' → lets' ≤ 9223372036854775807 + (depth + 1) → 0 ≤ left → left ≤ 256 → Out (may left x lets' (depth + 1)) (snd x lets' (depth + 1) left)) :
    ∀ (r : List CE) (i : Nat) (left : Int), e.l.drop i = r → 0 ≤ left → left ≤ 256 → Out (f40s_l1 may e lets depth k (r.length + 1) (i : Int) left) (sndL e.kind r i lets depth left) := by
  intro r
  induction r with
  | nil =>
    intro i left hr h0 h1
    have := drop_end hr
    have hc : decide ((i : Int) < (List.length e.l : Int)) = false := decide_eq_false (by omega)
    rw [List.length_nil, Nat.zero_add, f40s_l1, hc, cond_false, hk]
    exact ⟨_, rfl, by simp [sndL], fun r h => by simpa [sndL] using h⟩
  | cons x r ih =>
    intro i left hr h0 h1
    have hlt := drop_lt hr
    have hc : decide ((i : Int) < (List.length e.l : Int)) = true := decide_eq_true (by omega)
    have hx : x ∈ e.l := List.mem_of_mem_drop (by rw [hr]; simp)
    have hw : IntKind.i64.wrap (depth + 1) = depth + 1 := w64' (by omega) (by omega)
    have hwi : IntKind.i64.wrap ((i : Int) + 1) = ((i + 1 : Nat) : Int) := by rw [w64' (by omega) (by omega)]; omega
    have hwl : IntKind.u64.wrap (lets + 1) = lets + 1 := wu64 (by omega) (by omega)
    have key : ∀ lets', 0 ≤ lets' → lets' ≤ 9223372036854775807 + (depth + 1) → lets' = (if e.kind = 10 ∧ (i : Int) = 1 then lets + 1 else lets) →
        Out (Option.bind (may left x lets' (IntKind.i64.wrap (depth + 1))) fun r69 => (bif (!r69.1) then some (false, r69.2) else (f40s_l1 may e lets depth k (r.length + 1) (IntKind.i64.wrap ((i : Int) + 1)) r69.2))) (sndL e.kind (x :: r) i lets depth left) := by
      intro lets' g0 g1 g2
      rw [hw, hwi]
      obtain ⟨z, z1, z2, z3⟩ := hmay x hx lets' left g0 g1 h0 h1
      rw [z1, obind, sndL, ← g2]
      cases hs : snd x lets' (depth + 1) left with
      | none =>
        rw [hs] at z2
        rw [z2]
        exact ⟨_, rfl, rfl, fun r h => by cases h⟩
      | some left' =>
        rw [hs] at z2
        have hz := z3 left' hs
        have hb := (snd_nonneg _).1 x _ _ _ _ (Nat.le_refl _) hs
        rw [z2, hz]
        have := ih (i + 1) left' (drop_succ hr) hb.1 (by omega)
        simpa using this
    rw [List.length_cons, f40s_l1, hc, cond_true, idx_drop hr, obind]
    simp only [letk]
    by_cases h10 : e.kind = 10 ∧ (i : Int) = 1
    · have : (decide (e.kind = 10) && decide ((i : Int) = 1)) = true := by simp [h10.1, h10.2]
      rw [this, cond_true, hwl]
      exact key _ (by omega) (by omega) (by rw [if_pos h10])
    · have : (decide (e.kind = 10) && decide ((i : Int) = 1)) = false := by
        rw [Bool.eq_false_iff]; intro h; apply h10; simpa using h
      rw [this, cond_false]
      exact key _ hl0 (by omega) (by rw [if_neg h10])

/-- The program's walk. -/
theorem GE.len {e : CE} (h : GE e) : e.l.length ≤ 9223372036854775807 := by cases h; assumption
theorem GE.sub {e : CE} (h : GE e) : ∀ x ∈ e.l, GE x := by cases h; assumption

theorem f40_eq : ∀ (n : Nat) (e : CE) (lets depth left : Int), GE e → 0 ≤ lets → lets ≤ 9223372036854775807 + depth → 1 ≤ depth → depth ≤ 65 → 66 - depth ≤ n → 0 ≤ left → left ≤ 256 →
    Out (f40 n left e lets depth) (snd e lets depth left)
  | 0, e, lets, depth, left, he, hl0, hl1, hd, hd', hn, h0, h256 => by omega
  | n + 1, e, lets, depth, left, he, hl0, hl1, hd, hd', hn, h0, h256 => by
    have hw : IntKind.i64.wrap (left - 1) = left - 1 := w64' (by omega) (by omega)
    have hf := f41_eq he (lets := lets)
    show Out (f40s (f40 n) left e lets depth) _
    unfold f40s
    simp only [hf, hw, obind, bsome_true, letk]
    cases e with
    | mk kind op n' o off len lo hi l =>
    simp only [snd]
    by_cases hc : depth > 64 ∨ left ≤ 0 ∨ f65 ⟨kind, op, n', o, off, len, lo, hi, l⟩ lets = false
    · rw [if_pos hc]
      have : (decide (left - 1 < 0) || decide (depth > 64) || !f65 ⟨kind, op, n', o, off, len, lo, hi, l⟩ lets) = true := by
        rcases hc with h | h | h
        · simp [h]
        · simp [show left - 1 < 0 by omega]
        · simp [h]
      rw [this, cond_true]
      exact ⟨_, rfl, rfl, fun r h => by cases h⟩
    · rw [if_neg hc]
      simp only [not_or] at hc
      have : (decide (left - 1 < 0) || decide (depth > 64) || !f65 ⟨kind, op, n', o, off, len, lo, hi, l⟩ lets) = false := by
        have h3 : f65 ⟨kind, op, n', o, off, len, lo, hi, l⟩ lets = true := by cases hb : f65 ⟨kind, op, n', o, off, len, lo, hi, l⟩ lets <;> simp_all
        simp only [h3, Bool.not_true, Bool.or_false, Bool.or_eq_false_iff, decide_eq_false_iff_not]
        omega
      rw [this, cond_false]
      have hge : ∀ x ∈ l, GE x := he.sub
      have := f40_loop (may := f40 n) (e := ⟨kind, op, n', o, off, len, lo, hi, l⟩) (lets := lets) (depth := depth) (k := fun c => some (true, c)) (fun _ => rfl) hl0 hl1 hd (by omega) he.len
        (fun x hx lets' left' g0 g1 g2 g3 => f40_eq n x lets' (depth + 1) left' (hge x hx) g0 g1 (by omega) (by omega) (by omega) g2 g3) l 0 (left - 1) rfl (by omega) (by omega)
      simpa using this

/-! ### .. and by the reference -/
def rv : Option Int → Int
  | none => -1
  | some r => r

theorem f42_loop {rec : CE → Int → Int → Int → Option Int} {e : CE} {lets depth : Int} {k : Int → Option Int} (hk : ∀ c, k c = some c) (hl0 : 0 ≤ lets) (hl1 : lets ≤ 9223372036854775807 + depth) (hd0 : 1 ≤ depth) (hd : depth ≤ 64) (hlen : e.l.length ≤ 9223372036854775807)
    (hrec : ∀ x ∈ e.l, ∀ lets' left, 0 ≤ lets' → lets' ≤ 9223372036854775807 + (depth + 1) → 0 ≤ left → left ≤ 256 → rec x lets' (depth + 1) left = some (rv (snd x lets' (depth + 1) left))) :
    ∀ (r : List CE) (i : Nat) (left : Int) (fuel : Nat), r.length + 1 ≤ fuel → e.l.drop i = r → 0 ≤ left → left ≤ 256 → f42s_l1 rec e lets depth k fuel left (i : Int) = some (rv (sndL e.kind r i lets depth left)) := by
  intro r
  induction r with
  | nil =>
    intro i left fuel hf hr h0 h1
    obtain ⟨fuel, rfl⟩ : ∃ f', fuel = f' + 1 := ⟨fuel - 1, by omega⟩
    have := drop_end hr
    have hc : (decide ((i : Int) < (List.length e.l : Int)) && decide (left ≥ 0)) = false := by rw [decide_eq_false (by omega)]; rfl
    rw [f42s_l1, hc, cond_false, hk]
    simp [sndL, rv]
  | cons x r ih =>
    intro i left fuel hf hr h0 h1
    obtain ⟨fuel, rfl⟩ : ∃ f', fuel = f' + 1 := ⟨fuel - 1, by omega⟩
    have hlt := drop_lt hr
    have hc : (decide ((i : Int) < (List.length e.l : Int)) && decide (left ≥ 0)) = true := by rw [decide_eq_true (by omega), decide_eq_true (by omega)]; rfl
    have hx : x ∈ e.l := List.mem_of_mem_drop (by rw [hr]; simp)
    have hw : IntKind.i64.wrap (depth + 1) = depth + 1 := w64' (by omega) (by omega)
    have hwi : IntKind.i64.wrap ((i : Int) + 1) = ((i + 1 : Nat) : Int) := by rw [w64' (by omega) (by omega)]; omega
    have hwl : IntKind.u64.wrap (lets + 1) = lets + 1 := wu64 (by omega) (by omega)
    have key : ∀ lets', 0 ≤ lets' → lets' ≤ 9223372036854775807 + (depth + 1) → lets' = (if e.kind = 10 ∧ (i : Int) = 1 then lets + 1 else lets) →
        (Option.bind (idx e.l (i : Int)) fun x72 => Option.bind (rec x72 lets' (IntKind.i64.wrap (depth + 1)) left) fun r73 => (f42s_l1 rec e lets depth k fuel r73 (IntKind.i64.wrap ((i : Int) + 1)))) = some (rv (sndL e.kind (x :: r) i lets depth left)) := by
      intro lets' g0 g1 g2
      rw [hw, hwi, idx_drop hr, obind, hrec x hx lets' left g0 g1 h0 h1, obind, sndL, ← g2]
      cases hs : snd x lets' (depth + 1) left with
      | none =>
        simp only [rv]
        obtain ⟨fuel, rfl⟩ : ∃ f', fuel = f' + 1 := ⟨fuel - 1, by simp at hf; omega⟩
        have hc2 : (decide (((i + 1 : Nat) : Int) < (List.length e.l : Int)) && decide ((-1 : Int) ≥ 0)) = false := by simp
        rw [f42s_l1, hc2, cond_false, hk]
      | some left' =>
        have hb := (snd_nonneg _).1 x _ _ _ _ (Nat.le_refl _) hs
        have := ih (i + 1) left' fuel (by simp at hf; omega) (drop_succ hr) hb.1 (by omega)
        simpa [rv] using this
    rw [f42s_l1, hc, cond_true]
    simp only [letk]
    by_cases h10 : e.kind = 10 ∧ (i : Int) = 1
    · have : (decide (e.kind = 10) && decide ((i : Int) = 1)) = true := by simp [h10.1, h10.2]
      rw [this, cond_true, hwl]
      exact key _ (by omega) (by omega) (by rw [if_pos h10])
    · have : (decide (e.kind = 10) && decide ((i : Int) = 1)) = false := by
        rw [Bool.eq_false_iff]; intro h; apply h10; simpa using h
      rw [this, cond_false]
      exact key _ hl0 (by omega) (by rw [if_neg h10])

theorem f42_eq : ∀ (n : Nat) (e : CE) (lets depth left : Int), GE e → 0 ≤ lets → lets ≤ 9223372036854775807 + depth → 1 ≤ depth → depth ≤ 65 → 66 - depth ≤ n → 0 ≤ left → left ≤ 256 →
    f42 n e lets depth left = some (rv (snd e lets depth left))
  | 0, e, lets, depth, left, he, hl0, hl1, hd, hd', hn, h0, h256 => by omega
  | n + 1, e, lets, depth, left, he, hl0, hl1, hd, hd', hn, h0, h256 => by
    have hw : IntKind.i64.wrap (left - 1) = left - 1 := w64' (by omega) (by omega)
    show f42s (f42 n) e lets depth left = _
    unfold f42s
    simp only [hw, letk]
    cases e with
    | mk kind op n' o off len lo hi l =>
    simp only [snd]
    by_cases hc : depth > 64 ∨ left ≤ 0 ∨ f65 ⟨kind, op, n', o, off, len, lo, hi, l⟩ lets = false
    · rw [if_pos hc]
      have : (decide (depth > 64) || decide (left = 0) || !f65 ⟨kind, op, n', o, off, len, lo, hi, l⟩ lets) = true := by
        rcases hc with h | h | h
        · simp [h]
        · simp [show left = 0 by omega]
        · simp [h]
      rw [this, cond_true]
      rfl
    · rw [if_neg hc]
      simp only [not_or] at hc
      have : (decide (depth > 64) || decide (left = 0) || !f65 ⟨kind, op, n', o, off, len, lo, hi, l⟩ lets) = false := by
        have h3 : f65 ⟨kind, op, n', o, off, len, lo, hi, l⟩ lets = true := by cases hb : f65 ⟨kind, op, n', o, off, len, lo, hi, l⟩ lets <;> simp_all
        simp only [h3, Bool.not_true, Bool.or_false, Bool.or_eq_false_iff, decide_eq_false_iff_not]
        omega
      rw [this, cond_false]
      have hge : ∀ x ∈ l, GE x := he.sub
      have hlen := he.len
      have := f42_loop (rec := f42 n) (e := ⟨kind, op, n', o, off, len, lo, hi, l⟩) (lets := lets) (depth := depth) (k := fun c => some c) (fun _ => rfl) hl0 hl1 hd (by omega) he.len
        (fun x hx lets' left' g0 g1 g2 g3 => f42_eq n x lets' (depth + 1) left' (hge x hx) g0 g1 (by omega) (by omega) (by omega) g2 g3) l 0 (left - 1) 9223372036854775808 (by simp only at hlen; omega) rfl (by omega) (by omega)
      simpa using this

/-- May: by the program, and by the reference. -/
def may (e : CE) (lets : Int) : Bool := decide (0 ≤ lets) && (snd e lets 1 256).isSome

theorem f13_eq {e : CE} (he : GE e) {lets : Int} (hl : I64 lets) : f13 e lets = some (may e lets) := by
  unfold I64 at hl
  unfold f13 may
  by_cases h0 : 0 ≤ lets
  · have hw : IntKind.u64.wrap lets = lets := wu64 h0 (by omega)
    obtain ⟨z, z1, z2, _⟩ := f40_eq 100 e lets 1 256 he h0 (by omega) (by omega) (by omega) (by omega) (by omega) (by omega)
    rw [hw, z1]
    simp [h0, z2]
  · simp [show ¬ (lets ≥ 0) from h0]
theorem f14_eq {e : CE} (he : GE e) {lets : Int} (hl : I64 lets) : f14 e lets = some (may e lets) := by
  unfold I64 at hl
  unfold f14 may
  by_cases h0 : 0 ≤ lets
  · have hw : IntKind.u64.wrap lets = lets := wu64 h0 (by omega)
    have hz := f42_eq 100 e lets 1 256 he h0 (by omega) (by omega) (by omega) (by omega) (by omega) (by omega)
    rw [hw, hz, decide_eq_false (show ¬ lets < 0 by omega), cond_false, obind]
    congr 1
    cases hs : snd e lets 1 256 with
    | none => simp [rv]
    | some r =>
      have := ((snd_nonneg _).1 e _ _ _ _ (Nat.le_refl _) hs).1
      simp [rv, this, h0]
  · simp [show lets < 0 by omega, h0]
end Go.Proofs.Ytjjgmpmhfodmeaa
namespace Go.Proofs.Ytjjgmpmhfodmeaa
open Go Go.Sk

/-! ### What a sound expression is -/
inductive V : CE → Int → Int → Prop
  | mk {e : CE} {lets depth : Int} : depth ≤ 64 → f65 e lets = true → (∀ (i : Nat) x, e.l[i]? = some x → V x (if e.kind = 10 ∧ (i : Int) = 1 then lets + 1 else lets) (depth + 1)) → V e lets depth

theorem v_of_snd : ∀ (n : Nat), (∀ (e : CE) (lets depth left r : Int), SizeOf.sizeOf e ≤ n → snd e lets depth left = some r → V e lets depth) ∧
    (∀ (kind : Int) (l : List CE) (k : Nat) (lets depth left r : Int), SizeOf.sizeOf l ≤ n → sndL kind l k lets depth left = some r → ∀ (i : Nat) x, l[i]? = some x → V x (if kind = 10 ∧ ((k + i : Nat) : Int) = 1 then lets + 1 else lets) (depth + 1))
  | 0 => by
    constructor
    · intro e lets depth left r h; cases e; simp at h
    · intro kind l k lets depth left r h; cases l <;> simp at h
  | n + 1 => by
    obtain ⟨ih1, ih2⟩ := v_of_snd n
    constructor
    · intro e lets depth left r hs h
      cases e with
      | mk kind op n' o off len lo hi l =>
        simp only [snd] at h
        split at h
        · cases h
        · rename_i hc
          simp only [not_or] at hc
          refine .mk (by omega) (by cases hb : f65 ⟨kind, op, n', o, off, len, lo, hi, l⟩ lets <;> simp_all) (fun i x hx => ?_)
          have := ih2 kind l 0 lets depth (left - 1) r (by simp at hs; omega) h i x hx
          simpa using this
    · intro kind l k lets depth left r hs h i x hx
      cases l with
      | nil => simp at hx
      | cons y l =>
        simp only [sndL] at h
        split at h
        · cases h
        · rename_i left' hy
          cases i with
          | zero =>
            simp only [List.getElem?_cons_zero, Option.some.injEq] at hx
            subst hx
            exact ih1 y _ _ _ _ (by simp at hs; omega) hy
          | succ i =>
            have := ih2 kind l (k + 1) lets depth left' r (by simp at hs; omega) (by simpa using h) i x (by simpa using hx)
            rw [show k + (i + 1) = k + 1 + i from by omega]
            exact this
theorem may_v {e : CE} {lets : Int} (h : may e lets = true) : 0 ≤ lets ∧ V e lets 1 := by
  simp only [may, Bool.and_eq_true, decide_eq_true_eq] at h
  obtain ⟨r, hr⟩ := Option.isSome_iff_exists.1 h.2
  exact ⟨h.1, (v_of_snd _).1 e lets 1 256 r (Nat.le_refl _) hr⟩

theorem V.fields {e : CE} {lets depth : Int} (h : V e lets depth) : f65 e lets = true := by cases h; assumption
theorem V.depth {e : CE} {lets depth : Int} (h : V e lets depth) : depth ≤ 64 := by cases h; assumption
theorem V.sub {e : CE} {lets depth : Int} (h : V e lets depth) : ∀ (i : Nat) x, e.l[i]? = some x → V x (if e.kind = 10 ∧ (i : Int) = 1 then lets + 1 else lets) (depth + 1) := by cases h; assumption

/-- The facts of the fields. -/
theorem fields_cases {e : CE} {lets : Int} (h : f65 e lets = true) :
    (e.kind = 1 ∧ e.l = [] ∧ -2147483648 ≤ e.n ∧ e.n ≤ 2147483647) ∨ (e.kind = 2 ∧ e.l = [] ∧ 0 ≤ e.o ∧ e.o < 2048 ∧ 0 ≤ e.off ∧ e.off < 16384) ∨
    (e.kind = 3 ∧ (∃ a, e.l = [a]) ∧ 0 ≤ e.o ∧ e.o < 2048 ∧ 0 ≤ e.off ∧ e.off < 16384 ∧ 1 ≤ e.len ∧ e.len ≤ 16384) ∨ (e.kind = 4 ∧ (∃ a, e.l = [a]) ∧ (e.op = 16 ∨ e.op = 17 ∨ e.op = 18)) ∨
    (e.kind = 5 ∧ (∃ a b, e.l = [a, b]) ∧ 1 ≤ e.op ∧ e.op ≤ 15) ∨ (e.kind = 6 ∧ ∃ a b, e.l = [a, b]) ∨ (e.kind = 7 ∧ ∃ a b, e.l = [a, b]) ∨ (e.kind = 8 ∧ ∃ a b c, e.l = [a, b, c]) ∨
    (e.kind = 9 ∧ (∃ a, e.l = [a]) ∧ -2147483648 ≤ e.lo ∧ e.hi ≤ 2147483647) ∨ (e.kind = 10 ∧ ∃ a b, e.l = [a, b]) ∨ (e.kind = 11 ∧ e.l = [] ∧ 0 ≤ e.n ∧ IntKind.u64.wrap e.n < lets) ∨
    (e.kind = 12 ∧ e.l = [] ∧ 0 ≤ e.o ∧ e.o < 2048) ∨ (e.kind = 13 ∧ ∃ a, e.l = [a]) ∨ (e.kind = 14 ∧ e.l = [] ∧ 0 ≤ e.n ∧ e.n < 8) := by
  have l0 : ∀ l : List CE, ((List.length l : Int) = 0) → l = [] := fun l h => List.eq_nil_of_length_eq_zero (by omega)
  have l1 : ∀ l : List CE, ((List.length l : Int) = 1) → ∃ a, l = [a] := fun l h => List.length_eq_one_iff.1 (by omega)
  have l2 : ∀ l : List CE, ((List.length l : Int) = 2) → ∃ a b, l = [a, b] := fun l h => by
    match l, h with
    | [a, b], _ => exact ⟨a, b, rfl⟩
    | [], h => simp at h
    | [a], h => simp at h
    | _ :: _ :: _ :: _, h => simp at h; omega
  have l3 : ∀ l : List CE, ((List.length l : Int) = 3) → ∃ a b c, l = [a, b, c] := fun l h => by
    match l, h with
    | [a, b, c], _ => exact ⟨a, b, c, rfl⟩
    | [], h => simp at h
    | [a], h => simp at h
    | [a, b], h => simp at h
    | _ :: _ :: _ :: _ :: _, h => simp at h; omega
  obtain ⟨kind, op, n, o, off, len, lo, hi, l⟩ := e
  simp only at *
  by_cases h1 : kind = 1
  · subst h1
    simp only [f65, f88, f81, f83, f45, f46, letk, Int.reduceEq, decide_true, decide_false, cond_true, cond_false, Bool.false_or, Bool.true_or, Bool.and_eq_true, decide_eq_true_eq, and_true] at h
    exact .inl ⟨rfl, l0 _ (by omega), by omega, by omega⟩
  by_cases h2 : kind = 2
  · subst h2
    simp only [f65, f88, f81, f83, f45, f46, letk, Int.reduceEq, decide_true, decide_false, cond_true, cond_false, Bool.false_or, Bool.true_or, Bool.and_eq_true, decide_eq_true_eq, and_true] at h
    exact .inr (.inl ⟨rfl, l0 _ (by omega), by omega, by omega, by omega, by omega⟩)
  by_cases h3 : kind = 3
  · subst h3
    simp only [f65, f88, f81, f83, f45, f46, letk, Int.reduceEq, decide_true, decide_false, cond_true, cond_false, Bool.false_or, Bool.true_or, Bool.and_eq_true, decide_eq_true_eq, and_true] at h
    exact .inr (.inr (.inl ⟨rfl, l1 _ (by omega), by omega, by omega, by omega, by omega, by omega, by omega⟩))
  by_cases h4 : kind = 4
  · subst h4
    simp only [f65, f88, f81, f83, f45, f46, letk, Int.reduceEq, decide_true, decide_false, cond_true, cond_false, Bool.false_or, Bool.true_or, Bool.and_eq_true, Bool.or_eq_true, decide_eq_true_eq, true_and] at h
    exact .inr (.inr (.inr (.inl ⟨rfl, l1 _ (by omega), by omega⟩)))
  by_cases h5 : kind = 5
  · subst h5
    simp only [f65, f88, f81, f83, f45, f46, letk, Int.reduceEq, decide_true, decide_false, cond_true, cond_false, Bool.false_or, Bool.true_or, Bool.and_eq_true, decide_eq_true_eq, true_and] at h
    exact .inr (.inr (.inr (.inr (.inl ⟨rfl, l2 _ (by omega), by omega, by omega⟩))))
  by_cases h6 : kind = 6
  · subst h6
    simp only [f65, f88, f81, f83, f45, f46, letk, Int.reduceEq, decide_true, decide_false, cond_true, cond_false, Bool.false_or, Bool.true_or, Bool.and_eq_true, decide_eq_true_eq] at h
    exact .inr (.inr (.inr (.inr (.inr (.inl ⟨rfl, l2 _ (by omega)⟩)))))
  by_cases h7 : kind = 7
  · subst h7
    simp only [f65, f88, f81, f83, f45, f46, letk, Int.reduceEq, decide_true, decide_false, cond_true, cond_false, Bool.false_or, Bool.true_or, Bool.and_eq_true, decide_eq_true_eq] at h
    exact .inr (.inr (.inr (.inr (.inr (.inr (.inl ⟨rfl, l2 _ (by omega)⟩))))))
  by_cases h8 : kind = 8
  · subst h8
    simp only [f65, f88, f81, f83, f45, f46, letk, Int.reduceEq, decide_true, decide_false, cond_true, cond_false, Bool.false_or, Bool.true_or, Bool.and_eq_true, decide_eq_true_eq] at h
    exact .inr (.inr (.inr (.inr (.inr (.inr (.inr (.inl ⟨rfl, l3 _ (by omega)⟩)))))))
  by_cases h9 : kind = 9
  · subst h9
    simp only [f65, f88, f81, f83, f45, f46, letk, Int.reduceEq, decide_true, decide_false, cond_true, cond_false, Bool.false_or, Bool.true_or, Bool.and_eq_true, decide_eq_true_eq, and_true] at h
    exact .inr (.inr (.inr (.inr (.inr (.inr (.inr (.inr (.inl ⟨rfl, l1 _ (by omega), by omega, by omega⟩))))))))
  by_cases h10 : kind = 10
  · subst h10
    simp only [f65, f88, f81, f83, f45, f46, letk, Int.reduceEq, decide_true, decide_false, cond_true, cond_false, Bool.false_or, Bool.true_or, Bool.and_eq_true, decide_eq_true_eq] at h
    exact .inr (.inr (.inr (.inr (.inr (.inr (.inr (.inr (.inr (.inl ⟨rfl, l2 _ (by omega)⟩)))))))))
  by_cases h11 : kind = 11
  · subst h11
    simp only [f65, f88, f81, f83, f45, f46, letk, Int.reduceEq, decide_true, decide_false, cond_true, cond_false, Bool.false_or, Bool.true_or, Bool.and_eq_true, decide_eq_true_eq, and_true] at h
    exact .inr (.inr (.inr (.inr (.inr (.inr (.inr (.inr (.inr (.inr (.inl ⟨rfl, l0 _ (by omega), by omega, by omega⟩))))))))))
  by_cases h12 : kind = 12
  · subst h12
    simp only [f65, f88, f81, f83, f45, f46, letk, Int.reduceEq, decide_true, decide_false, cond_true, cond_false, Bool.false_or, Bool.true_or, Bool.and_eq_true, decide_eq_true_eq, and_true] at h
    exact .inr (.inr (.inr (.inr (.inr (.inr (.inr (.inr (.inr (.inr (.inr (.inl ⟨rfl, l0 _ (by omega), by omega, by omega⟩)))))))))))
  by_cases h13 : kind = 13
  · subst h13
    simp only [f65, f88, f81, f83, f45, f46, letk, Int.reduceEq, decide_true, decide_false, cond_true, cond_false, Bool.false_or, Bool.true_or, Bool.and_eq_true, decide_eq_true_eq] at h
    exact .inr (.inr (.inr (.inr (.inr (.inr (.inr (.inr (.inr (.inr (.inr (.inr (.inl ⟨rfl, l1 _ (by omega)⟩))))))))))))
  by_cases h14 : kind = 14
  · subst h14
    simp only [f65, f88, f81, f83, f45, f46, letk, Int.reduceEq, decide_true, decide_false, cond_true, cond_false, Bool.false_or, Bool.true_or, Bool.and_eq_true, decide_eq_true_eq, and_true] at h
    exact .inr (.inr (.inr (.inr (.inr (.inr (.inr (.inr (.inr (.inr (.inr (.inr (.inr (⟨rfl, l0 _ (by omega), by omega, by omega⟩)))))))))))))
  exfalso
  simp [f65, letk, h1, h2, h3, h4, h5, h6, h7, h8, h9, h10, h11, h12, h13, h14] at h
end Go.Proofs.Ytjjgmpmhfodmeaa
namespace Go.Proofs.Ytjjgmpmhfodmeaa
open Go Go.Sk

def Bs (x : Int) : Prop := -2147483648 ≤ x ∧ x ≤ 2147483647
instance (x : Int) : Decidable (Bs x) := inferInstanceAs (Decidable (_ ∧ _))
theorem f61_iff (x : Int) : f61 x = true ↔ Bs x := by simp [f61, f63, Bs]
theorem f81_iff (x : Int) : f81 x = true ↔ Bs x := by simp [f81, f83, Bs]
theorem f81_61 (x : Int) : f81 x = f61 x := by rw [Bool.eq_iff_iff, f61_iff, f81_iff]
theorem f83_63 (x a b : Int) : f83 x a b = f63 x a b := rfl

/-- Two answers that are one. -/
def Rel (a b : Option (Int × Bool)) : Prop := ∃ v v' ok, a = some (v, ok) ∧ b = some (v', ok) ∧ (ok = true → v = v' ∧ Bs v)
theorem Rel.no {v v' : Int} : Rel (some (v, false)) (some (v', false)) := ⟨v, v', false, rfl, rfl, fun h => by cases h⟩
theorem Rel.yes {v : Int} (h : Bs v) : Rel (some (v, true)) (some (v, true)) := ⟨v, v, true, rfl, rfl, fun _ => ⟨rfl, h⟩⟩
theorem Rel.of {v : Int} {b : Bool} (h : b = true → Bs v) : Rel (some (v, b)) (some (v, b)) := ⟨v, v, b, rfl, rfl, fun hb => ⟨rfl, h hb⟩⟩

/-- What a store has in a slot. -/
def rd (s : List (List Int)) (o k : Int) : Option Int := if 0 ≤ o ∧ 0 ≤ k then (s[o.toNat]?).bind fun l => l[k.toNat]? else none
theorem rd_some {s : List (List Int)} {o k x : Int} (h : rd s o k = some x) : ∃ l, idx s o = some l ∧ idx l k = some x := by
  unfold rd at h
  split at h
  · rename_i hc
    obtain ⟨l, h1, h2⟩ := Option.bind_eq_some_iff.1 h
    exact ⟨l, by simp [idx, hc.1, h1], by simp [idx, hc.2, h2]⟩
  · cases h
theorem f55_eq (s : List (List Int)) (o k : Int) : f55 s o k = some (rd s o k).isSome := by
  unfold f55 rd
  by_cases hc : 0 ≤ o ∧ 0 ≤ k
  · rw [if_pos hc]
    by_cases hl : o < (List.length s : Int)
    · have hlt : o.toNat < s.length := by omega
      have hi : idx s o = some s[o.toNat] := by simp [idx, hc.1, hlt]
      have e : (decide (o ≥ 0) && decide (o < (List.length s : Int)) && decide (k ≥ 0)) = true := by simp [hc.1, hc.2, hl]
      rw [e, cond_true, hi, obind, obind, List.getElem?_eq_getElem hlt, Option.bind_some]
      congr 1
      rw [Bool.eq_iff_iff]
      simp []
      omega
    · have e : (decide (o ≥ 0) && decide (o < (List.length s : Int)) && decide (k ≥ 0)) = false := by simp [hl]
      rw [e, cond_false, obind, List.getElem?_eq_none (by omega)]
      rfl
  · rw [if_neg hc]
    have e : (decide (o ≥ 0) && decide (o < (List.length s : Int)) && decide (k ≥ 0)) = false := by
      rw [Bool.eq_false_iff]; intro h; apply hc; simp at h; omega
    rw [e, cond_false, obind]
    rfl
theorem f30_eq (s : List (List Int)) (o k : Int) : f30 s o k = some (rd s o k).isSome := f55_eq s o k

theorem f125_eq (w : St) (o k : Int) : f125 w o k = some (match rd w.s o k with | none => (0, false) | some x => (x, f61 x)) := by
  unfold f125
  rw [f55_eq, obind]
  cases h : rd w.s o k with
  | none => rfl
  | some x =>
    obtain ⟨l, h1, h2⟩ := rd_some h
    simp [h1, h2]
theorem f80_eq (s : List (List Int)) (o k : Int) : f80 s o k = some (match rd s o k with | none => (0, false) | some x => if f61 x = true then (x, true) else (0, false)) := by
  unfold f80
  rw [f30_eq, obind]
  cases h : rd s o k with
  | none => rfl
  | some x =>
    obtain ⟨l, h1, h2⟩ := rd_some h
    cases hb : f61 x <;> simp [h1, h2, f81_61, hb]
theorem rel_read (w : St) (o k : Int) : Rel (f125 w o k) (f80 w.s o k) := by
  rw [f125_eq, f80_eq]
  cases h : rd w.s o k with
  | none => exact Rel.no
  | some x =>
    show Rel (some (x, f61 x)) (some (if f61 x = true then (x, true) else (0, false)))
    cases hb : f61 x
    · exact Rel.no
    · exact Rel.yes ((f61_iff x).1 hb)

/-! ### Operators -/
theorem f82_eq (op v : Int) : f82 op v = (if op = 16 then (IntKind.i64.wrap (0 - v), f61 (IntKind.i64.wrap (0 - v))) else if op = 17 then ((if IntKind.i64.wrap (0 - v) > v then IntKind.i64.wrap (0 - v) else v), f61 (if IntKind.i64.wrap (0 - v) > v then IntKind.i64.wrap (0 - v) else v)) else (IntKind.i64.wrap (1 - v), f63 v 0 1)) := by
  unfold f82
  by_cases h1 : op = 16
  · simp [h1, f81_61]
  · by_cases h2 : op = 17
    · simp [h2, f81_61]
    · simp [h1, h2, f83_63]

theorem tmod_bs {a b : Int} (hb : b ≠ 0) (hbb : Bs b) : Bs (Int.tmod a b) ∧ (Int.tmod a b).natAbs < b.natAbs ∧ (0 ≤ a → 0 ≤ Int.tmod a b) ∧ (a ≤ 0 → Int.tmod a b ≤ 0) := by
  unfold Bs at hbb ⊢
  have h1 : (Int.tmod a b).natAbs = a.natAbs % b.natAbs := Int.natAbs_tmod a b
  have h2 : a.natAbs % b.natAbs < b.natAbs := Nat.mod_lt _ (by omega)
  refine ⟨by omega, by omega, fun h => Int.tmod_nonneg b h, fun h => ?_⟩
  have := Int.tmod_nonneg b (show 0 ≤ -a by omega)
  rw [Int.neg_tmod] at this
  omega
theorem tmod_small {x b : Int} (h : x.natAbs < b.natAbs) : Int.tmod x b = x := by
  have h1 : (Int.tmod x b).natAbs = x.natAbs := by rw [Int.natAbs_tmod, Nat.mod_eq_of_lt h]
  rcases Int.le_total 0 x with h0 | h0
  · have := Int.tmod_nonneg b h0; omega
  · have := Int.tmod_nonneg b (show 0 ≤ -x by omega)
    rw [Int.neg_tmod] at this
    omega

/-- The modulus, both ways. -/
theorem mod_same {m b : Int} (hb : b ≠ 0) (hm : m.natAbs < b.natAbs) : (if m ≠ 0 ∧ ¬ (m < 0 ↔ b < 0) then m + b else m) = Int.tmod (m + b) b := by
  by_cases h0 : m = 0
  · subst h0
    simp [Int.tmod_self]
  · by_cases hs : (m < 0 ↔ b < 0)
    · rw [if_neg (by simp [hs])]
      have : m + b = m + b * 1 := by omega
      rcases Int.lt_or_lt_of_ne h0 with h | h
      · have hb2 := hs.1 h
        obtain ⟨c, rfl⟩ : ∃ c, b = -c := ⟨-b, by omega⟩
        have e : m + -c = -((-m) + c) := by omega
        rw [e, Int.tmod_neg, Int.neg_tmod, Int.tmod_eq_emod_of_nonneg (by omega), Int.add_emod_right, Int.emod_eq_of_lt (by omega) (by omega)]
        omega
      · have hb2 : 0 < b := by
          rcases Int.lt_or_lt_of_ne hb with h' | h'
          · have := hs.2 h'; omega
          · exact h'
        rw [Int.tmod_eq_emod_of_nonneg (by omega), Int.add_emod_right, Int.emod_eq_of_lt (by omega) (by omega)]
    · rw [if_pos ⟨h0, hs⟩, tmod_small (by omega)]

/-- An operator with two operands, by the program. -/
def binP (op a b : Int) : Option (Int × Bool) :=
  bif (((decide (b = 0)) && (decide (op ≥ 4))) && (decide (op ≤ 6))) then some (0, false) else letk (fun (v153 : Int) =>
  some (v153, (f61 v153))) fun k154 =>
  (bif (decide (op = 1)) then (k154 (IntKind.i64.wrap (a + b))) else (bif (decide (op = 2)) then (k154 (IntKind.i64.wrap (a - b))) else (bif (decide (op = 3)) then (k154 (IntKind.i64.wrap (a * b))) else (bif (decide (op = 4)) then guardB (nz b) <|
  (k154 (IntKind.i64.wrap (Int.tdiv a b))) else (bif (decide (op = 5)) then guardB (nz b) <|
  (k154 (Int.tmod a b)) else (bif (decide (op = 6)) then guardB (nz b) <|
  (bif ((!decide ((Int.tmod a b) = 0)) && (!((decide ((Int.tmod a b) < 0)) == (decide (b < 0))))) then (k154 (IntKind.i64.wrap ((Int.tmod a b) + b))) else (k154 (Int.tmod a b))) else letk (fun (t158 : Bool) =>
  (bif t158 then some ((Option.getD (mpGet (mpPut (mpPut (mpPut ([] : List (Int × Int)) 13 (IntKind.i64.wrap (BitVec.ofInt IntKind.i64.bits a &&& BitVec.ofInt IntKind.i64.bits b).toNat)) 14 (IntKind.i64.wrap (BitVec.ofInt IntKind.i64.bits a ||| BitVec.ofInt IntKind.i64.bits b).toNat)) 15 (IntKind.i64.wrap (BitVec.ofInt IntKind.i64.bits a ^^^ BitVec.ofInt IntKind.i64.bits b).toNat)) op) 0), ((f63 a 0 1) && (f63 b 0 1))) else Option.bind (idx [(decide (a = b)), (!decide (a = b)), (decide (a < b)), (decide (a ≤ b)), (decide (a > b)), (decide (a ≥ b))] (IntKind.u8.wrap (op - 7))) fun x160 =>
  (k154 (f100 x160)))) fun k159 =>
  (bif (decide (op = 13)) then (k159 (decide (op = 13))) else (bif (decide (op = 14)) then (k159 (decide (op = 14))) else (k159 (decide (op = 15)))))))))))

theorem rel_of_eq {v v' : Int} (h : v = v') (hb : f61 v = true → Bs v) : Rel (some (v, f61 v)) (some (v', f81 v')) := by
  subst h; rw [f81_61]; exact Rel.of hb
theorem rel_bs {v v' : Int} (h : v = v') : Rel (some (v, f61 v)) (some (v', f81 v')) := rel_of_eq h (f61_iff v).1

theorem in01 {a : Int} : f63 a 0 1 = true ↔ a = 0 ∨ a = 1 := by simp [f63]; omega

theorem rel_bin {op a b : Int} (h1 : 1 ≤ op) (h2 : op ≤ 15) (hb : Bs b) : Rel (binP op a b) (f84 op a b) := by
  have hcases : op = 1 ∨ op = 2 ∨ op = 3 ∨ op = 4 ∨ op = 5 ∨ op = 6 ∨ op = 7 ∨ op = 8 ∨ op = 9 ∨ op = 10 ∨ op = 11 ∨ op = 12 ∨ op = 13 ∨ op = 14 ∨ op = 15 := by omega
  have w8 : ∀ x : Int, 0 ≤ x → x ≤ 5 → IntKind.u8.wrap x = x := fun x h0 h5 => by
    have : IntKind.u8.wrap x = x % 256 := rfl
    rw [this, Int.emod_eq_of_lt h0 (by omega)]
  have logic : ∀ op : Int, op = 13 ∨ op = 14 ∨ op = 15 → Rel (binP op a b) (f84 op a b) := by
    intro op hop
    by_cases hin : f63 a 0 1 = true ∧ f63 b 0 1 = true
    · have ha := in01.1 hin.1
      have hb' := in01.1 hin.2
      rcases hop with rfl | rfl | rfl <;> rcases ha with rfl | rfl <;> rcases hb' with rfl | rfl <;> exact ⟨_, _, true, rfl, rfl, fun _ => ⟨rfl, by decide⟩⟩
    · have hf : (f63 a 0 1 && f63 b 0 1) = false := by
        cases h1 : f63 a 0 1 <;> cases h2 : f63 b 0 1 <;> simp_all
      have hn : (!(f83 a 0 1) || !(f83 b 0 1)) = true := by
        rw [f83_63, f83_63]; cases h1 : f63 a 0 1 <;> cases h2 : f63 b 0 1 <;> simp_all
      rcases hop with rfl | rfl | rfl
      all_goals
        simp only [binP, f84, letk, Int.reduceEq, Int.reduceLE, ge_iff_le, decide_true, decide_false, Bool.and_false, cond_true, cond_false, hf, hn]
        exact Rel.no
  rcases hcases with rfl | rfl | rfl | rfl | rfl | rfl | rfl | rfl | rfl | rfl | rfl | rfl | h | h | h
  case inr.inr.inr.inr.inr.inr.inr.inr.inr.inr.inr.inr.inl => exact logic op (by omega)
  case inr.inr.inr.inr.inr.inr.inr.inr.inr.inr.inr.inr.inr.inl => exact logic op (by omega)
  case inr.inr.inr.inr.inr.inr.inr.inr.inr.inr.inr.inr.inr.inr => exact logic op (by omega)
  · simp only [binP, f84, letk, Int.reduceEq, Int.reduceLE, ge_iff_le, decide_true, decide_false, Bool.and_false, Bool.false_and, cond_true, cond_false]
    exact rel_bs rfl
  · simp only [binP, f84, letk, Int.reduceEq, Int.reduceLE, ge_iff_le, decide_true, decide_false, Bool.and_false, Bool.false_and, cond_true, cond_false]
    exact rel_bs rfl
  · simp only [binP, f84, letk, Int.reduceEq, Int.reduceLE, ge_iff_le, decide_true, decide_false, Bool.and_false, Bool.false_and, cond_true, cond_false]
    exact rel_bs rfl
  · by_cases hb0 : b = 0
    · subst hb0
      exact Rel.no
    · have hnz : nz b = true := by simp [nz, hb0]
      simp only [binP, f84, letk, Int.reduceEq, Int.reduceLE, ge_iff_le, decide_true, decide_false, Bool.false_and, cond_true, cond_false, hb0, hnz, guardB]
      exact rel_bs rfl
  · by_cases hb0 : b = 0
    · subst hb0
      exact Rel.no
    · have hnz : nz b = true := by simp [nz, hb0]
      simp only [binP, f84, letk, Int.reduceEq, Int.reduceLE, ge_iff_le, decide_true, decide_false, Bool.false_and, cond_true, cond_false, hb0, hnz, guardB]
      exact rel_bs rfl
  · by_cases hb0 : b = 0
    · subst hb0
      exact Rel.no
    · have hnz : nz b = true := by simp [nz, hb0]
      obtain ⟨t1, t2, _⟩ := tmod_bs (a := a) hb0 hb
      have hms := mod_same hb0 t2
      have hw : IntKind.i64.wrap (Int.tmod a b + b) = Int.tmod a b + b := by unfold Bs at t1 hb; exact w64' (by omega) (by omega)
      simp only [binP, f84, letk, Int.reduceEq, Int.reduceLE, ge_iff_le, decide_true, decide_false, Bool.false_and, cond_true, cond_false, hb0, hnz, guardB, hw]
      have hcond : (!decide (Int.tmod a b = 0) && !(decide (Int.tmod a b < 0) == decide (b < 0))) = decide (Int.tmod a b ≠ 0 ∧ ¬ (Int.tmod a b < 0 ↔ b < 0)) := by
        rw [Bool.eq_iff_iff]; simp
      rw [hcond]
      by_cases hc : Int.tmod a b ≠ 0 ∧ ¬ (Int.tmod a b < 0 ↔ b < 0)
      · rw [if_pos hc] at hms
        rw [decide_eq_true hc]
        exact rel_bs hms
      · rw [if_neg hc] at hms
        rw [decide_eq_false hc]
        exact rel_bs hms
  all_goals
    simp only [binP, f84, letk, Int.reduceEq, Int.reduceLE, ge_iff_le, decide_true, decide_false, Bool.and_false, cond_true, cond_false, Int.reduceSub, w8 0 (by decide) (by decide), w8 1 (by decide) (by decide), w8 2 (by decide) (by decide), w8 3 (by decide) (by decide), w8 4 (by decide) (by decide), w8 5 (by decide) (by decide)]
    exact rel_bs rfl
end Go.Proofs.Ytjjgmpmhfodmeaa
namespace Go.Proofs.Ytjjgmpmhfodmeaa
open Go Go.Sk

theorem f72_eq {val : Wk → CE → Option (Int × Bool)} {w : Wk} {e : CE} {x y : CE} (hl : e.l = [x, y]) : f72 val w e = (val w x).bind fun r => bif !r.2 then some (0, false) else (val w y).bind fun r2 => bif !r2.2 then some (0, false) else binP e.op r.1 r2.1 := by
  unfold f72 binP
  have i0 : idx e.l 0 = some x := by rw [hl]; rfl
  have i1 : idx e.l 1 = some y := by rw [hl]; rfl
  rw [i0, obind]
  cases hx : val w x with
  | none => rfl
  | some r =>
    simp only [obind]
    cases hr : r.2
    · rfl
    · simp only [Bool.not_true, cond_false, i1, obind]
      cases hy : val w y with
      | none => rfl
      | some r2 =>
        simp only [obind]
        cases hr2 : r2.2
        · rfl
        · simp only [Bool.not_true, Bool.false_or, cond_false]

theorem sliceF_all (l : List Int) : sliceF l 0 (List.length l : Int) = l := by simp [sliceF]

/-- The lets hold values of the base range. -/
def LB (l : List Int) : Prop := ∀ x ∈ l, Bs x

theorem value_rel (s : List (List Int)) (c : List Int) : ∀ (n : Nat) (e : CE) (lets : List Int) (depth : Int), GE e → V e (List.length lets : Int) depth → LB lets → (List.length lets : Int) < depth → 66 - depth ≤ n → Rel (f53 n ⟨⟨s, c⟩, lets⟩ e) (f54 n ⟨s, c, lets⟩ e)
  | 0, e, lets, depth, he, hv, hlb, hll, hn => by have := hv.depth; omega
  | n + 1, e, lets, depth, he, hv, hlb, hll, hn => by
    have hd := hv.depth
    have hll' : lets.length ≤ 64 := by omega
    have IH : ∀ (x : CE) (i : Nat), e.l[i]? = some x → (e.kind = 10 → i ≠ 1) → Rel (f53 n ⟨⟨s, c⟩, lets⟩ x) (f54 n ⟨s, c, lets⟩ x) := fun x i hx hne => by
      have hm : x ∈ e.l := List.mem_of_getElem? hx
      have hvx := hv.sub i x hx
      rw [if_neg (by intro h; exact hne h.1 (by omega))] at hvx
      exact value_rel s c n x lets (depth + 1) (he.sub x hm) hvx hlb (by omega) (by omega)
    show Rel (f53s (f53 n) ⟨⟨s, c⟩, lets⟩ e) (f54s (f54 n) ⟨s, c, lets⟩ e)
    have hf := fields_cases hv.fields
    have hb2 : ∀ (o : Option (Int × Bool)), (Option.bind o fun r => some (r.1, r.2)) = o := fun o => by cases o <;> rfl
    have hsc := hv
    rcases hf with h | h | h | h | h | h | h | h | h | h | h | h | h | h
    · -- a number
      obtain ⟨hk, hl, h1, h2⟩ := h
      simp only [f53s, f54s, f68, hk, Int.reduceEq, decide_true, decide_false, cond_true, cond_false]
      exact Rel.yes ⟨h1, h2⟩
    · -- a slot
      obtain ⟨hk, hl, h1⟩ := h
      simp only [f53s, f54s, f69, hk, Int.reduceEq, decide_true, decide_false, cond_true, cond_false, hb2]
      exact rel_read ⟨s, c⟩ e.o e.off
    · -- an element
      obtain ⟨hk, ⟨x, hl⟩, h1⟩ := h
      have i0 : idx e.l 0 = some x := by rw [hl]; rfl
      obtain ⟨v, v', ok, e1, e2, e3⟩ := IH x 0 (by rw [hl]; rfl) (by omega)
      simp only [f53s, f54s, f70, hk, Int.reduceEq, decide_true, decide_false, cond_true, cond_false, hb2, i0, obind, e1, e2]
      cases ok with
      | false => exact Rel.no
      | true =>
        obtain ⟨rfl, hb⟩ := e3 rfl
        simp only [Bool.not_true, Bool.false_or, cond_false]
        cases hc : (decide (v < 0) || decide (v ≥ e.len)) with
        | true => exact Rel.no
        | false => exact rel_read ⟨s, c⟩ e.o _
    · -- an operator with one operand
      obtain ⟨hk, ⟨x, hl⟩, h1⟩ := h
      have i0 : idx e.l 0 = some x := by rw [hl]; rfl
      obtain ⟨v, v', ok, e1, e2, e3⟩ := IH x 0 (by rw [hl]; rfl) (by omega)
      simp only [f53s, f54s, f71, hk, Int.reduceEq, decide_true, decide_false, cond_true, cond_false, hb2, i0, obind, e1, e2, f82_eq, letk]
      cases ok with
      | false =>
        simp only [Bool.not_false, cond_true, Bool.false_and]
        rcases h1 with h1 | h1 | h1 <;> simp only [h1, Int.reduceEq, decide_true, decide_false, cond_true, cond_false] <;> exact Rel.no
      | true =>
        obtain ⟨rfl, hb⟩ := e3 rfl
        simp only [Bool.not_true, cond_false, Bool.true_and]
        rcases h1 with h1 | h1 | h1 <;> simp only [h1, Int.reduceEq, decide_true, decide_false, cond_true, cond_false, if_true, if_false]
        · exact Rel.of (f61_iff _).1
        · exact Rel.of (f61_iff _).1
        · refine Rel.of (fun h => ?_)
          rcases in01.1 h with rfl | rfl <;> decide
    · -- an operator with two operands
      obtain ⟨hk, ⟨x, y, hl⟩, h1, h2⟩ := h
      have i0 : idx e.l 0 = some x := by rw [hl]; rfl
      have i1 : idx e.l 1 = some y := by rw [hl]; rfl
      obtain ⟨v, v', ok, e1, e2, e3⟩ := IH x 0 (by rw [hl]; rfl) (by omega)
      obtain ⟨u, u', ok2, g1, g2, g3⟩ := IH y 1 (by rw [hl]; rfl) (by omega)
      simp only [f53s, f54s, f72_eq hl, hk, Int.reduceEq, decide_true, decide_false, cond_true, cond_false, hb2, i0, i1, obind, e1, e2]
      cases ok with
      | false => exact Rel.no
      | true =>
        obtain ⟨rfl, hb⟩ := e3 rfl
        simp only [Bool.not_true, cond_false, g1, g2, obind]
        cases ok2 with
        | false => exact Rel.no
        | true =>
          obtain ⟨rfl, hb'⟩ := g3 rfl
          simp only [Bool.not_true, cond_false]
          exact rel_bin h1 h2 hb'
    · -- and then
      obtain ⟨hk, x, y, hl⟩ := h
      have i0 : idx e.l 0 = some x := by rw [hl]; rfl
      have i1 : idx e.l 1 = some y := by rw [hl]; rfl
      obtain ⟨v, v', ok, e1, e2, e3⟩ := IH x 0 (by rw [hl]; rfl) (by omega)
      obtain ⟨u, u', ok2, g1, g2, g3⟩ := IH y 1 (by rw [hl]; rfl) (by omega)
      simp only [f53s, f54s, f73, hk, Int.reduceEq, decide_true, decide_false, cond_true, cond_false, hb2, i0, i1, obind, e1, e2, g1, g2, f83_63, Bool.true_and, Bool.false_and, Bool.or_false]
      cases ok with
      | false => exact Rel.no
      | true =>
        obtain ⟨rfl, hb⟩ := e3 rfl
        simp only [Bool.not_true, cond_false, Bool.true_and, Bool.false_or]
        cases hin : f63 v 0 1 with
        | false => exact Rel.no
        | true =>
          simp only [Bool.not_true, Bool.false_or, cond_false]
          have ht : f100 false = 0 := rfl
          rw [ht]
          cases hc : decide (v = 0) with
          | true => exact Rel.yes hb
          | false =>
            simp only [cond_false]
            cases ok2 with
            | false => exact Rel.no
            | true =>
              obtain ⟨rfl, hb'⟩ := g3 rfl
              exact Rel.of fun _ => hb'
    · -- or else
      obtain ⟨hk, x, y, hl⟩ := h
      have i0 : idx e.l 0 = some x := by rw [hl]; rfl
      have i1 : idx e.l 1 = some y := by rw [hl]; rfl
      obtain ⟨v, v', ok, e1, e2, e3⟩ := IH x 0 (by rw [hl]; rfl) (by omega)
      obtain ⟨u, u', ok2, g1, g2, g3⟩ := IH y 1 (by rw [hl]; rfl) (by omega)
      simp only [f53s, f54s, f73, hk, Int.reduceEq, decide_true, decide_false, cond_true, cond_false, hb2, i0, i1, obind, e1, e2, g1, g2, f83_63, Bool.true_and, Bool.false_and, Bool.false_or]
      cases ok with
      | false => exact Rel.no
      | true =>
        obtain ⟨rfl, hb⟩ := e3 rfl
        simp only [Bool.not_true, cond_false, Bool.true_and, Bool.false_or]
        cases hin : f63 v 0 1 with
        | false => exact Rel.no
        | true =>
          simp only [Bool.not_true, Bool.false_or, cond_false]
          have ht : f100 true = 1 := rfl
          rw [ht]
          cases hc : decide (v = 1) with
          | true => exact Rel.yes hb
          | false =>
            simp only [cond_false]
            cases ok2 with
            | false => exact Rel.no
            | true =>
              obtain ⟨rfl, hb'⟩ := g3 rfl
              exact Rel.of fun _ => hb'
    · -- if
      obtain ⟨hk, x, y, z, hl⟩ := h
      have i0 : idx e.l 0 = some x := by rw [hl]; rfl
      have i1 : idx e.l 1 = some y := by rw [hl]; rfl
      have i2 : idx e.l 2 = some z := by rw [hl]; rfl
      obtain ⟨v, v', ok, e1, e2, e3⟩ := IH x 0 (by rw [hl]; rfl) (by omega)
      simp only [f53s, f54s, f74, hk, Int.reduceEq, decide_true, decide_false, cond_true, cond_false, hb2, i0, i1, i2, obind, e1, e2, f83_63]
      cases ok with
      | false => exact Rel.no
      | true =>
        obtain ⟨rfl, hb⟩ := e3 rfl
        simp only [Bool.not_true, cond_false, Bool.false_or]
        cases hin : f63 v 0 1 with
        | false => exact Rel.no
        | true =>
          simp only [Bool.not_true, cond_false]
          rcases in01.1 hin with rfl | rfl
          · have w : IntKind.i64.wrap (2 - 0) = 2 := rfl
            simp only [w, i2, obind, Int.reduceEq, decide_false, cond_false]
            exact IH z 2 (by rw [hl]; rfl) (by omega)
          · have w : IntKind.i64.wrap (2 - 1) = 1 := rfl
            simp only [w, i1, obind, decide_true, cond_true]
            exact IH y 1 (by rw [hl]; rfl) (by omega)
    · -- a range
      obtain ⟨hk, ⟨x, hl⟩, h1, h2⟩ := h
      have i0 : idx e.l 0 = some x := by rw [hl]; rfl
      obtain ⟨v, v', ok, e1, e2, e3⟩ := IH x 0 (by rw [hl]; rfl) (by omega)
      simp only [f53s, f54s, f75, hk, Int.reduceEq, decide_true, decide_false, cond_true, cond_false, hb2, i0, obind, e1, e2, f83_63]
      cases ok with
      | false => exact Rel.no
      | true =>
        obtain ⟨rfl, hb⟩ := e3 rfl
        exact Rel.of fun _ => hb
    · -- a let
      obtain ⟨hk, x, y, hl⟩ := h
      have i0 : idx e.l 0 = some x := by rw [hl]; rfl
      have i1 : idx e.l 1 = some y := by rw [hl]; rfl
      obtain ⟨v, v', ok, e1, e2, e3⟩ := IH x 0 (by rw [hl]; rfl) (by omega)
      have so : sliceOk lets 0 (List.length lets : Int) = true := by simp [sliceOk]
      have ao : appOk 8 lets [v] = true := by simp [appOk, maxLen]; omega
      have ao1 : appOk 8 ([] : List Int) lets = true := by simp [appOk, maxLen]; omega
      have ao2 : appOk 8 (([] : List Int) ++ lets) [v'] = true := by simp [appOk, maxLen]; omega
      simp only [f53s, f54s, f76, hk, Int.reduceEq, decide_true, decide_false, cond_true, cond_false, hb2, i0, i1, obind, e1, e2, sliceF_all, so, ao, ao1, ao2, guardB]
      cases ok with
      | false => exact Rel.no
      | true =>
        obtain ⟨rfl, hb⟩ := e3 rfl
        simp only [Bool.not_true, cond_false, List.nil_append]
        have hvy := hv.sub 1 y (by rw [hl]; rfl)
        rw [if_pos ⟨hk, rfl⟩] at hvy
        refine value_rel s c n y (lets ++ [v]) (depth + 1) (he.sub y (by rw [hl]; simp)) (by simpa using hvy) (fun z hz => ?_) (by simp; omega) (by omega)
        rcases List.mem_append.1 hz with hz | hz
        · exact hlb z hz
        · simp only [List.mem_singleton] at hz; rw [hz]; exact hb
    · -- the value of a let
      obtain ⟨hk, hl, h1, h2⟩ := h
      have hI : I64 e.n := by cases he; assumption
      unfold I64 at hI
      rw [wu64 h1 (by omega)] at h2
      have w1 : IntKind.i64.wrap ((List.length lets : Int) - 1) = (List.length lets : Int) - 1 := w64' (by omega) (by omega)
      have w2 : IntKind.i64.wrap ((List.length lets : Int) - 1 - e.n) = (List.length lets : Int) - 1 - e.n := w64' (by omega) (by omega)
      obtain ⟨z, hz⟩ : ∃ z, idx lets ((List.length lets : Int) - 1 - e.n) = some z := by
        refine ⟨lets[((List.length lets : Int) - 1 - e.n).toNat]'(by omega), ?_⟩
        rw [idx, decide_eq_true (by omega), cond_true, List.getElem?_eq_getElem]
      simp only [f53s, f54s, f77, hk, Int.reduceEq, decide_true, decide_false, cond_true, cond_false, w1, w2, hz, obind]
      exact Rel.yes (hlb z (List.mem_of_getElem? (idx_get hz)))
    · -- an address
      obtain ⟨hk, hl, h1, h2⟩ := h
      simp only [f53s, f54s, f68, hk, Int.reduceEq, decide_true, decide_false, cond_true, cond_false]
      refine Rel.yes ?_
      rw [w64' (by omega) (by omega)]
      unfold Bs; omega
    · -- what an address leads to
      obtain ⟨hk, x, hl⟩ := h
      have i0 : idx e.l 0 = some x := by rw [hl]; rfl
      obtain ⟨v, v', ok, e1, e2, e3⟩ := IH x 0 (by rw [hl]; rfl) (by omega)
      simp only [f53s, f54s, f78, hk, Int.reduceEq, decide_true, decide_false, cond_true, cond_false, hb2, i0, obind, e1, e2]
      cases ok with
      | false => exact Rel.no
      | true =>
        obtain ⟨rfl, hb⟩ := e3 rfl
        simp only [Bool.not_true, Bool.false_or, cond_false]
        cases hc : decide (v < 1) with
        | true => exact Rel.no
        | false => exact rel_read ⟨s, c⟩ _ _
    · -- a count
      obtain ⟨hk, hl, h1, h2⟩ := h
      simp only [f53s, f54s, f79, f124, hk, Int.reduceEq, decide_true, decide_false, cond_true, cond_false, hb2]
      cases hc : decide (e.n ≥ (List.length c : Int)) with
      | true => exact Rel.no
      | false =>
        simp only [decide_eq_false_iff_not] at hc
        obtain ⟨z, hz⟩ : ∃ z, idx c e.n = some z := by
          refine ⟨c[e.n.toNat]'(by omega), ?_⟩
          rw [idx, decide_eq_true h1, cond_true, List.getElem?_eq_getElem]
        simp only [cond_false, hz, obind]
        cases hb : f61 z with
        | false => simp only [f81_61, hb, Bool.not_false, cond_true]; exact Rel.no
        | true => simp only [f81_61, hb, Bool.not_true, cond_false]; exact Rel.yes ((f61_iff z).1 hb)
end Go.Proofs.Ytjjgmpmhfodmeaa
namespace Go.Proofs.Ytjjgmpmhfodmeaa
open Go Go.Sk

/-- The value: nothing, or a number of the base range. -/
theorem value_eq (s : List (List Int)) (c : List Int) {e : CE} (he : GE e) : ∃ v ok, f21 s c e = some (v, ok) ∧ f22 s c e = some (v, ok) ∧ (ok = true → Bs v ∧ may e 0 = true) ∧ (ok = false → v = 0) := by
  have h0 : I64 0 := by unfold I64; omega
  cases hm : may e 0 with
  | false =>
    refine ⟨0, false, ?_, ?_, by simp, by simp⟩
    · simp [f21, f13_eq he h0, hm]
    · simp [f22, f14_eq he h0, hm]
  | true =>
    obtain ⟨_, hv⟩ := may_v hm
    obtain ⟨v, v', ok, e1, e2, e3⟩ := value_rel s c 100 e [] 1 he hv (fun x hx => by simp at hx) (by simp) (by omega)
    cases ok with
    | false =>
      refine ⟨0, false, ?_, ?_, by simp, by simp⟩
      · simp [f21, f13_eq he h0, hm, e1]
      · simp [f22, f14_eq he h0, hm, e2]
    | true =>
      obtain ⟨rfl, hb⟩ := e3 rfl
      refine ⟨v, true, ?_, ?_, fun _ => ⟨hb, rfl⟩, by simp⟩
      · simp [f21, f13_eq he h0, hm, e1]
      · simp [f22, f14_eq he h0, hm, e2]

theorem sort31 : f48 [3, 1] = some [1, 3] := by
  simp [f48, guardB, List.mergeSort, List.MergeSort.Internal.splitInTwo]
theorem reads31 : f18 (f27 1 (f39 3 0) (f39 1 0)) = some [1, 3] := by
  have h1 : f13 (f27 1 (f39 3 0) (f39 1 0)) 64 = some true := by kernel_rfl
  have h2 : f47 100 [] (f27 1 (f39 3 0) (f39 1 0)) = some [3, 1] := by kernel_rfl
  have h3 : f49 [1, 3] = some [1, 3] := by kernel_rfl
  simp only [f18, letk, h1, h2, sort31, h3, obind, cond_true]
theorem awake : f20 = some true := by
  unfold f20
  rw [reads31]
  kernel_rfl

end Go.Proofs.Ytjjgmpmhfodmeaa
namespace Go.Proofs.Ytjjgmpmhfodmeaa
open Go Go.Sk

abbrev VF := Wk → CE → Option (Int × Bool)
/-- It has the same answer with whatever answers more. -/
def Mn {β : Type} (F : VF → Option β) : Prop := ∀ val val' : VF, (∀ w e r, val w e = some r → val' w e = some r) → ∀ r, F val = some r → F val' = some r
theorem Mn.const {β : Type} (o : Option β) : Mn fun _ => o := fun _ _ _ _ h => h
theorem Mn.val (w : Wk) (e : CE) : Mn fun val => val w e := fun _ _ h r hr => h w e r hr
theorem Mn.bind {α β : Type} {F : VF → Option α} {G : α → VF → Option β} (hF : Mn F) (hG : ∀ a, Mn (G a)) : Mn fun val => (F val).bind fun a => G a val := fun val val' h r hr => by
  obtain ⟨a, h1, h2⟩ := Option.bind_eq_some_iff.1 hr
  exact Option.bind_eq_some_iff.2 ⟨a, hF val val' h a h1, hG a val val' h r h2⟩
theorem Mn.cond {β : Type} (c : Bool) {F G : VF → Option β} (hF : Mn F) (hG : Mn G) : Mn fun val => bif c then F val else G val := by cases c <;> first | exact hG | exact hF
theorem Mn.guard {β : Type} (c : Bool) {F : VF → Option β} (hF : Mn F) : Mn fun val => guardB c (F val) := by cases c <;> first | exact Mn.const none | exact hF
theorem Mn.f70 (w : Wk) (e : CE) : Mn fun val => f70 val w e := by
  unfold Ytjjgmpmhfodmeaa.f70
  exact Mn.bind (Mn.const _) fun _ => Mn.bind (Mn.val _ _) fun _ => Mn.cond _ (Mn.const _) (Mn.const _)
theorem Mn.f71 (w : Wk) (e : CE) : Mn fun val => f71 val w e := by
  unfold Ytjjgmpmhfodmeaa.f71 letk
  exact Mn.bind (Mn.const _) fun _ => Mn.bind (Mn.val _ _) fun _ => Mn.const _
theorem Mn.f72 (w : Wk) (e : CE) : Mn fun val => f72 val w e := by
  unfold Ytjjgmpmhfodmeaa.f72
  exact Mn.bind (Mn.const _) fun _ => Mn.bind (Mn.val _ _) fun _ => Mn.cond _ (Mn.const _) (Mn.bind (Mn.const _) fun _ => Mn.bind (Mn.val _ _) fun _ => Mn.const _)
theorem Mn.f73 (w : Wk) (e : CE) : Mn fun val => f73 val w e := by
  unfold Ytjjgmpmhfodmeaa.f73
  exact Mn.bind (Mn.const _) fun _ => Mn.bind (Mn.val _ _) fun _ => Mn.cond _ (Mn.const _) (Mn.bind (Mn.const _) fun _ => Mn.bind (Mn.val _ _) fun _ => Mn.const _)
theorem Mn.f74 (w : Wk) (e : CE) : Mn fun val => f74 val w e := by
  unfold Ytjjgmpmhfodmeaa.f74
  exact Mn.bind (Mn.const _) fun _ => Mn.bind (Mn.val _ _) fun _ => Mn.cond _ (Mn.const _) (Mn.bind (Mn.const _) fun _ => Mn.bind (Mn.val _ _) fun _ => Mn.const _)
theorem Mn.f75 (w : Wk) (e : CE) : Mn fun val => f75 val w e := by
  unfold Ytjjgmpmhfodmeaa.f75
  exact Mn.bind (Mn.const _) fun _ => Mn.bind (Mn.val _ _) fun _ => Mn.const _
theorem Mn.f76 (w : Wk) (e : CE) : Mn fun val => f76 val w e := by
  unfold Ytjjgmpmhfodmeaa.f76
  exact Mn.bind (Mn.const _) fun _ => Mn.bind (Mn.val _ _) fun _ => Mn.cond _ (Mn.const _) (Mn.guard _ (Mn.guard _ (Mn.bind (Mn.const _) fun _ => Mn.bind (Mn.val _ _) fun _ => Mn.const _)))
theorem Mn.f78 (w : Wk) (e : CE) : Mn fun val => f78 val w e := by
  unfold Ytjjgmpmhfodmeaa.f78
  exact Mn.bind (Mn.const _) fun _ => Mn.bind (Mn.val _ _) fun _ => Mn.const _
theorem Mn.f53s (w : Wk) (e : CE) : Mn fun val => f53s val w e := by
  unfold Ytjjgmpmhfodmeaa.f53s
  have p : ∀ {F : VF → Option (Int × Bool)}, Mn F → Mn fun val => (F val).bind fun r => some (r.1, r.2) := fun h => Mn.bind h fun _ => Mn.const _
  exact Mn.cond _ (Mn.const _) (Mn.cond _ (Mn.const _) (Mn.cond _ (p (Mn.f70 w e)) (Mn.cond _ (p (Mn.f71 w e)) (Mn.cond _ (p (Mn.f72 w e)) (Mn.cond _ (p (Mn.f73 w e)) (Mn.cond _ (p (Mn.f73 w e)) (Mn.cond _ (p (Mn.f74 w e)) (Mn.cond _ (p (Mn.f75 w e)) (Mn.cond _ (p (Mn.f76 w e)) (Mn.cond _ (Mn.const _) (Mn.cond _ (Mn.const _) (Mn.cond _ (p (Mn.f78 w e)) (Mn.cond _ (Mn.const _) (Mn.const _))))))))))))))

theorem f53_succ : ∀ (n : Nat) (w : Wk) (e : CE) (r : Int × Bool), f53 n w e = some r → f53 (n + 1) w e = some r
  | 0, _, _, _, h => by cases h
  | n + 1, w, e, r, h => Mn.f53s w e (f53 n) (f53 (n + 1)) (f53_succ n) r h
theorem f53_mono {n m : Nat} (hnm : n ≤ m) {w : Wk} {e : CE} {r : Int × Bool} (h : f53 n w e = some r) : f53 m w e = some r := by
  induction m with
  | zero => have : n = 0 := by omega
            subst this; exact h
  | succ m ih =>
    by_cases hm : n = m + 1
    · subst hm; exact h
    · exact f53_succ m w e r (ih (by omega))

/-- e has the value r (a number, or none) in w. -/
def Vl (w : Wk) (e : CE) (r : Int × Bool) : Prop := ∃ n, f53 n w e = some r
theorem Vl.det {w : Wk} {e : CE} {r r' : Int × Bool} (h : Vl w e r) (h' : Vl w e r') : r = r' := by
  obtain ⟨n, h⟩ := h
  obtain ⟨m, h'⟩ := h'
  have a := f53_mono (Nat.le_max_left n m) h
  have b := f53_mono (Nat.le_max_right n m) h'
  exact Option.some.inj (a.symm.trans b)
theorem Vl.two {w w' : Wk} {e e' : CE} {r r' : Int × Bool} (h : Vl w e r) (h' : Vl w' e' r') : ∃ n, f53 n w e = some r ∧ f53 n w' e' = some r' := by
  obtain ⟨n, h⟩ := h
  obtain ⟨m, h'⟩ := h'
  exact ⟨max n m, f53_mono (Nat.le_max_left n m) h, f53_mono (Nat.le_max_right n m) h'⟩
theorem Vl.at {w : Wk} {e : CE} {lets : List Int} {depth : Int} {s : List (List Int)} {c : List Int} (hw : w = ⟨⟨s, c⟩, lets⟩) (he : GE e) (hv : V e (List.length lets : Int) depth) (hlb : LB lets) (hll : (List.length lets : Int) < depth) {n : Nat} (hn : 66 - depth ≤ n) {r : Int × Bool} (h : Vl w e r) : f53 n w e = some r ∧ (r.2 = true → Bs r.1) := by
  subst hw
  obtain ⟨v, v', ok, e1, e2, e3⟩ := value_rel s c n e lets depth he hv hlb hll hn
  have := h.det ⟨n, e1⟩
  subst this
  exact ⟨e1, fun hb => (e3 hb).2⟩
end Go.Proofs.Ytjjgmpmhfodmeaa
namespace Go.Proofs.Ytjjgmpmhfodmeaa
open Go Go.Sk

theorem i64_0 : I64 0 := by unfold I64; omega
/-- The value of a sound expression. -/
theorem f21_of (s : List (List Int)) (c : List Int) {e : CE} (he : GE e) (hm : may e 0 = true) : ∃ v ok, Vl ⟨⟨s, c⟩, []⟩ e (v, ok) ∧ f21 s c e = some (if ok = true then v else 0, ok) ∧ (ok = true → Bs v) := by
  obtain ⟨_, hv⟩ := may_v hm
  obtain ⟨v, v', ok, e1, e2, e3⟩ := value_rel s c 100 e [] 1 he hv (fun x hx => by simp at hx) (by simp) (by omega)
  refine ⟨v, ok, ⟨100, e1⟩, ?_, fun h => (e3 h).2⟩
  cases ok <;> simp [f21, f13_eq he i64_0, hm, e1]
theorem f21_vl (s : List (List Int)) (c : List Int) {e : CE} (he : GE e) (hm : may e 0 = true) {r : Int × Bool} (h : Vl ⟨⟨s, c⟩, []⟩ e r) : f21 s c e = some (if r.2 = true then r.1 else 0, r.2) := by
  obtain ⟨v', ok', h1, h2, _⟩ := f21_of s c he hm
  have := h.det h1
  subst this
  exact h2
/-- What is read in a slot. -/
def rdv (s : List (List Int)) (o k : Int) : Int × Bool := match rd s o k with | none => (0, false) | some x => (x, f61 x)
theorem f125_rdv (w : St) (o k : Int) : f125 w o k = some (rdv w.s o k) := by
  rw [f125_eq]; unfold rdv; cases rd w.s o k <;> rfl
def elemv (s : List (List Int)) (o off len : Int) (r : Int × Bool) : Int × Bool := if r.2 = true ∧ 0 ≤ r.1 ∧ r.1 < len then rdv s o (IntKind.i64.wrap (off + r.1)) else (0, false)

theorem Vl.step {w : Wk} {e : CE} {r : Int × Bool} {n : Nat} (h : f53s (f53 n) w e = some r) : Vl w e r := ⟨n + 1, h⟩
theorem bind2 (o : Option (Int × Bool)) : (Option.bind o fun r => some (r.1, r.2)) = o := by cases o <;> rfl

theorem f4344 {o off len : Int} (ho : I64 off) (hl : I64 len) : (f43 o && f44 off len) = (f45 o && f46 off len) := by
  unfold I64 at ho hl
  have w1 : 0 ≤ off → off < 16384 → IntKind.i64.wrap (16384 - off) = 16384 - off := fun h1 h2 => w64' (by omega) (by omega)
  have w2 : 0 ≤ off → off < 16384 → len ≤ 16384 → 1 ≤ len → IntKind.i64.wrap (off + len) = off + len := fun h1 h2 h3 h4 => w64' (by omega) (by omega)
  rw [Bool.eq_iff_iff]
  simp only [f43, f44, f45, f46, Bool.and_eq_true, decide_eq_true_eq]
  omega

end Go.Proofs.Ytjjgmpmhfodmeaa
namespace Go.Proofs.Ytjjgmpmhfodmeaa
open Go Go.Sk

def md (a b : Int) : Int := if Int.tmod a b ≠ 0 ∧ ¬ (Int.tmod a b < 0 ↔ b < 0) then Int.tmod a b + b else Int.tmod a b

end Go.Proofs.Ytjjgmpmhfodmeaa
namespace Go.Proofs.Ytjjgmpmhfodmeaa
open Go Go.Sk

/-- The values of the forms, by those of their parts. -/
def notv (r : Int × Bool) : Int × Bool := (IntKind.i64.wrap (1 - r.1), r.2 && f63 r.1 0 1)
def decv (t : Int) (r q : Int × Bool) : Int × Bool := if r.2 = true ∧ f63 r.1 0 1 = true ∧ r.1 ≠ t then (q.1, q.2 && f63 q.1 0 1) else (r.1, r.2 && f63 r.1 0 1)
def ifv (r q p : Int × Bool) : Int × Bool := if r.2 = true ∧ f63 r.1 0 1 = true then (if r.1 = 1 then q else p) else (0, false)

theorem Vl.not {w : Wk} {x : CE} {r : Int × Bool} (h : Vl w x r) : Vl w (f28 x) (notv r) := by
  obtain ⟨n, h⟩ := h
  refine Vl.step (n := n) ?_
  have i0 : idx [x] 0 = some x := rfl
  simp only [f53s, f28, f71, letk, Int.reduceEq, decide_true, decide_false, cond_true, cond_false, bind2, i0, obind, h]
  rfl
def tp (r : Int × Bool) : Int × Bool := (if r.2 = true then r.1 else 0, r.2)
end Go.Proofs.Ytjjgmpmhfodmeaa
namespace Go.Proofs.Ytjjgmpmhfodmeaa
open Go Go.Sk

mutual
/-- The let that is k further out than the innermost one is replaced by its value. -/
def rep (e : CE) (k v : Int) : CE :=
  match e with
  | .mk kind op n o off len lo hi l => if kind = 11 ∧ n = k then f26 v else .mk kind op n o off len lo hi (repL kind l 0 k v)
def repL (kind : Int) (l : List CE) (i : Int) (k v : Int) : List CE :=
  match l with
  | [] => []
  | x :: r => rep x (if kind = 10 ∧ i = 1 then k + 1 else k) v :: repL kind r (i + 1) k v
end
theorem V.len {e : CE} {lets depth : Int} (h : V e lets depth) : e.l.length ≤ 3 := by
  rcases fields_cases h.fields with h | h | h | h | h | h | h | h | h | h | h | h | h | h
  case inl => rw [h.2.1]; simp
  case inr.inl => rw [h.2.1]; simp
  case inr.inr.inl => obtain ⟨_, ⟨a, hl⟩, _⟩ := h; rw [hl]; simp
  case inr.inr.inr.inl => obtain ⟨_, ⟨a, hl⟩, _⟩ := h; rw [hl]; simp
  case inr.inr.inr.inr.inl => obtain ⟨_, ⟨a, b, hl⟩, _⟩ := h; rw [hl]; simp
  case inr.inr.inr.inr.inr.inl => obtain ⟨_, a, b, hl⟩ := h; rw [hl]; simp
  case inr.inr.inr.inr.inr.inr.inl => obtain ⟨_, a, b, hl⟩ := h; rw [hl]; simp
  case inr.inr.inr.inr.inr.inr.inr.inl => obtain ⟨_, a, b, c, hl⟩ := h; rw [hl]; simp
  case inr.inr.inr.inr.inr.inr.inr.inr.inl => obtain ⟨_, ⟨a, hl⟩, _⟩ := h; rw [hl]; simp
  case inr.inr.inr.inr.inr.inr.inr.inr.inr.inl => obtain ⟨_, a, b, hl⟩ := h; rw [hl]; simp
  case inr.inr.inr.inr.inr.inr.inr.inr.inr.inr.inl => rw [h.2.1]; simp
  case inr.inr.inr.inr.inr.inr.inr.inr.inr.inr.inr.inl => rw [h.2.1]; simp
  case inr.inr.inr.inr.inr.inr.inr.inr.inr.inr.inr.inr.inl => obtain ⟨_, a, hl⟩ := h; rw [hl]; simp
  case inr.inr.inr.inr.inr.inr.inr.inr.inr.inr.inr.inr.inr => rw [h.2.1]; simp

/-! ### The value of what is replaced -/
def LeO {β : Type} (o o' : Option β) : Prop := ∀ r, o = some r → o' = some r
theorem LeO.refl {β : Type} (o : Option β) : LeO o o := fun _ h => h
theorem LeO.bind {α β : Type} {o o' : Option α} {G G' : α → Option β} (h : LeO o o') (k : ∀ a, LeO (G a) (G' a)) : LeO (o.bind G) (o'.bind G') := fun r hr => by
  obtain ⟨a, h1, h2⟩ := Option.bind_eq_some_iff.1 hr
  exact Option.bind_eq_some_iff.2 ⟨a, h a h1, k a r h2⟩
theorem LeO.cond {β : Type} (c : Bool) {F F' G G' : Option β} (h : LeO F F') (k : LeO G G') : LeO (bif c then F else G) (bif c then F' else G') := by cases c <;> first | exact h | exact k
theorem LeO.guard {β : Type} {c c' : Bool} {F F' : Option β} (hc : c = true → c' = true) (h : LeO F F') : LeO (guardB c F) (guardB c' F') := by
  cases c
  · intro r hr; cases hr
  · rw [hc rfl]; exact h

theorem LeO.f70 {val : VF} {st : St} {L L' : List Int} {op n o off len lo hi : Int} {x x' : CE} (h : LeO (val ⟨st, L⟩ x) (val ⟨st, L'⟩ x')) : LeO (f70 val ⟨st, L⟩ ⟨3, op, n, o, off, len, lo, hi, [x]⟩) (f70 val ⟨st, L'⟩ ⟨3, op, n, o, off, len, lo, hi, [x']⟩) := by
  have i0 : idx [x] 0 = some x := rfl
  have i1 : idx [x'] 0 = some x' := rfl
  simp only [Ytjjgmpmhfodmeaa.f70, i0, i1, obind]
  exact LeO.bind h fun _ => LeO.refl _
theorem LeO.f71 {val : VF} {st : St} {L L' : List Int} {k op n o off len lo hi : Int} {x x' : CE} (h : LeO (val ⟨st, L⟩ x) (val ⟨st, L'⟩ x')) : LeO (f71 val ⟨st, L⟩ ⟨k, op, n, o, off, len, lo, hi, [x]⟩) (f71 val ⟨st, L'⟩ ⟨k, op, n, o, off, len, lo, hi, [x']⟩) := by
  have i0 : idx [x] 0 = some x := rfl
  have i1 : idx [x'] 0 = some x' := rfl
  simp only [Ytjjgmpmhfodmeaa.f71, i0, i1, obind]
  exact LeO.bind h fun _ => LeO.refl _
theorem LeO.f75 {val : VF} {st : St} {L L' : List Int} {k op n o off len lo hi : Int} {x x' : CE} (h : LeO (val ⟨st, L⟩ x) (val ⟨st, L'⟩ x')) : LeO (f75 val ⟨st, L⟩ ⟨k, op, n, o, off, len, lo, hi, [x]⟩) (f75 val ⟨st, L'⟩ ⟨k, op, n, o, off, len, lo, hi, [x']⟩) := by
  have i0 : idx [x] 0 = some x := rfl
  have i1 : idx [x'] 0 = some x' := rfl
  simp only [Ytjjgmpmhfodmeaa.f75, i0, i1, obind]
  exact LeO.bind h fun _ => LeO.refl _
theorem LeO.f78 {val : VF} {st : St} {L L' : List Int} {k op n o off len lo hi : Int} {x x' : CE} (h : LeO (val ⟨st, L⟩ x) (val ⟨st, L'⟩ x')) : LeO (f78 val ⟨st, L⟩ ⟨k, op, n, o, off, len, lo, hi, [x]⟩) (f78 val ⟨st, L'⟩ ⟨k, op, n, o, off, len, lo, hi, [x']⟩) := by
  have i0 : idx [x] 0 = some x := rfl
  have i1 : idx [x'] 0 = some x' := rfl
  simp only [Ytjjgmpmhfodmeaa.f78, i0, i1, obind]
  exact LeO.bind h fun _ => LeO.refl _
theorem LeO.f72 {val : VF} {st : St} {L L' : List Int} {k op n o off len lo hi : Int} {x x' y y' : CE} (h : LeO (val ⟨st, L⟩ x) (val ⟨st, L'⟩ x')) (g : LeO (val ⟨st, L⟩ y) (val ⟨st, L'⟩ y')) : LeO (f72 val ⟨st, L⟩ ⟨k, op, n, o, off, len, lo, hi, [x, y]⟩) (f72 val ⟨st, L'⟩ ⟨k, op, n, o, off, len, lo, hi, [x', y']⟩) := by
  have i0 : idx [x, y] 0 = some x := rfl
  have i1 : idx [x', y'] 0 = some x' := rfl
  have j0 : idx [x, y] 1 = some y := rfl
  have j1 : idx [x', y'] 1 = some y' := rfl
  simp only [Ytjjgmpmhfodmeaa.f72, i0, i1, j0, j1, obind]
  exact LeO.bind h fun _ => LeO.cond _ (LeO.refl _) (LeO.bind g fun _ => LeO.refl _)
theorem LeO.f73 {val : VF} {st : St} {L L' : List Int} {k op n o off len lo hi : Int} {x x' y y' : CE} (h : LeO (val ⟨st, L⟩ x) (val ⟨st, L'⟩ x')) (g : LeO (val ⟨st, L⟩ y) (val ⟨st, L'⟩ y')) : LeO (f73 val ⟨st, L⟩ ⟨k, op, n, o, off, len, lo, hi, [x, y]⟩) (f73 val ⟨st, L'⟩ ⟨k, op, n, o, off, len, lo, hi, [x', y']⟩) := by
  have i0 : idx [x, y] 0 = some x := rfl
  have i1 : idx [x', y'] 0 = some x' := rfl
  have j0 : idx [x, y] 1 = some y := rfl
  have j1 : idx [x', y'] 1 = some y' := rfl
  simp only [Ytjjgmpmhfodmeaa.f73, i0, i1, j0, j1, obind]
  exact LeO.bind h fun _ => LeO.cond _ (LeO.refl _) (LeO.bind g fun _ => LeO.refl _)
theorem LeO.f74 {val : VF} {st : St} {L L' : List Int} {k op n o off len lo hi : Int} {x x' y y' z z' : CE} (h : LeO (val ⟨st, L⟩ x) (val ⟨st, L'⟩ x')) (g : LeO (val ⟨st, L⟩ y) (val ⟨st, L'⟩ y')) (g' : LeO (val ⟨st, L⟩ z) (val ⟨st, L'⟩ z')) : LeO (f74 val ⟨st, L⟩ ⟨k, op, n, o, off, len, lo, hi, [x, y, z]⟩) (f74 val ⟨st, L'⟩ ⟨k, op, n, o, off, len, lo, hi, [x', y', z']⟩) := by
  have i0 : idx [x, y, z] 0 = some x := rfl
  have i1 : idx [x', y', z'] 0 = some x' := rfl
  have j0 : idx [x, y, z] 1 = some y := rfl
  have j1 : idx [x', y', z'] 1 = some y' := rfl
  have k0 : idx [x, y, z] 2 = some z := rfl
  have k1 : idx [x', y', z'] 2 = some z' := rfl
  simp only [Ytjjgmpmhfodmeaa.f74, i0, i1, obind]
  refine LeO.bind h fun q => ?_
  cases hq : (!q.2 || !f63 q.1 0 1) with
  | true => exact LeO.refl _
  | false =>
    have hin : f63 q.1 0 1 = true := by
      cases h1 : f63 q.1 0 1 with
      | true => rfl
      | false => rw [h1] at hq; simp at hq
    rcases in01.1 hin with h | h
    · have w2 : IntKind.i64.wrap (2 - q.1) = 2 := by rw [h]; rfl
      simp only [cond_false, w2, k0, k1, obind]
      exact LeO.bind g' fun _ => LeO.refl _
    · have w1 : IntKind.i64.wrap (2 - q.1) = 1 := by rw [h]; rfl
      simp only [cond_false, w1, j0, j1, obind]
      exact LeO.bind g fun _ => LeO.refl _

end Go.Proofs.Ytjjgmpmhfodmeaa
namespace Go.Proofs.Ytjjgmpmhfodmeaa
open Go Go.Sk

/-! ### Sorted without repetition -/
theorem strict_ext : ∀ {a b : List Int}, a.Pairwise (· < ·) → b.Pairwise (· < ·) → (∀ x, x ∈ a ↔ x ∈ b) → a = b
  | [], [], _, _, _ => rfl
  | [], y :: b, _, _, h => by have := (h y).2 (by simp); simp at this
  | x :: a, [], _, _, h => by have := (h x).1 (by simp); simp at this
  | x :: a, y :: b, ha, hb, h => by
    have ha' := List.pairwise_cons.1 ha
    have hb' := List.pairwise_cons.1 hb
    have hxy : x = y := by
      have h1 := (h x).1 (by simp)
      have h2 := (h y).2 (by simp)
      simp only [List.mem_cons] at h1 h2
      rcases h1 with h1 | h1
      · exact h1
      · rcases h2 with h2 | h2
        · exact h2.symm
        · have := hb'.1 x h1; have := ha'.1 y h2; omega
    subst hxy
    rw [strict_ext ha'.2 hb'.2 fun z => ?_]
    constructor
    · intro hz
      have h1 := ha'.1 z hz
      have h2 := (h z).1 (by simp [hz])
      simp only [List.mem_cons] at h2
      rcases h2 with h2 | h2
      · omega
      · exact h2
    · intro hz
      have h1 := hb'.1 z hz
      have h2 := (h z).2 (by simp [hz])
      simp only [List.mem_cons] at h2
      rcases h2 with h2 | h2
      · omega
      · exact h2
theorem upto_strict {d : Array Int} (hd : ∀ i j, i ≤ j → j < d.size → d[i]! ≤ d[j]!) : ∀ m, m ≤ d.size → (Lib.compactUpTo d m).Pairwise (· < ·) ∧ ∀ x, x ∈ Lib.compactUpTo d m ↔ ∃ j, j < m ∧ d[j]! = x
  | 0, _ => by simp [Lib.compactUpTo]
  | m + 1, hm => by
    obtain ⟨h1, h2⟩ := upto_strict hd m (by omega)
    rw [Lib.compactUpTo_succ]
    by_cases hk : Lib.keeps d m = true
    · rw [if_pos hk]
      constructor
      · rw [List.pairwise_append]
        refine ⟨h1, by simp, fun x hx y hy => ?_⟩
        simp only [List.mem_singleton] at hy
        subst hy
        obtain ⟨j, hj, rfl⟩ := (h2 x).1 hx
        have a := hd j (m - 1) (by omega) (by omega)
        have b := hd (m - 1) m (by omega) (by omega)
        simp only [Lib.keeps, decide_eq_true_eq] at hk
        omega
      · intro x
        simp only [List.mem_append, List.mem_singleton, h2]
        constructor
        · rintro (⟨j, hj, rfl⟩ | rfl)
          · exact ⟨j, by omega, rfl⟩
          · exact ⟨m, by omega, rfl⟩
        · rintro ⟨j, hj, rfl⟩
          by_cases hjm : j = m
          · subst hjm; exact .inr rfl
          · exact .inl ⟨j, by omega, rfl⟩
    · rw [if_neg hk, List.append_nil]
      refine ⟨h1, fun x => ?_⟩
      simp only [Lib.keeps, decide_eq_true_eq, not_or, Decidable.not_not] at hk
      rw [h2]
      constructor
      · rintro ⟨j, hj, rfl⟩; exact ⟨j, by omega, rfl⟩
      · rintro ⟨j, hj, rfl⟩
        by_cases hjm : j = m
        · subst hjm; exact ⟨j - 1, by omega, hk.2.symm⟩
        · exact ⟨j, by omega, rfl⟩
theorem compact_strict {l : List Int} (h : l.Pairwise (· ≤ ·)) : (Lib.compact l).Pairwise (· < ·) ∧ ∀ x, x ∈ Lib.compact l ↔ x ∈ l := by
  have := upto_strict (d := l.toArray) (fun i j hij hj => by
    simp only [List.size_toArray] at hj
    rw [getElem!_pos l.toArray i (by simp; omega), getElem!_pos l.toArray j (by simpa using hj)]
    simp only [List.getElem_toArray]
    rcases Nat.lt_or_ge i j with h' | h'
    · exact List.pairwise_iff_getElem.1 h i j (by omega) hj h'
    · have : i = j := by omega
      subst this; omega) l.length (by simp)
  refine ⟨this.1, fun x => ?_⟩
  unfold Lib.compact
  rw [this.2 x, List.mem_iff_getElem]
  constructor
  · rintro ⟨j, hj, rfl⟩
    exact ⟨j, hj, by rw [getElem!_pos l.toArray j (by simpa using hj)]; simp⟩
  · rintro ⟨j, hj, rfl⟩
    exact ⟨j, hj, by rw [getElem!_pos l.toArray j (by simpa using hj)]; simp⟩
theorem sort_pw (l : List Int) : (l.mergeSort fun x y => decide (x ≤ y)).Pairwise (· ≤ ·) := by
  have := List.pairwise_mergeSort (le := fun x y : Int => decide (x ≤ y)) (fun a b c h1 h2 => by simp only [decide_eq_true_eq] at *; omega) (fun a b => by simp; omega) l
  exact this.imp (by simp)

/-! ### The objects of an expression -/
mutual
def cl (e : CE) : List Int :=
  match e with
  | .mk kind op n o off len lo hi l => (if kind = 2 ∨ kind = 3 then [o] else []) ++ clL l
def clL (l : List CE) : List Int :=
  match l with
  | [] => []
  | x :: r => cl x ++ clL r
end
theorem cl_eq (e : CE) : cl e = (if e.kind = 2 ∨ e.kind = 3 then [e.o] else []) ++ clL e.l := by cases e; rfl

theorem cl_len : ∀ (m : Nat), (∀ (e : CE) (k d left r : Int), SizeOf.sizeOf e ≤ m → snd e k d left = some r → ((cl e).length : Int) ≤ left - r) ∧
    (∀ (kind : Int) (l : List CE) (i k d left r : Int), SizeOf.sizeOf l ≤ m → sndL kind l i k d left = some r → ((clL l).length : Int) ≤ left - r)
  | 0 => by
    constructor
    · intro e k d left r h; cases e; simp at h
    · intro kind l i k d left r h; cases l <;> simp at h
  | m + 1 => by
    obtain ⟨ih1, ih2⟩ := cl_len m
    constructor
    · intro e k d left r hs h
      cases e with
      | mk kind op n o off len lo hi l =>
        simp only [snd] at h
        split at h
        · cases h
        · have := ih2 kind l 0 k d (left - 1) r (by simp at hs; omega) h
          simp only [cl, List.length_append]
          split <;> simp <;> omega
    · intro kind l i k d left r hs h
      cases l with
      | nil => simp only [sndL, Option.some.injEq] at h; subst h; simp [clL]
      | cons x l =>
        simp only [sndL] at h
        split at h
        · cases h
        · rename_i left' hx
          have a := ih1 x _ (d + 1) left left' (by simp at hs; omega) hx
          have b := ih2 kind l (i + 1) k d left' r (by simp at hs; omega) h
          simp only [clL, List.length_append]
          omega

theorem V.obj {e : CE} {lets depth : Int} (h : V e lets depth) (hk : e.kind = 2 ∨ e.kind = 3) : 0 ≤ e.o ∧ e.o < 2048 := by
  have := fields_cases h.fields
  omega

theorem ao (a b : List Int) (h : a.length + b.length ≤ 10000) : appOk 8 a b = true := by
  unfold appOk maxLen
  rw [decide_eq_true (by omega), decide_eq_true (by omega)]
  rfl

theorem f47_loop {rec : List Int → CE → Option (List Int)} {l0 : List Int} {e : CE} (hrec : ∀ x ∈ e.l, ∀ acc : List Int, acc.length + (cl x).length ≤ 1000 → rec acc x = some (acc ++ cl x)) (hlen : e.l.length ≤ 3) :
    ∀ (r : List CE) (i : Nat) (acc : List Int), e.l.drop i = r → acc.length + (clL r).length ≤ 1000 → f47s_l1 rec l0 e (r.length + 1) (i : Int) acc = some (acc ++ clL r) := by
  intro r
  induction r with
  | nil =>
    intro i acc hr ha
    have := drop_end hr
    have hc : decide ((i : Int) < (List.length e.l : Int)) = false := decide_eq_false (by omega)
    rw [List.length_nil, Nat.zero_add, f47s_l1, hc, cond_false]
    simp [clL]
  | cons x r ih =>
    intro i acc hr ha
    have hlt := drop_lt hr
    have hc : decide ((i : Int) < (List.length e.l : Int)) = true := decide_eq_true (by omega)
    have hx : x ∈ e.l := List.mem_of_mem_drop (by rw [hr]; simp)
    have hwi : IntKind.i64.wrap ((i : Int) + 1) = ((i + 1 : Nat) : Int) := by rw [w64' (by omega) (by omega)]; omega
    simp only [clL, List.length_append] at ha
    rw [List.length_cons, f47s_l1, hc, cond_true, idx_drop hr, obind, hrec x hx acc (by omega), obind, hwi]
    rw [ih (i + 1) _ (drop_succ hr) (by simp; omega)]
    simp [clL]
theorem f47_eq : ∀ (n : Nat) (e : CE) (lets depth : Int) (acc : List Int), V e lets depth → 66 - depth ≤ n → acc.length + (cl e).length ≤ 1000 → f47 n acc e = some (acc ++ cl e)
  | 0, e, lets, depth, acc, hv, hn, _ => by have := hv.depth; omega
  | n + 1, e, lets, depth, acc, hv, hn, ha => by
    show f47s (f47 n) acc e = _
    have hl := hv.len
    have e1 : (Int.toNat ((List.length e.l : Int) - 0) + 1) = e.l.length + 1 := by omega
    have L := f47_loop (rec := f47 n) (l0 := acc) (e := e) (fun x hx acc' ha' => by
      obtain ⟨i, hi⟩ := List.mem_iff_getElem?.1 hx
      exact f47_eq n x _ (depth + 1) acc' (hv.sub i x hi) (by omega) ha') hl e.l 0
    unfold f47s
    simp only [letk]
    rw [e1]
    rw [cl_eq] at ha ⊢
    by_cases hk : e.kind = 2 ∨ e.kind = 3
    · have hb : (decide (e.kind = 2) || decide (e.kind = 3)) = true := by simpa using hk
      rw [if_pos hk] at ha ⊢
      simp only [List.length_append, List.length_singleton] at ha
      rw [hb, cond_true, ao acc [e.o] (by simp; omega)]
      have := L (acc ++ [e.o]) rfl (by simp; omega)
      simpa [guardB] using this
    · have hb : (decide (e.kind = 2) || decide (e.kind = 3)) = false := by
        rw [Bool.eq_false_iff]; intro h; exact hk (by simpa using h)
      rw [if_neg hk] at ha ⊢
      simp only [List.nil_append] at ha ⊢
      rw [hb, cond_false]
      have := L acc rfl ha
      simpa using this

theorem f50_loop {rec : CE → Option (List Int)} {e : CE} {K : List Int → Option (List Int)} (hrec : ∀ x ∈ e.l, rec x = some (cl x)) (hlen : e.l.length ≤ 3) :
    ∀ (r : List CE) (i n : Nat) (acc : List Int), e.l.drop i = r → r.length < n → acc.length + (clL r).length ≤ 1000 → f50s_l1 rec e K n (i : Int) acc = K (acc ++ clL r) := by
  intro r
  induction r with
  | nil =>
    intro i n acc hr hn ha
    obtain ⟨n, rfl⟩ : ∃ k, n = k + 1 := ⟨n - 1, by omega⟩
    have := drop_end hr
    have hc : decide ((i : Int) < (List.length e.l : Int)) = false := decide_eq_false (by omega)
    rw [f50s_l1, hc, cond_false]
    simp [clL]
  | cons x r ih =>
    intro i n acc hr hn ha
    obtain ⟨n, rfl⟩ : ∃ k, n = k + 1 := ⟨n - 1, by omega⟩
    have hlt := drop_lt hr
    have hc : decide ((i : Int) < (List.length e.l : Int)) = true := decide_eq_true (by omega)
    have hx : x ∈ e.l := List.mem_of_mem_drop (by rw [hr]; simp)
    have hwi : IntKind.i64.wrap ((i : Int) + 1) = ((i + 1 : Nat) : Int) := by rw [w64' (by omega) (by omega)]; omega
    simp only [clL, List.length_append] at ha
    simp only [List.length_cons] at hn
    rw [f50s_l1, hc, cond_true, idx_drop hr, obind, hrec x hx, obind, hwi, ao acc (cl x) (by omega)]
    simp only [guardB, cond_true]
    rw [ih (i + 1) n _ (drop_succ hr) (by omega) (by simp; omega)]
    simp [clL]
theorem clL_mem {x : CE} : ∀ {l : List CE}, x ∈ l → (cl x).length ≤ (clL l).length
  | [], hx => by simp at hx
  | y :: l, hx => by
    simp only [List.mem_cons] at hx
    simp only [clL, List.length_append]
    rcases hx with rfl | hx
    · omega
    · have := clL_mem hx; omega
theorem gt {α : Type} (x : Option α) : guardB true x = x := rfl
theorem f50s_eq {rec : CE → Option (List Int)} {e : CE} (hl : e.l.length ≤ 3) (ha : (cl e).length ≤ 1000) (hrec : ∀ x ∈ e.l, rec x = some (cl x)) : f50s rec e = some (cl e) := by
  unfold f50s
  generalize hN : (9223372036854775808 : Nat) = N
  have hlen : (cl e).length = (if e.kind = 2 ∨ e.kind = 3 then [e.o] else []).length + (clL e.l).length := by rw [cl_eq]; simp
  have L := fun K acc i0 (h0 : i0 = ((0 : Nat) : Int)) hn' => h0 ▸ f50_loop (rec := rec) (e := e) (K := K) hrec hl e.l 0 N acc rfl hn'
  simp only [letk]
  rw [cl_eq]
  by_cases hk : e.kind = 2 ∨ e.kind = 3
  · have hb : (decide (e.kind = 2) || decide (e.kind = 3)) = true := by simpa using hk
    rw [if_pos hk] at hlen ⊢
    simp only [List.length_singleton] at hlen
    rw [hb, cond_true, ao [] [e.o] (by simp)]
    rw [gt]
    exact L _ _ _ rfl (by omega) (by simp; omega)
  · have hb : (decide (e.kind = 2) || decide (e.kind = 3)) = false := by
      rw [Bool.eq_false_iff]; intro h; exact hk (by simpa using h)
    rw [if_neg hk] at hlen ⊢
    simp only [List.length_nil] at hlen
    rw [hb, cond_false]
    exact L _ _ _ rfl (by omega) (by simp; omega)
theorem f50_eq : ∀ (n : Nat) (e : CE) (lets depth : Int), V e lets depth → 66 - depth ≤ n → (cl e).length ≤ 1000 → f50 n e = some (cl e)
  | 0, e, lets, depth, hv, hn, _ => by have := hv.depth; omega
  | n + 1, e, lets, depth, hv, hn, ha => by
    have hd := hv.depth
    have h1 : (clL e.l).length ≤ (cl e).length := by rw [cl_eq]; simp
    have : f50 (n + 1) = f50s (f50 n) := by rw [f50]
    rw [this]
    refine f50s_eq hv.len ha fun x hx => ?_
    obtain ⟨i, hi⟩ := List.mem_iff_getElem?.1 hx
    exact f50_eq n x _ (depth + 1) (hv.sub i x hi) (by omega) (by have := clL_mem hx; omega)

/-! ### The reference: from 0 on, each that occurs -/
theorem f19_in {C : List Int} {o : Int} {acc : List Int} {K : List Int → Option (List Int)} (hC : C.length ≤ 1000) (ha : acc.length ≤ 2048) :
    ∀ (r : List Int) (i n : Nat), C.drop i = r → r.length < n → f19_l2 C o acc K n (i : Int) = K (if o ∈ r then acc ++ [o] else acc) := by
  intro r
  induction r with
  | nil =>
    intro i n hr hn
    obtain ⟨n, rfl⟩ : ∃ k, n = k + 1 := ⟨n - 1, by omega⟩
    have := drop_end hr
    have hc : decide ((i : Int) < (List.length C : Int)) = false := decide_eq_false (by omega)
    rw [f19_l2, hc, cond_false]
    simp
  | cons x r ih =>
    intro i n hr hn
    obtain ⟨n, rfl⟩ : ∃ k, n = k + 1 := ⟨n - 1, by omega⟩
    have hlt := drop_lt hr
    have hc : decide ((i : Int) < (List.length C : Int)) = true := decide_eq_true (by omega)
    have hwi : IntKind.i64.wrap ((i : Int) + 1) = ((i + 1 : Nat) : Int) := by rw [w64' (by omega) (by omega)]; omega
    simp only [List.length_cons] at hn
    rw [f19_l2, hc, cond_true, idx_drop hr, obind, ao acc [o] (by simp; omega), hwi]
    simp only [guardB, cond_true]
    by_cases hx : x = o
    · subst hx
      simp
    · rw [decide_eq_false hx, cond_false, ih (i + 1) n (drop_succ hr) (by omega)]
      have : o ≠ x := fun h => hx h.symm
      simp [this]

def fl (C : List Int) (o d : Nat) : List Int := ((List.range' o d).map Int.ofNat).filter fun x => decide (x ∈ C)
theorem f19_out {C : List Int} {K : List Int → Option (List Int)} (hC : C.length ≤ 1000) : ∀ (d o n : Nat) (acc : List Int) (oi : Int), oi = (o : Int) → o + d = 2048 → d < n → acc.length ≤ o → f19_l1 C K n oi acc = K (acc ++ fl C o d)
  | 0, o, n, acc, oi, hoi, h1, h2, h3 => by
    obtain ⟨n, rfl⟩ : ∃ k, n = k + 1 := ⟨n - 1, by omega⟩
    have hc : decide (oi < 2048) = false := decide_eq_false (by omega)
    rw [f19_l1, hc, cond_false]
    simp [fl]
  | d + 1, o, n, acc, oi, hoi, h1, h2, h3 => by
    obtain ⟨n, rfl⟩ : ∃ k, n = k + 1 := ⟨n - 1, by omega⟩
    have hc : decide (oi < 2048) = true := decide_eq_true (by omega)
    have hwi : IntKind.i64.wrap (oi + 1) = ((o + 1 : Nat) : Int) := by rw [w64' (by omega) (by omega)]; omega
    rw [f19_l1, hc, cond_true]
    generalize hN : (9223372036854775808 : Nat) = N
    simp only [letk]
    have := f19_in (C := C) (o := oi) (acc := acc) (K := fun l49 => f19_l1 C K n (IntKind.i64.wrap (oi + 1)) l49) hC (by omega) C 0 N rfl (by omega)
    have i0 : (0 : Int) = ((0 : Nat) : Int) := rfl
    rw [i0, this]
    have e1 : fl C o (d + 1) = (if oi ∈ C then [oi] else []) ++ fl C (o + 1) d := by
      rw [hoi]
      by_cases h : (o : Int) ∈ C <;> simp [fl, List.range'_succ, h]
    rw [e1]
    by_cases hin : oi ∈ C
    · rw [if_pos hin, if_pos hin, f19_out hC d (o + 1) n _ _ hwi (by omega) (by omega) (by simp; omega), List.append_assoc]
    · rw [if_neg hin, if_neg hin, f19_out hC d (o + 1) n _ _ hwi (by omega) (by omega) (by omega), List.nil_append]
theorem fl_strict (C : List Int) (o d : Nat) : (fl C o d).Pairwise (· < ·) := by
  unfold fl
  refine List.Pairwise.filter _ ?_
  rw [List.pairwise_map]
  have := List.pairwise_lt_range' (s := o) (n := d)
  exact this.imp (fun h => by simpa using h)
theorem fl_mem (C : List Int) (d : Nat) (x : Int) : x ∈ fl C 0 d ↔ x ∈ C ∧ 0 ≤ x ∧ x < d := by
  simp only [fl, List.mem_filter, List.mem_map, List.mem_range'_1, decide_eq_true_eq]
  constructor
  · rintro ⟨⟨a, h1, rfl⟩, h2⟩
    exact ⟨h2, by simp, by simp; omega⟩
  · rintro ⟨h1, h2, h3⟩
    exact ⟨⟨x.toNat, by omega, by simp; omega⟩, h1⟩

theorem cl_obj : ∀ (m : Nat) (e : CE) (lets depth : Int), SizeOf.sizeOf e ≤ m → V e lets depth → ∀ x ∈ cl e, 0 ≤ x ∧ x < 2048
  | 0, e, _, _, h, _ => by cases e; simp at h
  | m + 1, e, lets, depth, h, hv => fun x hx => by
    have mem : ∀ {l : List CE}, x ∈ clL l → ∃ y ∈ l, x ∈ cl y := by
      intro l
      induction l with
      | nil => intro h; simp [clL] at h
      | cons y l ih =>
        intro h
        simp only [clL, List.mem_append] at h
        rcases h with h | h
        · exact ⟨y, by simp, h⟩
        · obtain ⟨z, h1, h2⟩ := ih h
          exact ⟨z, by simp [h1], h2⟩
    rw [cl_eq, List.mem_append] at hx
    rcases hx with hx | hx
    · split at hx
      · rename_i hk
        simp only [List.mem_singleton] at hx
        subst hx
        exact hv.obj hk
      · simp at hx
    · obtain ⟨y, h1, h2⟩ := mem hx
      obtain ⟨i, hi⟩ := List.mem_iff_getElem?.1 h1
      have : SizeOf.sizeOf y < SizeOf.sizeOf e := by
        have := List.sizeOf_lt_of_mem h1
        cases e; simp at this ⊢; omega
      exact cl_obj m y _ _ (by omega) (hv.sub i y hi) x h2

theorem reads_eq {e : CE} (he : GE e) : ∃ R : List Int, f18 e = some R ∧ f19 e = some R ∧ R.length ≤ 2048 := by
  have i64 : I64 64 := by unfold I64; omega
  unfold f18 f19
  rw [f13_eq he i64, f14_eq he i64]
  cases hm : may e 64 with
  | false =>
    refine ⟨[], ?_, ?_, by simp⟩
    · simp [f48, f49, Lib.compact, Lib.compactUpTo, guardB, letk]
    · simp
  | true =>
    obtain ⟨_, hv⟩ := may_v hm
    have hlen : (cl e).length ≤ 256 := by
      simp only [may, Bool.and_eq_true] at hm
      obtain ⟨r, hr⟩ := Option.isSome_iff_exists.1 hm.2
      have h1 := (cl_len _).1 e _ _ _ _ (Nat.le_refl _) hr
      have h2 := (snd_nonneg _).1 e _ _ _ _ (Nat.le_refl _) hr
      omega
    have h47 := f47_eq 100 e 64 1 [] hv (by omega) (by simp; omega)
    have h50 := f50_eq 100 e 64 1 hv (by omega) (by omega)
    refine ⟨fl (cl e) 0 2048, ?_, ?_, ?_⟩
    · have hg : decide ((cl e).length < 4611686018427387904) = true := decide_eq_true (by omega)
      have hs := compact_strict (sort_pw (cl e))
      have heq : Lib.compact ((cl e).mergeSort fun x y => decide (x ≤ y)) = fl (cl e) 0 2048 := strict_ext hs.1 (fl_strict _ _ _) fun x => by
        rw [hs.2, fl_mem, List.mem_mergeSort]
        exact ⟨fun h => ⟨h, by have := cl_obj _ e _ _ (Nat.le_refl _) hv x h; omega⟩, fun h => h.1⟩
      simp only [letk, obind, cond_true, h47, List.nil_append, f48, f49, hg]
      rw [gt, obind, heq]
    · have h19 := f19_out (C := cl e) (K := fun l => some l) (by omega) 2048 0 9223372036854775808 [] 0 rfl rfl (by omega) (by simp)
      simp only [obind, Bool.not_true, cond_false, h50, letk]
      rw [h19]
      rfl
    · unfold fl
      refine Nat.le_trans (List.length_filter_le _ _) ?_
      simp

/-- A place as an argument. -/
structure GP (p : Place) : Prop where
  k : U8 p.kind
  o : I64 p.o
  off : I64 p.off
  len : I64 p.len
  e : ∀ x ∈ p.e, GE x
  n : p.e.length ≤ 9223372036854775807

def oneOk (l : List CE) : Bool := match l with | [x] => may x 0 | _ => false
/-- What the reference says of a place. -/
def placeOk (p : Place) : Bool :=
  bif decide (p.kind = 1) then ((f45 p.o && f46 p.off 1) && decide (p.len = 0)) && decide ((List.length p.e : Int) = 0)
  else bif decide (p.kind = 2) then (f45 p.o && f46 p.off p.len) && oneOk p.e
  else (((decide (p.kind = 3) && decide (p.o = 0)) && decide (p.off = 0)) && decide (p.len = 0)) && oneOk p.e
theorem one_el {l : List CE} (h : ∀ x ∈ l, GE x) (b : Bool) {F : CE → Option Bool} (hF : ∀ x ∈ l, F x = some (may x 0)) : (bif (b && decide ((List.length l : Int) = 1)) then (Option.bind (idx l 0) fun x => Option.bind (F x) fun r => some r) else some false) = some (b && oneOk l) := by
  match l, h, hF with
  | [], _, _ => cases b <;> rfl
  | [x], h, hF =>
    have i0 : idx [x] 0 = some x := rfl
    rw [i0, obind, hF x (by simp), obind]
    cases b <;> rfl
  | x :: y :: l, _, _ =>
    have : decide ((List.length (x :: y :: l) : Int) = 1) = false := decide_eq_false (by simp; omega)
    rw [this]
    cases b <;> rfl
theorem place_eq {p : Place} (hp : GP p) : f15 p = some (placeOk p) ∧ f16 p = some (placeOk p) := by
  have h1 : I64 1 := by unfold I64; omega
  have e13 := one_el hp.e true (F := fun x => f13 x 0) (fun x hx => f13_eq (hp.e x hx) i64_0)
  have e14 := fun b => one_el hp.e b (F := fun x => f14 x 0) (fun x hx => f14_eq (hp.e x hx) i64_0)
  rw [Bool.true_and, Bool.true_and] at e13
  constructor
  · unfold f15 placeOk
    rw [e13, obind, f4344 (o := p.o) hp.off h1, f4344 (o := p.o) hp.off hp.len]
    cases decide (p.kind = 1) <;> cases decide (p.kind = 2) <;> rfl
  · unfold f16 placeOk
    rw [e14, e14]
    cases decide (p.kind = 1) <;> cases decide (p.kind = 2) <;> cases decide (p.kind = 3) <;> simp

end Go.Proofs.Ytjjgmpmhfodmeaa
namespace Go.Proofs.Ytjjgmpmhfodmeaa
open Go Go.Sk

/-- A row with a value in its slot k, if it is row o. -/
def prow (i : Nat) (o k v : Int) (l : List Int) : List Int := l.mapIdx fun j x => if (i : Int) = o ∧ (j : Int) = k then v else x
/-- A store with a value in a slot. -/
def putD (s : List (List Int)) (o k v : Int) : List (List Int) := s.mapIdx fun i l => prow i o k v l
theorem prow_len (i : Nat) (o k v : Int) (l : List Int) : (prow i o k v l).length = l.length := by simp [prow]
theorem putD_len (s : List (List Int)) (o k v : Int) : (putD s o k v).length = s.length := by simp [putD]
theorem prow_get (i : Nat) (o k v : Int) (l : List Int) (j : Nat) : (prow i o k v l)[j]? = (l[j]?).map fun x => if (i : Int) = o ∧ (j : Int) = k then v else x := by
  unfold prow; rw [List.getElem?_mapIdx]
theorem putD_get (s : List (List Int)) (o k v : Int) (i : Nat) : (putD s o k v)[i]? = (s[i]?).map fun l => prow i o k v l := by
  unfold putD; rw [List.getElem?_mapIdx]

def Small (s : List (List Int)) : Prop := s.length ≤ 100 ∧ ∀ l ∈ s, l.length ≤ 100
theorem ixn {α : Type} (l : List α) (n : Nat) : idx l (n : Int) = l[n]? := by simp [idx]
theorem app8 {L L2 : List Int} (h : L.length + L2.length ≤ 1000) : appOk 8 L L2 = true := by
  have hm : (1000 : Nat) ≤ maxLen := by decide
  simp only [appOk, Bool.and_eq_true, decide_eq_true_eq]; omega
theorem app24 {L L2 : List (List Int)} (h : L.length + L2.length ≤ 1000) : appOk 24 L L2 = true := by
  have hm : (1000 : Nat) ≤ maxLen := by decide
  simp only [appOk, Bool.and_eq_true, decide_eq_true_eq]; omega
theorem gB {β : Type _} {c : Bool} {o : Option β} (h : c = true) : guardB c o = o := by rw [h]; rfl
theorem letkE' {α β : Sort _} (k : α) (f : α → β) : letk k f = f k := rfl
theorem wnext {j : Nat} (h : j ≤ 1000) : IntKind.i64.wrap ((j : Int) + 1) = ((j + 1 : Nat) : Int) := by rw [w64' (by omega) (by omega)]; rfl
theorem take_next {α : Type} {L : List α} {j : Nat} {x : α} (h : L[j]? = some x) : L.take j ++ [x] = L.take (j + 1) := by
  rw [List.take_add_one, h]; rfl

theorem f34_l2_eq {s : List (List Int)} {a : Spot} {v : Int} {i : Nat} {l : List Int} (hs : s[i]? = some l) (hl : l.length ≤ 100) (k : List Int → Option (List (List Int))) : ∀ (n j : Nat), j ≤ l.length → l.length - j < n → f34_l2 s a v (i : Int) k n (j : Int) ((prow i a.o a.slot v l).take j) = k (prow i a.o a.slot v l) := by
  intro n
  induction n with
  | zero => intro j _ h; omega
  | succ n ih =>
    intro j h1 h2
    unfold f34_l2
    rw [ixn, hs, obind]
    by_cases hj : j < l.length
    · have e1 : (decide ((j : Int) < (List.length l : Int))) = true := by simpa using hj
      have hg : (prow i a.o a.slot v l)[j]? = some (if (i : Int) = a.o ∧ (j : Int) = a.slot then v else l[j]) := by
        rw [prow_get, List.getElem?_eq_getElem hj]; rfl
      have hn := ih (j + 1) (by omega) (by omega)
      have hlen : ((prow i a.o a.slot v l).take j).length ≤ 100 := by rw [List.length_take, prow_len]; omega
      rw [e1, cond_true, letkE']
      by_cases hc : (i : Int) = a.o ∧ (j : Int) = a.slot
      · have e2 : (decide ((i : Int) = a.o) && decide ((j : Int) = a.slot)) = true := by simp [hc.1, hc.2]
        rw [if_pos hc] at hg
        rw [e2, cond_true, gB (app8 (by simp only [List.length_cons, List.length_nil]; omega)), wnext (by omega), take_next hg]
        exact hn
      · have e2 : (decide ((i : Int) = a.o) && decide ((j : Int) = a.slot)) = false := by
          rw [Bool.eq_false_iff]; intro h; apply hc; simpa using h
        rw [if_neg hc] at hg
        rw [e2, cond_false, obind, ixn, List.getElem?_eq_getElem hj, obind, gB (app8 (by simp only [List.length_cons, List.length_nil]; omega)), wnext (by omega), take_next hg]
        exact hn
    · have e1 : (decide ((j : Int) < (List.length l : Int))) = false := by simpa using hj
      rw [e1, cond_false, List.take_of_length_le (by rw [prow_len]; omega)]

theorem f34_l1_eq {s : List (List Int)} {a : Spot} {v : Int} (hs : Small s) (k : List (List Int) → Option (List (List Int))) : ∀ (n i : Nat), i ≤ s.length → s.length - i < n → f34_l1 s a v k n (i : Int) ((putD s a.o a.slot v).take i) = k (putD s a.o a.slot v) := by
  intro n
  induction n with
  | zero => intro j _ h; omega
  | succ n ih =>
    intro i h1 h2
    have hsl := hs.1
    unfold f34_l1
    by_cases hi : i < s.length
    · have e1 : (decide ((i : Int) < (List.length s : Int))) = true := by simpa using hi
      have hg : (putD s a.o a.slot v)[i]? = some (prow i a.o a.slot v s[i]) := by
        rw [putD_get, List.getElem?_eq_getElem hi]; rfl
      have hn := ih (i + 1) (by omega) (by omega)
      have hlen : ((putD s a.o a.slot v).take i).length ≤ 100 := by rw [List.length_take, putD_len]; omega
      have hz := hs.2 _ (List.getElem_mem hi)
      rw [e1, cond_true, letkE', letkE']
      have h3 := f34_l2_eq (a := a) (v := v) (List.getElem?_eq_getElem hi) hz (fun l76 => guardB (appOk 24 ((putD s a.o a.slot v).take i) [l76]) (f34_l1 s a v k n (IntKind.i64.wrap ((i : Int) + 1)) ((putD s a.o a.slot v).take i ++ [l76]))) 9223372036854775808 0 (Nat.zero_le _) (by omega)
      refine h3.trans ?_
      rw [gB (app24 (by simp only [List.length_cons, List.length_nil]; omega)), wnext (by omega), take_next hg]
      exact hn
    · have e1 : (decide ((i : Int) < (List.length s : Int))) = false := by simpa using hi
      rw [e1, cond_false, List.take_of_length_le (by rw [putD_len]; omega)]
theorem f34_eq {s : List (List Int)} (a : Spot) (v : Int) (hs : Small s) : f34 s a v = some (putD s a.o a.slot v) := by
  unfold f34
  rw [letkE']
  have hsl := hs.1
  exact f34_l1_eq hs (fun l => some l) 9223372036854775808 0 (Nat.zero_le _) (by omega)
theorem f34o_l2_eq {s : List (List Int)} {a : Spot} {v : Int} {i : Nat} {l : List Int} (hs : s[i]? = some l) (hl : l.length ≤ 100) (k : List Int → Option (List (List Int))) : ∀ (n j : Nat), j ≤ l.length → l.length - j < n → f34o_l2 s a v (i : Int) k n (j : Int) ((prow i a.o a.slot v l).take j) = k (prow i a.o a.slot v l) := by
  intro n
  induction n with
  | zero => intro j _ h; omega
  | succ n ih =>
    intro j h1 h2
    unfold f34o_l2
    rw [ixn, hs, obind]
    by_cases hj : j < l.length
    · have e1 : (decide ((j : Int) < (List.length l : Int))) = true := by simpa using hj
      have hg : (prow i a.o a.slot v l)[j]? = some (if (i : Int) = a.o ∧ (j : Int) = a.slot then v else l[j]) := by
        rw [prow_get, List.getElem?_eq_getElem hj]; rfl
      have hn := ih (j + 1) (by omega) (by omega)
      have hlen : ((prow i a.o a.slot v l).take j).length ≤ 100 := by rw [List.length_take, prow_len]; omega
      rw [e1, cond_true, letkE']
      by_cases hc : (i : Int) = a.o ∧ (j : Int) = a.slot
      · have e2 : (decide ((i : Int) = a.o) && decide ((j : Int) = a.slot)) = true := by simp [hc.1, hc.2]
        rw [if_pos hc] at hg
        rw [e2, cond_true, gB (app8 (by simp only [List.length_cons, List.length_nil]; omega)), wnext (by omega), take_next hg]
        exact hn
      · have e2 : (decide ((i : Int) = a.o) && decide ((j : Int) = a.slot)) = false := by
          rw [Bool.eq_false_iff]; intro h; apply hc; simpa using h
        rw [if_neg hc] at hg
        rw [e2, cond_false, obind, ixn, List.getElem?_eq_getElem hj, obind, gB (app8 (by simp only [List.length_cons, List.length_nil]; omega)), wnext (by omega), take_next hg]
        exact hn
    · have e1 : (decide ((j : Int) < (List.length l : Int))) = false := by simpa using hj
      rw [e1, cond_false, List.take_of_length_le (by rw [prow_len]; omega)]

theorem f34o_l1_eq {s : List (List Int)} {a : Spot} {v : Int} (hs : Small s) (k : List (List Int) → Option (List (List Int))) : ∀ (n i : Nat), i ≤ s.length → s.length - i < n → f34o_l1 s a v k n (i : Int) ((putD s a.o a.slot v).take i) = k (putD s a.o a.slot v) := by
  intro n
  induction n with
  | zero => intro j _ h; omega
  | succ n ih =>
    intro i h1 h2
    have hsl := hs.1
    unfold f34o_l1
    by_cases hi : i < s.length
    · have e1 : (decide ((i : Int) < (List.length s : Int))) = true := by simpa using hi
      have hg : (putD s a.o a.slot v)[i]? = some (prow i a.o a.slot v s[i]) := by
        rw [putD_get, List.getElem?_eq_getElem hi]; rfl
      have hn := ih (i + 1) (by omega) (by omega)
      have hlen : ((putD s a.o a.slot v).take i).length ≤ 100 := by rw [List.length_take, putD_len]; omega
      have hz := hs.2 _ (List.getElem_mem hi)
      rw [e1, cond_true, letkE', letkE']
      have h3 := f34o_l2_eq (a := a) (v := v) (List.getElem?_eq_getElem hi) hz (fun l76 => guardB (appOk 24 ((putD s a.o a.slot v).take i) [l76]) (f34o_l1 s a v k n (IntKind.i64.wrap ((i : Int) + 1)) ((putD s a.o a.slot v).take i ++ [l76]))) 9223372036854775808 0 (Nat.zero_le _) (by omega)
      refine h3.trans ?_
      rw [gB (app24 (by simp only [List.length_cons, List.length_nil]; omega)), wnext (by omega), take_next hg]
      exact hn
    · have e1 : (decide ((i : Int) < (List.length s : Int))) = false := by simpa using hi
      rw [e1, cond_false, List.take_of_length_le (by rw [putD_len]; omega)]
theorem f34o_eq {s : List (List Int)} (a : Spot) (v : Int) (hs : Small s) : f34o s a v = some (putD s a.o a.slot v) := by
  unfold f34o
  rw [letkE']
  have hsl := hs.1
  exact f34o_l1_eq hs (fun l => some l) 9223372036854775808 0 (Nat.zero_le _) (by omega)

theorem putD_of {s : List (List Int)} {o k v : Int} (h : ¬ (0 ≤ o ∧ 0 ≤ k ∧ (rd s o k).isSome = true)) : putD s o k v = s := by
  apply List.ext_getElem?
  intro i
  rw [putD_get]
  cases hs : s[i]? with
  | none => rfl
  | some l =>
    simp only [Option.map_some]
    congr 1
    apply List.ext_getElem?
    intro j
    rw [prow_get]
    cases hj : l[j]? with
    | none => rfl
    | some x =>
      simp only [Option.map_some]
      rw [if_neg]
      rintro ⟨rfl, rfl⟩
      apply h
      refine ⟨by omega, by omega, ?_⟩
      simp [rd, hs, hj]
theorem putD_in {s : List (List Int)} {o k v : Int} {l : List Int} (ho : idx s o = some l) (hk : 0 ≤ k) : putD s o k v = s.set o.toNat (l.set k.toNat v) := by
  have h0 := idx_nonneg ho
  have hg := idx_get ho
  apply List.ext_getElem?
  intro i
  rw [putD_get, List.getElem?_set]
  have hlt := (List.getElem?_eq_some_iff.1 hg).1
  by_cases hi : o.toNat = i
  · subst hi
    rw [if_pos rfl, if_pos hlt, hg, Option.map_some]
    congr 1
    apply List.ext_getElem?
    intro j
    rw [prow_get, List.getElem?_set]
    by_cases hj : k.toNat = j
    · subst hj
      rw [if_pos rfl]
      cases hl : l[k.toNat]? with
      | none => rw [if_neg (by rw [List.getElem?_eq_none_iff] at hl; omega)]; rfl
      | some x =>
        have := (List.getElem?_eq_some_iff.1 hl).1
        rw [if_pos this, Option.map_some, if_pos ⟨by omega, by omega⟩]
    · rw [if_neg hj]
      cases hl : l[j]? with
      | none => rfl
      | some x => rw [Option.map_some, if_neg (by omega)]
  · rw [if_neg hi]
    cases hl : s[i]? with
    | none => rfl
    | some l2 =>
      rw [Option.map_some]
      congr 1
      apply List.ext_getElem?
      intro j
      rw [prow_get]
      cases hl : l2[j]? with
      | none => rfl
      | some x => rw [Option.map_some, if_neg (by omega)]

theorem f60o_eq {l : List Int} (h : l.length ≤ 100) : f60o l = some l := by
  unfold f60o
  rw [gB (app8 (by simp only [List.length_nil]; omega))]
theorem f36_l1_eq {s : List (List Int)} (hs : Small s) (k : List (List Int) → Option (List (List Int))) : ∀ (n i : Nat) (L : List (List Int)), i ≤ s.length → s.length - i < n → L.length = s.length → L.take i = s.take i → f36_l1 s k n (i : Int) L = k s := by
  intro n
  induction n with
  | zero => intro i L _ h; omega
  | succ n ih =>
    intro i L h1 h2 h3 h4
    have hsl := hs.1
    unfold f36_l1
    by_cases hi : i < s.length
    · have e1 : (decide ((i : Int) < (List.length s : Int))) = true := by simpa using hi
      have hz := hs.2 _ (List.getElem_mem hi)
      rw [e1, cond_true, ixn, List.getElem?_eq_getElem hi, obind, f60o_eq hz, obind, ixn, List.getElem?_eq_getElem (by omega), obind, wnext (by omega)]
      refine ih (i + 1) _ (by omega) (by omega) (by rw [List.length_set]; exact h3) ?_
      rw [Int.toNat_natCast]
      have e2 : (L.set i s[i])[i]? = some s[i] := by rw [List.getElem?_set, if_pos rfl, if_pos (by omega)]
      rw [← take_next e2, ← take_next (List.getElem?_eq_getElem hi), List.take_set_of_le (Nat.le_refl _), h4]
    · have e1 : (decide ((i : Int) < (List.length s : Int))) = false := by simpa using hi
      rw [e1, cond_false]
      rw [List.take_of_length_le (by omega), List.take_of_length_le (by omega)] at h4
      rw [h4]
theorem f36_eq {s : List (List Int)} (a : Spot) (v : Int) (hs : Small s) : f36 s a v = some (putD s a.o a.slot v) := by
  have hsl := hs.1
  unfold f36
  have hm : mkOk 24 (List.length s : Int) = true := by
    have hm : (1000 : Nat) ≤ maxLen := by decide
    simp only [mkOk, Bool.and_eq_true, decide_eq_true_eq]; omega
  rw [gB hm, letkE']
  refine (f36_l1_eq hs _ _ 0 (List.replicate (Int.toNat (List.length s : Int)) []) (Nat.zero_le _) (by omega) (by simp) (by simp)).trans ?_
  simp only [letkE', f55_eq, obind]
  cases hr : rd s a.o a.slot with
  | none =>
    rw [Option.isSome_none, cond_false, putD_of (by rw [hr]; simp)]
  | some x =>
    obtain ⟨l, h1, h2⟩ := rd_some hr
    rw [Option.isSome_some, cond_true, h1, obind, h2, obind, putD_in h1 (idx_nonneg h2)]

theorem f37_l2_eq {s : List (List Int)} {i : Nat} {l : List Int} (hs : s[i]? = some l) (hl : l.length ≤ 100) (k : Unit → Option Bool) : ∀ (n j : Nat), l.length - j < n → j ≤ 100 → f37_l2 s s (i : Int) k n (j : Int) = k () := by
  intro n
  induction n with
  | zero => intro j h; omega
  | succ n ih =>
    intro j h2 hj1
    unfold f37_l2
    rw [ixn, hs, obind]
    by_cases hj : j < l.length
    · have e1 : (decide ((j : Int) < (List.length l : Int))) = true := by simpa using hj
      rw [e1, cond_true, obind, ixn, List.getElem?_eq_getElem hj, obind, obind, ixn, List.getElem?_eq_getElem hj, obind, decide_eq_true rfl, Bool.not_true, cond_false, wnext (by omega)]
      exact ih (j + 1) (by omega) (by omega)
    · have e1 : (decide ((j : Int) < (List.length l : Int))) = false := by simpa using hj
      rw [e1, cond_false]
theorem f37_l1_eq {s : List (List Int)} (hs : Small s) (k : Unit → Option Bool) : ∀ (n i : Nat), s.length - i < n → i ≤ 100 → f37_l1 s s k n (i : Int) = k () := by
  intro n
  induction n with
  | zero => intro i h; omega
  | succ n ih =>
    intro i h2 hi1
    have hsl := hs.1
    unfold f37_l1
    by_cases hi : i < s.length
    · have e1 : (decide ((i : Int) < (List.length s : Int))) = true := by simpa using hi
      have hz := hs.2 _ (List.getElem_mem hi)
      rw [e1, cond_true, letkE', ixn, List.getElem?_eq_getElem hi, obind, obind, decide_eq_true rfl, Bool.not_true, cond_false]
      refine (f37_l2_eq (List.getElem?_eq_getElem hi) hz _ 9223372036854775808 0 (by omega) (by omega)).trans ?_
      rw [wnext (by omega)]
      exact ih (i + 1) (by omega) (by omega)
    · have e1 : (decide ((i : Int) < (List.length s : Int))) = false := by simpa using hi
      rw [e1, cond_false]
theorem f37_refl {s : List (List Int)} (hs : Small s) : f37 s s = some true := by
  have hsl := hs.1
  unfold f37
  rw [decide_eq_true rfl, Bool.not_true, cond_false, letkE']
  exact f37_l1_eq hs (fun _ => some true) 9223372036854775808 0 (by omega) (by omega)
theorem putD_small {s : List (List Int)} (o k v : Int) (hs : Small s) : Small (putD s o k v) := by
  refine ⟨by rw [putD_len]; exact hs.1, fun l hl => ?_⟩
  obtain ⟨i, hi⟩ := List.mem_iff_getElem?.1 hl
  rw [putD_get] at hi
  cases h : s[i]? with
  | none => rw [h] at hi; cases hi
  | some l2 =>
    rw [h] at hi
    obtain rfl := Option.some.inj hi
    rw [prow_len]
    exact hs.2 _ (List.mem_of_getElem? h)
end Go.Proofs.Ytjjgmpmhfodmeaa
namespace Go.Proofs.Ytjjgmpmhfodmeaa
open Go Go.Sk

theorem f85_l1_eq {s : List (List Int)} (hs : s.length ≤ 100) : ∀ (n i : Nat), s.length - i < n → i ≤ 100 → ∃ r, f85_l1 s (fun z => some (f57 z)) (fun _ => some (-1)) n (i : Int) = some r ∧ (r < 0 → ∀ l ∈ s.drop i, l.length ≤ 100) := by
  intro n
  induction n with
  | zero => intro i h; omega
  | succ n ih =>
    intro i h1 h2
    unfold f85_l1
    by_cases hi : i < s.length
    · have e1 : (decide ((i : Int) < (List.length s : Int))) = true := by simpa using hi
      rw [e1, cond_true, ixn, List.getElem?_eq_getElem hi, obind, obind]
      cases hf : f57 s[i] with
      | true =>
        rw [cond_true]
        exact ⟨_, rfl, fun h => by omega⟩
      | false =>
        rw [cond_false, wnext (by omega)]
        obtain ⟨r, e, hr⟩ := ih (i + 1) (by omega) (by omega)
        refine ⟨r, e, fun h l hl => ?_⟩
        rw [List.drop_eq_getElem_cons hi, List.mem_cons] at hl
        rcases hl with rfl | hl
        · simp only [f57, decide_eq_false_iff_not] at hf; omega
        · exact hr h l hl
    · have e1 : (decide ((i : Int) < (List.length s : Int))) = false := by simpa using hi
      rw [e1, cond_false]
      refine ⟨_, rfl, fun _ l hl => ?_⟩
      rw [List.drop_eq_nil_of_le (by omega)] at hl
      cases hl
theorem f31_eq (s : List (List Int)) : ∃ b, f31 s = some b ∧ (b = false → Small s) := by
  unfold f31
  by_cases h : (List.length s : Int) > 100
  · rw [decide_eq_true h, cond_true, obind]
    exact ⟨true, rfl, fun h => by cases h⟩
  · rw [decide_eq_false h, cond_false]
    obtain ⟨r, e, hr⟩ := f85_l1_eq (s := s) (by omega) (Int.toNat ((List.length s : Int) - 0) + 1) 0 (by omega) (by omega)
    have e2 : f85 s (fun z => some (f57 z)) = some r := e
    unfold f56
    rw [e2, obind, obind, obind]
    refine ⟨_, rfl, fun hb => ⟨by omega, ?_⟩⟩
    have := hr (by simpa using hb)
    rwa [List.drop_zero] at this

theorem two {α : Type} (c : Bool) (A B : α) : ∃ r, (bif c then some A else some B) = some r ∧ (bif c then some A else some B) = some r := by cases c <;> exact ⟨_, rfl, rfl⟩
/-- The slot of a place. -/
theorem spot_eq (s : List (List Int)) {p : Place} (hp : GP p) : ∃ r, f29 s p = some r ∧ f35 s p = some r := by
  obtain ⟨k1, k2⟩ := place_eq hp
  unfold f29 f35
  rw [k1, k2, obind, obind]
  cases hk : placeOk p with
  | false => exact ⟨_, rfl, rfl⟩
  | true =>
    rw [Bool.not_true, cond_false, cond_false]
    obtain ⟨kind, o, off, len, e⟩ := p
    simp only [letkE', f55_eq, f30_eq, obind]
    by_cases h1 : kind = 1
    · subst h1
      have he : ((List.length e : Int) = 0) := by
        simp [placeOk] at hk
        simp [hk.2]
      have hne : ¬ ((List.length e : Int) = 1) := by omega
      rw [decide_eq_false hne, cond_false, decide_eq_true rfl, Bool.not_true, cond_false]
      exact two _ _ _
    · have hone : oneOk e = true ∧ (kind = 2 ∨ (kind = 3 ∧ off = 0)) := by
        simp only [placeOk, decide_eq_false h1, cond_false] at hk
        by_cases h2 : kind = 2
        · rw [decide_eq_true h2, cond_true, Bool.and_eq_true] at hk
          exact ⟨hk.2, .inl h2⟩
        · rw [decide_eq_false h2, cond_false] at hk
          simp only [Bool.and_eq_true, decide_eq_true_eq] at hk
          exact ⟨hk.2, .inr ⟨hk.1.1.1.1, hk.1.1.2⟩⟩
      obtain ⟨hone, hkk⟩ := hone
      match e, hone, hp with
      | [x], _, hp =>
        have i0 : idx [x] 0 = some x := rfl
        have hl : decide ((List.length [x] : Int) = 1) = true := rfl
        obtain ⟨v, ok, e1, e2, e3, e4⟩ := value_eq s [] (hp.e x (by simp))
        rw [hl, cond_true, decide_eq_false h1, Bool.not_false, cond_true, i0, obind, obind, e1, e2, obind, obind]
        cases ok with
        | false => exact ⟨_, rfl, rfl⟩
        | true =>
          rcases hkk with rfl | ⟨rfl, rfl⟩
          · by_cases hv : v < 0
            · simp [hv]
            · by_cases hv2 : v ≥ len
              · simp [hv, hv2]
              · simp [hv, hv2]
                cases (rd s o (IntKind.i64.wrap (off + v))).isNone <;> simp
          · by_cases hv : v < 0
            · have : v < 1 := by omega
              simp [hv, this]
            · by_cases hv0 : v = 0
              · subst hv0
                have hr : rd s (IntKind.i64.wrap (-1)) 0 = none := by
                  have : IntKind.i64.wrap (-1) = -1 := rfl
                  rw [this]; rfl
                simp [hr]
              · have : ¬ v < 1 := by omega
                simp [hv, this]
                cases (rd s (IntKind.i64.wrap (v - 1)) 0).isNone <;> simp

/-- EvalSpots -/
theorem law11 (s : List (List Int)) {p : Place} (hp : GP p) (a : Spot) (v : Int) : f11 s p a v = some true := by
  obtain ⟨b, hb, hs⟩ := f31_eq s
  unfold f11
  rw [hb, obind]
  cases b with
  | true => rw [cond_true, awake, obind]
  | false =>
    have hs := hs rfl
    have h1 : f34 s (Spot.mk (-1) 0) 0 = some s := by
      rw [f34_eq _ _ hs, putD_of]
      show ¬ (0 ≤ (-1 : Int) ∧ _)
      omega
    obtain ⟨r, e1, e2⟩ := spot_eq s hp
    rw [cond_false, h1, obind, e1, obind, e2, obind, f36_eq _ _ hs, obind, f34_eq _ _ hs, obind, f37_refl (putD_small _ _ _ hs), f37_refl hs]
    simp [obind, awake]
end Go.Proofs.Ytjjgmpmhfodmeaa
namespace Go.Proofs.Ytjjgmpmhfodmeaa
open Go Go.Sk

def Sp (s : List (List Int)) (r : Spot × Bool) : Prop := (r.2 = false → r.1 = ⟨0, 0⟩) ∧ (r.2 = true → (rd s r.1.o r.1.slot).isSome = true)
theorem f29_sp {s : List (List Int)} {p : Place} {r : Spot × Bool} (h : f29 s p = some r) : Sp s r := by
  have q0 : some ((⟨0, 0⟩ : Spot), false) = some r → Sp s r := fun h => by
    obtain rfl := Option.some.inj h
    exact ⟨fun _ => rfl, fun h => (by cases h)⟩
  have key : ∀ o k, (Option.bind (f55 s o k) fun r78 => if (!r78) = true then some ((Spot.mk 0 0), false) else some ((Spot.mk o k), true)) = some r → Sp s r := fun o k h => by
    rw [f55_eq, obind] at h
    split at h
    · exact q0 h
    · rename_i hc
      obtain rfl := Option.some.inj h
      exact ⟨fun h => (by cases h), fun _ => Option.isSome_iff_ne_none.2 (by simpa using hc)⟩
  unfold f29 at h
  simp only [letkE', cond_eq_ite] at h
  obtain ⟨b, _, h⟩ := Option.bind_eq_some_iff.1 h
  repeat' first
    | exact key _ _ h
    | exact q0 h
    | split at h
    | obtain ⟨_, _, h⟩ := Option.bind_eq_some_iff.1 h

theorem rd_putD {s : List (List Int)} {o k x v : Int} (h : rd s o k = some x) : rd (putD s o k v) o k = some v := by
  unfold rd at h ⊢
  split at h
  · rename_i hc
    rw [if_pos hc]
    obtain ⟨l, h1, h2⟩ := Option.bind_eq_some_iff.1 h
    rw [putD_get, h1, Option.map_some, Option.bind_some, prow_get, h2, Option.map_some, if_pos ⟨by omega, by omega⟩]
  · cases h
theorem putD_back {s : List (List Int)} {o k x v : Int} (h : rd s o k = some x) : putD (putD s o k v) o k x = s := by
  apply List.ext_getElem?
  intro i
  rw [putD_get, putD_get]
  cases hs : s[i]? with
  | none => rfl
  | some l =>
    rw [Option.map_some, Option.map_some]
    congr 1
    apply List.ext_getElem?
    intro j
    rw [prow_get, prow_get]
    cases hj : l[j]? with
    | none => rfl
    | some y =>
      rw [Option.map_some, Option.map_some]
      split
      · rename_i hc
        obtain ⟨rfl, rfl⟩ := hc
        simp [rd, hs, hj] at h
        rw [h]
      · rfl
theorem rd_lt {s : List (List Int)} (hs : Small s) {o k x : Int} (h : rd s o k = some x) : (0 ≤ o ∧ o < 100) ∧ 0 ≤ k ∧ k < 100 := by
  obtain ⟨l, h1, h2⟩ := rd_some h
  have a1 := idx_nonneg h1
  have a2 := idx_nonneg h2
  have b1 := (List.getElem?_eq_some_iff.1 (idx_get h1)).1
  have b2 := (List.getElem?_eq_some_iff.1 (idx_get h2)).1
  have := hs.1
  have := hs.2 l (List.mem_of_getElem? (idx_get h1))
  omega

theorem slot_val {s : List (List Int)} {o k v : Int} (hs : Small s) (h : rd s o k = some v) (hv : Bs v) : f38 s [] (f39 o k) v = some true := by
  obtain ⟨ho, hk⟩ := rd_lt hs h
  have he : GE (f39 o k) := .mk (by unfold U8; omega) (by unfold U8; omega) i64_0 (by unfold I64; omega) (by unfold I64; omega) i64_0 i64_0 i64_0 (fun y hy => by simp at hy) (by simp)
  have hw : IntKind.i64.wrap (k + 1) = k + 1 := w64' (by omega) (by omega)
  have hm : may (f39 o k) 0 = true := by
    have e : f65 ⟨2, 0, 0, o, k, 0, 0, 0, []⟩ 0 = true := by
      simp [f65, f88, f45, f46, hw]
      omega
    simp [may, f39, snd, sndL, e]
  have hvl : Vl ⟨⟨s, []⟩, []⟩ (f39 o k) (v, true) := by
    refine ⟨1, ?_⟩
    have hb : f61 v = true := (f61_iff v).2 hv
    simp [f53, f53s, f39, f69, f125_rdv, rdv, h, hb]
  unfold f38
  rw [f21_vl s [] he hm hvl]
  simp
theorem addr_val {s : List (List Int)} {o v : Int} (hs : Small s) (h : rd s o 0 = some v) (hv : Bs v) : f38 s [] (f23 13 [(CE.mk 12 0 0 o 0 0 0 0 [])]) v = some true := by
  obtain ⟨ho, _⟩ := rd_lt hs h
  have ha : GE ⟨12, 0, 0, o, 0, 0, 0, 0, []⟩ := .mk (by unfold U8; omega) (by unfold U8; omega) i64_0 (by unfold I64; omega) i64_0 i64_0 i64_0 i64_0 (fun y hy => by simp at hy) (by simp)
  have he : GE (f23 13 [(CE.mk 12 0 0 o 0 0 0 0 [])]) := .mk (by unfold U8; omega) (by unfold U8; omega) i64_0 i64_0 i64_0 i64_0 i64_0 i64_0 (fun y hy => by simp at hy; rw [hy]; exact ha) (by simp)
  have hw : IntKind.i64.wrap (o + 1) = o + 1 := w64' (by omega) (by omega)
  have hw2 : IntKind.i64.wrap o = o := w64' (by omega) (by omega)
  have hm : may (f23 13 [(CE.mk 12 0 0 o 0 0 0 0 [])]) 0 = true := by
    have e : f65 ⟨12, 0, 0, o, 0, 0, 0, 0, []⟩ 0 = true := by
      simp [f65, f88, f45, letk]
      omega
    have e2 : f65 ⟨13, 0, 0, 0, 0, 0, 0, 0, [⟨12, 0, 0, o, 0, 0, 0, 0, []⟩]⟩ 0 = true := by
      simp [f65, f88, letk]
    simp [may, f23, snd, sndL, e, e2]
  have hvl : Vl ⟨⟨s, []⟩, []⟩ (f23 13 [(CE.mk 12 0 0 o 0 0 0 0 [])]) (v, true) := by
    refine ⟨2, ?_⟩
    have hb : f61 v = true := (f61_iff v).2 hv
    have i0 : idx [(CE.mk 12 0 0 o 0 0 0 0 [])] 0 = some (CE.mk 12 0 0 o 0 0 0 0 []) := rfl
    have ho1 : ¬ o + 1 < 1 := by omega
    simp [f53, f53s, f23, f78, i0, f68, hw, hw2, ho1, f125_rdv, rdv, h, hb]
  unfold f38
  rw [f21_vl s [] he hm hvl]
  simp

/-- EvalPlaces -/
theorem law12 (s : List (List Int)) {p : Place} (hp : GP p) {n : Int} (hn : Bs n) : f12 s p n = some true := by
  obtain ⟨b, hb, hs⟩ := f31_eq s
  obtain ⟨k1, k2⟩ := place_eq hp
  obtain ⟨r, e1, _⟩ := spot_eq s hp
  have hsp := f29_sp e1
  unfold f12
  rw [hb, obind]
  cases b with
  | true => simp [obind, awake]
  | false =>
    have hs := hs rfl
    rw [cond_false, k2, obind, obind]
    cases hk : placeOk p with
    | false => simp [obind, awake]
    | true =>
      rw [Bool.not_true, cond_false, e1, obind]
      obtain ⟨a, ok⟩ := r
      cases ok with
      | false =>
        have : a = ⟨0, 0⟩ := hsp.1 rfl
        subst this
        simp [obind, awake]
      | true =>
        obtain ⟨x, hx⟩ := Option.isSome_iff_exists.1 (hsp.2 rfl)
        obtain ⟨o, k⟩ := a
        simp only at hx
        have hw : IntKind.i64.wrap n = n := by unfold Bs at hn; exact w64' (by omega) (by omega)
        obtain ⟨l, h1, h2⟩ := rd_some hx
        have hr := rd_putD (v := n) hx
        have hP := putD_small o k n hs
        have hsv := slot_val hP hr hn
        simp only [Bool.not_true, cond_false, f30_eq, obind, hx, Option.isSome_some, hw, f36_eq _ _ hs, letkE', hr, h1, h2, f36_eq _ _ hP, putD_back hx, f37_refl hs, hsv]
        by_cases hk0 : k = 0
        · subst hk0
          simp [addr_val hP hr hn, obind, awake]
        · simp [hk0, obind, awake]
end Go.Proofs.Ytjjgmpmhfodmeaa
namespace Go.Proofs.Ytjjgmpmhfodmeaa
open Go Go.Sk

/-- No dereference in an expression. -/
inductive ND : CE → Prop
  | mk {e : CE} : e.kind ≠ 13 → (∀ x ∈ e.l, ND x) → ND e
theorem ND.k {e : CE} (h : ND e) : e.kind ≠ 13 := by cases h; assumption
theorem ND.sub {e : CE} (h : ND e) : ∀ x ∈ e.l, ND x := by cases h; assumption

theorem bind_idx {β : Type} {l : List CE} {i : Int} {F G : CE → Option β} (h : ∀ x ∈ l, F x = G x) : Option.bind (idx l i) F = Option.bind (idx l i) G := by
  cases hi : idx l i with
  | none => rfl
  | some x =>
    rw [obind, obind]
    exact h x (List.mem_of_getElem? (idx_get hi))
theorem cl_sub {e x : CE} (hx : x ∈ e.l) : ∀ o ∈ cl x, o ∈ cl e := fun o ho => by
  rw [cl_eq, List.mem_append]
  right
  have : ∀ {l : List CE}, x ∈ l → o ∈ clL l := by
    intro l
    induction l with
    | nil => intro h; cases h
    | cons y l ih =>
      intro h
      simp only [clL, List.mem_append]
      rcases List.mem_cons.1 h with rfl | h
      · exact .inl ho
      · exact .inr (ih h)
  exact this hx

theorem val_congr {s s' : List (List Int)} {c : List Int} : ∀ (n : Nat) (e : CE) (lets : List Int), ND e → (∀ o ∈ cl e, ∀ k, rd s o k = rd s' o k) → f53 n ⟨⟨s, c⟩, lets⟩ e = f53 n ⟨⟨s', c⟩, lets⟩ e
  | 0, _, _, _, _ => rfl
  | n + 1, e, lets, hd, hr => by
    have ih : ∀ x ∈ e.l, ∀ lets, f53 n ⟨⟨s, c⟩, lets⟩ x = f53 n ⟨⟨s', c⟩, lets⟩ x := fun x hx lets => val_congr n x lets (hd.sub x hx) fun o ho k => hr o (cl_sub hx o ho) k
    have h125 : (e.kind = 2 ∨ e.kind = 3) → ∀ k, f125 ⟨s, c⟩ e.o k = f125 ⟨s', c⟩ e.o k := fun hk k => by
      have : e.o ∈ cl e := by rw [cl_eq, if_pos hk]; simp
      rw [f125_eq, f125_eq]
      show some (match rd s e.o k with | none => (0, false) | some x => (x, f61 x)) = some (match rd s' e.o k with | none => (0, false) | some x => (x, f61 x))
      rw [hr e.o this k]
    have e70 : e.kind = 3 → f70 (f53 n) ⟨⟨s, c⟩, lets⟩ e = f70 (f53 n) ⟨⟨s', c⟩, lets⟩ e := fun hk => by
      unfold f70
      exact bind_idx fun x hx => by simp only [ih x hx, h125 (.inr hk)]
    have e69 : e.kind = 2 → f69 ⟨⟨s, c⟩, lets⟩ e = f69 ⟨⟨s', c⟩, lets⟩ e := fun hk => by
      unfold f69
      simp only [h125 (.inl hk)]
    have e71 : f71 (f53 n) ⟨⟨s, c⟩, lets⟩ e = f71 (f53 n) ⟨⟨s', c⟩, lets⟩ e := by
      unfold f71
      exact bind_idx fun x hx => by simp only [ih x hx]
    have two : ∀ (F : Int × Bool → Option (Int × Bool)) (i : Int), (Option.bind (idx e.l i) fun x => Option.bind (f53 n ⟨⟨s, c⟩, lets⟩ x) F) = Option.bind (idx e.l i) fun x => Option.bind (f53 n ⟨⟨s', c⟩, lets⟩ x) F := fun F i => bind_idx fun x hx => by rw [ih x hx]
    have e72 : f72 (f53 n) ⟨⟨s, c⟩, lets⟩ e = f72 (f53 n) ⟨⟨s', c⟩, lets⟩ e := by
      unfold f72
      simp only [two]
    have e73 : f73 (f53 n) ⟨⟨s, c⟩, lets⟩ e = f73 (f53 n) ⟨⟨s', c⟩, lets⟩ e := by
      unfold f73
      simp only [two]
    have e74 : f74 (f53 n) ⟨⟨s, c⟩, lets⟩ e = f74 (f53 n) ⟨⟨s', c⟩, lets⟩ e := by
      unfold f74
      simp only [two]
    have e75 : f75 (f53 n) ⟨⟨s, c⟩, lets⟩ e = f75 (f53 n) ⟨⟨s', c⟩, lets⟩ e := by
      unfold f75
      simp only [two]
    have e76 : f76 (f53 n) ⟨⟨s, c⟩, lets⟩ e = f76 (f53 n) ⟨⟨s', c⟩, lets⟩ e := by
      unfold f76
      have two' : ∀ (l2 : List Int) (F : Int × Bool → Option (Int × Bool)) (i : Int), (Option.bind (idx e.l i) fun x => Option.bind (f53 n ⟨⟨s, c⟩, l2⟩ x) F) = Option.bind (idx e.l i) fun x => Option.bind (f53 n ⟨⟨s', c⟩, l2⟩ x) F := fun l2 F i => bind_idx fun x hx => by rw [ih x hx]
      simp only [two']
    have hk13 : decide (e.kind = 13) = false := decide_eq_false hd.k
    show f53s (f53 n) _ e = f53s (f53 n) _ e
    unfold f53s
    by_cases h2 : e.kind = 2
    · simp only [e69 h2, e71, e72, e73, e74, e75, e76, hk13, h2, decide_true, decide_false, cond_true, cond_false, f68, f77, f79, f124, Int.reduceEq]
    · by_cases h3 : e.kind = 3
      · simp only [e70 h3, h3, decide_true, decide_false, cond_true, cond_false, Int.reduceEq]
      · simp only [decide_eq_false h2, decide_eq_false h3, cond_false, e71, e72, e73, e74, e75, e76, hk13, f68, f77, f79, f124]
end Go.Proofs.Ytjjgmpmhfodmeaa
namespace Go.Proofs.Ytjjgmpmhfodmeaa
open Go Go.Sk

/-- More lets do no harm. -/
theorem f65_lets {e : CE} {lets lets' : Int} (h : lets ≤ lets') (he : f65 e lets = true) : f65 e lets' = true := by
  unfold f65 at he ⊢
  simp only [letk] at he ⊢
  by_cases h11 : e.kind = 11
  · simp [h11] at he ⊢
    obtain ⟨h1, h2⟩ := he
    exact ⟨h1, by omega⟩
  · simp [h11] at he ⊢
    exact he
theorem snd_lets : ∀ (m : Nat), (∀ (e : CE) (k k' d left r : Int), SizeOf.sizeOf e ≤ m → k ≤ k' → snd e k d left = some r → snd e k' d left = some r) ∧
    (∀ (kind : Int) (l : List CE) (i k k' d left r : Int), SizeOf.sizeOf l ≤ m → k ≤ k' → sndL kind l i k d left = some r → sndL kind l i k' d left = some r)
  | 0 => by
    constructor
    · intro e _ _ _ _ _ h; cases e; simp at h
    · intro _ l _ _ _ _ _ _ h; cases l <;> simp at h
  | m + 1 => by
    constructor
    · intro e k k' d left r hm hk h
      obtain ⟨kind, op, n, o, off, len, lo, hi, l⟩ := e
      simp only [snd] at h ⊢
      split at h
      · cases h
      · rename_i hc
        rw [if_neg]
        · exact (snd_lets m).2 _ _ _ _ _ _ _ _ (by simp at hm; omega) hk h
        · intro hc2
          apply hc
          rcases hc2 with h1 | h1 | h1
          · exact .inl h1
          · exact .inr (.inl h1)
          · refine .inr (.inr ?_)
            cases hf : f65 ⟨kind, op, n, o, off, len, lo, hi, l⟩ k with
            | false => rfl
            | true => rw [f65_lets hk hf] at h1; cases h1
    · intro kind l i k k' d left r hm hk h
      cases l with
      | nil => simpa only [sndL] using h
      | cons x l =>
        simp only [sndL] at h ⊢
        have hx : SizeOf.sizeOf x ≤ m := by simp at hm; omega
        have hl : SizeOf.sizeOf l ≤ m := by simp at hm; omega
        cases hs : snd x (if kind = 10 ∧ i = 1 then k + 1 else k) (d + 1) left with
        | none => rw [hs] at h; cases h
        | some left' =>
          rw [hs] at h
          rw [(snd_lets m).1 x _ (if kind = 10 ∧ i = 1 then k' + 1 else k') _ _ _ hx (by split <;> omega) hs]
          exact (snd_lets m).2 _ _ _ _ _ _ _ _ hl hk h
theorem may_64 {e : CE} (h : may e 0 = true) : may e 64 = true := by
  simp only [may, Bool.and_eq_true] at h ⊢
  obtain ⟨r, hr⟩ := Option.isSome_iff_exists.1 h.2
  refine ⟨rfl, ?_⟩
  rw [(snd_lets _).1 e 0 64 _ _ _ (Nat.le_refl _) (by omega) hr]
  rfl

theorem f86_l1_eq {l : List CE} (hl : l.length ≤ 3) {F : CE → Option Bool} (hF : ∀ x ∈ l, ∃ b, F x = some b ∧ (b = false → ND x)) : ∀ (n i : Nat), l.length - i < n → i ≤ 100 → ∃ r, f86_l1 l F (fun _ => some (-1)) n (i : Int) = some r ∧ (r < 0 → ∀ x ∈ l.drop i, ND x) := by
  intro n
  induction n with
  | zero => intro i h; omega
  | succ n ih =>
    intro i h1 h2
    unfold f86_l1
    by_cases hi : i < l.length
    · have e1 : (decide ((i : Int) < (List.length l : Int))) = true := by simpa using hi
      obtain ⟨b, hb, hnd⟩ := hF _ (List.getElem_mem hi)
      rw [e1, cond_true, ixn, List.getElem?_eq_getElem hi, obind, hb, obind]
      cases b with
      | true =>
        rw [cond_true]
        exact ⟨_, rfl, fun h => by omega⟩
      | false =>
        rw [cond_false, wnext (by omega)]
        obtain ⟨r, e, hr⟩ := ih (i + 1) (by omega) (by omega)
        refine ⟨r, e, fun h x hx => ?_⟩
        rw [List.drop_eq_getElem_cons hi, List.mem_cons] at hx
        rcases hx with rfl | hx
        · exact hnd rfl
        · exact hr h x hx
    · have e1 : (decide ((i : Int) < (List.length l : Int))) = false := by simpa using hi
      rw [e1, cond_false]
      refine ⟨_, rfl, fun _ x hx => ?_⟩
      rw [List.drop_eq_nil_of_le (by omega)] at hx
      cases hx
theorem f32_eq : ∀ (n : Nat) (e : CE) (lets depth : Int), V e lets depth → 66 - depth ≤ n → ∃ b, f32 n e = some b ∧ (b = false → ND e)
  | 0, e, lets, depth, hv, hn => by have := hv.depth; omega
  | n + 1, e, lets, depth, hv, hn => by
    show ∃ b, f32s (f32 n) e = some b ∧ _
    unfold f32s
    by_cases hk : e.kind = 13
    · rw [decide_eq_true hk, cond_true, obind]
      exact ⟨true, rfl, fun h => by cases h⟩
    · rw [decide_eq_false hk, cond_false]
      have hF : ∀ x ∈ e.l, ∃ b, f32 n x = some b ∧ (b = false → ND x) := fun x hx => by
        obtain ⟨i, hi⟩ := List.mem_iff_getElem?.1 hx
        exact f32_eq n x _ _ (hv.sub i x hi) (by omega)
      obtain ⟨r, e1, hr⟩ := f86_l1_eq hv.len hF (Int.toNat ((List.length e.l : Int) - 0) + 1) 0 (by omega) (by omega)
      have e2 : f86 e.l (f32 n) = some r := e1
      unfold f58
      rw [e2, obind, obind, obind]
      refine ⟨_, rfl, fun hb => .mk hk fun x hx => hr (by simpa using hb) x (by rwa [List.drop_zero])⟩
end Go.Proofs.Ytjjgmpmhfodmeaa
namespace Go.Proofs.Ytjjgmpmhfodmeaa
open Go Go.Sk

theorem f59_l1_eq {l : List Int} (hl : l.length ≤ 3000) (v : Int) : ∀ (n i : Nat), l.length - i < n → i ≤ 3000 → ∃ r, f59_l1 l v (fun _ => some (-1)) n (i : Int) = some r ∧ (decide (r ≥ 0) = decide (v ∈ l.drop i)) := by
  intro n
  induction n with
  | zero => intro i h; omega
  | succ n ih =>
    intro i h1 h2
    unfold f59_l1
    by_cases hi : i < l.length
    · have e1 : (decide ((i : Int) < (List.length l : Int))) = true := by simpa using hi
      rw [e1, cond_true, ixn, List.getElem?_eq_getElem hi, obind, List.drop_eq_getElem_cons hi]
      by_cases hv : v = l[i]
      · rw [decide_eq_true hv, cond_true]
        refine ⟨_, rfl, ?_⟩
        rw [decide_eq_true (by omega), decide_eq_true (by rw [hv]; exact List.mem_cons_self)]
      · have hw : IntKind.i64.wrap ((i : Int) + 1) = ((i + 1 : Nat) : Int) := by rw [w64' (by omega) (by omega)]; rfl
        rw [decide_eq_false hv, cond_false, hw]
        obtain ⟨r, e, hr⟩ := ih (i + 1) (by omega) (by omega)
        exact ⟨r, e, hr.trans (decide_eq_decide.2 (by rw [List.mem_cons]; exact ⟨fun h => .inr h, fun h => h.resolve_left hv⟩))⟩
    · have e1 : (decide ((i : Int) < (List.length l : Int))) = false := by simpa using hi
      rw [e1, cond_false, List.drop_eq_nil_of_le (by omega)]
      exact ⟨_, rfl, by simp⟩
theorem f33_eq {l : List Int} (hl : l.length ≤ 3000) (v : Int) : f33 l v = some (decide (v ∈ l)) := by
  obtain ⟨r, e, hr⟩ := f59_l1_eq hl v (Int.toNat ((List.length l : Int) - 0) + 1) 0 (by omega) (by omega)
  have e2 : f59 l v = some r := e
  unfold f33
  rw [e2, obind, hr, List.drop_zero]

theorem reads_mem {e : CE} (he : GE e) (hm : may e 0 = true) : ∃ R : List Int, f18 e = some R ∧ f19 e = some R ∧ R.length ≤ 2048 ∧ ∀ o ∈ cl e, o ∈ R := by
  obtain ⟨R, h1, h2, h3⟩ := reads_eq he
  refine ⟨R, h1, h2, h3, fun o ho => ?_⟩
  have i64 : I64 64 := by unfold I64; omega
  have hm64 := may_64 hm
  obtain ⟨_, hv⟩ := may_v hm64
  have hlen : (cl e).length ≤ 256 := by
    have hm := hm64
    simp only [may, Bool.and_eq_true] at hm
    obtain ⟨r, hr⟩ := Option.isSome_iff_exists.1 hm.2
    have h1 := (cl_len _).1 e _ _ _ _ (Nat.le_refl _) hr
    have h2 := (snd_nonneg _).1 e _ _ _ _ (Nat.le_refl _) hr
    omega
  have h50 := f50_eq 100 e 64 1 hv (by omega) (by omega)
  have h19 := f19_out (C := cl e) (K := fun l => some l) (by omega) 2048 0 9223372036854775808 [] 0 rfl rfl (by omega) (by simp)
  unfold f19 at h2
  rw [f14_eq he i64, hm64] at h2
  simp only [obind, Bool.not_true, cond_false, h50, letk] at h2
  rw [h19] at h2
  obtain rfl := Option.some.inj h2
  rw [List.nil_append, fl_mem]
  have := cl_obj _ e _ _ (Nat.le_refl _) hv o ho
  exact ⟨ho, by omega, by omega⟩

theorem rd_set {s : List (List Int)} {k : Int} {l : List Int} (hk : 0 ≤ k) {o : Int} (ho : o ≠ k) (j : Int) : rd s o j = rd (s.set k.toNat l) o j := by
  unfold rd
  by_cases h : 0 ≤ o ∧ 0 ≤ j
  · rw [if_pos h, if_pos h, List.getElem?_set, if_neg (by omega)]
  · rw [if_neg h, if_neg h]
theorem f21_congr {s s' : List (List Int)} {c : List Int} {e : CE} (he : GE e) (hm : may e 0 = true) (hd : ND e) (hr : ∀ o ∈ cl e, ∀ k, rd s o k = rd s' o k) : f21 s c e = f21 s' c e := by
  unfold f21
  rw [f13_eq he i64_0, hm]
  simp only [obind, Bool.not_true, cond_false]
  rw [val_congr 100 e [] hd hr]

/-- EvalReads -/
theorem law10 (s : List (List Int)) (c : List Int) {e : CE} (he : GE e) {o : Int} (ho : 0 ≤ o ∧ o ≤ 255) (l : List Int) : f10 s c e o l = some true := by
  obtain ⟨b, hb, hs⟩ := f31_eq s
  unfold f10
  rw [hb, obind]
  cases b with
  | true => simp [obind, awake]
  | false =>
    have hs := hs rfl
    have hsl := hs.1
    rw [Bool.false_or]
    by_cases h0 : (List.length s : Int) = 0
    · simp [h0, obind, awake]
    · rw [decide_eq_false h0, cond_false, f14_eq he i64_0, obind, obind]
      cases hm : may e 0 with
      | false => simp [obind, awake]
      | true =>
        obtain ⟨_, hv⟩ := may_v hm
        obtain ⟨d, hd1, hd2⟩ := f32_eq 100 e 0 1 hv (by omega)
        rw [Bool.not_true, cond_false, hd1, obind, obind]
        cases d with
        | true => simp [obind, awake]
        | false =>
          have hnd := hd2 rfl
          obtain ⟨R, h18, h19, hR, hmem⟩ := reads_mem he hm
          have hw : IntKind.i64.wrap o = o := w64' (by omega) (by omega)
          have hnz : nz (List.length s : Int) = true := by simpa [nz] using h0
          have hk0 : 0 ≤ Int.tmod o (List.length s : Int) := Int.tmod_nonneg _ ho.1
          have hk1 : Int.tmod o (List.length s : Int) < (List.length s : Int) := Int.tmod_lt_of_pos _ (by omega)
          rw [cond_false, gB hnz, h18, obind, hw]
          generalize Int.tmod o (List.length s : Int) = k at hk0 hk1
          rw [f33_eq (by omega) k, obind]
          by_cases hin : k ∈ R
          · rw [decide_eq_true hin, cond_true, h19, obind, f33_eq (by omega) k, obind, decide_eq_true hin]
            simp [obind, awake]
          · have h1 : f34o s (Spot.mk (-1) 0) 0 = some s := by
              rw [f34o_eq _ _ hs, putD_of]
              show ¬ (0 ≤ (-1 : Int) ∧ _)
              omega
            have hlt : k.toNat < s.length := by omega
            have hi : idx s k = some s[k.toNat] := by simp [idx, hk0, hlt]
            have hc := f21_congr (s := s) (s' := s.set k.toNat l) (c := c) he hm hnd fun o ho j => rd_set hk0 (fun h => hin (h ▸ hmem o ho)) j
            obtain ⟨v, ok, hv1, _⟩ := value_eq s c he
            rw [decide_eq_false hin, cond_false, h1, obind, hi, obind, ← hc, hv1, obind, obind]
            simp [obind, awake]
end Go.Proofs.Ytjjgmpmhfodmeaa
