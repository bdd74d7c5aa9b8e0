/- Layer 19: EvalMays. -/
import Derived.KernelRfl
import Derived.Test.YtjjgmpmhfodmeaaWc
namespace Go.Proofs.Ytjjgmpmhfodmeaa
open Go Go.Sk

def I64 (x : Int) : Prop := -9223372036854775808 ≤ x ∧ x ≤ 9223372036854775807
def U8 (x : Int) : Prop := 0 ≤ x ∧ x ≤ 255

theorem w64 {x : Int} (h : I64 x) : IntKind.i64.wrap x = x := by
  unfold I64 at h; rw [IntKind.wrap_i64]; omega
theorem w64' {x : Int} (h1 : -9223372036854775808 ≤ x) (h2 : x ≤ 9223372036854775807) : IntKind.i64.wrap x = x := w64 ⟨h1, h2⟩
theorem wu64 {x : Int} (h1 : 0 ≤ x) (h2 : x < 18446744073709551616) : IntKind.u64.wrap x = x := by
  have : IntKind.u64.wrap x = x % 18446744073709551616 := rfl
  rw [this, Int.emod_eq_of_lt h1 h2]

inductive GE : CE → Prop
  | mk {kind op n o off len lo hi : Int} {l : List CE} : U8 kind → U8 op → I64 n → I64 o → I64 off → I64 len → I64 lo → I64 hi → (∀ x ∈ l, GE x) → l.length ≤ 9223372036854775807 → GE ⟨kind, op, n, o, off, len, lo, hi, l⟩

theorem bsome (c d : Bool) : (bif c then some d else some false) = some (c && d) := by cases c <;> rfl
theorem bsome_true (c d : Bool) : (bif c then some true else some d) = some (c || d) := by cases c <;> rfl
theorem obind {α β : Type} (x : α) (f : α → Option β) : Option.bind (some x) f = f x := rfl
theorem f62_eq (op : Int) : f62 [16, 17, 18] op = some (decide (op = 16) || decide (op = 17) || decide (op = 18)) := by
  by_cases h1 : op = 16
  · subst h1; rfl
  · by_cases h2 : op = 17
    · subst h2; rfl
    · by_cases h3 : op = 18
      · subst h3; rfl
      · have e : f87 [16, 17, 18] op = some (-1) := by
          have w1 : IntKind.i64.wrap 1 = 1 := rfl
          have w2 : IntKind.i64.wrap 2 = 2 := rfl
          have w3 : IntKind.i64.wrap 3 = 3 := rfl
          simp [f87, f87_l1, letk, idx, h1, h2, h3, w1, w2, w3]
        simp [f62, e, h1, h2, h3]

theorem f41_eq {e : CE} (he : GE e) {lets : Int} : f41 e lets = some (f65 e lets) := by
  obtain ⟨hk, hop, hn, ho, hoff, hlen, hlo, hhi, hl, hll⟩ := he
  rename_i kind op n o off len lo hi l
  unfold U8 at hk
  unfold I64 at hn ho hoff hlen hlo hhi
  have w1 : 0 ≤ off → off < 16384 → IntKind.i64.wrap (16384 - off) = 16384 - off := fun h1 h2 => w64' (by omega) (by omega)
  have w2 : 0 ≤ off → off < 16384 → len ≤ 16384 → 1 ≤ len → IntKind.i64.wrap (off + len) = off + len := fun h1 h2 h3 h4 => w64' (by omega) (by omega)
  have w3 : 0 ≤ off → off < 16384 → IntKind.i64.wrap (off + 1) = off + 1 := fun h1 h2 => w64' (by omega) (by omega)
  have hcases : kind = 0 ∨ kind = 1 ∨ kind = 2 ∨ kind = 3 ∨ kind = 4 ∨ kind = 5 ∨ kind = 6 ∨ kind = 7 ∨ kind = 8 ∨ kind = 9 ∨ kind = 10 ∨ kind = 11 ∨ kind = 12 ∨ kind = 13 ∨ kind = 14 ∨ 15 ≤ kind := by omega
  have h0 : f64 0 = some (-1) := rfl
  have h1 : f64 1 = some 0 := rfl
  have h2 : f64 2 = some 0 := rfl
  have h3 : f64 3 = some 1 := rfl
  have h4 : f64 4 = some 1 := rfl
  have h5 : f64 5 = some 2 := rfl
  have h6 : f64 6 = some 2 := rfl
  have h7 : f64 7 = some 2 := rfl
  have h8 : f64 8 = some 3 := rfl
  have h9 : f64 9 = some 1 := rfl
  have h10 : f64 10 = some 2 := rfl
  have h11 : f64 11 = some 0 := rfl
  have h12 : f64 12 = some 0 := rfl
  have h13 : f64 13 = some 1 := rfl
  have h14 : f64 14 = some 0 := rfl
  rcases hcases with rfl | rfl | rfl | rfl | rfl | rfl | rfl | rfl | rfl | rfl | rfl | rfl | rfl | rfl | rfl | h15
  case inr.inr.inr.inr.inr.inr.inr.inr.inr.inr.inr.inr.inr.inr.inr =>
    have hw : IntKind.i64.wrap kind = kind := w64' (by omega) (by omega)
    have e : f64 kind = some (-1) := by simp [f64, hw, h15]
    have ne : ∀ k : Int, k < 15 → decide (kind = k) = false := fun k hk => decide_eq_false (by omega)
    simp only [f41, f65, letk, e, ne 1 (by decide), ne 2 (by decide), ne 3 (by decide), ne 4 (by decide), ne 5 (by decide), ne 6 (by decide), ne 7 (by decide), ne 8 (by decide), ne 9 (by decide), ne 10 (by decide), ne 11 (by decide), ne 12 (by decide), ne 13 (by decide), ne 14 (by decide), cond_false, cond_true, obind]
    congr 1
  all_goals
    simp only [f41, f65, letk, f61, f63, f81, f83, f88, f43, f44, f45, f46, f62_eq, h0, h1, h2, h3, h4, h5, h6, h7, h8, h9, h10, h11, h12, h13, h14, Int.reduceEq, decide_true, decide_false, cond_true, cond_false, obind, bsome, Option.some.injEq]
    rw [Bool.eq_iff_iff]
    simp only [Bool.and_eq_true, Bool.or_eq_true, decide_eq_true_eq, Bool.false_eq_true, iff_false, true_and, and_true, true_or, false_or]
    omega

/-! ### Soundness: the depth-first walk with a number of expressions left -/
mutual
/-- What is left behind a sound expression; none: it is not sound. -/
def snd (e : CE) (lets depth left : Int) : Option Int :=
  match e with
  | .mk kind op n o off len lo hi l =>
    if depth > 64 ∨ left ≤ 0 ∨ f65 (.mk kind op n o off len lo hi l) lets = false then none else sndL kind l 0 lets depth (left - 1)
def sndL (kind : Int) (l : List CE) (i : Int) (lets depth left : Int) : Option Int :=
  match l with
  | [] => some left
  | x :: r => match snd x (if kind = 10 ∧ i = 1 then lets + 1 else lets) (depth + 1) left with
    | none => none
    | some left' => sndL kind r (i + 1) lets depth left'
end

theorem snd_nonneg : ∀ (n : Nat), (∀ (e : CE) (lets depth left : Int) r, SizeOf.sizeOf e ≤ n → snd e lets depth left = some r → 0 ≤ r ∧ r < left) ∧ (∀ (kind : Int) (l : List CE) (i lets depth left : Int) r, SizeOf.sizeOf l ≤ n → 0 ≤ left → sndL kind l i lets depth left = some r → 0 ≤ r ∧ r ≤ left)
  | 0 => by
    constructor
    · intro e lets depth left r h; cases e; simp at h
    · intro kind l i lets depth left r h; cases l <;> simp at h
  | n + 1 => by
    obtain ⟨ih1, ih2⟩ := snd_nonneg n
    constructor
    · intro e lets depth left r hs h
      cases e with
      | mk kind op n' o off len lo hi l =>
        simp only [snd] at h
        split at h
        · cases h
        · rename_i hc
          simp only [not_or] at hc
          have := ih2 kind l 0 lets depth (left - 1) r (by simp at hs; omega) (by omega) h
          omega
    · intro kind l i lets depth left r hs h0 h
      cases l with
      | nil => simp only [sndL, Option.some.injEq] at h; omega
      | cons x r' =>
        simp only [sndL] at h
        split at h
        · cases h
        · rename_i left' hx
          have h1 := ih1 x _ _ _ _ (by simp at hs; omega) hx
          have h2 := ih2 kind r' (i + 1) lets depth left' r (by simp at hs; omega) (by omega) h
          omega

theorem GE.f41 {e : CE} (he : GE e) (lets : Int) : f41 e lets = some (f65 e lets) := f41_eq he

theorem idx_drop {α : Type} {l : List α} {i : Nat} {x : α} {r : List α} (h : l.drop i = x :: r) : idx l (i : Int) = some x := by
  have h1 : l[i]? = some x := by
    have := List.getElem?_drop (xs := l) (i := i) (j := 0)
    rw [h] at this
    simpa using this.symm
  simp [idx, h1]
theorem drop_succ {α : Type} {l : List α} {i : Nat} {x : α} {r : List α} (h : l.drop i = x :: r) : l.drop (i + 1) = r := by
  rw [← List.drop_drop, h]; rfl
theorem drop_lt {α : Type} {l : List α} {i : Nat} {x : α} {r : List α} (h : l.drop i = x :: r) : i < l.length := by
  rcases Nat.lt_or_ge i l.length with h' | h'
  · exact h'
  · rw [List.drop_of_length_le h'] at h; cases h
theorem drop_end {α : Type} {l : List α} {i : Nat} (h : l.drop i = []) : l.length ≤ i := by simpa using h

/-- The outcome of a walk by the program. -/
def Out (o : Option (Bool × Int)) (s : Option Int) : Prop := ∃ z, o = some z ∧ z.1 = s.isSome ∧ ∀ r, s = some r → z.2 = r

theorem f40_loop {may : Int → CE → Int → Int → Option (Bool × Int)} {e : CE} {lets depth : Int} {k : Int → Option (Bool × Int)} (hk : ∀ c, k c = some (true, c)) (hl0 : 0 ≤ lets) (hl1 : lets ≤ 9223372036854775807 + depth) (hd0 : 1 ≤ depth) (hd : depth ≤ 64) (hlen : e.l.length ≤ 9223372036854775807)
    (hmay : ∀ x ∈ e.l, ∀ lets' left, 0 ≤ lets' → lets' ≤ 9223372036854775807 + (depth + 1) → 0 ≤ left → left ≤ 256 → Out (may left x lets' (depth + 1)) (snd x lets' (depth + 1) left)) :
    ∀ (r : List CE) (i : Nat) (left : Int), e.l.drop i = r → 0 ≤ left → left ≤ 256 → Out (f40s_l1 may e lets depth k (r.length + 1) (i : Int) left) (sndL e.kind r i lets depth left) := by
  intro r
  induction r with
  | nil =>
    intro i left hr h0 h1
    have := drop_end hr
    have hc : decide ((i : Int) < (List.length e.l : Int)) = false := decide_eq_false (by omega)
    rw [List.length_nil, Nat.zero_add, f40s_l1, hc, cond_false, hk]
    exact ⟨_, rfl, by simp [sndL], fun r h => by simpa [sndL] using h⟩
  | cons x r ih =>
    intro i left hr h0 h1
    have hlt := drop_lt hr
    have hc : decide ((i : Int) < (List.length e.l : Int)) = true := decide_eq_true (by omega)
    have hx : x ∈ e.l := List.mem_of_mem_drop (by rw [hr]; simp)
    have hw : IntKind.i64.wrap (depth + 1) = depth + 1 := w64' (by omega) (by omega)
    have hwi : IntKind.i64.wrap ((i : Int) + 1) = ((i + 1 : Nat) : Int) := by rw [w64' (by omega) (by omega)]; omega
    have hwl : IntKind.u64.wrap (lets + 1) = lets + 1 := wu64 (by omega) (by omega)
    have key : ∀ lets', 0 ≤ lets' → lets' ≤ 9223372036854775807 + (depth + 1) → lets' = (if e.kind = 10 ∧ (i : Int) = 1 then lets + 1 else lets) →
        Out (Option.bind (may left x lets' (IntKind.i64.wrap (depth + 1))) fun r69 => (bif (!r69.1) then some (false, r69.2) else (f40s_l1 may e lets depth k (r.length + 1) (IntKind.i64.wrap ((i : Int) + 1)) r69.2))) (sndL e.kind (x :: r) i lets depth left) := by
      intro lets' g0 g1 g2
      rw [hw, hwi]
      obtain ⟨z, z1, z2, z3⟩ := hmay x hx lets' left g0 g1 h0 h1
      rw [z1, obind, sndL, ← g2]
      cases hs : snd x lets' (depth + 1) left with
      | none =>
        rw [hs] at z2
        rw [z2]
        exact ⟨_, rfl, rfl, fun r h => by cases h⟩
      | some left' =>
        rw [hs] at z2
        have hz := z3 left' hs
        have hb := (snd_nonneg _).1 x _ _ _ _ (Nat.le_refl _) hs
        rw [z2, hz]
        have := ih (i + 1) left' (drop_succ hr) hb.1 (by omega)
        simpa using this
    rw [List.length_cons, f40s_l1, hc, cond_true, idx_drop hr, obind]
    simp only [letk]
    by_cases h10 : e.kind = 10 ∧ (i : Int) = 1
    · have : (decide (e.kind = 10) && decide ((i : Int) = 1)) = true := by simp [h10.1, h10.2]
      rw [this, cond_true, hwl]
      exact key _ (by omega) (by omega) (by rw [if_pos h10])
    · have : (decide (e.kind = 10) && decide ((i : Int) = 1)) = false := by
        rw [Bool.eq_false_iff]; intro h; apply h10; simpa using h
      rw [this, cond_false]
      exact key _ hl0 (by omega) (by rw [if_neg h10])

/-- The program's walk. -/
theorem GE.len {e : CE} (h : GE e) : e.l.length ≤ 9223372036854775807 := by cases h; assumption
theorem GE.sub {e : CE} (h : GE e) : ∀ x ∈ e.l, GE x := by cases h; assumption

theorem f40_eq : ∀ (n : Nat) (e : CE) (lets depth left : Int), GE e → 0 ≤ lets → lets ≤ 9223372036854775807 + depth → 1 ≤ depth → depth ≤ 65 → 66 - depth ≤ n → 0 ≤ left → left ≤ 256 →
    Out (f40 n left e lets depth) (snd e lets depth left)
  | 0, e, lets, depth, left, he, hl0, hl1, hd, hd', hn, h0, h256 => by omega
  | n + 1, e, lets, depth, left, he, hl0, hl1, hd, hd', hn, h0, h256 => by
    have hw : IntKind.i64.wrap (left - 1) = left - 1 := w64' (by omega) (by omega)
    have hf := f41_eq he (lets := lets)
    show Out (f40s (f40 n) left e lets depth) _
    unfold f40s
    simp only [hf, hw, obind, bsome_true, letk]
    cases e with
    | mk kind op n' o off len lo hi l =>
    simp only [snd]
    by_cases hc : depth > 64 ∨ left ≤ 0 ∨ f65 ⟨kind, op, n', o, off, len, lo, hi, l⟩ lets = false
    · rw [if_pos hc]
      have : (decide (left - 1 < 0) || decide (depth > 64) || !f65 ⟨kind, op, n', o, off, len, lo, hi, l⟩ lets) = true := by
        rcases hc with h | h | h
        · simp [h]
        · simp [show left - 1 < 0 by omega]
        · simp [h]
      rw [this, cond_true]
      exact ⟨_, rfl, rfl, fun r h => by cases h⟩
    · rw [if_neg hc]
      simp only [not_or] at hc
      have : (decide (left - 1 < 0) || decide (depth > 64) || !f65 ⟨kind, op, n', o, off, len, lo, hi, l⟩ lets) = false := by
        have h3 : f65 ⟨kind, op, n', o, off, len, lo, hi, l⟩ lets = true := by cases hb : f65 ⟨kind, op, n', o, off, len, lo, hi, l⟩ lets <;> simp_all
        simp only [h3, Bool.not_true, Bool.or_false, Bool.or_eq_false_iff, decide_eq_false_iff_not]
        omega
      rw [this, cond_false]
      have hge : ∀ x ∈ l, GE x := he.sub
      have := f40_loop (may := f40 n) (e := ⟨kind, op, n', o, off, len, lo, hi, l⟩) (lets := lets) (depth := depth) (k := fun c => some (true, c)) (fun _ => rfl) hl0 hl1 hd (by omega) he.len
        (fun x hx lets' left' g0 g1 g2 g3 => f40_eq n x lets' (depth + 1) left' (hge x hx) g0 g1 (by omega) (by omega) (by omega) g2 g3) l 0 (left - 1) rfl (by omega) (by omega)
      simpa using this

/-! ### .. and by the reference -/
def rv : Option Int → Int
  | none => -1
  | some r => r

theorem f42_loop {rec : CE → Int → Int → Int → Option Int} {e : CE} {lets depth : Int} {k : Int → Option Int} (hk : ∀ c, k c = some c) (hl0 : 0 ≤ lets) (hl1 : lets ≤ 9223372036854775807 + depth) (hd0 : 1 ≤ depth) (hd : depth ≤ 64) (hlen : e.l.length ≤ 9223372036854775807)
    (hrec : ∀ x ∈ e.l, ∀ lets' left, 0 ≤ lets' → lets' ≤ 9223372036854775807 + (depth + 1) → 0 ≤ left → left ≤ 256 → rec x lets' (depth + 1) left = some (rv (snd x lets' (depth + 1) left))) :
    ∀ (r : List CE) (i : Nat) (left : Int) (fuel : Nat), r.length + 1 ≤ fuel → e.l.drop i = r → 0 ≤ left → left ≤ 256 → f42s_l1 rec e lets depth k fuel left (i : Int) = some (rv (sndL e.kind r i lets depth left)) := by
  intro r
  induction r with
  | nil =>
    intro i left fuel hf hr h0 h1
    obtain ⟨fuel, rfl⟩ : ∃ f', fuel = f' + 1 := ⟨fuel - 1, by omega⟩
    have := drop_end hr
    have hc : (decide ((i : Int) < (List.length e.l : Int)) && decide (left ≥ 0)) = false := by rw [decide_eq_false (by omega)]; rfl
    rw [f42s_l1, hc, cond_false, hk]
    simp [sndL, rv]
  | cons x r ih =>
    intro i left fuel hf hr h0 h1
    obtain ⟨fuel, rfl⟩ : ∃ f', fuel = f' + 1 := ⟨fuel - 1, by omega⟩
    have hlt := drop_lt hr
    have hc : (decide ((i : Int) < (List.length e.l : Int)) && decide (left ≥ 0)) = true := by rw [decide_eq_true (by omega), decide_eq_true (by omega)]; rfl
    have hx : x ∈ e.l := List.mem_of_mem_drop (by rw [hr]; simp)
    have hw : IntKind.i64.wrap (depth + 1) = depth + 1 := w64' (by omega) (by omega)
    have hwi : IntKind.i64.wrap ((i : Int) + 1) = ((i + 1 : Nat) : Int) := by rw [w64' (by omega) (by omega)]; omega
    have hwl : IntKind.u64.wrap (lets + 1) = lets + 1 := wu64 (by omega) (by omega)
    have key : ∀ lets', 0 ≤ lets' → lets' ≤ 9223372036854775807 + (depth + 1) → lets' = (if e.kind = 10 ∧ (i : Int) = 1 then lets + 1 else lets) →
        (Option.bind (idx e.l (i : Int)) fun x72 => Option.bind (rec x72 lets' (IntKind.i64.wrap (depth + 1)) left) fun r73 => (f42s_l1 rec e lets depth k fuel r73 (IntKind.i64.wrap ((i : Int) + 1)))) = some (rv (sndL e.kind (x :: r) i lets depth left)) := by
      intro lets' g0 g1 g2
      rw [hw, hwi, idx_drop hr, obind, hrec x hx lets' left g0 g1 h0 h1, obind, sndL, ← g2]
      cases hs : snd x lets' (depth + 1) left with
      | none =>
        simp only [rv]
        obtain ⟨fuel, rfl⟩ : ∃ f', fuel = f' + 1 := ⟨fuel - 1, by simp at hf; omega⟩
        have hc2 : (decide (((i + 1 : Nat) : Int) < (List.length e.l : Int)) && decide ((-1 : Int) ≥ 0)) = false := by simp
        rw [f42s_l1, hc2, cond_false, hk]
      | some left' =>
        have hb := (snd_nonneg _).1 x _ _ _ _ (Nat.le_refl _) hs
        have := ih (i + 1) left' fuel (by simp at hf; omega) (drop_succ hr) hb.1 (by omega)
        simpa [rv] using this
    rw [f42s_l1, hc, cond_true]
    simp only [letk]
    by_cases h10 : e.kind = 10 ∧ (i : Int) = 1
    · have : (decide (e.kind = 10) && decide ((i : Int) = 1)) = true := by simp [h10.1, h10.2]
      rw [this, cond_true, hwl]
      exact key _ (by omega) (by omega) (by rw [if_pos h10])
    · have : (decide (e.kind = 10) && decide ((i : Int) = 1)) = false := by
        rw [Bool.eq_false_iff]; intro h; apply h10; simpa using h
      rw [this, cond_false]
      exact key _ hl0 (by omega) (by rw [if_neg h10])

theorem f42_eq : ∀ (n : Nat) (e : CE) (lets depth left : Int), GE e → 0 ≤ lets → lets ≤ 9223372036854775807 + depth → 1 ≤ depth → depth ≤ 65 → 66 - depth ≤ n → 0 ≤ left → left ≤ 256 →
    f42 n e lets depth left = some (rv (snd e lets depth left))
  | 0, e, lets, depth, left, he, hl0, hl1, hd, hd', hn, h0, h256 => by omega
  | n + 1, e, lets, depth, left, he, hl0, hl1, hd, hd', hn, h0, h256 => by
    have hw : IntKind.i64.wrap (left - 1) = left - 1 := w64' (by omega) (by omega)
    show f42s (f42 n) e lets depth left = _
    unfold f42s
    simp only [hw, letk]
    cases e with
    | mk kind op n' o off len lo hi l =>
    simp only [snd]
    by_cases hc : depth > 64 ∨ left ≤ 0 ∨ f65 ⟨kind, op, n', o, off, len, lo, hi, l⟩ lets = false
    · rw [if_pos hc]
      have : (decide (depth > 64) || decide (left = 0) || !f65 ⟨kind, op, n', o, off, len, lo, hi, l⟩ lets) = true := by
        rcases hc with h | h | h
        · simp [h]
        · simp [show left = 0 by omega]
        · simp [h]
      rw [this, cond_true]
      rfl
    · rw [if_neg hc]
      simp only [not_or] at hc
      have : (decide (depth > 64) || decide (left = 0) || !f65 ⟨kind, op, n', o, off, len, lo, hi, l⟩ lets) = false := by
        have h3 : f65 ⟨kind, op, n', o, off, len, lo, hi, l⟩ lets = true := by cases hb : f65 ⟨kind, op, n', o, off, len, lo, hi, l⟩ lets <;> simp_all
        simp only [h3, Bool.not_true, Bool.or_false, Bool.or_eq_false_iff, decide_eq_false_iff_not]
        omega
      rw [this, cond_false]
      have hge : ∀ x ∈ l, GE x := he.sub
      have hlen := he.len
      have := f42_loop (rec := f42 n) (e := ⟨kind, op, n', o, off, len, lo, hi, l⟩) (lets := lets) (depth := depth) (k := fun c => some c) (fun _ => rfl) hl0 hl1 hd (by omega) he.len
        (fun x hx lets' left' g0 g1 g2 g3 => f42_eq n x lets' (depth + 1) left' (hge x hx) g0 g1 (by omega) (by omega) (by omega) g2 g3) l 0 (left - 1) 9223372036854775808 (by simp only at hlen; omega) rfl (by omega) (by omega)
      simpa using this

/-- May: by the program, and by the reference. -/
def may (e : CE) (lets : Int) : Bool := decide (0 ≤ lets) && (snd e lets 1 256).isSome

theorem f13_eq {e : CE} (he : GE e) {lets : Int} (hl : I64 lets) : f13 e lets = some (may e lets) := by
  unfold I64 at hl
  unfold f13 may
  by_cases h0 : 0 ≤ lets
  · have hw : IntKind.u64.wrap lets = lets := wu64 h0 (by omega)
    obtain ⟨z, z1, z2, _⟩ := f40_eq 100 e lets 1 256 he h0 (by omega) (by omega) (by omega) (by omega) (by omega) (by omega)
    rw [hw, z1]
    simp [h0, z2]
  · simp [show ¬ (lets ≥ 0) from h0]
theorem f14_eq {e : CE} (he : GE e) {lets : Int} (hl : I64 lets) : f14 e lets = some (may e lets) := by
  unfold I64 at hl
  unfold f14 may
  by_cases h0 : 0 ≤ lets
  · have hw : IntKind.u64.wrap lets = lets := wu64 h0 (by omega)
    have hz := f42_eq 100 e lets 1 256 he h0 (by omega) (by omega) (by omega) (by omega) (by omega) (by omega)
    rw [hw, hz, decide_eq_false (show ¬ lets < 0 by omega), cond_false, obind]
    congr 1
    cases hs : snd e lets 1 256 with
    | none => simp [rv]
    | some r =>
      have := ((snd_nonneg _).1 e _ _ _ _ (Nat.le_refl _) hs).1
      simp [rv, this, h0]
  · simp [show lets < 0 by omega, h0]
end Go.Proofs.Ytjjgmpmhfodmeaa
/- Layer 19: the values by the program and by the reference are the same. -/
namespace Go.Proofs.Ytjjgmpmhfodmeaa
open Go Go.Sk

/-! ### What a sound expression is -/
inductive V : CE → Int → Int → Prop
  | mk {e : CE} {lets depth : Int} : depth ≤ 64 → f65 e lets = true → (∀ (i : Nat) x, e.l[i]? = some x → V x (if e.kind = 10 ∧ (i : Int) = 1 then lets + 1 else lets) (depth + 1)) → V e lets depth

theorem v_of_snd : ∀ (n : Nat), (∀ (e : CE) (lets depth left r : Int), SizeOf.sizeOf e ≤ n → snd e lets depth left = some r → V e lets depth) ∧
    (∀ (kind : Int) (l : List CE) (k : Nat) (lets depth left r : Int), SizeOf.sizeOf l ≤ n → sndL kind l k lets depth left = some r → ∀ (i : Nat) x, l[i]? = some x → V x (if kind = 10 ∧ ((k + i : Nat) : Int) = 1 then lets + 1 else lets) (depth + 1))
  | 0 => by
    constructor
    · intro e lets depth left r h; cases e; simp at h
    · intro kind l k lets depth left r h; cases l <;> simp at h
  | n + 1 => by
    obtain ⟨ih1, ih2⟩ := v_of_snd n
    constructor
    · intro e lets depth left r hs h
      cases e with
      | mk kind op n' o off len lo hi l =>
        simp only [snd] at h
        split at h
        · cases h
        · rename_i hc
          simp only [not_or] at hc
          refine .mk (by omega) (by cases hb : f65 ⟨kind, op, n', o, off, len, lo, hi, l⟩ lets <;> simp_all) (fun i x hx => ?_)
          have := ih2 kind l 0 lets depth (left - 1) r (by simp at hs; omega) h i x hx
          simpa using this
    · intro kind l k lets depth left r hs h i x hx
      cases l with
      | nil => simp at hx
      | cons y l =>
        simp only [sndL] at h
        split at h
        · cases h
        · rename_i left' hy
          cases i with
          | zero =>
            simp only [List.getElem?_cons_zero, Option.some.injEq] at hx
            subst hx
            exact ih1 y _ _ _ _ (by simp at hs; omega) hy
          | succ i =>
            have := ih2 kind l (k + 1) lets depth left' r (by simp at hs; omega) (by simpa using h) i x (by simpa using hx)
            rw [show k + (i + 1) = k + 1 + i from by omega]
            exact this
theorem may_v {e : CE} {lets : Int} (h : may e lets = true) : 0 ≤ lets ∧ V e lets 1 := by
  simp only [may, Bool.and_eq_true, decide_eq_true_eq] at h
  obtain ⟨r, hr⟩ := Option.isSome_iff_exists.1 h.2
  exact ⟨h.1, (v_of_snd _).1 e lets 1 256 r (Nat.le_refl _) hr⟩

theorem V.fields {e : CE} {lets depth : Int} (h : V e lets depth) : f65 e lets = true := by cases h; assumption
theorem V.depth {e : CE} {lets depth : Int} (h : V e lets depth) : depth ≤ 64 := by cases h; assumption
theorem V.sub {e : CE} {lets depth : Int} (h : V e lets depth) : ∀ (i : Nat) x, e.l[i]? = some x → V x (if e.kind = 10 ∧ (i : Int) = 1 then lets + 1 else lets) (depth + 1) := by cases h; assumption

/-- The facts of the fields. -/
theorem fields_cases {e : CE} {lets : Int} (h : f65 e lets = true) :
    (e.kind = 1 ∧ e.l = [] ∧ -2147483648 ≤ e.n ∧ e.n ≤ 2147483647) ∨ (e.kind = 2 ∧ e.l = [] ∧ 0 ≤ e.o ∧ e.o < 2048 ∧ 0 ≤ e.off ∧ e.off < 16384) ∨
    (e.kind = 3 ∧ (∃ a, e.l = [a]) ∧ 0 ≤ e.o ∧ e.o < 2048 ∧ 0 ≤ e.off ∧ e.off < 16384 ∧ 1 ≤ e.len ∧ e.len ≤ 16384) ∨ (e.kind = 4 ∧ (∃ a, e.l = [a]) ∧ (e.op = 16 ∨ e.op = 17 ∨ e.op = 18)) ∨
    (e.kind = 5 ∧ (∃ a b, e.l = [a, b]) ∧ 1 ≤ e.op ∧ e.op ≤ 15) ∨ (e.kind = 6 ∧ ∃ a b, e.l = [a, b]) ∨ (e.kind = 7 ∧ ∃ a b, e.l = [a, b]) ∨ (e.kind = 8 ∧ ∃ a b c, e.l = [a, b, c]) ∨
    (e.kind = 9 ∧ (∃ a, e.l = [a]) ∧ -2147483648 ≤ e.lo ∧ e.hi ≤ 2147483647) ∨ (e.kind = 10 ∧ ∃ a b, e.l = [a, b]) ∨ (e.kind = 11 ∧ e.l = [] ∧ 0 ≤ e.n ∧ IntKind.u64.wrap e.n < lets) ∨
    (e.kind = 12 ∧ e.l = [] ∧ 0 ≤ e.o ∧ e.o < 2048) ∨ (e.kind = 13 ∧ ∃ a, e.l = [a]) ∨ (e.kind = 14 ∧ e.l = [] ∧ 0 ≤ e.n ∧ e.n < 8) := by
  have l0 : ∀ l : List CE, ((List.length l : Int) = 0) → l = [] := fun l h => List.eq_nil_of_length_eq_zero (by omega)
  have l1 : ∀ l : List CE, ((List.length l : Int) = 1) → ∃ a, l = [a] := fun l h => List.length_eq_one_iff.1 (by omega)
  have l2 : ∀ l : List CE, ((List.length l : Int) = 2) → ∃ a b, l = [a, b] := fun l h => by
    match l, h with
    | [a, b], _ => exact ⟨a, b, rfl⟩
    | [], h => simp at h
    | [a], h => simp at h
    | _ :: _ :: _ :: _, h => simp at h; omega
  have l3 : ∀ l : List CE, ((List.length l : Int) = 3) → ∃ a b c, l = [a, b, c] := fun l h => by
    match l, h with
    | [a, b, c], _ => exact ⟨a, b, c, rfl⟩
    | [], h => simp at h
    | [a], h => simp at h
    | [a, b], h => simp at h
    | _ :: _ :: _ :: _ :: _, h => simp at h; omega
  obtain ⟨kind, op, n, o, off, len, lo, hi, l⟩ := e
  simp only at *
  by_cases h1 : kind = 1
  · subst h1
    simp only [f65, f88, f81, f83, f45, f46, letk, Int.reduceEq, decide_true, decide_false, cond_true, cond_false, Bool.false_or, Bool.true_or, Bool.and_eq_true, decide_eq_true_eq, and_true] at h
    exact .inl ⟨rfl, l0 _ (by omega), by omega, by omega⟩
  by_cases h2 : kind = 2
  · subst h2
    simp only [f65, f88, f81, f83, f45, f46, letk, Int.reduceEq, decide_true, decide_false, cond_true, cond_false, Bool.false_or, Bool.true_or, Bool.and_eq_true, decide_eq_true_eq, and_true] at h
    exact .inr (.inl ⟨rfl, l0 _ (by omega), by omega, by omega, by omega, by omega⟩)
  by_cases h3 : kind = 3
  · subst h3
    simp only [f65, f88, f81, f83, f45, f46, letk, Int.reduceEq, decide_true, decide_false, cond_true, cond_false, Bool.false_or, Bool.true_or, Bool.and_eq_true, decide_eq_true_eq, and_true] at h
    exact .inr (.inr (.inl ⟨rfl, l1 _ (by omega), by omega, by omega, by omega, by omega, by omega, by omega⟩))
  by_cases h4 : kind = 4
  · subst h4
    simp only [f65, f88, f81, f83, f45, f46, letk, Int.reduceEq, decide_true, decide_false, cond_true, cond_false, Bool.false_or, Bool.true_or, Bool.and_eq_true, Bool.or_eq_true, decide_eq_true_eq, true_and] at h
    exact .inr (.inr (.inr (.inl ⟨rfl, l1 _ (by omega), by omega⟩)))
  by_cases h5 : kind = 5
  · subst h5
    simp only [f65, f88, f81, f83, f45, f46, letk, Int.reduceEq, decide_true, decide_false, cond_true, cond_false, Bool.false_or, Bool.true_or, Bool.and_eq_true, decide_eq_true_eq, true_and] at h
    exact .inr (.inr (.inr (.inr (.inl ⟨rfl, l2 _ (by omega), by omega, by omega⟩))))
  by_cases h6 : kind = 6
  · subst h6
    simp only [f65, f88, f81, f83, f45, f46, letk, Int.reduceEq, decide_true, decide_false, cond_true, cond_false, Bool.false_or, Bool.true_or, Bool.and_eq_true, decide_eq_true_eq] at h
    exact .inr (.inr (.inr (.inr (.inr (.inl ⟨rfl, l2 _ (by omega)⟩)))))
  by_cases h7 : kind = 7
  · subst h7
    simp only [f65, f88, f81, f83, f45, f46, letk, Int.reduceEq, decide_true, decide_false, cond_true, cond_false, Bool.false_or, Bool.true_or, Bool.and_eq_true, decide_eq_true_eq] at h
    exact .inr (.inr (.inr (.inr (.inr (.inr (.inl ⟨rfl, l2 _ (by omega)⟩))))))
  by_cases h8 : kind = 8
  · subst h8
    simp only [f65, f88, f81, f83, f45, f46, letk, Int.reduceEq, decide_true, decide_false, cond_true, cond_false, Bool.false_or, Bool.true_or, Bool.and_eq_true, decide_eq_true_eq] at h
    exact .inr (.inr (.inr (.inr (.inr (.inr (.inr (.inl ⟨rfl, l3 _ (by omega)⟩)))))))
  by_cases h9 : kind = 9
  · subst h9
    simp only [f65, f88, f81, f83, f45, f46, letk, Int.reduceEq, decide_true, decide_false, cond_true, cond_false, Bool.false_or, Bool.true_or, Bool.and_eq_true, decide_eq_true_eq, and_true] at h
    exact .inr (.inr (.inr (.inr (.inr (.inr (.inr (.inr (.inl ⟨rfl, l1 _ (by omega), by omega, by omega⟩))))))))
  by_cases h10 : kind = 10
  · subst h10
    simp only [f65, f88, f81, f83, f45, f46, letk, Int.reduceEq, decide_true, decide_false, cond_true, cond_false, Bool.false_or, Bool.true_or, Bool.and_eq_true, decide_eq_true_eq] at h
    exact .inr (.inr (.inr (.inr (.inr (.inr (.inr (.inr (.inr (.inl ⟨rfl, l2 _ (by omega)⟩)))))))))
  by_cases h11 : kind = 11
  · subst h11
    simp only [f65, f88, f81, f83, f45, f46, letk, Int.reduceEq, decide_true, decide_false, cond_true, cond_false, Bool.false_or, Bool.true_or, Bool.and_eq_true, decide_eq_true_eq, and_true] at h
    exact .inr (.inr (.inr (.inr (.inr (.inr (.inr (.inr (.inr (.inr (.inl ⟨rfl, l0 _ (by omega), by omega, by omega⟩))))))))))
  by_cases h12 : kind = 12
  · subst h12
    simp only [f65, f88, f81, f83, f45, f46, letk, Int.reduceEq, decide_true, decide_false, cond_true, cond_false, Bool.false_or, Bool.true_or, Bool.and_eq_true, decide_eq_true_eq, and_true] at h
    exact .inr (.inr (.inr (.inr (.inr (.inr (.inr (.inr (.inr (.inr (.inr (.inl ⟨rfl, l0 _ (by omega), by omega, by omega⟩)))))))))))
  by_cases h13 : kind = 13
  · subst h13
    simp only [f65, f88, f81, f83, f45, f46, letk, Int.reduceEq, decide_true, decide_false, cond_true, cond_false, Bool.false_or, Bool.true_or, Bool.and_eq_true, decide_eq_true_eq] at h
    exact .inr (.inr (.inr (.inr (.inr (.inr (.inr (.inr (.inr (.inr (.inr (.inr (.inl ⟨rfl, l1 _ (by omega)⟩))))))))))))
  by_cases h14 : kind = 14
  · subst h14
    simp only [f65, f88, f81, f83, f45, f46, letk, Int.reduceEq, decide_true, decide_false, cond_true, cond_false, Bool.false_or, Bool.true_or, Bool.and_eq_true, decide_eq_true_eq, and_true] at h
    exact .inr (.inr (.inr (.inr (.inr (.inr (.inr (.inr (.inr (.inr (.inr (.inr (.inr (⟨rfl, l0 _ (by omega), by omega, by omega⟩)))))))))))))
  exfalso
  simp [f65, letk, h1, h2, h3, h4, h5, h6, h7, h8, h9, h10, h11, h12, h13, h14] at h
end Go.Proofs.Ytjjgmpmhfodmeaa
/- Layer 19: reading, operators. -/
namespace Go.Proofs.Ytjjgmpmhfodmeaa
open Go Go.Sk

def Bs (x : Int) : Prop := -2147483648 ≤ x ∧ x ≤ 2147483647
instance (x : Int) : Decidable (Bs x) := inferInstanceAs (Decidable (_ ∧ _))
theorem f61_iff (x : Int) : f61 x = true ↔ Bs x := by simp [f61, f63, Bs]
theorem f81_iff (x : Int) : f81 x = true ↔ Bs x := by simp [f81, f83, Bs]
theorem f81_61 (x : Int) : f81 x = f61 x := by rw [Bool.eq_iff_iff, f61_iff, f81_iff]
theorem f83_63 (x a b : Int) : f83 x a b = f63 x a b := rfl

/-- Two answers that are one. -/
def Rel (a b : Option (Int × Bool)) : Prop := ∃ v v' ok, a = some (v, ok) ∧ b = some (v', ok) ∧ (ok = true → v = v' ∧ Bs v)
theorem Rel.no {v v' : Int} : Rel (some (v, false)) (some (v', false)) := ⟨v, v', false, rfl, rfl, fun h => by cases h⟩
theorem Rel.yes {v : Int} (h : Bs v) : Rel (some (v, true)) (some (v, true)) := ⟨v, v, true, rfl, rfl, fun _ => ⟨rfl, h⟩⟩
theorem Rel.of {v : Int} {b : Bool} (h : b = true → Bs v) : Rel (some (v, b)) (some (v, b)) := ⟨v, v, b, rfl, rfl, fun hb => ⟨rfl, h hb⟩⟩

/-- What a store has in a slot. -/
def rd (s : List (List Int)) (o k : Int) : Option Int := if 0 ≤ o ∧ 0 ≤ k then (s[o.toNat]?).bind fun l => l[k.toNat]? else none
theorem rd_some {s : List (List Int)} {o k x : Int} (h : rd s o k = some x) : ∃ l, idx s o = some l ∧ idx l k = some x := by
  unfold rd at h
  split at h
  · rename_i hc
    obtain ⟨l, h1, h2⟩ := Option.bind_eq_some_iff.1 h
    exact ⟨l, by simp [idx, hc.1, h1], by simp [idx, hc.2, h2]⟩
  · cases h
theorem f55_eq (s : List (List Int)) (o k : Int) : f55 s o k = some (rd s o k).isSome := by
  unfold f55 rd
  by_cases hc : 0 ≤ o ∧ 0 ≤ k
  · rw [if_pos hc]
    by_cases hl : o < (List.length s : Int)
    · have hlt : o.toNat < s.length := by omega
      have hi : idx s o = some s[o.toNat] := by simp [idx, hc.1, hlt]
      have e : (decide (o ≥ 0) && decide (o < (List.length s : Int)) && decide (k ≥ 0)) = true := by simp [hc.1, hc.2, hl]
      rw [e, cond_true, hi, obind, obind, List.getElem?_eq_getElem hlt, Option.bind_some]
      congr 1
      rw [Bool.eq_iff_iff]
      simp []
      omega
    · have e : (decide (o ≥ 0) && decide (o < (List.length s : Int)) && decide (k ≥ 0)) = false := by simp [hl]
      rw [e, cond_false, obind, List.getElem?_eq_none (by omega)]
      rfl
  · rw [if_neg hc]
    have e : (decide (o ≥ 0) && decide (o < (List.length s : Int)) && decide (k ≥ 0)) = false := by
      rw [Bool.eq_false_iff]; intro h; apply hc; simp at h; omega
    rw [e, cond_false, obind]
    rfl
theorem f30_eq (s : List (List Int)) (o k : Int) : f30 s o k = some (rd s o k).isSome := f55_eq s o k

theorem f125_eq (w : St) (o k : Int) : f125 w o k = some (match rd w.s o k with | none => (0, false) | some x => (x, f61 x)) := by
  unfold f125
  rw [f55_eq, obind]
  cases h : rd w.s o k with
  | none => rfl
  | some x =>
    obtain ⟨l, h1, h2⟩ := rd_some h
    simp [h1, h2]
theorem f80_eq (s : List (List Int)) (o k : Int) : f80 s o k = some (match rd s o k with | none => (0, false) | some x => if f61 x = true then (x, true) else (0, false)) := by
  unfold f80
  rw [f30_eq, obind]
  cases h : rd s o k with
  | none => rfl
  | some x =>
    obtain ⟨l, h1, h2⟩ := rd_some h
    cases hb : f61 x <;> simp [h1, h2, f81_61, hb]
theorem rel_read (w : St) (o k : Int) : Rel (f125 w o k) (f80 w.s o k) := by
  rw [f125_eq, f80_eq]
  cases h : rd w.s o k with
  | none => exact Rel.no
  | some x =>
    show Rel (some (x, f61 x)) (some (if f61 x = true then (x, true) else (0, false)))
    cases hb : f61 x
    · exact Rel.no
    · exact Rel.yes ((f61_iff x).1 hb)

/-! ### Operators -/
theorem f82_eq (op v : Int) : f82 op v = (if op = 16 then (IntKind.i64.wrap (0 - v), f61 (IntKind.i64.wrap (0 - v))) else if op = 17 then ((if IntKind.i64.wrap (0 - v) > v then IntKind.i64.wrap (0 - v) else v), f61 (if IntKind.i64.wrap (0 - v) > v then IntKind.i64.wrap (0 - v) else v)) else (IntKind.i64.wrap (1 - v), f63 v 0 1)) := by
  unfold f82
  by_cases h1 : op = 16
  · simp [h1, f81_61]
  · by_cases h2 : op = 17
    · simp [h2, f81_61]
    · simp [h1, h2, f83_63]

theorem mul_bs {a b : Int} (ha : Bs a) (hb : Bs b) : -4611686018427387904 ≤ a * b ∧ a * b ≤ 4611686018427387904 := by
  unfold Bs at ha hb
  have h1 : a.natAbs ≤ 2147483648 := by omega
  have h2 : b.natAbs ≤ 2147483648 := by omega
  have h3 := Nat.mul_le_mul h1 h2
  rw [← Int.natAbs_mul] at h3
  omega
theorem tdiv_bs {a b : Int} (ha : Bs a) : -2147483648 ≤ Int.tdiv a b ∧ Int.tdiv a b ≤ 2147483648 := by
  unfold Bs at ha
  have h1 : (Int.tdiv a b).natAbs ≤ a.natAbs := by rw [Int.natAbs_tdiv]; exact Nat.div_le_self _ _
  omega
theorem tmod_bs {a b : Int} (hb : b ≠ 0) (hbb : Bs b) : Bs (Int.tmod a b) ∧ (Int.tmod a b).natAbs < b.natAbs ∧ (0 ≤ a → 0 ≤ Int.tmod a b) ∧ (a ≤ 0 → Int.tmod a b ≤ 0) := by
  unfold Bs at hbb ⊢
  have h1 : (Int.tmod a b).natAbs = a.natAbs % b.natAbs := Int.natAbs_tmod a b
  have h2 : a.natAbs % b.natAbs < b.natAbs := Nat.mod_lt _ (by omega)
  refine ⟨by omega, by omega, fun h => Int.tmod_nonneg b h, fun h => ?_⟩
  have := Int.tmod_nonneg b (show 0 ≤ -a by omega)
  rw [Int.neg_tmod] at this
  omega
theorem tmod_small {x b : Int} (h : x.natAbs < b.natAbs) : Int.tmod x b = x := by
  have h1 : (Int.tmod x b).natAbs = x.natAbs := by rw [Int.natAbs_tmod, Nat.mod_eq_of_lt h]
  rcases Int.le_total 0 x with h0 | h0
  · have := Int.tmod_nonneg b h0; omega
  · have := Int.tmod_nonneg b (show 0 ≤ -x by omega)
    rw [Int.neg_tmod] at this
    omega

/-- The modulus, both ways. -/
theorem mod_same {m b : Int} (hb : b ≠ 0) (hm : m.natAbs < b.natAbs) : (if m ≠ 0 ∧ ¬ (m < 0 ↔ b < 0) then m + b else m) = Int.tmod (m + b) b := by
  by_cases h0 : m = 0
  · subst h0
    simp [Int.tmod_self]
  · by_cases hs : (m < 0 ↔ b < 0)
    · rw [if_neg (by simp [hs])]
      have : m + b = m + b * 1 := by omega
      rcases Int.lt_or_lt_of_ne h0 with h | h
      · have hb2 := hs.1 h
        obtain ⟨c, rfl⟩ : ∃ c, b = -c := ⟨-b, by omega⟩
        have e : m + -c = -((-m) + c) := by omega
        rw [e, Int.tmod_neg, Int.neg_tmod, Int.tmod_eq_emod_of_nonneg (by omega), Int.add_emod_right, Int.emod_eq_of_lt (by omega) (by omega)]
        omega
      · have hb2 : 0 < b := by
          rcases Int.lt_or_lt_of_ne hb with h' | h'
          · have := hs.2 h'; omega
          · exact h'
        rw [Int.tmod_eq_emod_of_nonneg (by omega), Int.add_emod_right, Int.emod_eq_of_lt (by omega) (by omega)]
    · rw [if_pos ⟨h0, hs⟩, tmod_small (by omega)]

/-- An operator with two operands, by the program. -/
def binP (op a b : Int) : Option (Int × Bool) :=
  bif (((decide (b = 0)) && (decide (op ≥ 4))) && (decide (op ≤ 6))) then some (0, false) else letk (fun (v153 : Int) =>
  some (v153, (f61 v153))) fun k154 =>
  (bif (decide (op = 1)) then (k154 (IntKind.i64.wrap (a + b))) else (bif (decide (op = 2)) then (k154 (IntKind.i64.wrap (a - b))) else (bif (decide (op = 3)) then (k154 (IntKind.i64.wrap (a * b))) else (bif (decide (op = 4)) then guardB (nz b) <|
  (k154 (IntKind.i64.wrap (Int.tdiv a b))) else (bif (decide (op = 5)) then guardB (nz b) <|
  (k154 (Int.tmod a b)) else (bif (decide (op = 6)) then guardB (nz b) <|
  (bif ((!decide ((Int.tmod a b) = 0)) && (!((decide ((Int.tmod a b) < 0)) == (decide (b < 0))))) then (k154 (IntKind.i64.wrap ((Int.tmod a b) + b))) else (k154 (Int.tmod a b))) else letk (fun (t158 : Bool) =>
  (bif t158 then some ((Option.getD (mpGet (mpPut (mpPut (mpPut ([] : List (Int × Int)) 13 (IntKind.i64.wrap (BitVec.ofInt IntKind.i64.bits a &&& BitVec.ofInt IntKind.i64.bits b).toNat)) 14 (IntKind.i64.wrap (BitVec.ofInt IntKind.i64.bits a ||| BitVec.ofInt IntKind.i64.bits b).toNat)) 15 (IntKind.i64.wrap (BitVec.ofInt IntKind.i64.bits a ^^^ BitVec.ofInt IntKind.i64.bits b).toNat)) op) 0), ((f63 a 0 1) && (f63 b 0 1))) else Option.bind (idx [(decide (a = b)), (!decide (a = b)), (decide (a < b)), (decide (a ≤ b)), (decide (a > b)), (decide (a ≥ b))] (IntKind.u8.wrap (op - 7))) fun x160 =>
  (k154 (f100 x160)))) fun k159 =>
  (bif (decide (op = 13)) then (k159 (decide (op = 13))) else (bif (decide (op = 14)) then (k159 (decide (op = 14))) else (k159 (decide (op = 15)))))))))))

theorem truth_bs (b : Bool) : Bs (f100 b) := by cases b <;> simp [f100, Bs]
theorem rel_of_eq {v v' : Int} (h : v = v') (hb : f61 v = true → Bs v) : Rel (some (v, f61 v)) (some (v', f81 v')) := by
  subst h; rw [f81_61]; exact Rel.of hb
theorem rel_bs {v v' : Int} (h : v = v') : Rel (some (v, f61 v)) (some (v', f81 v')) := rel_of_eq h (f61_iff v).1

theorem f101_100 (b : Bool) : f101 b = f100 b := rfl
theorem in01 {a : Int} : f63 a 0 1 = true ↔ a = 0 ∨ a = 1 := by simp [f63]; omega

theorem rel_bin {op a b : Int} (h1 : 1 ≤ op) (h2 : op ≤ 15) (hb : Bs b) : Rel (binP op a b) (f84 op a b) := by
  have hcases : op = 1 ∨ op = 2 ∨ op = 3 ∨ op = 4 ∨ op = 5 ∨ op = 6 ∨ op = 7 ∨ op = 8 ∨ op = 9 ∨ op = 10 ∨ op = 11 ∨ op = 12 ∨ op = 13 ∨ op = 14 ∨ op = 15 := by omega
  have w8 : ∀ x : Int, 0 ≤ x → x ≤ 5 → IntKind.u8.wrap x = x := fun x h0 h5 => by
    have : IntKind.u8.wrap x = x % 256 := rfl
    rw [this, Int.emod_eq_of_lt h0 (by omega)]
  have logic : ∀ op : Int, op = 13 ∨ op = 14 ∨ op = 15 → Rel (binP op a b) (f84 op a b) := by
    intro op hop
    by_cases hin : f63 a 0 1 = true ∧ f63 b 0 1 = true
    · have ha := in01.1 hin.1
      have hb' := in01.1 hin.2
      rcases hop with rfl | rfl | rfl <;> rcases ha with rfl | rfl <;> rcases hb' with rfl | rfl <;> exact ⟨_, _, true, rfl, rfl, fun _ => ⟨rfl, by decide⟩⟩
    · have hf : (f63 a 0 1 && f63 b 0 1) = false := by
        cases h1 : f63 a 0 1 <;> cases h2 : f63 b 0 1 <;> simp_all
      have hn : (!(f83 a 0 1) || !(f83 b 0 1)) = true := by
        rw [f83_63, f83_63]; cases h1 : f63 a 0 1 <;> cases h2 : f63 b 0 1 <;> simp_all
      rcases hop with rfl | rfl | rfl
      all_goals
        simp only [binP, f84, letk, Int.reduceEq, Int.reduceLE, ge_iff_le, decide_true, decide_false, Bool.and_false, cond_true, cond_false, hf, hn]
        exact Rel.no
  rcases hcases with rfl | rfl | rfl | rfl | rfl | rfl | rfl | rfl | rfl | rfl | rfl | rfl | h | h | h
  case inr.inr.inr.inr.inr.inr.inr.inr.inr.inr.inr.inr.inl => exact logic op (by omega)
  case inr.inr.inr.inr.inr.inr.inr.inr.inr.inr.inr.inr.inr.inl => exact logic op (by omega)
  case inr.inr.inr.inr.inr.inr.inr.inr.inr.inr.inr.inr.inr.inr => exact logic op (by omega)
  · simp only [binP, f84, letk, Int.reduceEq, Int.reduceLE, ge_iff_le, decide_true, decide_false, Bool.and_false, Bool.false_and, cond_true, cond_false]
    exact rel_bs rfl
  · simp only [binP, f84, letk, Int.reduceEq, Int.reduceLE, ge_iff_le, decide_true, decide_false, Bool.and_false, Bool.false_and, cond_true, cond_false]
    exact rel_bs rfl
  · simp only [binP, f84, letk, Int.reduceEq, Int.reduceLE, ge_iff_le, decide_true, decide_false, Bool.and_false, Bool.false_and, cond_true, cond_false]
    exact rel_bs rfl
  · by_cases hb0 : b = 0
    · subst hb0
      exact Rel.no
    · have hnz : nz b = true := by simp [nz, hb0]
      simp only [binP, f84, letk, Int.reduceEq, Int.reduceLE, ge_iff_le, decide_true, decide_false, Bool.false_and, cond_true, cond_false, hb0, hnz, guardB]
      exact rel_bs rfl
  · by_cases hb0 : b = 0
    · subst hb0
      exact Rel.no
    · have hnz : nz b = true := by simp [nz, hb0]
      simp only [binP, f84, letk, Int.reduceEq, Int.reduceLE, ge_iff_le, decide_true, decide_false, Bool.false_and, cond_true, cond_false, hb0, hnz, guardB]
      exact rel_bs rfl
  · by_cases hb0 : b = 0
    · subst hb0
      exact Rel.no
    · have hnz : nz b = true := by simp [nz, hb0]
      obtain ⟨t1, t2, _⟩ := tmod_bs (a := a) hb0 hb
      have hms := mod_same hb0 t2
      have hw : IntKind.i64.wrap (Int.tmod a b + b) = Int.tmod a b + b := by unfold Bs at t1 hb; exact w64' (by omega) (by omega)
      simp only [binP, f84, letk, Int.reduceEq, Int.reduceLE, ge_iff_le, decide_true, decide_false, Bool.false_and, cond_true, cond_false, hb0, hnz, guardB, hw]
      have hcond : (!decide (Int.tmod a b = 0) && !(decide (Int.tmod a b < 0) == decide (b < 0))) = decide (Int.tmod a b ≠ 0 ∧ ¬ (Int.tmod a b < 0 ↔ b < 0)) := by
        rw [Bool.eq_iff_iff]; simp
      rw [hcond]
      by_cases hc : Int.tmod a b ≠ 0 ∧ ¬ (Int.tmod a b < 0 ↔ b < 0)
      · rw [if_pos hc] at hms
        rw [decide_eq_true hc]
        exact rel_bs hms
      · rw [if_neg hc] at hms
        rw [decide_eq_false hc]
        exact rel_bs hms
  all_goals
    simp only [binP, f84, letk, Int.reduceEq, Int.reduceLE, ge_iff_le, decide_true, decide_false, Bool.and_false, cond_true, cond_false, Int.reduceSub, w8 0 (by decide) (by decide), w8 1 (by decide) (by decide), w8 2 (by decide) (by decide), w8 3 (by decide) (by decide), w8 4 (by decide) (by decide), w8 5 (by decide) (by decide)]
    exact rel_bs rfl
end Go.Proofs.Ytjjgmpmhfodmeaa
/- Layer 19: the value, by the program and by the reference. -/
namespace Go.Proofs.Ytjjgmpmhfodmeaa
open Go Go.Sk

theorem f72_eq {val : Wk → CE → Option (Int × Bool)} {w : Wk} {e : CE} {x y : CE} (hl : e.l = [x, y]) : f72 val w e = (val w x).bind fun r => bif !r.2 then some (0, false) else (val w y).bind fun r2 => bif !r2.2 then some (0, false) else binP e.op r.1 r2.1 := by
  unfold f72 binP
  have i0 : idx e.l 0 = some x := by rw [hl]; rfl
  have i1 : idx e.l 1 = some y := by rw [hl]; rfl
  rw [i0, obind]
  cases hx : val w x with
  | none => rfl
  | some r =>
    simp only [obind]
    cases hr : r.2
    · rfl
    · simp only [Bool.not_true, cond_false, i1, obind]
      cases hy : val w y with
      | none => rfl
      | some r2 =>
        simp only [obind]
        cases hr2 : r2.2
        · rfl
        · simp only [Bool.not_true, Bool.false_or, cond_false]

theorem sliceF_all (l : List Int) : sliceF l 0 (List.length l : Int) = l := by simp [sliceF]

/-- The lets hold values of the base range. -/
def LB (l : List Int) : Prop := ∀ x ∈ l, Bs x

theorem value_rel (s : List (List Int)) (c : List Int) : ∀ (n : Nat) (e : CE) (lets : List Int) (depth : Int), GE e → V e (List.length lets : Int) depth → LB lets → (List.length lets : Int) < depth → 66 - depth ≤ n → Rel (f53 n ⟨⟨s, c⟩, lets⟩ e) (f54 n ⟨s, c, lets⟩ e)
  | 0, e, lets, depth, he, hv, hlb, hll, hn => by have := hv.depth; omega
  | n + 1, e, lets, depth, he, hv, hlb, hll, hn => by
    have hd := hv.depth
    have hll' : lets.length ≤ 64 := by omega
    have IH : ∀ (x : CE) (i : Nat), e.l[i]? = some x → (e.kind = 10 → i ≠ 1) → Rel (f53 n ⟨⟨s, c⟩, lets⟩ x) (f54 n ⟨s, c, lets⟩ x) := fun x i hx hne => by
      have hm : x ∈ e.l := List.mem_of_getElem? hx
      have hvx := hv.sub i x hx
      rw [if_neg (by intro h; exact hne h.1 (by omega))] at hvx
      exact value_rel s c n x lets (depth + 1) (he.sub x hm) hvx hlb (by omega) (by omega)
    show Rel (f53s (f53 n) ⟨⟨s, c⟩, lets⟩ e) (f54s (f54 n) ⟨s, c, lets⟩ e)
    have hf := fields_cases hv.fields
    have hb2 : ∀ (o : Option (Int × Bool)), (Option.bind o fun r => some (r.1, r.2)) = o := fun o => by cases o <;> rfl
    have hsc := hv
    rcases hf with h | h | h | h | h | h | h | h | h | h | h | h | h | h
    · -- a number
      obtain ⟨hk, hl, h1, h2⟩ := h
      simp only [f53s, f54s, f68, hk, Int.reduceEq, decide_true, decide_false, cond_true, cond_false]
      exact Rel.yes ⟨h1, h2⟩
    · -- a slot
      obtain ⟨hk, hl, h1⟩ := h
      simp only [f53s, f54s, f69, hk, Int.reduceEq, decide_true, decide_false, cond_true, cond_false, hb2]
      exact rel_read ⟨s, c⟩ e.o e.off
    · -- an element
      obtain ⟨hk, ⟨x, hl⟩, h1⟩ := h
      have i0 : idx e.l 0 = some x := by rw [hl]; rfl
      obtain ⟨v, v', ok, e1, e2, e3⟩ := IH x 0 (by rw [hl]; rfl) (by omega)
      simp only [f53s, f54s, f70, hk, Int.reduceEq, decide_true, decide_false, cond_true, cond_false, hb2, i0, obind, e1, e2]
      cases ok with
      | false => exact Rel.no
      | true =>
        obtain ⟨rfl, hb⟩ := e3 rfl
        simp only [Bool.not_true, Bool.false_or, cond_false]
        cases hc : (decide (v < 0) || decide (v ≥ e.len)) with
        | true => exact Rel.no
        | false => exact rel_read ⟨s, c⟩ e.o _
    · -- an operator with one operand
      obtain ⟨hk, ⟨x, hl⟩, h1⟩ := h
      have i0 : idx e.l 0 = some x := by rw [hl]; rfl
      obtain ⟨v, v', ok, e1, e2, e3⟩ := IH x 0 (by rw [hl]; rfl) (by omega)
      simp only [f53s, f54s, f71, hk, Int.reduceEq, decide_true, decide_false, cond_true, cond_false, hb2, i0, obind, e1, e2, f82_eq, letk]
      cases ok with
      | false =>
        simp only [Bool.not_false, cond_true, Bool.false_and]
        rcases h1 with h1 | h1 | h1 <;> simp only [h1, Int.reduceEq, decide_true, decide_false, cond_true, cond_false] <;> exact Rel.no
      | true =>
        obtain ⟨rfl, hb⟩ := e3 rfl
        simp only [Bool.not_true, cond_false, Bool.true_and]
        rcases h1 with h1 | h1 | h1 <;> simp only [h1, Int.reduceEq, decide_true, decide_false, cond_true, cond_false, if_true, if_false]
        · exact Rel.of (f61_iff _).1
        · exact Rel.of (f61_iff _).1
        · refine Rel.of (fun h => ?_)
          rcases in01.1 h with rfl | rfl <;> decide
    · -- an operator with two operands
      obtain ⟨hk, ⟨x, y, hl⟩, h1, h2⟩ := h
      have i0 : idx e.l 0 = some x := by rw [hl]; rfl
      have i1 : idx e.l 1 = some y := by rw [hl]; rfl
      obtain ⟨v, v', ok, e1, e2, e3⟩ := IH x 0 (by rw [hl]; rfl) (by omega)
      obtain ⟨u, u', ok2, g1, g2, g3⟩ := IH y 1 (by rw [hl]; rfl) (by omega)
      simp only [f53s, f54s, f72_eq hl, hk, Int.reduceEq, decide_true, decide_false, cond_true, cond_false, hb2, i0, i1, obind, e1, e2]
      cases ok with
      | false => exact Rel.no
      | true =>
        obtain ⟨rfl, hb⟩ := e3 rfl
        simp only [Bool.not_true, cond_false, g1, g2, obind]
        cases ok2 with
        | false => exact Rel.no
        | true =>
          obtain ⟨rfl, hb'⟩ := g3 rfl
          simp only [Bool.not_true, cond_false]
          exact rel_bin h1 h2 hb'
    · -- and then
      obtain ⟨hk, x, y, hl⟩ := h
      have i0 : idx e.l 0 = some x := by rw [hl]; rfl
      have i1 : idx e.l 1 = some y := by rw [hl]; rfl
      obtain ⟨v, v', ok, e1, e2, e3⟩ := IH x 0 (by rw [hl]; rfl) (by omega)
      obtain ⟨u, u', ok2, g1, g2, g3⟩ := IH y 1 (by rw [hl]; rfl) (by omega)
      simp only [f53s, f54s, f73, hk, Int.reduceEq, decide_true, decide_false, cond_true, cond_false, hb2, i0, i1, obind, e1, e2, g1, g2, f83_63, Bool.true_and, Bool.false_and, Bool.or_false]
      cases ok with
      | false => exact Rel.no
      | true =>
        obtain ⟨rfl, hb⟩ := e3 rfl
        simp only [Bool.not_true, cond_false, Bool.true_and, Bool.false_or]
        cases hin : f63 v 0 1 with
        | false => exact Rel.no
        | true =>
          simp only [Bool.not_true, Bool.false_or, cond_false]
          have ht : f100 false = 0 := rfl
          rw [ht]
          cases hc : decide (v = 0) with
          | true => exact Rel.yes hb
          | false =>
            simp only [cond_false]
            cases ok2 with
            | false => exact Rel.no
            | true =>
              obtain ⟨rfl, hb'⟩ := g3 rfl
              exact Rel.of fun _ => hb'
    · -- or else
      obtain ⟨hk, x, y, hl⟩ := h
      have i0 : idx e.l 0 = some x := by rw [hl]; rfl
      have i1 : idx e.l 1 = some y := by rw [hl]; rfl
      obtain ⟨v, v', ok, e1, e2, e3⟩ := IH x 0 (by rw [hl]; rfl) (by omega)
      obtain ⟨u, u', ok2, g1, g2, g3⟩ := IH y 1 (by rw [hl]; rfl) (by omega)
      simp only [f53s, f54s, f73, hk, Int.reduceEq, decide_true, decide_false, cond_true, cond_false, hb2, i0, i1, obind, e1, e2, g1, g2, f83_63, Bool.true_and, Bool.false_and, Bool.false_or]
      cases ok with
      | false => exact Rel.no
      | true =>
        obtain ⟨rfl, hb⟩ := e3 rfl
        simp only [Bool.not_true, cond_false, Bool.true_and, Bool.false_or]
        cases hin : f63 v 0 1 with
        | false => exact Rel.no
        | true =>
          simp only [Bool.not_true, Bool.false_or, cond_false]
          have ht : f100 true = 1 := rfl
          rw [ht]
          cases hc : decide (v = 1) with
          | true => exact Rel.yes hb
          | false =>
            simp only [cond_false]
            cases ok2 with
            | false => exact Rel.no
            | true =>
              obtain ⟨rfl, hb'⟩ := g3 rfl
              exact Rel.of fun _ => hb'
    · -- if
      obtain ⟨hk, x, y, z, hl⟩ := h
      have i0 : idx e.l 0 = some x := by rw [hl]; rfl
      have i1 : idx e.l 1 = some y := by rw [hl]; rfl
      have i2 : idx e.l 2 = some z := by rw [hl]; rfl
      obtain ⟨v, v', ok, e1, e2, e3⟩ := IH x 0 (by rw [hl]; rfl) (by omega)
      simp only [f53s, f54s, f74, hk, Int.reduceEq, decide_true, decide_false, cond_true, cond_false, hb2, i0, i1, i2, obind, e1, e2, f83_63]
      cases ok with
      | false => exact Rel.no
      | true =>
        obtain ⟨rfl, hb⟩ := e3 rfl
        simp only [Bool.not_true, cond_false, Bool.false_or]
        cases hin : f63 v 0 1 with
        | false => exact Rel.no
        | true =>
          simp only [Bool.not_true, cond_false]
          rcases in01.1 hin with rfl | rfl
          · have w : IntKind.i64.wrap (2 - 0) = 2 := rfl
            simp only [w, i2, obind, Int.reduceEq, decide_false, cond_false]
            exact IH z 2 (by rw [hl]; rfl) (by omega)
          · have w : IntKind.i64.wrap (2 - 1) = 1 := rfl
            simp only [w, i1, obind, decide_true, cond_true]
            exact IH y 1 (by rw [hl]; rfl) (by omega)
    · -- a range
      obtain ⟨hk, ⟨x, hl⟩, h1, h2⟩ := h
      have i0 : idx e.l 0 = some x := by rw [hl]; rfl
      obtain ⟨v, v', ok, e1, e2, e3⟩ := IH x 0 (by rw [hl]; rfl) (by omega)
      simp only [f53s, f54s, f75, hk, Int.reduceEq, decide_true, decide_false, cond_true, cond_false, hb2, i0, obind, e1, e2, f83_63]
      cases ok with
      | false => exact Rel.no
      | true =>
        obtain ⟨rfl, hb⟩ := e3 rfl
        exact Rel.of fun _ => hb
    · -- a let
      obtain ⟨hk, x, y, hl⟩ := h
      have i0 : idx e.l 0 = some x := by rw [hl]; rfl
      have i1 : idx e.l 1 = some y := by rw [hl]; rfl
      obtain ⟨v, v', ok, e1, e2, e3⟩ := IH x 0 (by rw [hl]; rfl) (by omega)
      have so : sliceOk lets 0 (List.length lets : Int) = true := by simp [sliceOk]
      have ao : appOk 8 lets [v] = true := by simp [appOk, maxLen]; omega
      have ao1 : appOk 8 ([] : List Int) lets = true := by simp [appOk, maxLen]; omega
      have ao2 : appOk 8 (([] : List Int) ++ lets) [v'] = true := by simp [appOk, maxLen]; omega
      simp only [f53s, f54s, f76, hk, Int.reduceEq, decide_true, decide_false, cond_true, cond_false, hb2, i0, i1, obind, e1, e2, sliceF_all, so, ao, ao1, ao2, guardB]
      cases ok with
      | false => exact Rel.no
      | true =>
        obtain ⟨rfl, hb⟩ := e3 rfl
        simp only [Bool.not_true, cond_false, List.nil_append]
        have hvy := hv.sub 1 y (by rw [hl]; rfl)
        rw [if_pos ⟨hk, rfl⟩] at hvy
        refine value_rel s c n y (lets ++ [v]) (depth + 1) (he.sub y (by rw [hl]; simp)) (by simpa using hvy) (fun z hz => ?_) (by simp; omega) (by omega)
        rcases List.mem_append.1 hz with hz | hz
        · exact hlb z hz
        · simp only [List.mem_singleton] at hz; rw [hz]; exact hb
    · -- the value of a let
      obtain ⟨hk, hl, h1, h2⟩ := h
      have hI : I64 e.n := by cases he; assumption
      unfold I64 at hI
      rw [wu64 h1 (by omega)] at h2
      have w1 : IntKind.i64.wrap ((List.length lets : Int) - 1) = (List.length lets : Int) - 1 := w64' (by omega) (by omega)
      have w2 : IntKind.i64.wrap ((List.length lets : Int) - 1 - e.n) = (List.length lets : Int) - 1 - e.n := w64' (by omega) (by omega)
      obtain ⟨z, hz⟩ : ∃ z, idx lets ((List.length lets : Int) - 1 - e.n) = some z := by
        refine ⟨lets[((List.length lets : Int) - 1 - e.n).toNat]'(by omega), ?_⟩
        rw [idx, decide_eq_true (by omega), cond_true, List.getElem?_eq_getElem]
      simp only [f53s, f54s, f77, hk, Int.reduceEq, decide_true, decide_false, cond_true, cond_false, w1, w2, hz, obind]
      exact Rel.yes (hlb z (List.mem_of_getElem? (idx_get hz)))
    · -- an address
      obtain ⟨hk, hl, h1, h2⟩ := h
      simp only [f53s, f54s, f68, hk, Int.reduceEq, decide_true, decide_false, cond_true, cond_false]
      refine Rel.yes ?_
      rw [w64' (by omega) (by omega)]
      unfold Bs; omega
    · -- what an address leads to
      obtain ⟨hk, x, hl⟩ := h
      have i0 : idx e.l 0 = some x := by rw [hl]; rfl
      obtain ⟨v, v', ok, e1, e2, e3⟩ := IH x 0 (by rw [hl]; rfl) (by omega)
      simp only [f53s, f54s, f78, hk, Int.reduceEq, decide_true, decide_false, cond_true, cond_false, hb2, i0, obind, e1, e2]
      cases ok with
      | false => exact Rel.no
      | true =>
        obtain ⟨rfl, hb⟩ := e3 rfl
        simp only [Bool.not_true, Bool.false_or, cond_false]
        cases hc : decide (v < 1) with
        | true => exact Rel.no
        | false => exact rel_read ⟨s, c⟩ _ _
    · -- a count
      obtain ⟨hk, hl, h1, h2⟩ := h
      simp only [f53s, f54s, f79, f124, hk, Int.reduceEq, decide_true, decide_false, cond_true, cond_false, hb2]
      cases hc : decide (e.n ≥ (List.length c : Int)) with
      | true => exact Rel.no
      | false =>
        simp only [decide_eq_false_iff_not] at hc
        obtain ⟨z, hz⟩ : ∃ z, idx c e.n = some z := by
          refine ⟨c[e.n.toNat]'(by omega), ?_⟩
          rw [idx, decide_eq_true h1, cond_true, List.getElem?_eq_getElem]
        simp only [cond_false, hz, obind]
        cases hb : f61 z with
        | false => simp only [f81_61, hb, Bool.not_false, cond_true]; exact Rel.no
        | true => simp only [f81_61, hb, Bool.not_true, cond_false]; exact Rel.yes ((f61_iff z).1 hb)
end Go.Proofs.Ytjjgmpmhfodmeaa
/- Layer 19: Value. -/
namespace Go.Proofs.Ytjjgmpmhfodmeaa
open Go Go.Sk

theorem may_false_of {e : CE} {lets : Int} (h : may e lets = false) : ∀ (_ : 0 ≤ lets), snd e lets 1 256 = none := fun h0 => by
  simp only [may, Bool.and_eq_false_iff, decide_eq_false_iff_not] at h
  rcases h with h | h
  · exact absurd h0 h
  · simpa using h

/-- The value: nothing, or a number of the base range. -/
theorem value_eq (s : List (List Int)) (c : List Int) {e : CE} (he : GE e) : ∃ v ok, f21 s c e = some (v, ok) ∧ f22 s c e = some (v, ok) ∧ (ok = true → Bs v ∧ may e 0 = true) ∧ (ok = false → v = 0) := by
  have h0 : I64 0 := by unfold I64; omega
  cases hm : may e 0 with
  | false =>
    refine ⟨0, false, ?_, ?_, by simp, by simp⟩
    · simp [f21, f13_eq he h0, hm]
    · simp [f22, f14_eq he h0, hm]
  | true =>
    obtain ⟨_, hv⟩ := may_v hm
    obtain ⟨v, v', ok, e1, e2, e3⟩ := value_rel s c 100 e [] 1 he hv (fun x hx => by simp at hx) (by simp) (by omega)
    cases ok with
    | false =>
      refine ⟨0, false, ?_, ?_, by simp, by simp⟩
      · simp [f21, f13_eq he h0, hm, e1]
      · simp [f22, f14_eq he h0, hm, e2]
    | true =>
      obtain ⟨rfl, hb⟩ := e3 rfl
      refine ⟨v, true, ?_, ?_, fun _ => ⟨hb, rfl⟩, by simp⟩
      · simp [f21, f13_eq he h0, hm, e1]
      · simp [f22, f14_eq he h0, hm, e2]

theorem sort31 : f48 [3, 1] = some [1, 3] := by
  simp [f48, guardB, List.mergeSort, List.MergeSort.Internal.splitInTwo]
theorem reads31 : f18 (f27 1 (f39 3 0) (f39 1 0)) = some [1, 3] := by
  have h1 : f13 (f27 1 (f39 3 0) (f39 1 0)) 64 = some true := by kernel_rfl
  have h2 : f47 100 [] (f27 1 (f39 3 0) (f39 1 0)) = some [3, 1] := by kernel_rfl
  have h3 : f49 [1, 3] = some [1, 3] := by kernel_rfl
  simp only [f18, letk, h1, h2, sort31, h3, obind, cond_true]
theorem awake : f20 = some true := by
  unfold f20
  rw [reads31]
  kernel_rfl

/-- EvalValues -/
theorem law4 (s : List (List Int)) (c : List Int) {e : CE} (he : GE e) : f4 s c e = some true := by
  obtain ⟨v, ok, h1, h2, _⟩ := value_eq s c he
  simp [f4, h1, h2, awake]
/-- EvalRange -/
theorem law5 (s : List (List Int)) (c : List Int) {e : CE} (he : GE e) : f5 s c e = some true := by
  obtain ⟨v, ok, h1, h2, h3, h4⟩ := value_eq s c he
  cases ok with
  | true =>
    obtain ⟨⟨g1, g2⟩, g3⟩ := h3 rfl
    simp [f5, h1, awake, g1, g2, f14_eq he (show I64 0 by unfold I64; omega), g3]
  | false =>
    have := h4 rfl
    subst this
    simp [f5, h1, awake]
end Go.Proofs.Ytjjgmpmhfodmeaa
/- Layer 19: more fuel gives the same value; the value of each kind of expression. -/
namespace Go.Proofs.Ytjjgmpmhfodmeaa
open Go Go.Sk

abbrev VF := Wk → CE → Option (Int × Bool)
/-- It has the same answer with whatever answers more. -/
def Mn {β : Type} (F : VF → Option β) : Prop := ∀ val val' : VF, (∀ w e r, val w e = some r → val' w e = some r) → ∀ r, F val = some r → F val' = some r
theorem Mn.const {β : Type} (o : Option β) : Mn fun _ => o := fun _ _ _ _ h => h
theorem Mn.val (w : Wk) (e : CE) : Mn fun val => val w e := fun _ _ h r hr => h w e r hr
theorem Mn.bind {α β : Type} {F : VF → Option α} {G : α → VF → Option β} (hF : Mn F) (hG : ∀ a, Mn (G a)) : Mn fun val => (F val).bind fun a => G a val := fun val val' h r hr => by
  obtain ⟨a, h1, h2⟩ := Option.bind_eq_some_iff.1 hr
  exact Option.bind_eq_some_iff.2 ⟨a, hF val val' h a h1, hG a val val' h r h2⟩
theorem Mn.cond {β : Type} (c : Bool) {F G : VF → Option β} (hF : Mn F) (hG : Mn G) : Mn fun val => bif c then F val else G val := by cases c <;> first | exact hG | exact hF
theorem Mn.guard {β : Type} (c : Bool) {F : VF → Option β} (hF : Mn F) : Mn fun val => guardB c (F val) := by cases c <;> first | exact Mn.const none | exact hF
theorem Mn.f70 (w : Wk) (e : CE) : Mn fun val => f70 val w e := by
  unfold Ytjjgmpmhfodmeaa.f70
  exact Mn.bind (Mn.const _) fun _ => Mn.bind (Mn.val _ _) fun _ => Mn.cond _ (Mn.const _) (Mn.const _)
theorem Mn.f71 (w : Wk) (e : CE) : Mn fun val => f71 val w e := by
  unfold Ytjjgmpmhfodmeaa.f71 letk
  exact Mn.bind (Mn.const _) fun _ => Mn.bind (Mn.val _ _) fun _ => Mn.const _
theorem Mn.f72 (w : Wk) (e : CE) : Mn fun val => f72 val w e := by
  unfold Ytjjgmpmhfodmeaa.f72
  exact Mn.bind (Mn.const _) fun _ => Mn.bind (Mn.val _ _) fun _ => Mn.cond _ (Mn.const _) (Mn.bind (Mn.const _) fun _ => Mn.bind (Mn.val _ _) fun _ => Mn.const _)
theorem Mn.f73 (w : Wk) (e : CE) : Mn fun val => f73 val w e := by
  unfold Ytjjgmpmhfodmeaa.f73
  exact Mn.bind (Mn.const _) fun _ => Mn.bind (Mn.val _ _) fun _ => Mn.cond _ (Mn.const _) (Mn.bind (Mn.const _) fun _ => Mn.bind (Mn.val _ _) fun _ => Mn.const _)
theorem Mn.f74 (w : Wk) (e : CE) : Mn fun val => f74 val w e := by
  unfold Ytjjgmpmhfodmeaa.f74
  exact Mn.bind (Mn.const _) fun _ => Mn.bind (Mn.val _ _) fun _ => Mn.cond _ (Mn.const _) (Mn.bind (Mn.const _) fun _ => Mn.bind (Mn.val _ _) fun _ => Mn.const _)
theorem Mn.f75 (w : Wk) (e : CE) : Mn fun val => f75 val w e := by
  unfold Ytjjgmpmhfodmeaa.f75
  exact Mn.bind (Mn.const _) fun _ => Mn.bind (Mn.val _ _) fun _ => Mn.const _
theorem Mn.f76 (w : Wk) (e : CE) : Mn fun val => f76 val w e := by
  unfold Ytjjgmpmhfodmeaa.f76
  exact Mn.bind (Mn.const _) fun _ => Mn.bind (Mn.val _ _) fun _ => Mn.cond _ (Mn.const _) (Mn.guard _ (Mn.guard _ (Mn.bind (Mn.const _) fun _ => Mn.bind (Mn.val _ _) fun _ => Mn.const _)))
theorem Mn.f78 (w : Wk) (e : CE) : Mn fun val => f78 val w e := by
  unfold Ytjjgmpmhfodmeaa.f78
  exact Mn.bind (Mn.const _) fun _ => Mn.bind (Mn.val _ _) fun _ => Mn.const _
theorem Mn.f53s (w : Wk) (e : CE) : Mn fun val => f53s val w e := by
  unfold Ytjjgmpmhfodmeaa.f53s
  have p : ∀ {F : VF → Option (Int × Bool)}, Mn F → Mn fun val => (F val).bind fun r => some (r.1, r.2) := fun h => Mn.bind h fun _ => Mn.const _
  exact Mn.cond _ (Mn.const _) (Mn.cond _ (Mn.const _) (Mn.cond _ (p (Mn.f70 w e)) (Mn.cond _ (p (Mn.f71 w e)) (Mn.cond _ (p (Mn.f72 w e)) (Mn.cond _ (p (Mn.f73 w e)) (Mn.cond _ (p (Mn.f73 w e)) (Mn.cond _ (p (Mn.f74 w e)) (Mn.cond _ (p (Mn.f75 w e)) (Mn.cond _ (p (Mn.f76 w e)) (Mn.cond _ (Mn.const _) (Mn.cond _ (Mn.const _) (Mn.cond _ (p (Mn.f78 w e)) (Mn.cond _ (Mn.const _) (Mn.const _))))))))))))))

theorem f53_succ : ∀ (n : Nat) (w : Wk) (e : CE) (r : Int × Bool), f53 n w e = some r → f53 (n + 1) w e = some r
  | 0, _, _, _, h => by cases h
  | n + 1, w, e, r, h => Mn.f53s w e (f53 n) (f53 (n + 1)) (f53_succ n) r h
theorem f53_mono {n m : Nat} (hnm : n ≤ m) {w : Wk} {e : CE} {r : Int × Bool} (h : f53 n w e = some r) : f53 m w e = some r := by
  induction m with
  | zero => have : n = 0 := by omega
            subst this; exact h
  | succ m ih =>
    by_cases hm : n = m + 1
    · subst hm; exact h
    · exact f53_succ m w e r (ih (by omega))

/-- e has the value r (a number, or none) in w. -/
def Vl (w : Wk) (e : CE) (r : Int × Bool) : Prop := ∃ n, f53 n w e = some r
theorem Vl.det {w : Wk} {e : CE} {r r' : Int × Bool} (h : Vl w e r) (h' : Vl w e r') : r = r' := by
  obtain ⟨n, h⟩ := h
  obtain ⟨m, h'⟩ := h'
  have a := f53_mono (Nat.le_max_left n m) h
  have b := f53_mono (Nat.le_max_right n m) h'
  exact Option.some.inj (a.symm.trans b)
theorem Vl.two {w w' : Wk} {e e' : CE} {r r' : Int × Bool} (h : Vl w e r) (h' : Vl w' e' r') : ∃ n, f53 n w e = some r ∧ f53 n w' e' = some r' := by
  obtain ⟨n, h⟩ := h
  obtain ⟨m, h'⟩ := h'
  exact ⟨max n m, f53_mono (Nat.le_max_left n m) h, f53_mono (Nat.le_max_right n m) h'⟩
theorem Vl.at {w : Wk} {e : CE} {lets : List Int} {depth : Int} {s : List (List Int)} {c : List Int} (hw : w = ⟨⟨s, c⟩, lets⟩) (he : GE e) (hv : V e (List.length lets : Int) depth) (hlb : LB lets) (hll : (List.length lets : Int) < depth) {n : Nat} (hn : 66 - depth ≤ n) {r : Int × Bool} (h : Vl w e r) : f53 n w e = some r ∧ (r.2 = true → Bs r.1) := by
  subst hw
  obtain ⟨v, v', ok, e1, e2, e3⟩ := value_rel s c n e lets depth he hv hlb hll hn
  have := h.det ⟨n, e1⟩
  subst this
  exact ⟨e1, fun hb => (e3 hb).2⟩
end Go.Proofs.Ytjjgmpmhfodmeaa
/- Layer 19: elements, division. -/
namespace Go.Proofs.Ytjjgmpmhfodmeaa
open Go Go.Sk

theorem i64_0 : I64 0 := by unfold I64; omega
theorem f21_no (s : List (List Int)) (c : List Int) {e : CE} (he : GE e) (hm : may e 0 = false) : f21 s c e = some (0, false) := by
  simp [f21, f13_eq he i64_0, hm]
/-- The value of a sound expression. -/
theorem f21_of (s : List (List Int)) (c : List Int) {e : CE} (he : GE e) (hm : may e 0 = true) : ∃ v ok, Vl ⟨⟨s, c⟩, []⟩ e (v, ok) ∧ f21 s c e = some (if ok = true then v else 0, ok) ∧ (ok = true → Bs v) := by
  obtain ⟨_, hv⟩ := may_v hm
  obtain ⟨v, v', ok, e1, e2, e3⟩ := value_rel s c 100 e [] 1 he hv (fun x hx => by simp at hx) (by simp) (by omega)
  refine ⟨v, ok, ⟨100, e1⟩, ?_, fun h => (e3 h).2⟩
  cases ok <;> simp [f21, f13_eq he i64_0, hm, e1]
theorem f21_vl (s : List (List Int)) (c : List Int) {e : CE} (he : GE e) (hm : may e 0 = true) {r : Int × Bool} (h : Vl ⟨⟨s, c⟩, []⟩ e r) : f21 s c e = some (if r.2 = true then r.1 else 0, r.2) := by
  obtain ⟨v', ok', h1, h2, _⟩ := f21_of s c he hm
  have := h.det h1
  subst this
  exact h2
/-- What is read in a slot. -/
def rdv (s : List (List Int)) (o k : Int) : Int × Bool := match rd s o k with | none => (0, false) | some x => (x, f61 x)
theorem f125_rdv (w : St) (o k : Int) : f125 w o k = some (rdv w.s o k) := by
  rw [f125_eq]; unfold rdv; cases rd w.s o k <;> rfl
def elemv (s : List (List Int)) (o off len : Int) (r : Int × Bool) : Int × Bool := if r.2 = true ∧ 0 ≤ r.1 ∧ r.1 < len then rdv s o (IntKind.i64.wrap (off + r.1)) else (0, false)

theorem Vl.step {w : Wk} {e : CE} {r : Int × Bool} {n : Nat} (h : f53s (f53 n) w e = some r) : Vl w e r := ⟨n + 1, h⟩
theorem bind2 (o : Option (Int × Bool)) : (Option.bind o fun r => some (r.1, r.2)) = o := by cases o <;> rfl

theorem Vl.elem {w : Wk} {x : CE} {v : Int} {ok : Bool} (h : Vl w x (v, ok)) (op n o off len lo hi : Int) : Vl w ⟨3, op, n, o, off, len, lo, hi, [x]⟩ (elemv w.st.s o off len (v, ok)) := by
  unfold elemv
  obtain ⟨k, h⟩ := h
  refine Vl.step (n := k) ?_
  have i0 : idx [x] 0 = some x := rfl
  simp only [f53s, f70, Int.reduceEq, decide_true, decide_false, cond_true, cond_false, bind2, i0, obind, h]
  by_cases hc : ok = true ∧ 0 ≤ v ∧ v < len
  · rw [if_pos hc]
    have : (!ok || decide (v < 0) || decide (v ≥ len)) = false := by
      rw [hc.1, decide_eq_false (show ¬ v < 0 by omega), decide_eq_false (show ¬ v ≥ len by omega)]; rfl
    rw [this, cond_false, f125_rdv]
  · rw [if_neg hc]
    have : (!ok || decide (v < 0) || decide (v ≥ len)) = true := by
      cases ok
      · rfl
      · simp only [Bool.not_true, Bool.false_or, Bool.or_eq_true, decide_eq_true_eq]
        simp only [true_and, not_and] at hc
        omega
    rw [this, cond_true]

theorem f4344 {o off len : Int} (ho : I64 off) (hl : I64 len) : (f43 o && f44 off len) = (f45 o && f46 off len) := by
  unfold I64 at ho hl
  have w1 : 0 ≤ off → off < 16384 → IntKind.i64.wrap (16384 - off) = 16384 - off := fun h1 h2 => w64' (by omega) (by omega)
  have w2 : 0 ≤ off → off < 16384 → len ≤ 16384 → 1 ≤ len → IntKind.i64.wrap (off + len) = off + len := fun h1 h2 h3 h4 => w64' (by omega) (by omega)
  rw [Bool.eq_iff_iff]
  simp only [f43, f44, f45, f46, Bool.and_eq_true, decide_eq_true_eq]
  omega

/-- EvalElems -/
theorem law9 (s : List (List Int)) {o off len : Int} (ho : I64 o) (hoff : I64 off) (hlen : I64 len) {x : CE} (hx : GE x) : f9 s o off len x = some true := by
  have he : GE ⟨3, 0, 0, o, off, len, 0, 0, [x]⟩ := .mk (by unfold U8; omega) (by unfold U8; omega) i64_0 ho hoff hlen i64_0 i64_0 (fun y hy => by simp at hy; rw [hy]; exact hx) (by simp)
  have h16 : f16 ⟨2, o, off, len, [x]⟩ = some ((f45 o && f46 off len) && may x 0) := by
    have i0 : idx [x] 0 = some x := rfl
    simp [f16, i0, f14_eq hx i64_0]
    cases (f45 o && f46 off len) <;> simp
  have h15 : f15 ⟨2, o, off, len, [x]⟩ = some ((f45 o && f46 off len) && may x 0) := by
    have i0 : idx [x] 0 = some x := rfl
    simp [f15, i0, f13_eq hx i64_0, f4344 hoff hlen]
  unfold f9
  rw [h16, f14_eq he i64_0, obind]
  by_cases hc : ((f45 o && f46 off len) && may x 0) = true ∧ may ⟨3, 0, 0, o, off, len, 0, 0, [x]⟩ 0 = true
  · have hb : (!(f45 o && f46 off len && may x 0)) = false := by rw [hc.1]; rfl
    have hmx : may x 0 = true := by have := hc.1; simp only [Bool.and_eq_true] at this; exact this.2
    obtain ⟨v, ok, hv, hfx, hbs⟩ := f21_of s [] hx hmx
    have hve := f21_vl s [] he hc.2 (hv.elem 0 0 o off len 0 0)
    have i0 : idx [x] 0 = some x := rfl
    simp only [hb, hc.2, cond_false, obind, Bool.not_true]
    have h29 : f29 s ⟨2, o, off, len, [x]⟩ = some (if ok = true ∧ 0 ≤ v ∧ v < len then (match rd s o (IntKind.i64.wrap (off + v)) with | none => (⟨0, 0⟩, false) | some _ => (⟨o, IntKind.i64.wrap (off + v)⟩, true)) else (⟨0, 0⟩, false)) := by
      unfold f29
      rw [h15, hc.1]
      have hl1 : decide ((List.length [x] : Int) = 1) = true := rfl
      simp only [obind, Bool.not_true, cond_false, letk, hl1, decide_true, cond_true, i0, hfx, f55_eq]
      cases ok with
      | false => rfl
      | true =>
        simp only [if_true, Bool.not_true, cond_false, true_and]
        by_cases h0 : v < 0
        · simp [h0, show ¬ (0 ≤ v ∧ v < len) by omega]
        · by_cases h1 : v ≥ len
          · simp [h0, h1, show ¬ (0 ≤ v ∧ v < len) by omega]
          · rw [if_pos (by omega)]
            simp only [h0, h1, decide_false, cond_false, Bool.and_false]
            cases hr : rd s o (IntKind.i64.wrap (off + v)) <;> simp
    rw [h29, hve]
    simp only [obind]
    by_cases hin : ok = true ∧ 0 ≤ v ∧ v < len
    · have hel : elemv s o off len (v, ok) = rdv s o (IntKind.i64.wrap (off + v)) := by unfold elemv; rw [if_pos hin]
      rw [if_pos hin, hel]
      unfold rdv
      cases hr : rd s o (IntKind.i64.wrap (off + v)) with
      | none => simp [awake]
      | some z =>
        obtain ⟨l, h1, h2⟩ := rd_some hr
        simp only [Bool.not_true, cond_false, f30_eq, hr, Option.isSome_some, obind, h1, h2]
        by_cases hbz : Bs z
        · have hz := (f61_iff z).2 hbz
          unfold Bs at hbz
          simp [awake, hz, show ¬ z < -2147483648 by omega, show ¬ z > 2147483647 by omega]
        · have hz : f61 z = false := by rw [Bool.eq_false_iff]; exact fun h => hbz ((f61_iff z).1 h)
          have hcc : (decide (z < -2147483648) || decide (z > 2147483647)) = true := by
            simp only [Bool.or_eq_true, decide_eq_true_eq]; unfold Bs at hbz; omega
          rw [hcc]
          simp [awake, hz]
    · have hel : elemv s o off len (v, ok) = (0, false) := by unfold elemv; rw [if_neg hin]
      rw [if_neg hin, hel]
      simp [awake]
  · have hb : (Option.bind (bif (!(f45 o && f46 off len && may x 0)) then some true else (Option.bind (some (may ⟨3, 0, 0, o, off, len, 0, 0, [x]⟩ 0)) fun r110 => some (!r110))) fun b109 => some b109) = some true := by
      cases h1 : (f45 o && f46 off len && may x 0) with
      | false => rfl
      | true =>
        have h2 : may ⟨3, 0, 0, o, off, len, 0, 0, [x]⟩ 0 = false := by
          cases h3 : may ⟨3, 0, 0, o, off, len, 0, 0, [x]⟩ 0
          · rfl
          · exact absurd ⟨h1, h3⟩ hc
        simp [h2]
    have hb' : (bif (!(f45 o && f46 off len && may x 0)) then some true else (Option.bind (some (may ⟨3, 0, 0, o, off, len, 0, 0, [x]⟩ 0)) fun r110 => some (!r110))) = some true := by
      simpa using hb
    rw [hb', obind, cond_true, awake]
    rfl

/-! ### Division -/
theorem ge_num {v : Int} (h : I64 v) : GE (f26 v) := .mk (by unfold U8; omega) (by unfold U8; omega) h i64_0 i64_0 i64_0 i64_0 i64_0 (fun y hy => by simp at hy) (by simp)
theorem ge_bin {op : Int} (h : U8 op) {x y : CE} (hx : GE x) (hy : GE y) : GE (f27 op x y) := .mk (by unfold U8; omega) h i64_0 i64_0 i64_0 i64_0 i64_0 i64_0 (fun z hz => by simp at hz; rcases hz with rfl | rfl <;> assumption) (by simp)
theorem Vl.num (w : Wk) (v : Int) : Vl w (f26 v) (v, true) := ⟨1, rfl⟩
theorem Vl.bin {w : Wk} {x y : CE} {a b : Int} (op : Int) (ha : Vl w x (a, true)) (hb : Vl w y (b, true)) {r : Int × Bool} (h : binP op a b = some r) : Vl w (f27 op x y) r := by
  obtain ⟨n, h1, h2⟩ := Vl.two ha hb
  refine Vl.step (n := n) ?_
  have : f72 (f53 n) w (f27 op x y) = some r := by
    rw [f72_eq (x := x) (y := y) rfl, h1, Option.bind_some, Bool.not_true, cond_false, h2, Option.bind_some, Bool.not_true, cond_false]
    exact h
  simp only [f53s, f27, Int.reduceEq, decide_true, decide_false, cond_true, cond_false, bind2] at this ⊢
  exact this
theorem may_bin {op a b : Int} (h1 : 1 ≤ op) (h2 : op ≤ 15) (ha : Bs a) (hb : Bs b) : may (f27 op (f26 a) (f26 b)) 0 = true := by
  have fa : f81 a = true := (f81_iff a).2 ha
  have fb : f81 b = true := (f81_iff b).2 hb
  have k1 : f65 (f26 a) 0 = true := by simp [f65, f26, f88, fa]
  have k2 : f65 (f26 b) 0 = true := by simp [f65, f26, f88, fb]
  have k3 : f65 (f27 op (f26 a) (f26 b)) 0 = true := by simp [f65, f27, f88, h1, h2]
  simp only [f26, f27] at k1 k2 k3
  simp [may, snd, sndL, f27, f26, k1, k2, k3]

theorem div_eq (s : List (List Int)) (c : List Int) {op a b : Int} (h1 : 1 ≤ op) (h2 : op ≤ 15) (ha : Bs a) (hb : Bs b) {r : Int × Bool} (h : binP op a b = some r) : f21 s c (f27 op (f26 a) (f26 b)) = some (if r.2 = true then r.1 else 0, r.2) := by
  have i : ∀ {v : Int}, Bs v → I64 v := fun h => by unfold Bs at h; unfold I64; omega
  exact f21_vl s c (ge_bin (by unfold U8; omega) (ge_num (i ha)) (ge_num (i hb))) (may_bin h1 h2 ha hb) (Vl.bin op (Vl.num _ a) (Vl.num _ b) h)
end Go.Proofs.Ytjjgmpmhfodmeaa
/- Layer 19: EvalDivides. -/
namespace Go.Proofs.Ytjjgmpmhfodmeaa
open Go Go.Sk

def md (a b : Int) : Int := if Int.tmod a b ≠ 0 ∧ ¬ (Int.tmod a b < 0 ↔ b < 0) then Int.tmod a b + b else Int.tmod a b

theorem binP4 {a b : Int} (hb : b ≠ 0) (ha : Bs a) : binP 4 a b = some (Int.tdiv a b, f61 (Int.tdiv a b)) := by
  have hnz : nz b = true := by simp [nz, hb]
  have := tdiv_bs (b := b) ha
  have hw : IntKind.i64.wrap (Int.tdiv a b) = Int.tdiv a b := w64' (by omega) (by omega)
  simp only [binP, letk, Int.reduceEq, Int.reduceLE, ge_iff_le, decide_true, decide_false, Bool.false_and, cond_true, cond_false, hb, hnz, guardB, hw]
theorem binP5 {a b : Int} (hb : b ≠ 0) (hbb : Bs b) : binP 5 a b = some (Int.tmod a b, true) := by
  have hnz : nz b = true := by simp [nz, hb]
  have h61 : f61 (Int.tmod a b) = true := (f61_iff _).2 (tmod_bs (a := a) hb hbb).1
  simp only [binP, letk, Int.reduceEq, Int.reduceLE, ge_iff_le, decide_true, decide_false, Bool.false_and, cond_true, cond_false, hb, hnz, guardB, h61]
theorem md_facts {a b : Int} (hb : b ≠ 0) (hbb : Bs b) : Bs (md a b) ∧ (md a b).natAbs < b.natAbs ∧ (0 < b → 0 ≤ md a b) ∧ (b < 0 → md a b ≤ 0) ∧ (md a b = Int.tmod a b ∨ md a b = Int.tmod a b + b) := by
  obtain ⟨t1, t2, t3, t4⟩ := tmod_bs (a := a) hb hbb
  unfold md
  split
  · rename_i h
    unfold Bs at *
    refine ⟨by omega, by omega, by omega, by omega, .inr rfl⟩
  · rename_i h
    have : Int.tmod a b = 0 ∨ (Int.tmod a b < 0 ↔ b < 0) := by
      by_cases h0 : Int.tmod a b = 0
      · exact .inl h0
      · right
        by_cases h1 : (Int.tmod a b < 0 ↔ b < 0)
        · exact h1
        · exact absurd ⟨h0, h1⟩ h
    refine ⟨t1, t2, by omega, by omega, .inl rfl⟩
theorem binP6 {a b : Int} (hb : b ≠ 0) (hbb : Bs b) : binP 6 a b = some (md a b, true) := by
  have hnz : nz b = true := by simp [nz, hb]
  obtain ⟨t1, t2, _⟩ := tmod_bs (a := a) hb hbb
  have hw : IntKind.i64.wrap (Int.tmod a b + b) = Int.tmod a b + b := by unfold Bs at t1 hbb; exact w64' (by omega) (by omega)
  have hcond : (!decide (Int.tmod a b = 0) && !(decide (Int.tmod a b < 0) == decide (b < 0))) = decide (Int.tmod a b ≠ 0 ∧ ¬ (Int.tmod a b < 0 ↔ b < 0)) := by
    rw [Bool.eq_iff_iff]; simp
  have h61 : f61 (md a b) = true := (f61_iff _).2 (md_facts hb hbb).1
  simp only [binP, letk, Int.reduceEq, Int.reduceLE, ge_iff_le, decide_true, decide_false, Bool.false_and, cond_true, cond_false, hb, hnz, guardB, hw, hcond]
  unfold md at h61 ⊢
  by_cases hc : Int.tmod a b ≠ 0 ∧ ¬ (Int.tmod a b < 0 ↔ b < 0)
  · rw [if_pos hc] at h61 ⊢
    rw [decide_eq_true hc, cond_true, h61]
  · rw [if_neg hc] at h61 ⊢
    rw [decide_eq_false hc, cond_false, h61]

theorem mul_sign {x y : Int} (h1 : 0 ≤ y → 0 ≤ x) (h2 : y ≤ 0 → x ≤ 0) : 0 ≤ x * y := by
  rcases Int.le_total 0 y with h | h
  · exact Int.mul_nonneg (h1 h) h
  · exact Int.mul_nonneg_of_nonpos_of_nonpos (h2 h) h

theorem law7 {a b : Int} (ha : Bs a) (hb : Bs b) : f7 a b = some true := by
  have wa : IntKind.i64.wrap a = a := by unfold Bs at ha; exact w64' (by omega) (by omega)
  have wb : IntKind.i64.wrap b = b := by unfold Bs at hb; exact w64' (by omega) (by omega)
  unfold f7
  rw [wa, wb]
  by_cases h0 : b = 0
  · subst h0
    have e4 : binP 4 a 0 = some (0, false) := rfl
    have e5 : binP 5 a 0 = some (0, false) := rfl
    have e6 : binP 6 a 0 = some (0, false) := rfl
    rw [div_eq [] [] (by decide) (by decide) ha hb e4, div_eq [] [] (by decide) (by decide) ha hb e5, div_eq [] [] (by decide) (by decide) ha hb e6]
    simp [awake]
  · rw [div_eq [] [] (by decide) (by decide) ha hb (binP4 h0 ha), div_eq [] [] (by decide) (by decide) ha hb (binP5 h0 hb), div_eq [] [] (by decide) (by decide) ha hb (binP6 h0 hb)]
    simp only [obind, decide_eq_false h0, cond_false, if_true]
    by_cases hm : a = -2147483648 ∧ b = -1
    · obtain ⟨rfl, rfl⟩ := hm
      rw [awake]
      rfl
    · have hmf : (decide (a = -2147483648) && decide (b = -1)) = false := by
        rw [Bool.eq_false_iff]; intro h; apply hm; simpa using h
      have hq : Bs (Int.tdiv a b) := by
        have h1 : (Int.tdiv a b).natAbs = a.natAbs / b.natAbs := Int.natAbs_tdiv a b
        have h2 := tdiv_bs (b := b) ha
        by_cases hb1 : b.natAbs = 1
        · have : b = 1 ∨ b = -1 := by omega
          rcases this with rfl | rfl
          · rw [Int.tdiv_one]; exact ha
          · have e : Int.tdiv a (-1) = -a := by rw [Int.tdiv_neg, Int.tdiv_one]
            rw [e]; unfold Bs at *; omega
        · have h3 : a.natAbs / b.natAbs ≤ a.natAbs / 2 := Nat.div_le_div_left (by omega) (by omega)
          unfold Bs at *; omega
      have hq61 := (f61_iff _).2 hq
      obtain ⟨t1, t2, t3, t4⟩ := tmod_bs (a := a) h0 hb
      obtain ⟨m1, m2, m3, m4, m5⟩ := md_facts (a := a) h0 hb
      have hdm : Int.tdiv a b * b + Int.tmod a b = a := Int.tdiv_mul_add_tmod a b
      have p1 := mul_bs hq hb
      have p2 := mul_bs t1 ha
      have p3 := mul_bs m1 hb
      have s1 : 0 ≤ Int.tmod a b * a := mul_sign t3 t4
      have s2 : 0 ≤ md a b * b := mul_sign (fun h => m3 (by omega)) (fun h => m4 (by omega))
      have w1 : IntKind.i64.wrap (Int.tdiv a b * b) = Int.tdiv a b * b := w64' (by omega) (by omega)
      have w2 : IntKind.i64.wrap (Int.tmod a b * a) = Int.tmod a b * a := w64' (by omega) (by omega)
      have w3 : IntKind.i64.wrap (md a b * b) = md a b * b := w64' (by omega) (by omega)
      have w4 : IntKind.i64.wrap (md a b - Int.tmod a b) = md a b - Int.tmod a b := by unfold Bs at m1 t1; exact w64' (by omega) (by omega)
      have w5 : IntKind.i64.wrap (0 - b) = 0 - b := by unfold Bs at hb; exact w64' (by omega) (by omega)
      have hab : (if IntKind.i64.wrap (0 - b) > b then IntKind.i64.wrap (0 - b) else b) = (b.natAbs : Int) := by
        rw [w5]; split <;> omega
      have w6 : IntKind.i64.wrap (0 - (b.natAbs : Int)) = 0 - (b.natAbs : Int) := by unfold Bs at hb; exact w64' (by omega) (by omega)
      have hnz : nz b = true := by simp [nz, h0]
      have hmr : Int.tmod (md a b - Int.tmod a b) b = 0 := by
        rcases m5 with h | h
        · rw [h, Int.sub_self]; exact Int.zero_tmod b
        · rw [h, show Int.tmod a b + b - Int.tmod a b = b by omega]; exact Int.tmod_self
      have c1 : decide (0 - (b.natAbs : Int) < Int.tmod a b) = true := decide_eq_true (by omega)
      have c2 : decide (Int.tmod a b < (b.natAbs : Int)) = true := decide_eq_true (by omega)
      have c3 : decide (0 - (b.natAbs : Int) < md a b) = true := decide_eq_true (by omega)
      have c4 : decide (md a b < (b.natAbs : Int)) = true := decide_eq_true (by omega)
      simp only [hmf, cond_false, hq61, if_true, hab, w1, hdm, wa, w2, w3, w4, w6, c1, c2, c3, c4, hmr, hnz, guardB, decide_eq_true s1, decide_eq_true s2, ge_iff_le, decide_true, Bool.and_true, cond_true, obind, awake]
end Go.Proofs.Ytjjgmpmhfodmeaa
/- Layer 19: EvalNegates. -/
namespace Go.Proofs.Ytjjgmpmhfodmeaa
open Go Go.Sk

/-- The values of the forms, by those of their parts. -/
def notv (r : Int × Bool) : Int × Bool := (IntKind.i64.wrap (1 - r.1), r.2 && f63 r.1 0 1)
def decv (t : Int) (r q : Int × Bool) : Int × Bool := if r.2 = true ∧ f63 r.1 0 1 = true ∧ r.1 ≠ t then (q.1, q.2 && f63 q.1 0 1) else (r.1, r.2 && f63 r.1 0 1)
def ifv (r q p : Int × Bool) : Int × Bool := if r.2 = true ∧ f63 r.1 0 1 = true then (if r.1 = 1 then q else p) else (0, false)

theorem Vl.not {w : Wk} {x : CE} {r : Int × Bool} (h : Vl w x r) : Vl w (f28 x) (notv r) := by
  obtain ⟨n, h⟩ := h
  refine Vl.step (n := n) ?_
  have i0 : idx [x] 0 = some x := rfl
  simp only [f53s, f28, f71, letk, Int.reduceEq, decide_true, decide_false, cond_true, cond_false, bind2, i0, obind, h]
  rfl
theorem Vl.dec {w : Wk} {x y : CE} {k t : Int} (hk : (k = 6 ∧ t = 0) ∨ (k = 7 ∧ t = 1)) {r q : Int × Bool} (hr : Vl w x r) (hq : Vl w y q) : Vl w (f23 k [x, y]) (decv t r q) := by
  obtain ⟨n, h1, h2⟩ := Vl.two hr hq
  refine Vl.step (n := n) ?_
  have i0 : idx [x, y] 0 = some x := rfl
  have i1 : idx [x, y] 1 = some y := rfl
  have main : f73 (f53 n) w (f23 k [x, y]) = some (decv t r q) := by
    have ht : f100 (decide ((f23 k [x, y]).kind = 7)) = t := by rcases hk with ⟨rfl, rfl⟩ | ⟨rfl, rfl⟩ <;> rfl
    have hl : (f23 k [x, y]).l = [x, y] := rfl
    unfold f73
    rw [hl, i0, obind, h1, obind, ht, i1, obind, h2, obind]
    unfold decv
    by_cases hc : r.2 = true ∧ f63 r.1 0 1 = true ∧ r.1 ≠ t
    · rw [if_pos hc, hc.1, hc.2.1, decide_eq_false hc.2.2]; rfl
    · rw [if_neg hc]
      have : (!r.2 || !f63 r.1 0 1 || decide (r.1 = t)) = true := by
        by_cases a : r.2 = true
        · by_cases b : f63 r.1 0 1 = true
          · by_cases d : r.1 = t
            · simp [d]
            · exact absurd ⟨a, b, d⟩ hc
          · simp [b]
        · simp [a]
      rw [this, cond_true]
  rcases hk with ⟨rfl, rfl⟩ | ⟨rfl, rfl⟩
  · simp only [f53s, f23, Int.reduceEq, decide_true, decide_false, cond_true, cond_false, bind2] at main ⊢
    exact main
  · simp only [f53s, f23, Int.reduceEq, decide_true, decide_false, cond_true, cond_false, bind2] at main ⊢
    exact main
theorem Vl.ite {w : Wk} {x y z : CE} {r q p : Int × Bool} (hr : Vl w x r) (hq : Vl w y q) (hp : Vl w z p) : Vl w (f23 8 [x, y, z]) (ifv r q p) := by
  obtain ⟨a, h1⟩ := hr
  obtain ⟨b, h2⟩ := hq
  obtain ⟨c, h3⟩ := hp
  have h1 := f53_mono (m := a + b + c) (by omega) h1
  have h2 := f53_mono (m := a + b + c) (by omega) h2
  have h3 := f53_mono (m := a + b + c) (by omega) h3
  refine Vl.step (n := a + b + c) ?_
  have i0 : idx [x, y, z] 0 = some x := rfl
  have i1 : idx [x, y, z] 1 = some y := rfl
  have i2 : idx [x, y, z] 2 = some z := rfl
  simp only [f53s, f23, f74, Int.reduceEq, decide_true, decide_false, cond_true, cond_false, bind2, i0, obind, h1]
  unfold ifv
  by_cases hc : r.2 = true ∧ f63 r.1 0 1 = true
  · rw [if_pos hc, hc.1, hc.2]
    simp only [Bool.not_true, Bool.or_self, cond_false]
    rcases in01.1 hc.2 with h | h
    · have w2 : IntKind.i64.wrap (2 - 0) = 2 := rfl
      rw [h, w2, i2, obind, h3]; rfl
    · have w1 : IntKind.i64.wrap (2 - 1) = 1 := rfl
      rw [h, w1, i1, obind, h2]; rfl
  · rw [if_neg hc]
    have : (!r.2 || !f63 r.1 0 1) = true := by
      by_cases a : r.2 = true
      · by_cases b : f63 r.1 0 1 = true
        · exact absurd ⟨a, b⟩ hc
        · simp [b]
      · simp [a]
    rw [this, cond_true]

theorem may_sub {e : CE} {lets depth : Int} (h : V e lets depth) (hk : e.kind ≠ 10) : ∀ x ∈ e.l, V x lets (depth + 1) := fun x hx => by
  obtain ⟨i, hi⟩ := List.mem_iff_getElem?.1 hx
  have := h.sub i x hi
  rwa [if_neg (by intro h; exact hk h.1)] at this
/-- The parts of a sound expression have values. -/
theorem v_val (s : List (List Int)) (c : List Int) {e : CE} {depth : Int} (he : GE e) (h : V e 0 depth) (hd : 1 ≤ depth) : ∃ r, Vl ⟨⟨s, c⟩, []⟩ e r ∧ (r.2 = true → Bs r.1) := by
  obtain ⟨v, v', ok, e1, e2, e3⟩ := value_rel s c 100 e [] depth he (by simpa using h) (fun x hx => by simp at hx) (by simp; omega) (by omega)
  exact ⟨(v, ok), ⟨100, e1⟩, fun h => (e3 h).2⟩

def tp (r : Int × Bool) : Int × Bool := (if r.2 = true then r.1 else 0, r.2)
theorem w10 : IntKind.i64.wrap (1 - 0) = 1 := rfl
theorem w11 : IntKind.i64.wrap (1 - 1) = 0 := rfl
theorem tp_false (v w : Int) : tp (v, false) = tp (w, false) := rfl
theorem neg_q {q : Int × Bool} : tp (IntKind.i64.wrap (1 - q.1), (q.2 && f63 q.1 0 1) && f63 q.1 0 1) = tp (IntKind.i64.wrap (1 - q.1), (q.2 && f63 q.1 0 1) && f63 (IntKind.i64.wrap (1 - q.1)) 0 1) := by
  by_cases hin : f63 q.1 0 1 = true
  · rcases in01.1 hin with h | h <;> rw [h] <;> cases q.2 <;> rfl
  · have : f63 q.1 0 1 = false := by simpa using hin
    rw [this]; simp [tp]
theorem neg_then (r q : Int × Bool) : tp (notv (decv 0 r q)) = tp (decv 1 (notv r) (notv q)) := by
  obtain ⟨v, ok⟩ := r
  cases ok with
  | false => simp [notv, decv, tp]
  | true =>
    by_cases hin : f63 v 0 1 = true
    · rcases in01.1 hin with rfl | rfl
      · rfl
      · have a : decv 0 (1, true) q = (q.1, q.2 && f63 q.1 0 1) := by unfold decv; rw [if_pos ⟨rfl, rfl, by decide⟩]
        have b : decv 1 (notv (1, true)) (notv q) = ((notv q).1, (notv q).2 && f63 (notv q).1 0 1) := by
          have : notv (1, true) = (0, true) := rfl
          rw [this]; unfold decv; rw [if_pos ⟨rfl, rfl, by decide⟩]
        rw [a, b]
        exact neg_q
    · have h0 : f63 v 0 1 = false := by simpa using hin
      simp [notv, decv, tp, h0]
theorem neg_else (r q : Int × Bool) : tp (notv (decv 1 r q)) = tp (decv 0 (notv r) (notv q)) := by
  obtain ⟨v, ok⟩ := r
  cases ok with
  | false => simp [notv, decv, tp]
  | true =>
    by_cases hin : f63 v 0 1 = true
    · rcases in01.1 hin with rfl | rfl
      · have a : decv 1 (0, true) q = (q.1, q.2 && f63 q.1 0 1) := by unfold decv; rw [if_pos ⟨rfl, rfl, by decide⟩]
        have b : decv 0 (notv (0, true)) (notv q) = ((notv q).1, (notv q).2 && f63 (notv q).1 0 1) := by
          have : notv (0, true) = (1, true) := rfl
          rw [this]; unfold decv; rw [if_pos ⟨rfl, rfl, by decide⟩]
        rw [a, b]
        exact neg_q
      · rfl
    · have h0 : f63 v 0 1 = false := by simpa using hin
      simp [notv, decv, tp, h0]
theorem neg_if (r q p : Int × Bool) : tp (notv (ifv r q p)) = tp (ifv r (notv q) (notv p)) := by
  unfold ifv
  by_cases hc : r.2 = true ∧ f63 r.1 0 1 = true
  · rw [if_pos hc, if_pos hc]
    split <;> rfl
  · rw [if_neg hc, if_neg hc]
    rfl

theorem ge_not {x : CE} (hx : GE x) : GE (f28 x) := .mk (by unfold U8; omega) (by unfold U8; omega) i64_0 i64_0 i64_0 i64_0 i64_0 i64_0 (fun z hz => by simp at hz; rw [hz]; exact hx) (by simp)
theorem ge_of {k : Int} (hk : U8 k) {l : List CE} (hl : ∀ x ∈ l, GE x) (hn : l.length ≤ 9223372036854775807) : GE (f23 k l) := .mk hk (by unfold U8; omega) i64_0 i64_0 i64_0 i64_0 i64_0 i64_0 hl hn
theorem f21_tp (s : List (List Int)) (c : List Int) {e : CE} (he : GE e) (hm : may e 0 = true) {r : Int × Bool} (h : Vl ⟨⟨s, c⟩, []⟩ e r) : f21 s c e = some (tp r) := f21_vl s c he hm h

/-- EvalNegates -/
theorem law8 (s : List (List Int)) (c : List Int) {x y z : CE} (hx : GE x) (hy : GE y) (hz : GE z) : f8 s c x y z = some true := by
  have u6 : U8 6 := by unfold U8; omega
  have u7 : U8 7 := by unfold U8; omega
  have u8 : U8 8 := by unfold U8; omega
  have g2 : ∀ {k : Int}, U8 k → ∀ {p q : CE}, GE p → GE q → GE (f23 k [p, q]) := fun {k} hk {p q} hp hq => ge_of hk (fun z hz => by simp at hz; rcases hz with rfl | rfl <;> assumption) (by simp)
  have g3 : ∀ {p q r : CE}, GE p → GE q → GE r → GE (f23 8 [p, q, r]) := fun {p q r} hp hq hr => ge_of u8 (fun z hz => by simp at hz; rcases hz with rfl | rfl | rfl <;> assumption) (by simp)
  -- the pairs
  have hA : GE (f28 (f23 6 [x, y])) := ge_not (g2 u6 hx hy)
  have hA' : GE (f23 7 [f28 x, f28 y]) := g2 u7 (ge_not hx) (ge_not hy)
  have hB : GE (f28 (f23 7 [x, y])) := ge_not (g2 u7 hx hy)
  have hB' : GE (f23 6 [f28 x, f28 y]) := g2 u6 (ge_not hx) (ge_not hy)
  have hC : GE (f28 (f23 8 [x, y, z])) := ge_not (g3 hx hy hz)
  have hC' : GE (f23 8 [x, f28 y, f28 z]) := g3 hx (ge_not hy) (ge_not hz)
  have two : ∀ {k : Int} {p q : CE}, k ≠ 10 → GE p → GE q → may (f28 (f23 k [p, q])) 0 = true → (∃ r, Vl ⟨⟨s, c⟩, []⟩ p r) ∧ ∃ r, Vl ⟨⟨s, c⟩, []⟩ q r := by
    intro k p q hk hp hq hm
    obtain ⟨_, hv⟩ := may_v hm
    have h1 := may_sub hv (show (4 : Int) ≠ 10 by decide) (f23 k [p, q]) (by simp [f28])
    have h2 := may_sub h1 hk
    have hp' := h2 p (by simp [f23])
    have hq' := h2 q (by simp [f23])
    obtain ⟨r, r1, _⟩ := v_val s c hp hp' (by omega)
    obtain ⟨t, t1, _⟩ := v_val s c hq hq' (by omega)
    exact ⟨⟨r, r1⟩, ⟨t, t1⟩⟩
  have three : may (f28 (f23 8 [x, y, z])) 0 = true → (∃ r, Vl ⟨⟨s, c⟩, []⟩ x r) ∧ (∃ r, Vl ⟨⟨s, c⟩, []⟩ y r) ∧ ∃ r, Vl ⟨⟨s, c⟩, []⟩ z r := by
    intro hm
    obtain ⟨_, hv⟩ := may_v hm
    have h1 := may_sub hv (show (4 : Int) ≠ 10 by decide) (f23 8 [x, y, z]) (by simp [f28])
    have h2 := may_sub h1 (show (8 : Int) ≠ 10 by decide)
    obtain ⟨r, r1, _⟩ := v_val s c hx (h2 x (by simp [f23])) (by omega)
    obtain ⟨t, t1, _⟩ := v_val s c hy (h2 y (by simp [f23])) (by omega)
    obtain ⟨u, u1, _⟩ := v_val s c hz (h2 z (by simp [f23])) (by omega)
    exact ⟨⟨r, r1⟩, ⟨t, t1⟩, ⟨u, u1⟩⟩
  have Q1 : may (f28 (f23 6 [x, y])) 0 = true → may (f23 7 [f28 x, f28 y]) 0 = true → f21 s c (f28 (f23 6 [x, y])) = f21 s c (f23 7 [f28 x, f28 y]) := by
    intro h1 h2
    obtain ⟨⟨r, hr⟩, ⟨q, hq⟩⟩ := two (by decide) hx hy h1
    rw [f21_tp s c hA h1 (Vl.not (Vl.dec (.inl ⟨rfl, rfl⟩) hr hq)), f21_tp s c hA' h2 (Vl.dec (.inr ⟨rfl, rfl⟩) (Vl.not hr) (Vl.not hq)), neg_then]
  have Q2 : may (f28 (f23 7 [x, y])) 0 = true → may (f23 6 [f28 x, f28 y]) 0 = true → f21 s c (f28 (f23 7 [x, y])) = f21 s c (f23 6 [f28 x, f28 y]) := by
    intro h1 h2
    obtain ⟨⟨r, hr⟩, ⟨q, hq⟩⟩ := two (by decide) hx hy h1
    rw [f21_tp s c hB h1 (Vl.not (Vl.dec (.inr ⟨rfl, rfl⟩) hr hq)), f21_tp s c hB' h2 (Vl.dec (.inl ⟨rfl, rfl⟩) (Vl.not hr) (Vl.not hq)), neg_else]
  have Q3 : may (f28 (f23 8 [x, y, z])) 0 = true → may (f23 8 [x, f28 y, f28 z]) 0 = true → f21 s c (f28 (f23 8 [x, y, z])) = f21 s c (f23 8 [x, f28 y, f28 z]) := by
    intro h1 h2
    obtain ⟨⟨r, hr⟩, ⟨q, hq⟩, ⟨p, hp⟩⟩ := three h1
    rw [f21_tp s c hC h1 (Vl.not (Vl.ite hr hq hp)), f21_tp s c hC' h2 (Vl.ite hr (Vl.not hq) (Vl.not hp)), neg_if]
  -- a round
  have round : ∀ (e e' : CE) (K : Option Bool), GE e → GE e' → (may e 0 = true → may e' 0 = true → f21 s c e = f21 s c e') → K = some true →
      (Option.bind (f14 e 0) fun r137 => Option.bind (bif (!r137) then some true else (Option.bind (f14 e' 0) fun r139 => some (!r139))) fun b138 =>
      (bif b138 then K else Option.bind (f21 s c e) fun r140 => Option.bind (f21 s c e') fun r141 => (bif ((!decide (r140.1 = r141.1)) || (!(r140.2 == r141.2))) then some false else K))) = some true := by
    intro e e' K he he' hP hK
    rw [f14_eq he i64_0, f14_eq he' i64_0, obind]
    cases h1 : may e 0 with
    | false => simpa using hK
    | true =>
      cases h2 : may e' 0 with
      | false => simpa using hK
      | true =>
        have := hP h1 h2
        obtain ⟨v, ok, k1, _⟩ := value_eq s c he
        rw [k1] at this ⊢
        rw [← this]
        simpa using hK
  unfold f8
  generalize hL : [(P2.mk (f28 (f23 6 [x, y])) (f23 7 [(f28 x), (f28 y)])), (P2.mk (f28 (f23 7 [x, y])) (f23 6 [(f28 x), (f28 y)])), (P2.mk (f28 (f23 8 [x, y, z])) (f23 8 [x, (f28 y), (f28 z)]))] = Lp
  have e4 : (Int.toNat ((List.length Lp : Int) - 0) + 1) = 4 := by rw [← hL]; rfl
  simp only [letk]
  rw [e4]
  have w0 : IntKind.i64.wrap (0 + 1) = 1 := rfl
  have w1 : IntKind.i64.wrap (1 + 1) = 2 := rfl
  have w2 : IntKind.i64.wrap (2 + 1) = 3 := rfl
  have l3 : (List.length Lp : Int) = 3 := by rw [← hL]; rfl
  have i0 : idx Lp 0 = some (P2.mk (f28 (f23 6 [x, y])) (f23 7 [(f28 x), (f28 y)])) := by rw [← hL]; rfl
  have i1 : idx Lp 1 = some (P2.mk (f28 (f23 7 [x, y])) (f23 6 [(f28 x), (f28 y)])) := by rw [← hL]; rfl
  have i2 : idx Lp 2 = some (P2.mk (f28 (f23 8 [x, y, z])) (f23 8 [x, (f28 y), (f28 z)])) := by rw [← hL]; rfl
  have k3 : ∀ K : Unit → Option Bool, K () = some true → f8_l1 s c x y z K 1 3 = some true := by
    intro K hK
    rw [f8_l1, hL, l3]
    simpa using hK
  have k2 : ∀ K : Unit → Option Bool, K () = some true → f8_l1 s c x y z K 2 2 = some true := by
    intro K hK
    rw [f8_l1, hL, l3, i2, w2]
    exact round _ _ _ hC hC' Q3 (k3 K hK)
  have k1 : ∀ K : Unit → Option Bool, K () = some true → f8_l1 s c x y z K 3 1 = some true := by
    intro K hK
    rw [f8_l1, hL, l3, i1, w1]
    exact round _ _ _ hB hB' Q2 (k2 K hK)
  have k0 : ∀ K : Unit → Option Bool, K () = some true → f8_l1 s c x y z K 4 0 = some true := by
    intro K hK
    rw [f8_l1, hL, l3, i0, w0]
    exact round _ _ _ hA hA' Q1 (k1 K hK)
  exact k0 _ (by rw [awake]; rfl)
end Go.Proofs.Ytjjgmpmhfodmeaa
/- Layer 19: EvalLets. -/
namespace Go.Proofs.Ytjjgmpmhfodmeaa
open Go Go.Sk

mutual
/-- The let that is k further out than the innermost one is replaced by its value. -/
def rep (e : CE) (k v : Int) : CE :=
  match e with
  | .mk kind op n o off len lo hi l => if kind = 11 ∧ n = k then f26 v else .mk kind op n o off len lo hi (repL kind l 0 k v)
def repL (kind : Int) (l : List CE) (i : Int) (k v : Int) : List CE :=
  match l with
  | [] => []
  | x :: r => rep x (if kind = 10 ∧ i = 1 then k + 1 else k) v :: repL kind r (i + 1) k v
end
theorem repL_len (kind k v : Int) : ∀ (l : List CE) (i : Int), (repL kind l i k v).length = l.length
  | [], _ => by simp [repL]
  | x :: r, i => by simp [repL, repL_len kind k v r (i + 1)]
theorem rep_ne {e : CE} {k v : Int} (h : ¬ (e.kind = 11 ∧ e.n = k)) : rep e k v = ⟨e.kind, e.op, e.n, e.o, e.off, e.len, e.lo, e.hi, repL e.kind e.l 0 k v⟩ := by
  cases e with
  | mk kind op n o off len lo hi l => simp only [rep]; rw [if_neg h]

theorem f65_len {kind op n o off len lo hi : Int} {l l' : List CE} (hl : l'.length = l.length) {lets lets' : Int} (hk : kind ≠ 11) : f65 ⟨kind, op, n, o, off, len, lo, hi, l'⟩ lets' = f65 ⟨kind, op, n, o, off, len, lo, hi, l⟩ lets := by
  simp only [f65, f88, hl, decide_eq_false hk, cond_false]
theorem f65_11 {op n o off len lo hi : Int} {l l' : List CE} (hl : l'.length = l.length) {lets lets' : Int} (h : f65 ⟨11, op, n, o, off, len, lo, hi, l⟩ lets = true) (hn : 0 ≤ n → IntKind.u64.wrap n < lets') : f65 ⟨11, op, n, o, off, len, lo, hi, l'⟩ lets' = true := by
  simp only [f65, f88, letk, Int.reduceEq, decide_true, decide_false, cond_true, cond_false, Bool.false_or, Bool.true_or, Bool.and_eq_true, Bool.or_eq_true, decide_eq_true_eq, hl] at h ⊢
  exact ⟨h.1, hn h.1.2⟩

theorem rep_snd {v : Int} (hv : Bs v) : ∀ (m : Nat), (∀ (e : CE) (k d left r : Int), SizeOf.sizeOf e ≤ m → 0 ≤ k → d ≤ 65 → I64 e.n → (∀ x ∈ e.l, GE x) → snd e (k + 1) d left = some r → k ≤ d + 1000 → snd (rep e k v) k d left = some r) ∧
    (∀ (kind : Int) (l : List CE) (i k d left r : Int), SizeOf.sizeOf l ≤ m → 0 ≤ k → d ≤ 64 → (∀ x ∈ l, GE x) → sndL kind l i (k + 1) d left = some r → k ≤ d + 1000 → sndL kind (repL kind l i k v) i k d left = some r)
  | 0 => by
    constructor
    · intro e k d left r h; cases e; simp at h
    · intro kind l i k d left r h; cases l <;> simp at h
  | m + 1 => by
    obtain ⟨ih1, ih2⟩ := rep_snd hv m
    constructor
    · intro e k d left r hs h0 h1 hn hg h hkd
      cases e with
      | mk kind op n o off len lo hi l =>
        simp only [snd] at h
        split at h
        · cases h
        · rename_i hc
          simp only [not_or] at hc
          have hf : f65 ⟨kind, op, n, o, off, len, lo, hi, l⟩ (k + 1) = true := by cases hb : f65 ⟨kind, op, n, o, off, len, lo, hi, l⟩ (k + 1) <;> simp_all
          simp only [rep]
          by_cases h11 : kind = 11 ∧ n = k
          · rw [if_pos h11]
            have hl : l = [] := by
              rcases fields_cases hf with h | h | h | h | h | h | h | h | h | h | h | h | h | h <;> simp only at h <;> first | exact h.2.1 | (exfalso; omega)
            subst hl
            simp only [sndL, Option.some.injEq] at h
            have f81v := (f81_iff v).2 hv
            have k1 : f65 (f26 v) k = true := by simp [f65, f26, f88, f81v]
            simp only [f26] at k1
            simp only [f26, snd, k1, sndL]
            rw [if_neg (by simp only [not_or]; exact ⟨by omega, by omega, by simp⟩)]
            rw [h]
          · rw [if_neg h11]
            simp only [snd]
            have hf' : f65 ⟨kind, op, n, o, off, len, lo, hi, repL kind l 0 k v⟩ k = true := by
              by_cases hk : kind = 11
              · subst hk
                refine f65_11 (repL_len 11 k v l 0) hf (fun hn0 => ?_)
                have hcs := fields_cases hf
                simp only [Int.reduceEq, false_and, false_or, or_false, true_and] at hcs
                have hw := hcs.2.2
                unfold I64 at hn
                simp only at hn
                rw [wu64 hn0 (by omega)] at hw ⊢
                have : n ≠ k := fun h => h11 ⟨rfl, h⟩
                omega
              · rw [f65_len (repL_len kind k v l 0) hk, hf]
            rw [if_neg (by simp only [not_or]; exact ⟨by omega, by omega, by rw [hf']; simp⟩)]
            exact ih2 kind l 0 k d (left - 1) r (by simp at hs; omega) h0 (by omega) hg h hkd
    · intro kind l i k d left r hs h0 h1 hg h hkd
      cases l with
      | nil => simpa [repL, sndL] using h
      | cons x l =>
        simp only [sndL] at h
        split at h
        · cases h
        · rename_i left' hx
          have hgx := hg x (by simp)
          have e1 : (if kind = 10 ∧ i = 1 then k + 1 + 1 else k + 1) = (if kind = 10 ∧ i = 1 then k + 1 else k) + 1 := by split <;> rfl
          rw [e1] at hx
          have := ih1 x (if kind = 10 ∧ i = 1 then k + 1 else k) (d + 1) left left' (by simp at hs; omega) (by split <;> omega) (by omega) (by cases hgx; assumption) hgx.sub hx (by split <;> omega)
          simp only [repL, sndL, this]
          exact ih2 kind l (i + 1) k d left' r (by simp at hs; omega) h0 h1 (fun y hy => hg y (by simp [hy])) h hkd

/-! ### The program's replacement -/
theorem drop_take {α : Type} {l : List α} {i : Nat} {x : α} {r : List α} (h : l.drop i = x :: r) : l.take (i + 1) = l.take i ++ [x] := by
  have h1 : l[i]? = some x := by
    have := List.getElem?_drop (xs := l) (i := i) (j := 0)
    rw [h] at this
    simpa using this.symm
  rw [List.take_add_one, h1]; rfl
theorem f25_loop {rec : CE → Int → Int → Option CE} {e : CE} {k v : Int} {K : List CE → Option CE} (h0 : 0 ≤ k) (h1 : k ≤ 2000) (hlen : e.l.length ≤ 3)
    (hrec : ∀ x ∈ e.l, ∀ k', 0 ≤ k' → k' ≤ k + 1 → rec x k' v = some (rep x k' v)) :
    ∀ (r : List CE) (i : Nat) (acc : List CE), e.l.drop i = r → acc.length = i → f25s_l1 rec e k v K (r.length + 1) (i : Int) acc = K (acc ++ repL e.kind r i k v) := by
  intro r
  induction r with
  | nil =>
    intro i acc hr ha
    have := drop_end hr
    have hc : decide ((i : Int) < (List.length e.l : Int)) = false := decide_eq_false (by omega)
    rw [List.length_nil, Nat.zero_add, f25s_l1, hc, cond_false]
    simp [repL]
  | cons x r ih =>
    intro i acc hr ha
    have hlt := drop_lt hr
    have hc : decide ((i : Int) < (List.length e.l : Int)) = true := decide_eq_true (by omega)
    have hx : x ∈ e.l := List.mem_of_mem_drop (by rw [hr]; simp)
    have hwi : IntKind.i64.wrap ((i : Int) + 1) = ((i + 1 : Nat) : Int) := by rw [w64' (by omega) (by omega)]; omega
    have hwk : IntKind.i64.wrap (k + 1) = k + 1 := w64' (by omega) (by omega)
    have key : ∀ k', 0 ≤ k' → k' ≤ k + 1 → k' = (if e.kind = 10 ∧ (i : Int) = 1 then k + 1 else k) →
        (Option.bind (rec x k' v) fun r73 => guardB (appOk 80 acc [r73]) <| (f25s_l1 rec e k v K (r.length + 1) (IntKind.i64.wrap ((i : Int) + 1)) (acc ++ [r73]))) = K (acc ++ repL e.kind (x :: r) i k v) := by
      intro k' g0 g1 g2
      have ao : ∀ y : CE, appOk 80 acc [y] = true := fun y => by simp [appOk, maxLen]; omega
      rw [hrec x hx k' g0 g1, obind, ao, hwi]
      simp only [guardB, cond_true]
      rw [ih (i + 1) _ (drop_succ hr) (by simp [ha]), repL, ← g2]
      simp
    rw [List.length_cons, f25s_l1, hc, cond_true, idx_drop hr, obind]
    simp only [letk]
    by_cases h10 : e.kind = 10 ∧ (i : Int) = 1
    · have : (decide (e.kind = 10) && decide ((i : Int) = 1)) = true := by simp [h10.1, h10.2]
      rw [this, cond_true, hwk]
      exact key _ (by omega) (by omega) (by rw [if_pos h10])
    · have : (decide (e.kind = 10) && decide ((i : Int) = 1)) = false := by
        rw [Bool.eq_false_iff]; intro h; apply h10; simpa using h
      rw [this, cond_false]
      exact key _ h0 (by omega) (by rw [if_neg h10])

theorem V.len {e : CE} {lets depth : Int} (h : V e lets depth) : e.l.length ≤ 3 := by
  rcases fields_cases h.fields with h | h | h | h | h | h | h | h | h | h | h | h | h | h
  case inl => rw [h.2.1]; simp
  case inr.inl => rw [h.2.1]; simp
  case inr.inr.inl => obtain ⟨_, ⟨a, hl⟩, _⟩ := h; rw [hl]; simp
  case inr.inr.inr.inl => obtain ⟨_, ⟨a, hl⟩, _⟩ := h; rw [hl]; simp
  case inr.inr.inr.inr.inl => obtain ⟨_, ⟨a, b, hl⟩, _⟩ := h; rw [hl]; simp
  case inr.inr.inr.inr.inr.inl => obtain ⟨_, a, b, hl⟩ := h; rw [hl]; simp
  case inr.inr.inr.inr.inr.inr.inl => obtain ⟨_, a, b, hl⟩ := h; rw [hl]; simp
  case inr.inr.inr.inr.inr.inr.inr.inl => obtain ⟨_, a, b, c, hl⟩ := h; rw [hl]; simp
  case inr.inr.inr.inr.inr.inr.inr.inr.inl => obtain ⟨_, ⟨a, hl⟩, _⟩ := h; rw [hl]; simp
  case inr.inr.inr.inr.inr.inr.inr.inr.inr.inl => obtain ⟨_, a, b, hl⟩ := h; rw [hl]; simp
  case inr.inr.inr.inr.inr.inr.inr.inr.inr.inr.inl => rw [h.2.1]; simp
  case inr.inr.inr.inr.inr.inr.inr.inr.inr.inr.inr.inl => rw [h.2.1]; simp
  case inr.inr.inr.inr.inr.inr.inr.inr.inr.inr.inr.inr.inl => obtain ⟨_, a, hl⟩ := h; rw [hl]; simp
  case inr.inr.inr.inr.inr.inr.inr.inr.inr.inr.inr.inr.inr => rw [h.2.1]; simp

theorem f25_eq (v : Int) : ∀ (n : Nat) (e : CE) (lets depth k : Int), V e lets depth → 0 ≤ k → k ≤ depth → 66 - depth ≤ n → f25 n e k v = some (rep e k v)
  | 0, e, lets, depth, k, hv, h0, h1, hn => by have := hv.depth; omega
  | n + 1, e, lets, depth, k, hv, h0, h1, hn => by
    have hd := hv.depth
    show f25s (f25 n) e k v = _
    unfold f25s
    by_cases h11 : e.kind = 11 ∧ e.n = k
    · have : (decide (e.kind = 11) && decide (e.n = k)) = true := by simp [h11.1, h11.2]
      rw [this, cond_true]
      cases e with
      | mk kind op n' o off len lo hi l => simp only [rep]; rw [if_pos h11]
    · have : (decide (e.kind = 11) && decide (e.n = k)) = false := by
        rw [Bool.eq_false_iff]; intro h; apply h11; simpa using h
      rw [this, cond_false]
      simp only [letk]
      have hl := hv.len
      have e1 : (Int.toNat ((List.length e.l : Int) - 0) + 1) = e.l.length + 1 := by omega
      rw [e1]
      have := f25_loop (rec := f25 n) (e := e) (k := k) (v := v) (K := fun l => some (CE.mk e.kind e.op e.n e.o e.off e.len e.lo e.hi l)) h0 (by omega) hl (fun x hx k' g0 g1 => by
        obtain ⟨i, hi⟩ := List.mem_iff_getElem?.1 hx
        exact f25_eq v n x _ (depth + 1) k' (hv.sub i x hi) g0 (by omega) (by omega)) e.l 0 [] rfl rfl
      rw [rep_ne h11]
      simpa using this

/-! ### The value of what is replaced -/
def LeO {β : Type} (o o' : Option β) : Prop := ∀ r, o = some r → o' = some r
theorem LeO.refl {β : Type} (o : Option β) : LeO o o := fun _ h => h
theorem LeO.bind {α β : Type} {o o' : Option α} {G G' : α → Option β} (h : LeO o o') (k : ∀ a, LeO (G a) (G' a)) : LeO (o.bind G) (o'.bind G') := fun r hr => by
  obtain ⟨a, h1, h2⟩ := Option.bind_eq_some_iff.1 hr
  exact Option.bind_eq_some_iff.2 ⟨a, h a h1, k a r h2⟩
theorem LeO.cond {β : Type} (c : Bool) {F F' G G' : Option β} (h : LeO F F') (k : LeO G G') : LeO (bif c then F else G) (bif c then F' else G') := by cases c <;> first | exact h | exact k
theorem LeO.guard {β : Type} {c c' : Bool} {F F' : Option β} (hc : c = true → c' = true) (h : LeO F F') : LeO (guardB c F) (guardB c' F') := by
  cases c
  · intro r hr; cases hr
  · rw [hc rfl]; exact h

theorem LeO.f70 {val : VF} {st : St} {L L' : List Int} {op n o off len lo hi : Int} {x x' : CE} (h : LeO (val ⟨st, L⟩ x) (val ⟨st, L'⟩ x')) : LeO (f70 val ⟨st, L⟩ ⟨3, op, n, o, off, len, lo, hi, [x]⟩) (f70 val ⟨st, L'⟩ ⟨3, op, n, o, off, len, lo, hi, [x']⟩) := by
  have i0 : idx [x] 0 = some x := rfl
  have i1 : idx [x'] 0 = some x' := rfl
  simp only [Ytjjgmpmhfodmeaa.f70, i0, i1, obind]
  exact LeO.bind h fun _ => LeO.refl _
theorem LeO.f71 {val : VF} {st : St} {L L' : List Int} {k op n o off len lo hi : Int} {x x' : CE} (h : LeO (val ⟨st, L⟩ x) (val ⟨st, L'⟩ x')) : LeO (f71 val ⟨st, L⟩ ⟨k, op, n, o, off, len, lo, hi, [x]⟩) (f71 val ⟨st, L'⟩ ⟨k, op, n, o, off, len, lo, hi, [x']⟩) := by
  have i0 : idx [x] 0 = some x := rfl
  have i1 : idx [x'] 0 = some x' := rfl
  simp only [Ytjjgmpmhfodmeaa.f71, i0, i1, obind]
  exact LeO.bind h fun _ => LeO.refl _
theorem LeO.f75 {val : VF} {st : St} {L L' : List Int} {k op n o off len lo hi : Int} {x x' : CE} (h : LeO (val ⟨st, L⟩ x) (val ⟨st, L'⟩ x')) : LeO (f75 val ⟨st, L⟩ ⟨k, op, n, o, off, len, lo, hi, [x]⟩) (f75 val ⟨st, L'⟩ ⟨k, op, n, o, off, len, lo, hi, [x']⟩) := by
  have i0 : idx [x] 0 = some x := rfl
  have i1 : idx [x'] 0 = some x' := rfl
  simp only [Ytjjgmpmhfodmeaa.f75, i0, i1, obind]
  exact LeO.bind h fun _ => LeO.refl _
theorem LeO.f78 {val : VF} {st : St} {L L' : List Int} {k op n o off len lo hi : Int} {x x' : CE} (h : LeO (val ⟨st, L⟩ x) (val ⟨st, L'⟩ x')) : LeO (f78 val ⟨st, L⟩ ⟨k, op, n, o, off, len, lo, hi, [x]⟩) (f78 val ⟨st, L'⟩ ⟨k, op, n, o, off, len, lo, hi, [x']⟩) := by
  have i0 : idx [x] 0 = some x := rfl
  have i1 : idx [x'] 0 = some x' := rfl
  simp only [Ytjjgmpmhfodmeaa.f78, i0, i1, obind]
  exact LeO.bind h fun _ => LeO.refl _
theorem LeO.f72 {val : VF} {st : St} {L L' : List Int} {k op n o off len lo hi : Int} {x x' y y' : CE} (h : LeO (val ⟨st, L⟩ x) (val ⟨st, L'⟩ x')) (g : LeO (val ⟨st, L⟩ y) (val ⟨st, L'⟩ y')) : LeO (f72 val ⟨st, L⟩ ⟨k, op, n, o, off, len, lo, hi, [x, y]⟩) (f72 val ⟨st, L'⟩ ⟨k, op, n, o, off, len, lo, hi, [x', y']⟩) := by
  have i0 : idx [x, y] 0 = some x := rfl
  have i1 : idx [x', y'] 0 = some x' := rfl
  have j0 : idx [x, y] 1 = some y := rfl
  have j1 : idx [x', y'] 1 = some y' := rfl
  simp only [Ytjjgmpmhfodmeaa.f72, i0, i1, j0, j1, obind]
  exact LeO.bind h fun _ => LeO.cond _ (LeO.refl _) (LeO.bind g fun _ => LeO.refl _)
theorem LeO.f73 {val : VF} {st : St} {L L' : List Int} {k op n o off len lo hi : Int} {x x' y y' : CE} (h : LeO (val ⟨st, L⟩ x) (val ⟨st, L'⟩ x')) (g : LeO (val ⟨st, L⟩ y) (val ⟨st, L'⟩ y')) : LeO (f73 val ⟨st, L⟩ ⟨k, op, n, o, off, len, lo, hi, [x, y]⟩) (f73 val ⟨st, L'⟩ ⟨k, op, n, o, off, len, lo, hi, [x', y']⟩) := by
  have i0 : idx [x, y] 0 = some x := rfl
  have i1 : idx [x', y'] 0 = some x' := rfl
  have j0 : idx [x, y] 1 = some y := rfl
  have j1 : idx [x', y'] 1 = some y' := rfl
  simp only [Ytjjgmpmhfodmeaa.f73, i0, i1, j0, j1, obind]
  exact LeO.bind h fun _ => LeO.cond _ (LeO.refl _) (LeO.bind g fun _ => LeO.refl _)
theorem LeO.f74 {val : VF} {st : St} {L L' : List Int} {k op n o off len lo hi : Int} {x x' y y' z z' : CE} (h : LeO (val ⟨st, L⟩ x) (val ⟨st, L'⟩ x')) (g : LeO (val ⟨st, L⟩ y) (val ⟨st, L'⟩ y')) (g' : LeO (val ⟨st, L⟩ z) (val ⟨st, L'⟩ z')) : LeO (f74 val ⟨st, L⟩ ⟨k, op, n, o, off, len, lo, hi, [x, y, z]⟩) (f74 val ⟨st, L'⟩ ⟨k, op, n, o, off, len, lo, hi, [x', y', z']⟩) := by
  have i0 : idx [x, y, z] 0 = some x := rfl
  have i1 : idx [x', y', z'] 0 = some x' := rfl
  have j0 : idx [x, y, z] 1 = some y := rfl
  have j1 : idx [x', y', z'] 1 = some y' := rfl
  have k0 : idx [x, y, z] 2 = some z := rfl
  have k1 : idx [x', y', z'] 2 = some z' := rfl
  simp only [Ytjjgmpmhfodmeaa.f74, i0, i1, obind]
  refine LeO.bind h fun q => ?_
  cases hq : (!q.2 || !f63 q.1 0 1) with
  | true => exact LeO.refl _
  | false =>
    have hin : f63 q.1 0 1 = true := by
      cases h1 : f63 q.1 0 1 with
      | true => rfl
      | false => rw [h1] at hq; simp at hq
    rcases in01.1 hin with h | h
    · have w2 : IntKind.i64.wrap (2 - q.1) = 2 := by rw [h]; rfl
      simp only [cond_false, w2, k0, k1, obind]
      exact LeO.bind g' fun _ => LeO.refl _
    · have w1 : IntKind.i64.wrap (2 - q.1) = 1 := by rw [h]; rfl
      simp only [cond_false, w1, j0, j1, obind]
      exact LeO.bind g fun _ => LeO.refl _

theorem rep_val (st : St) {v : Int} : ∀ (n : Nat) (e : CE) (L : List Int) (depth : Int), V e ((List.length L : Int) + 1) depth → (List.length L : Int) ≤ depth → GE e → LeO (f53 n ⟨st, v :: L⟩ e) (f53 n ⟨st, L⟩ (rep e (List.length L : Int) v))
  | 0, e, L, depth, hv, hll, he => fun r h => by cases h
  | n + 1, e, L, depth, hv, hll, he => by
    have hd := hv.depth
    have hf := fields_cases hv.fields
    show LeO (f53s (f53 n) ⟨st, v :: L⟩ e) (f53 (n + 1) ⟨st, L⟩ (rep e (List.length L : Int) v))
    by_cases h11 : e.kind = 11 ∧ e.n = (List.length L : Int)
    · have hr : rep e (List.length L : Int) v = f26 v := by
        cases e with
        | mk kind op n' o off len lo hi l => simp only [rep]; rw [if_pos h11]
      rw [hr]
      have w1 : IntKind.i64.wrap ((List.length (v :: L) : Int) - 1) = (List.length L : Int) := by rw [List.length_cons, w64' (by omega) (by omega)]; omega
      have w2 : IntKind.i64.wrap ((List.length L : Int) - e.n) = 0 := by rw [h11.2, Int.sub_self]; rfl
      have i0 : idx (v :: L) 0 = some v := rfl
      intro r h
      simp only [f53s, f77, h11.1, Int.reduceEq, decide_true, decide_false, cond_true, cond_false, w1, w2, i0, obind] at h
      rw [← h]
      rfl
    · have IH : ∀ (x : CE) (i : Nat), e.l[i]? = some x → (e.kind = 10 → i ≠ 1) → LeO (f53 n ⟨st, v :: L⟩ x) (f53 n ⟨st, L⟩ (rep x (List.length L : Int) v)) := fun x i hx hne => by
        have hvx := hv.sub i x hx
        rw [if_neg (by intro h; exact hne h.1 (by omega))] at hvx
        exact rep_val st n x L (depth + 1) hvx (by omega) (he.sub x (List.mem_of_getElem? hx))
      rw [rep_ne h11]
      show LeO _ (f53s (f53 n) ⟨st, L⟩ _)
      have p : ∀ {o o' : Option (Int × Bool)}, LeO o o' → LeO (o.bind fun r => some (r.1, r.2)) (o'.bind fun r => some (r.1, r.2)) := fun h => LeO.bind h fun _ => LeO.refl _
      obtain ⟨kind, op, nn, o, off, len, lo, hi, l⟩ := e
      simp only at h11 hf IH ⊢
      rcases hf with h | h | h | h | h | h | h | h | h | h | h | h | h | h
      · obtain ⟨rfl, hl, _⟩ := h
        exact fun r h => h
      · obtain ⟨rfl, hl, _⟩ := h
        exact fun r h => h
      · obtain ⟨rfl, ⟨x, rfl⟩, _⟩ := h
        exact LeO.bind (LeO.f70 (IH x 0 rfl (by omega))) fun _ => LeO.refl _
      · obtain ⟨rfl, ⟨x, rfl⟩, _⟩ := h
        exact LeO.bind (LeO.f71 (IH x 0 rfl (by omega))) fun _ => LeO.refl _
      · obtain ⟨rfl, ⟨x, y, rfl⟩, _⟩ := h
        exact LeO.bind (LeO.f72 (IH x 0 rfl (by omega)) (IH y 1 rfl (by omega))) fun _ => LeO.refl _
      · obtain ⟨rfl, x, y, rfl⟩ := h
        exact LeO.bind (LeO.f73 (IH x 0 rfl (by omega)) (IH y 1 rfl (by omega))) fun _ => LeO.refl _
      · obtain ⟨rfl, x, y, rfl⟩ := h
        exact LeO.bind (LeO.f73 (IH x 0 rfl (by omega)) (IH y 1 rfl (by omega))) fun _ => LeO.refl _
      · obtain ⟨rfl, x, y, z, rfl⟩ := h
        exact LeO.bind (LeO.f74 (IH x 0 rfl (by omega)) (IH y 1 rfl (by omega)) (IH z 2 rfl (by omega))) fun _ => LeO.refl _
      · obtain ⟨rfl, ⟨x, rfl⟩, _⟩ := h
        exact LeO.bind (LeO.f75 (IH x 0 rfl (by omega))) fun _ => LeO.refl _
      · obtain ⟨rfl, x, y, rfl⟩ := h
        have a := IH x 0 rfl (by omega)
        have i0 : idx [x, y] 0 = some x := rfl
        have j0 : idx [x, y] 1 = some y := rfl
        have i1 : idx (repL 10 [x, y] 0 (List.length L : Int) v) 0 = some (rep x (List.length L : Int) v) := rfl
        have j1 : idx (repL 10 [x, y] 0 (List.length L : Int) v) 1 = some (rep y ((List.length L : Int) + 1) v) := rfl
        refine LeO.bind (o := f76 (f53 n) ⟨st, v :: L⟩ _) (o' := f76 (f53 n) ⟨st, L⟩ _) ?_ fun _ => LeO.refl _
        simp only [f76, i0, i1, j0, j1, obind]
        refine LeO.bind a fun q => LeO.cond _ (LeO.refl _) ?_
        simp only [sliceF_all]
        have hvy := hv.sub 1 y rfl
        rw [if_pos ⟨rfl, rfl⟩] at hvy
        have hy := rep_val st (v := v) n y (L ++ [q.1]) (depth + 1) (by simpa using hvy) (by simp; omega) (he.sub y (by simp))
        refine LeO.guard (fun _ => by simp [sliceOk]) (LeO.guard (fun _ => by simp [appOk, maxLen]; omega) ?_)
        refine LeO.bind ?_ fun _ => LeO.refl _
        have e2 : (List.length (L ++ [q.1]) : Int) = (List.length L : Int) + 1 := by simp
        rw [e2] at hy
        exact hy
      · obtain ⟨rfl, rfl, h1, h2⟩ := h
        have hI : I64 nn := by cases he; assumption
        unfold I64 at hI
        rw [wu64 h1 (by omega)] at h2
        have hne : nn ≠ (List.length L : Int) := fun h => h11 ⟨rfl, h⟩
        have w1 : IntKind.i64.wrap ((List.length (v :: L) : Int) - 1) = (List.length L : Int) := by rw [List.length_cons, w64' (by omega) (by omega)]; omega
        have w2 : IntKind.i64.wrap ((List.length L : Int) - nn) = (List.length L : Int) - nn := w64' (by omega) (by omega)
        have w3 : IntKind.i64.wrap ((List.length L : Int) - 1) = (List.length L : Int) - 1 := w64' (by omega) (by omega)
        have w4 : IntKind.i64.wrap ((List.length L : Int) - 1 - nn) = (List.length L : Int) - 1 - nn := w64' (by omega) (by omega)
        have hi : idx (v :: L) ((List.length L : Int) - nn) = idx L ((List.length L : Int) - 1 - nn) := by
          unfold idx
          rw [decide_eq_true (by omega), decide_eq_true (by omega), cond_true, cond_true]
          have : ((List.length L : Int) - nn).toNat = ((List.length L : Int) - 1 - nn).toNat + 1 := by omega
          rw [this, List.getElem?_cons_succ]
        refine LeO.bind (o := f77 ⟨st, v :: L⟩ _) (o' := f77 ⟨st, L⟩ _) ?_ fun _ => LeO.refl _
        simp only [f77, w1, w2, w3, w4, hi]
        exact LeO.refl _
      · obtain ⟨rfl, hl, _⟩ := h
        exact fun r h => h
      · obtain ⟨rfl, x, rfl⟩ := h
        exact LeO.bind (LeO.f78 (IH x 0 rfl (by omega))) fun _ => LeO.refl _
      · obtain ⟨rfl, hl, _⟩ := h
        exact fun r h => h

/-! ### The law -/
theorem snd_mono {t : Int} (ht : 0 ≤ t) : ∀ (m : Nat), (∀ (e : CE) (k d d' left r : Int), SizeOf.sizeOf e ≤ m → d' ≤ d → snd e k d left = some r → snd e k d' (left + t) = some (r + t)) ∧
    (∀ (kind : Int) (l : List CE) (i k d d' left r : Int), SizeOf.sizeOf l ≤ m → d' ≤ d → sndL kind l i k d left = some r → sndL kind l i k d' (left + t) = some (r + t))
  | 0 => by
    constructor
    · intro e k d d' left r h; cases e; simp at h
    · intro kind l i k d d' left r h; cases l <;> simp at h
  | m + 1 => by
    obtain ⟨ih1, ih2⟩ := snd_mono ht m
    constructor
    · intro e k d d' left r hs hd h
      cases e with
      | mk kind op n o off len lo hi l =>
        simp only [snd] at h ⊢
        split at h
        · cases h
        · rename_i hc
          simp only [not_or] at hc
          rw [if_neg (by simp only [not_or]; exact ⟨by omega, by omega, hc.2.2⟩)]
          have := ih2 kind l 0 k d d' (left - 1) r (by simp at hs; omega) hd h
          rwa [show left - 1 + t = left + t - 1 by omega] at this
    · intro kind l i k d d' left r hs hd h
      cases l with
      | nil => simp only [sndL, Option.some.injEq] at h ⊢; omega
      | cons x l =>
        simp only [sndL] at h ⊢
        split at h
        · cases h
        · rename_i left' hx
          rw [ih1 x _ (d + 1) (d' + 1) left left' (by simp at hs; omega) (by omega) hx]
          exact ih2 kind l (i + 1) k d d' left' r (by simp at hs; omega) hd h

theorem rep_ge {v : Int} (hv : I64 v) : ∀ (m : Nat) (e : CE) (k : Int), SizeOf.sizeOf e ≤ m → GE e → GE (rep e k v)
  | 0, e, k, h, _ => by cases e; simp at h
  | m + 1, e, k, h, hg => by
    have IH : ∀ (kind : Int) (l : List CE) (i k' : Int), SizeOf.sizeOf l ≤ m → (∀ x ∈ l, GE x) → ∀ y ∈ repL kind l i k' v, GE y := by
      intro kind l
      induction l with
      | nil => intro i k' _ _ y hy; simp [repL] at hy
      | cons x l ih =>
        intro i k' hs hx y hy
        simp only [repL, List.mem_cons] at hy
        rcases hy with rfl | hy
        · exact rep_ge hv m x _ (by simp at hs; omega) (hx x (by simp))
        · exact ih (i + 1) k' (by simp at hs; omega) (fun z hz => hx z (by simp [hz])) y hy
    cases e with
    | mk kind op n o off len lo hi l =>
      simp only [rep]
      split
      · exact .mk (by unfold U8; omega) (by unfold U8; omega) hv i64_0 i64_0 i64_0 i64_0 i64_0 (fun z hz => by simp at hz) (by simp)
      · cases hg
        exact .mk (by assumption) (by assumption) (by assumption) (by assumption) (by assumption) (by assumption) (by assumption) (by assumption) (IH kind l 0 k (by simp at h; omega) (by assumption)) (by rw [repL_len]; assumption)

/-- EvalLets -/
theorem law6 (s : List (List Int)) (c : List Int) {a b : CE} (ha : GE a) (hb : GE b) : f6 s c a b = some true := by
  have hL : GE (f23 10 [a, b]) := ge_of (by unfold U8; omega) (fun z hz => by simp at hz; rcases hz with rfl | rfl <;> assumption) (by simp)
  unfold f6
  rw [f14_eq hL i64_0, obind]
  cases hm : may (f23 10 [a, b]) 0 with
  | false =>
    simp only [f13_eq hL i64_0, hm, f24, f21_no s c hL hm, awake, obind]
    rfl
  | true =>
    obtain ⟨_, hv⟩ := may_v hm
    have va : V a 0 2 := hv.sub 0 a rfl
    have vb : V b 1 2 := hv.sub 1 b rfl
    simp only [may, f23, Int.le_refl, decide_true, Bool.true_and] at hm
    obtain ⟨r, hr⟩ := Option.isSome_iff_exists.1 hm
    simp only [snd] at hr
    split at hr
    · cases hr
    · simp only [sndL] at hr
      split at hr
      · cases hr
      · rename_i l1 h1
        split at hr
        · cases hr
        · rename_i l2 h2
          have ma : may a 0 = true := by
            have := (snd_mono (t := 1) (by omega) _).1 a _ _ 1 _ _ (Nat.le_refl _) (by omega) h1
            simp only [may, Int.le_refl, decide_true, Bool.true_and, Option.isSome_iff_exists]
            exact ⟨_, by simpa using this⟩
          have hl1 : l1 ≤ 256 := by
            have := ((snd_nonneg _).1 a _ _ _ _ (Nat.le_refl _) h1); omega
          have mb : ∀ {v : Int}, Bs v → may (rep b 0 v) 0 = true := fun {v} hv => by
            have := (snd_mono (t := 256 - l1) (by omega) _).1 b _ _ 1 _ _ (Nat.le_refl _) (by omega) h2
            have hn : I64 b.n := by cases hb; assumption
            have := (rep_snd hv _).1 b 0 1 _ _ (Nat.le_refl _) (by omega) (by omega) hn hb.sub (by simpa using this) (by omega)
            simp only [may, Int.le_refl, decide_true, Bool.true_and, Option.isSome_iff_exists]
            exact ⟨_, by rwa [show l1 + (256 - l1) = 256 by omega] at this⟩
          obtain ⟨ra, hra, hba⟩ := v_val s c ha va (by omega)
          have e1 : f21 s c a = some (tp ra) := f21_tp s c ha ma hra
          have hmL : may (f23 10 [a, b]) 0 = true := by
            simp only [may, f23, Int.le_refl, decide_true, Bool.true_and]
            exact hm
          have i0 : idx [a, b] 0 = some a := rfl
          have i1 : idx [a, b] 1 = some b := rfl
          obtain ⟨v, ok⟩ := ra
          cases ok with
          | false =>
            have hlet : Vl ⟨⟨s, c⟩, []⟩ (f23 10 [a, b]) (0, false) := by
              obtain ⟨n, hn⟩ := hra
              refine Vl.step (n := n) ?_
              simp only [f53s, f23, f76, Int.reduceEq, decide_true, decide_false, cond_true, cond_false, bind2, i0, obind, hn, Bool.not_false]
            have e2 := f21_tp s c hL hmL hlet
            rw [e1, e2, obind, obind, awake]
            rfl
          | true =>
            have hbv : Bs v := hba rfl
            obtain ⟨q, q', okq, k1, _, _⟩ := value_rel s c 100 b [v] 2 hb (by simpa using vb) (fun x hx => by simp at hx; subst hx; exact hbv) (by simp) (by omega)
            have k2 : Vl ⟨⟨s, c⟩, []⟩ (rep b 0 v) (q, okq) := ⟨100, by
              have := rep_val ⟨s, c⟩ (v := v) 100 b [] 2 (by simpa using vb) (by simp) hb (q, okq) k1
              simpa using this⟩
            have hlet : Vl ⟨⟨s, c⟩, []⟩ (f23 10 [a, b]) (q, okq) := by
              obtain ⟨n, h1, h2⟩ := Vl.two hra ⟨100, k1⟩
              refine Vl.step (n := n) ?_
              simp only [f53s, f23, f76, Int.reduceEq, decide_true, decide_false, cond_true, cond_false, bind2, i0, i1, obind, h1, Bool.not_true, sliceF_all, List.nil_append, h2]
              rfl
            have e2 := f21_tp s c hL hmL hlet
            have hbi : I64 v := by unfold Bs at hbv; unfold I64; omega
            have e3 := f21_tp s c (rep_ge hbi _ b 0 (Nat.le_refl _) hb) (mb hbv) k2
            have e4 : f25 100 b 0 v = some (rep b 0 v) := f25_eq v 100 b 1 2 0 vb (by omega) (by omega) (by omega)
            rw [e1, e2, obind, obind]
            show Option.bind (f25 100 b 0 v) _ = _
            rw [e4, obind, e3, obind, awake]
            simp
end Go.Proofs.Ytjjgmpmhfodmeaa
/- Layer 19: EvalMays. -/
namespace Go.Proofs.Ytjjgmpmhfodmeaa
open Go Go.Sk

/-! ### Sorted without repetition -/
theorem strict_ext : ∀ {a b : List Int}, a.Pairwise (· < ·) → b.Pairwise (· < ·) → (∀ x, x ∈ a ↔ x ∈ b) → a = b
  | [], [], _, _, _ => rfl
  | [], y :: b, _, _, h => by have := (h y).2 (by simp); simp at this
  | x :: a, [], _, _, h => by have := (h x).1 (by simp); simp at this
  | x :: a, y :: b, ha, hb, h => by
    have ha' := List.pairwise_cons.1 ha
    have hb' := List.pairwise_cons.1 hb
    have hxy : x = y := by
      have h1 := (h x).1 (by simp)
      have h2 := (h y).2 (by simp)
      simp only [List.mem_cons] at h1 h2
      rcases h1 with h1 | h1
      · exact h1
      · rcases h2 with h2 | h2
        · exact h2.symm
        · have := hb'.1 x h1; have := ha'.1 y h2; omega
    subst hxy
    rw [strict_ext ha'.2 hb'.2 fun z => ?_]
    constructor
    · intro hz
      have h1 := ha'.1 z hz
      have h2 := (h z).1 (by simp [hz])
      simp only [List.mem_cons] at h2
      rcases h2 with h2 | h2
      · omega
      · exact h2
    · intro hz
      have h1 := hb'.1 z hz
      have h2 := (h z).2 (by simp [hz])
      simp only [List.mem_cons] at h2
      rcases h2 with h2 | h2
      · omega
      · exact h2
theorem upto_strict {d : Array Int} (hd : ∀ i j, i ≤ j → j < d.size → d[i]! ≤ d[j]!) : ∀ m, m ≤ d.size → (Lib.compactUpTo d m).Pairwise (· < ·) ∧ ∀ x, x ∈ Lib.compactUpTo d m ↔ ∃ j, j < m ∧ d[j]! = x
  | 0, _ => by simp [Lib.compactUpTo]
  | m + 1, hm => by
    obtain ⟨h1, h2⟩ := upto_strict hd m (by omega)
    rw [Lib.compactUpTo_succ]
    by_cases hk : Lib.keeps d m = true
    · rw [if_pos hk]
      constructor
      · rw [List.pairwise_append]
        refine ⟨h1, by simp, fun x hx y hy => ?_⟩
        simp only [List.mem_singleton] at hy
        subst hy
        obtain ⟨j, hj, rfl⟩ := (h2 x).1 hx
        have a := hd j (m - 1) (by omega) (by omega)
        have b := hd (m - 1) m (by omega) (by omega)
        simp only [Lib.keeps, decide_eq_true_eq] at hk
        omega
      · intro x
        simp only [List.mem_append, List.mem_singleton, h2]
        constructor
        · rintro (⟨j, hj, rfl⟩ | rfl)
          · exact ⟨j, by omega, rfl⟩
          · exact ⟨m, by omega, rfl⟩
        · rintro ⟨j, hj, rfl⟩
          by_cases hjm : j = m
          · subst hjm; exact .inr rfl
          · exact .inl ⟨j, by omega, rfl⟩
    · rw [if_neg hk, List.append_nil]
      refine ⟨h1, fun x => ?_⟩
      simp only [Lib.keeps, decide_eq_true_eq, not_or, Decidable.not_not] at hk
      rw [h2]
      constructor
      · rintro ⟨j, hj, rfl⟩; exact ⟨j, by omega, rfl⟩
      · rintro ⟨j, hj, rfl⟩
        by_cases hjm : j = m
        · subst hjm; exact ⟨j - 1, by omega, hk.2.symm⟩
        · exact ⟨j, by omega, rfl⟩
theorem compact_strict {l : List Int} (h : l.Pairwise (· ≤ ·)) : (Lib.compact l).Pairwise (· < ·) ∧ ∀ x, x ∈ Lib.compact l ↔ x ∈ l := by
  have := upto_strict (d := l.toArray) (fun i j hij hj => by
    simp only [List.size_toArray] at hj
    rw [getElem!_pos l.toArray i (by simp; omega), getElem!_pos l.toArray j (by simpa using hj)]
    simp only [List.getElem_toArray]
    rcases Nat.lt_or_ge i j with h' | h'
    · exact List.pairwise_iff_getElem.1 h i j (by omega) hj h'
    · have : i = j := by omega
      subst this; omega) l.length (by simp)
  refine ⟨this.1, fun x => ?_⟩
  unfold Lib.compact
  rw [this.2 x, List.mem_iff_getElem]
  constructor
  · rintro ⟨j, hj, rfl⟩
    exact ⟨j, hj, by rw [getElem!_pos l.toArray j (by simpa using hj)]; simp⟩
  · rintro ⟨j, hj, rfl⟩
    exact ⟨j, hj, by rw [getElem!_pos l.toArray j (by simpa using hj)]; simp⟩
theorem sort_pw (l : List Int) : (l.mergeSort fun x y => decide (x ≤ y)).Pairwise (· ≤ ·) := by
  have := List.pairwise_mergeSort (le := fun x y : Int => decide (x ≤ y)) (fun a b c h1 h2 => by simp only [decide_eq_true_eq] at *; omega) (fun a b => by simp; omega) l
  exact this.imp (by simp)

/-! ### The objects of an expression -/
mutual
def cl (e : CE) : List Int :=
  match e with
  | .mk kind op n o off len lo hi l => (if kind = 2 ∨ kind = 3 then [o] else []) ++ clL l
def clL (l : List CE) : List Int :=
  match l with
  | [] => []
  | x :: r => cl x ++ clL r
end
theorem cl_eq (e : CE) : cl e = (if e.kind = 2 ∨ e.kind = 3 then [e.o] else []) ++ clL e.l := by cases e; rfl

theorem cl_len : ∀ (m : Nat), (∀ (e : CE) (k d left r : Int), SizeOf.sizeOf e ≤ m → snd e k d left = some r → ((cl e).length : Int) ≤ left - r) ∧
    (∀ (kind : Int) (l : List CE) (i k d left r : Int), SizeOf.sizeOf l ≤ m → sndL kind l i k d left = some r → ((clL l).length : Int) ≤ left - r)
  | 0 => by
    constructor
    · intro e k d left r h; cases e; simp at h
    · intro kind l i k d left r h; cases l <;> simp at h
  | m + 1 => by
    obtain ⟨ih1, ih2⟩ := cl_len m
    constructor
    · intro e k d left r hs h
      cases e with
      | mk kind op n o off len lo hi l =>
        simp only [snd] at h
        split at h
        · cases h
        · have := ih2 kind l 0 k d (left - 1) r (by simp at hs; omega) h
          simp only [cl, List.length_append]
          split <;> simp <;> omega
    · intro kind l i k d left r hs h
      cases l with
      | nil => simp only [sndL, Option.some.injEq] at h; subst h; simp [clL]
      | cons x l =>
        simp only [sndL] at h
        split at h
        · cases h
        · rename_i left' hx
          have a := ih1 x _ (d + 1) left left' (by simp at hs; omega) hx
          have b := ih2 kind l (i + 1) k d left' r (by simp at hs; omega) h
          simp only [clL, List.length_append]
          omega

theorem V.obj {e : CE} {lets depth : Int} (h : V e lets depth) (hk : e.kind = 2 ∨ e.kind = 3) : 0 ≤ e.o ∧ e.o < 2048 := by
  have := fields_cases h.fields
  omega

theorem ao (a b : List Int) (h : a.length + b.length ≤ 10000) : appOk 8 a b = true := by
  unfold appOk maxLen
  rw [decide_eq_true (by omega), decide_eq_true (by omega)]
  rfl

theorem f47_loop {rec : List Int → CE → Option (List Int)} {l0 : List Int} {e : CE} (hrec : ∀ x ∈ e.l, ∀ acc : List Int, acc.length + (cl x).length ≤ 1000 → rec acc x = some (acc ++ cl x)) (hlen : e.l.length ≤ 3) :
    ∀ (r : List CE) (i : Nat) (acc : List Int), e.l.drop i = r → acc.length + (clL r).length ≤ 1000 → f47s_l1 rec l0 e (r.length + 1) (i : Int) acc = some (acc ++ clL r) := by
  intro r
  induction r with
  | nil =>
    intro i acc hr ha
    have := drop_end hr
    have hc : decide ((i : Int) < (List.length e.l : Int)) = false := decide_eq_false (by omega)
    rw [List.length_nil, Nat.zero_add, f47s_l1, hc, cond_false]
    simp [clL]
  | cons x r ih =>
    intro i acc hr ha
    have hlt := drop_lt hr
    have hc : decide ((i : Int) < (List.length e.l : Int)) = true := decide_eq_true (by omega)
    have hx : x ∈ e.l := List.mem_of_mem_drop (by rw [hr]; simp)
    have hwi : IntKind.i64.wrap ((i : Int) + 1) = ((i + 1 : Nat) : Int) := by rw [w64' (by omega) (by omega)]; omega
    simp only [clL, List.length_append] at ha
    rw [List.length_cons, f47s_l1, hc, cond_true, idx_drop hr, obind, hrec x hx acc (by omega), obind, hwi]
    rw [ih (i + 1) _ (drop_succ hr) (by simp; omega)]
    simp [clL]
theorem f47_eq : ∀ (n : Nat) (e : CE) (lets depth : Int) (acc : List Int), V e lets depth → 66 - depth ≤ n → acc.length + (cl e).length ≤ 1000 → f47 n acc e = some (acc ++ cl e)
  | 0, e, lets, depth, acc, hv, hn, _ => by have := hv.depth; omega
  | n + 1, e, lets, depth, acc, hv, hn, ha => by
    show f47s (f47 n) acc e = _
    have hl := hv.len
    have e1 : (Int.toNat ((List.length e.l : Int) - 0) + 1) = e.l.length + 1 := by omega
    have L := f47_loop (rec := f47 n) (l0 := acc) (e := e) (fun x hx acc' ha' => by
      obtain ⟨i, hi⟩ := List.mem_iff_getElem?.1 hx
      exact f47_eq n x _ (depth + 1) acc' (hv.sub i x hi) (by omega) ha') hl e.l 0
    unfold f47s
    simp only [letk]
    rw [e1]
    rw [cl_eq] at ha ⊢
    by_cases hk : e.kind = 2 ∨ e.kind = 3
    · have hb : (decide (e.kind = 2) || decide (e.kind = 3)) = true := by simpa using hk
      rw [if_pos hk] at ha ⊢
      simp only [List.length_append, List.length_singleton] at ha
      rw [hb, cond_true, ao acc [e.o] (by simp; omega)]
      have := L (acc ++ [e.o]) rfl (by simp; omega)
      simpa [guardB] using this
    · have hb : (decide (e.kind = 2) || decide (e.kind = 3)) = false := by
        rw [Bool.eq_false_iff]; intro h; exact hk (by simpa using h)
      rw [if_neg hk] at ha ⊢
      simp only [List.nil_append] at ha ⊢
      rw [hb, cond_false]
      have := L acc rfl ha
      simpa using this

theorem f50_loop {rec : CE → Option (List Int)} {e : CE} {K : List Int → Option (List Int)} (hrec : ∀ x ∈ e.l, rec x = some (cl x)) (hlen : e.l.length ≤ 3) :
    ∀ (r : List CE) (i n : Nat) (acc : List Int), e.l.drop i = r → r.length < n → acc.length + (clL r).length ≤ 1000 → f50s_l1 rec e K n (i : Int) acc = K (acc ++ clL r) := by
  intro r
  induction r with
  | nil =>
    intro i n acc hr hn ha
    obtain ⟨n, rfl⟩ : ∃ k, n = k + 1 := ⟨n - 1, by omega⟩
    have := drop_end hr
    have hc : decide ((i : Int) < (List.length e.l : Int)) = false := decide_eq_false (by omega)
    rw [f50s_l1, hc, cond_false]
    simp [clL]
  | cons x r ih =>
    intro i n acc hr hn ha
    obtain ⟨n, rfl⟩ : ∃ k, n = k + 1 := ⟨n - 1, by omega⟩
    have hlt := drop_lt hr
    have hc : decide ((i : Int) < (List.length e.l : Int)) = true := decide_eq_true (by omega)
    have hx : x ∈ e.l := List.mem_of_mem_drop (by rw [hr]; simp)
    have hwi : IntKind.i64.wrap ((i : Int) + 1) = ((i + 1 : Nat) : Int) := by rw [w64' (by omega) (by omega)]; omega
    simp only [clL, List.length_append] at ha
    simp only [List.length_cons] at hn
    rw [f50s_l1, hc, cond_true, idx_drop hr, obind, hrec x hx, obind, hwi, ao acc (cl x) (by omega)]
    simp only [guardB, cond_true]
    rw [ih (i + 1) n _ (drop_succ hr) (by omega) (by simp; omega)]
    simp [clL]
theorem clL_mem {x : CE} : ∀ {l : List CE}, x ∈ l → (cl x).length ≤ (clL l).length
  | [], hx => by simp at hx
  | y :: l, hx => by
    simp only [List.mem_cons] at hx
    simp only [clL, List.length_append]
    rcases hx with rfl | hx
    · omega
    · have := clL_mem hx; omega
theorem gt {α : Type} (x : Option α) : guardB true x = x := rfl
theorem f50s_eq {rec : CE → Option (List Int)} {e : CE} (hl : e.l.length ≤ 3) (ha : (cl e).length ≤ 1000) (hrec : ∀ x ∈ e.l, rec x = some (cl x)) : f50s rec e = some (cl e) := by
  unfold f50s
  generalize hN : (9223372036854775808 : Nat) = N
  have hlen : (cl e).length = (if e.kind = 2 ∨ e.kind = 3 then [e.o] else []).length + (clL e.l).length := by rw [cl_eq]; simp
  have L := fun K acc i0 (h0 : i0 = ((0 : Nat) : Int)) hn' => h0 ▸ f50_loop (rec := rec) (e := e) (K := K) hrec hl e.l 0 N acc rfl hn'
  simp only [letk]
  rw [cl_eq]
  by_cases hk : e.kind = 2 ∨ e.kind = 3
  · have hb : (decide (e.kind = 2) || decide (e.kind = 3)) = true := by simpa using hk
    rw [if_pos hk] at hlen ⊢
    simp only [List.length_singleton] at hlen
    rw [hb, cond_true, ao [] [e.o] (by simp)]
    rw [gt]
    exact L _ _ _ rfl (by omega) (by simp; omega)
  · have hb : (decide (e.kind = 2) || decide (e.kind = 3)) = false := by
      rw [Bool.eq_false_iff]; intro h; exact hk (by simpa using h)
    rw [if_neg hk] at hlen ⊢
    simp only [List.length_nil] at hlen
    rw [hb, cond_false]
    exact L _ _ _ rfl (by omega) (by simp; omega)
theorem f50_eq : ∀ (n : Nat) (e : CE) (lets depth : Int), V e lets depth → 66 - depth ≤ n → (cl e).length ≤ 1000 → f50 n e = some (cl e)
  | 0, e, lets, depth, hv, hn, _ => by have := hv.depth; omega
  | n + 1, e, lets, depth, hv, hn, ha => by
    have hd := hv.depth
    have h1 : (clL e.l).length ≤ (cl e).length := by rw [cl_eq]; simp
    have : f50 (n + 1) = f50s (f50 n) := by rw [f50]
    rw [this]
    refine f50s_eq hv.len ha fun x hx => ?_
    obtain ⟨i, hi⟩ := List.mem_iff_getElem?.1 hx
    exact f50_eq n x _ (depth + 1) (hv.sub i x hi) (by omega) (by have := clL_mem hx; omega)

/-! ### The reference: from 0 on, each that occurs -/
theorem f19_in {C : List Int} {o : Int} {acc : List Int} {K : List Int → Option (List Int)} (hC : C.length ≤ 1000) (ha : acc.length ≤ 2048) :
    ∀ (r : List Int) (i n n0 : Nat), C.drop i = r → r.length < n → f19_l2 C o acc n0 K n (i : Int) = K (if o ∈ r then acc ++ [o] else acc) := by
  intro r
  induction r with
  | nil =>
    intro i n n0 hr hn
    obtain ⟨n, rfl⟩ : ∃ k, n = k + 1 := ⟨n - 1, by omega⟩
    have := drop_end hr
    have hc : decide ((i : Int) < (List.length C : Int)) = false := decide_eq_false (by omega)
    rw [f19_l2, hc, cond_false]
    simp
  | cons x r ih =>
    intro i n n0 hr hn
    obtain ⟨n, rfl⟩ : ∃ k, n = k + 1 := ⟨n - 1, by omega⟩
    have hlt := drop_lt hr
    have hc : decide ((i : Int) < (List.length C : Int)) = true := decide_eq_true (by omega)
    have hwi : IntKind.i64.wrap ((i : Int) + 1) = ((i + 1 : Nat) : Int) := by rw [w64' (by omega) (by omega)]; omega
    simp only [List.length_cons] at hn
    rw [f19_l2, hc, cond_true, idx_drop hr, obind, ao acc [o] (by simp; omega), hwi]
    simp only [guardB, cond_true]
    by_cases hx : x = o
    · subst hx
      simp
    · rw [decide_eq_false hx, cond_false, ih (i + 1) n _ (drop_succ hr) (by omega)]
      have : o ≠ x := fun h => hx h.symm
      simp [this]

def fl (C : List Int) (o d : Nat) : List Int := ((List.range' o d).map Int.ofNat).filter fun x => decide (x ∈ C)
theorem f19_out {C : List Int} {K : List Int → Option (List Int)} (hC : C.length ≤ 1000) : ∀ (d o n : Nat) (acc : List Int) (oi : Int), oi = (o : Int) → o + d = 2048 → d < n → acc.length ≤ o → f19_l1 C K n oi acc = K (acc ++ fl C o d)
  | 0, o, n, acc, oi, hoi, h1, h2, h3 => by
    obtain ⟨n, rfl⟩ : ∃ k, n = k + 1 := ⟨n - 1, by omega⟩
    have hc : decide (oi < 2048) = false := decide_eq_false (by omega)
    rw [f19_l1, hc, cond_false]
    simp [fl]
  | d + 1, o, n, acc, oi, hoi, h1, h2, h3 => by
    obtain ⟨n, rfl⟩ : ∃ k, n = k + 1 := ⟨n - 1, by omega⟩
    have hc : decide (oi < 2048) = true := decide_eq_true (by omega)
    have hwi : IntKind.i64.wrap (oi + 1) = ((o + 1 : Nat) : Int) := by rw [w64' (by omega) (by omega)]; omega
    rw [f19_l1, hc, cond_true]
    generalize hN : (9223372036854775808 : Nat) = N
    simp only [letk]
    have := f19_in (C := C) (o := oi) (acc := acc) (K := fun l49 => f19_l1 C K n (IntKind.i64.wrap (oi + 1)) l49) hC (by omega) C 0 N n rfl (by omega)
    have i0 : (0 : Int) = ((0 : Nat) : Int) := rfl
    rw [i0, this]
    have e1 : fl C o (d + 1) = (if oi ∈ C then [oi] else []) ++ fl C (o + 1) d := by
      rw [hoi]
      by_cases h : (o : Int) ∈ C <;> simp [fl, List.range'_succ, h]
    rw [e1]
    by_cases hin : oi ∈ C
    · rw [if_pos hin, if_pos hin, f19_out hC d (o + 1) n _ _ hwi (by omega) (by omega) (by simp; omega), List.append_assoc]
    · rw [if_neg hin, if_neg hin, f19_out hC d (o + 1) n _ _ hwi (by omega) (by omega) (by omega), List.nil_append]
theorem fl_strict (C : List Int) (o d : Nat) : (fl C o d).Pairwise (· < ·) := by
  unfold fl
  refine List.Pairwise.filter _ ?_
  rw [List.pairwise_map]
  have := List.pairwise_lt_range' (s := o) (n := d)
  exact this.imp (fun h => by simpa using h)
theorem fl_mem (C : List Int) (d : Nat) (x : Int) : x ∈ fl C 0 d ↔ x ∈ C ∧ 0 ≤ x ∧ x < d := by
  simp only [fl, List.mem_filter, List.mem_map, List.mem_range'_1, decide_eq_true_eq]
  constructor
  · rintro ⟨⟨a, h1, rfl⟩, h2⟩
    exact ⟨h2, by simp, by simp; omega⟩
  · rintro ⟨h1, h2, h3⟩
    exact ⟨⟨x.toNat, by omega, by simp; omega⟩, h1⟩

theorem cl_obj : ∀ (m : Nat) (e : CE) (lets depth : Int), SizeOf.sizeOf e ≤ m → V e lets depth → ∀ x ∈ cl e, 0 ≤ x ∧ x < 2048
  | 0, e, _, _, h, _ => by cases e; simp at h
  | m + 1, e, lets, depth, h, hv => fun x hx => by
    have mem : ∀ {l : List CE}, x ∈ clL l → ∃ y ∈ l, x ∈ cl y := by
      intro l
      induction l with
      | nil => intro h; simp [clL] at h
      | cons y l ih =>
        intro h
        simp only [clL, List.mem_append] at h
        rcases h with h | h
        · exact ⟨y, by simp, h⟩
        · obtain ⟨z, h1, h2⟩ := ih h
          exact ⟨z, by simp [h1], h2⟩
    rw [cl_eq, List.mem_append] at hx
    rcases hx with hx | hx
    · split at hx
      · rename_i hk
        simp only [List.mem_singleton] at hx
        subst hx
        exact hv.obj hk
      · simp at hx
    · obtain ⟨y, h1, h2⟩ := mem hx
      obtain ⟨i, hi⟩ := List.mem_iff_getElem?.1 h1
      have : SizeOf.sizeOf y < SizeOf.sizeOf e := by
        have := List.sizeOf_lt_of_mem h1
        cases e; simp at this ⊢; omega
      exact cl_obj m y _ _ (by omega) (hv.sub i y hi) x h2

theorem reads_eq {e : CE} (he : GE e) : ∃ R : List Int, f18 e = some R ∧ f19 e = some R ∧ R.length ≤ 2048 := by
  have i64 : I64 64 := by unfold I64; omega
  unfold f18 f19
  rw [f13_eq he i64, f14_eq he i64]
  cases hm : may e 64 with
  | false =>
    refine ⟨[], ?_, ?_, by simp⟩
    · simp [f48, f49, Lib.compact, Lib.compactUpTo, guardB, letk]
    · simp
  | true =>
    obtain ⟨_, hv⟩ := may_v hm
    have hlen : (cl e).length ≤ 256 := by
      simp only [may, Bool.and_eq_true] at hm
      obtain ⟨r, hr⟩ := Option.isSome_iff_exists.1 hm.2
      have h1 := (cl_len _).1 e _ _ _ _ (Nat.le_refl _) hr
      have h2 := (snd_nonneg _).1 e _ _ _ _ (Nat.le_refl _) hr
      omega
    have h47 := f47_eq 100 e 64 1 [] hv (by omega) (by simp; omega)
    have h50 := f50_eq 100 e 64 1 hv (by omega) (by omega)
    refine ⟨fl (cl e) 0 2048, ?_, ?_, ?_⟩
    · have hg : decide ((cl e).length < 4611686018427387904) = true := decide_eq_true (by omega)
      have hs := compact_strict (sort_pw (cl e))
      have heq : Lib.compact ((cl e).mergeSort fun x y => decide (x ≤ y)) = fl (cl e) 0 2048 := strict_ext hs.1 (fl_strict _ _ _) fun x => by
        rw [hs.2, fl_mem, List.mem_mergeSort]
        exact ⟨fun h => ⟨h, by have := cl_obj _ e _ _ (Nat.le_refl _) hv x h; omega⟩, fun h => h.1⟩
      simp only [letk, obind, cond_true, h47, List.nil_append, f48, f49, hg]
      rw [gt, obind, heq]
    · have h19 := f19_out (C := cl e) (K := fun l => some l) (by omega) 2048 0 9223372036854775808 [] 0 rfl rfl (by omega) (by simp)
      simp only [obind, Bool.not_true, cond_false, h50, letk]
      rw [h19]
      rfl
    · unfold fl
      refine Nat.le_trans (List.length_filter_le _ _) ?_
      simp

theorem f17_loop {a : List Int} {K : Unit → Option Bool} : ∀ (r : List Int) (i n : Nat) (ii : Int), ii = (i : Int) → a.drop i = r → r.length < n → a.length ≤ 9000000000000000000 → f17_l1 a a K n ii = K () := by
  intro r
  induction r with
  | nil =>
    intro i n ii hi hr hn hl
    obtain ⟨n, rfl⟩ : ∃ k, n = k + 1 := ⟨n - 1, by omega⟩
    have := drop_end hr
    have hc : decide (ii < (List.length a : Int)) = false := decide_eq_false (by omega)
    rw [f17_l1, hc, cond_false]
  | cons x r ih =>
    intro i n ii hi hr hn hl
    obtain ⟨n, rfl⟩ : ∃ k, n = k + 1 := ⟨n - 1, by omega⟩
    have hlt := drop_lt hr
    have hc : decide (ii < (List.length a : Int)) = true := decide_eq_true (by omega)
    have hwi : IntKind.i64.wrap (ii + 1) = ((i + 1 : Nat) : Int) := by rw [w64' (by omega) (by omega)]; omega
    simp only [List.length_cons] at hn
    rw [f17_l1, hc, cond_true, hi, idx_drop hr, obind, obind, decide_eq_true rfl, Bool.not_true, cond_false, ← hi]
    exact ih (i + 1) n _ hwi (drop_succ hr) (by omega) hl
theorem f17_refl {a : List Int} (hl : a.length ≤ 9000000000000000000) : f17 a a = some true := by
  unfold f17
  rw [decide_eq_true rfl, Bool.not_true, cond_false]
  simp only [letk]
  exact f17_loop a 0 _ 0 rfl rfl (by omega) hl

/-- A place as an argument. -/
structure GP (p : Place) : Prop where
  k : U8 p.kind
  o : I64 p.o
  off : I64 p.off
  len : I64 p.len
  e : ∀ x ∈ p.e, GE x
  n : p.e.length ≤ 9223372036854775807

def oneOk (l : List CE) : Bool := match l with | [x] => may x 0 | _ => false
/-- What the reference says of a place. -/
def placeOk (p : Place) : Bool :=
  bif decide (p.kind = 1) then ((f45 p.o && f46 p.off 1) && decide (p.len = 0)) && decide ((List.length p.e : Int) = 0)
  else bif decide (p.kind = 2) then (f45 p.o && f46 p.off p.len) && oneOk p.e
  else (((decide (p.kind = 3) && decide (p.o = 0)) && decide (p.off = 0)) && decide (p.len = 0)) && oneOk p.e
theorem one_el {l : List CE} (h : ∀ x ∈ l, GE x) (b : Bool) {F : CE → Option Bool} (hF : ∀ x ∈ l, F x = some (may x 0)) : (bif (b && decide ((List.length l : Int) = 1)) then (Option.bind (idx l 0) fun x => Option.bind (F x) fun r => some r) else some false) = some (b && oneOk l) := by
  match l, h, hF with
  | [], _, _ => cases b <;> rfl
  | [x], h, hF =>
    have i0 : idx [x] 0 = some x := rfl
    rw [i0, obind, hF x (by simp), obind]
    cases b <;> rfl
  | x :: y :: l, _, _ =>
    have : decide ((List.length (x :: y :: l) : Int) = 1) = false := decide_eq_false (by simp; omega)
    rw [this]
    cases b <;> rfl
theorem place_eq {p : Place} (hp : GP p) : f15 p = some (placeOk p) ∧ f16 p = some (placeOk p) := by
  have h1 : I64 1 := by unfold I64; omega
  have e13 := one_el hp.e true (F := fun x => f13 x 0) (fun x hx => f13_eq (hp.e x hx) i64_0)
  have e14 := fun b => one_el hp.e b (F := fun x => f14 x 0) (fun x hx => f14_eq (hp.e x hx) i64_0)
  rw [Bool.true_and, Bool.true_and] at e13
  constructor
  · unfold f15 placeOk
    rw [e13, obind, f4344 (o := p.o) hp.off h1, f4344 (o := p.o) hp.off hp.len]
    cases decide (p.kind = 1) <;> cases decide (p.kind = 2) <;> rfl
  · unfold f16 placeOk
    rw [e14, e14]
    cases decide (p.kind = 1) <;> cases decide (p.kind = 2) <;> cases decide (p.kind = 3) <;> simp

/-- EvalMays -/
theorem law3 {e : CE} {p : Place} {lets : Int} (he : GE e) (hp : GP p) (hl : I64 lets) : f3 e p lets = some true := by
  obtain ⟨R, h1, h2, h3⟩ := reads_eq he
  obtain ⟨k1, k2⟩ := place_eq hp
  unfold f3
  have hR : f17 R R = some true := by
    exact f17_refl (by omega)
  simp only [f13_eq he hl, f14_eq he hl, k1, k2, h1, h2, obind, hR, awake, letk, beq_self_eq_true, cond_true]
end Go.Proofs.Ytjjgmpmhfodmeaa
