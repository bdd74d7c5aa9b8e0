/- The fixed examples. -/
import Derived.KernelRfl
import Derived.Test.YtpionlekbfoccaaO
set_option maxRecDepth 100000
namespace Go.Proofs.Ytpionlekbfoccaa
open Go Go.Sk
theorem f11_true : f11 = some true := by kernel_rfl
end Go.Proofs.Ytpionlekbfoccaa
set_option maxRecDepth 10000
namespace Go.Proofs.Ytpionlekbfoccaa
open Go Go.Sk

theorem w64 {x : Int} (h1 : -9223372036854775808 ≤ x) (h2 : x ≤ 9223372036854775807) : IntKind.i64.wrap x = x := by
  rw [IntKind.wrap_i64]; omega
theorem idx_in {α : Type} {L : List α} {i : Nat} (h : i < L.length) : idx L (i : Int) = some L[i] := by
  unfold idx
  rw [decide_eq_true (Int.natCast_nonneg i)]
  simp [h]
theorem drop_cons {α : Type} {L : List α} {i : Nat} (h : i < L.length) : L.drop i = L[i] :: L.drop (i + 1) := List.drop_eq_getElem_cons h
theorem guardB_t {α : Type} {c : Bool} (o : Option α) (h : c = true) : guardB c o = o := by rw [h]; rfl
theorem vecOk_nat {i : Nat} (h : i < 32) : vecOk 32 (i : Int) = true := by simp [vecOk, h]

/-- The set of the tasks seen. -/
def inM (m : List (Int × Bool)) (x : Int) : Bool := Option.getD (mpGet m x) false
theorem mpGet_put (m : List (Int × Bool)) (k : Int) (v : Bool) (x : Int) : mpGet (mpPut m k v) x = if k = x then some v else mpGet m x := by
  induction m with
  | nil => simp [mpPut, mpGet]
  | cons p r ih =>
    unfold mpPut
    by_cases h : p.1 = k
    · rw [if_pos h]
      unfold mpGet
      by_cases hk : k = x
      · simp [hk]
      · simp [hk, h]
    · rw [if_neg h]
      unfold mpGet
      rw [ih]
      by_cases hk : p.1 = x
      · have : ¬ k = x := fun e => h (by rw [hk, e])
        simp [hk, this]
      · simp [hk]
theorem inM_put (m : List (Int × Bool)) (k x : Int) : inM (mpPut m k true) x = (decide (k = x) || inM m x) := by
  unfold inM
  rw [mpGet_put]
  by_cases h : k = x <;> simp [h]

def okS : List Int → List (Int × Bool) → Bool
  | [], _ => true
  | x :: L, m => f30 x && (!(inM m x)) && okS L (mpPut m x true)
theorem okS_iff : ∀ (L : List Int) (m : List (Int × Bool)), okS L m = true ↔ (∀ x ∈ L, f30 x = true) ∧ L.Nodup ∧ ∀ x ∈ L, inM m x = false
  | [], m => by simp [okS]
  | x :: L, m => by
    rw [okS, Bool.and_eq_true, Bool.and_eq_true, okS_iff L]
    simp only [inM_put, List.mem_cons, List.nodup_cons, Bool.or_eq_false_iff, decide_eq_false_iff_not, Bool.not_eq_true', forall_eq_or_imp]
    constructor
    · rintro ⟨⟨h1, h2⟩, h3, h4, h5⟩
      exact ⟨⟨h1, h3⟩, ⟨fun h => (h5 x h).1 rfl, h4⟩, h2, fun a ha => (h5 a ha).2⟩
    · rintro ⟨⟨h1, h3⟩, ⟨h6, h4⟩, h2, h5⟩
      exact ⟨⟨h1, h2⟩, h3, h4, fun a ha => ⟨fun e => h6 (by rw [e]; exact ha), h5 a ha⟩⟩
theorem okS_app : ∀ (L L2 : List Int) (m : List (Int × Bool)), okS (L ++ L2) m = (okS L m && okS L2 (L.foldl (fun m x => mpPut m x true) m))
  | [], L2, m => by simp [okS]
  | x :: L, L2, m => by simp [okS, okS_app L L2, Bool.and_assoc]

theorem f10_l2_eq (q : Queues) (t : Int) (k : List (Int × Bool) → Option Bool) (hl : (q.ready (Int.toNat t)).length < 9223372036854775808) : ∀ (n i : Nat) (z : Int) (m : List (Int × Bool)), z = (i : Int) → (q.ready (Int.toNat t)).length < n + i → i ≤ (q.ready (Int.toNat t)).length →
    f10_l2 q t k n z m = (bif okS ((q.ready (Int.toNat t)).drop i) m then k (((q.ready (Int.toNat t)).drop i).foldl (fun m x => mpPut m x true) m) else some false)
  | 0, i, z, m, hz, hn, hi => by omega
  | n + 1, i, z, m, hz, hn, hi => by
    subst hz
    rw [f10_l2]
    by_cases h : i < (q.ready (Int.toNat t)).length
    · rw [decide_eq_true (by omega : (i : Int) < ((q.ready (Int.toNat t)).length : Int)), cond_true, idx_in h, Option.bind_some, drop_cons h, okS]
      rw [w64 (by omega) (by omega)]
      rw [f10_l2_eq q t k hl n (i + 1) _ _ (by push_cast; rfl) (by omega) (by omega), List.foldl_cons]
      show (bif ((!(f30 _)) || inM m _) then some false else _) = _
      cases h1 : f30 (q.ready (Int.toNat t))[i] <;> cases h2 : inM m (q.ready (Int.toNat t))[i] <;> simp
    · have hd : (q.ready (Int.toNat t)).drop i = [] := List.drop_eq_nil_of_le (by omega)
      rw [decide_eq_false (by omega : ¬ (i : Int) < ((q.ready (Int.toNat t)).length : Int)), cond_false, hd]
      rfl

/-- The ready queues from number i on, n of them. -/
def flat (F : Nat → List Int) : Nat → Nat → List Int
  | 0, _ => []
  | n + 1, i => F i ++ flat F n (i + 1)
theorem f10_l1_eq (q : Queues) (r : Option Bool) (hl : ∀ j, j < 32 → (q.ready j).length < 9223372036854775808) : ∀ (n i : Nat) (z : Int) (m : List (Int × Bool)), z = (i : Int) → n + i = 33 → i ≤ 32 →
    f10_l1 q (fun _ => r) n z m = (bif okS (flat q.ready (32 - i) i) m then r else some false)
  | 0, i, z, m, hz, hn, hi => by omega
  | n + 1, i, z, m, hz, hn, hi => by
    subst hz
    rw [f10_l1]
    by_cases h : i < 32
    · rw [decide_eq_true (by omega : (i : Int) < 32), cond_true]
      unfold letk
      dsimp only
      rw [guardB_t _ (vecOk_nat h), f10_l2_eq q (i : Int) _ (hl i h) _ 0 0 _ rfl (by simp) (by simp)]
      simp only [List.drop_zero, Int.toNat_natCast]
      rw [w64 (by omega) (by omega)]
      rw [f10_l1_eq q r hl n (i + 1) _ _ (by push_cast; rfl) (by omega) (by omega)]
      have e : 32 - i = (32 - (i + 1)) + 1 := by omega
      rw [e, flat, okS_app]
      cases h1 : okS (q.ready i) m <;> simp
    · have : i = 32 := by omega
      subst this
      rfl

theorem f10_l3_congr (q q' : Queues) (h : q'.delays = q.delays) (k : List (Int × Bool) → Option Bool) : ∀ (n : Nat) (a b : Int) (m : List (Int × Bool)), f10_l3 q' k n a b m = f10_l3 q k n a b m
  | 0, _, _, _ => rfl
  | n + 1, a, b, m => by
    rw [f10_l3, f10_l3, h]
    simp only [f10_l3_congr q q' h k n]
theorem f10_l3_tot (q : Queues) (k : List (Int × Bool) → Option Bool) (hk : ∀ m, ∃ b, k m = some b) (hl : q.delays.length < 9223372036854775808) : ∀ (n i : Nat) (z a : Int) (m : List (Int × Bool)), z = (i : Int) → q.delays.length < n + i → i ≤ q.delays.length →
    ∃ b, f10_l3 q k n a z m = some b
  | 0, i, z, a, m, hz, hn, hi => by omega
  | n + 1, i, z, a, m, hz, hn, hi => by
    subst hz
    rw [f10_l3]
    by_cases h : i < q.delays.length
    · rw [decide_eq_true (by omega : (i : Int) < (q.delays.length : Int)), cond_true, idx_in h, Option.bind_some, w64 (by omega) (by omega)]
      obtain ⟨b, hb⟩ := f10_l3_tot q k hk hl n (i + 1) ((i : Int) + 1) (q.delays[i]).time (mpPut m (q.delays[i]).task true) (by push_cast; rfl) (by omega) (by omega)
      rw [hb]
      cases ((((!(f30 (q.delays[i]).task)) || (Option.getD (mpGet m (q.delays[i]).task) false)) || (decide ((q.delays[i]).time < a))) || (decide ((q.delays[i]).time > 9007199254740992))) <;> exact ⟨_, rfl⟩
    · rw [decide_eq_false (by omega : ¬ (i : Int) < (q.delays.length : Int)), cond_false]
      exact hk m

/-- The bounds that arguments keep. -/
structure Bnd (q : Queues) : Prop where
  r : ∀ j, j < 32 → (q.ready j).length < 9223372036854775808
  d : q.delays.length < 9223372036854775808

def DQ (d : List Due) : Option Bool := f10_l3 ⟨fun _ => [], d, 0⟩ (fun _ => some true) (Int.toNat ((List.length d : Int) - 0) + 1) 0 0 ([] : List (Int × Bool))
def m0 (run : Int) : List (Int × Bool) := mpPut (mpPut ([] : List (Int × Bool)) (-1) true) run true
theorem f10_eq (q : Queues) (hb : Bnd q) : f10 q = (bif ((!decide (q.run = (-1))) && (!(f30 q.run))) then some false else (bif okS (flat q.ready 32 0) (m0 q.run) then DQ q.delays else some false)) := by
  unfold f10 letk
  dsimp only
  have e : Int.toNat (32 - 0) + 1 = 33 := rfl
  have h1 := f10_l1_eq q (f10_l3 q (fun _ => some true) (Int.toNat ((List.length q.delays : Int) - 0) + 1) 0 0 ([] : List (Int × Bool))) hb.r 33 0 0 (m0 q.run) rfl rfl (by decide)
  rw [e]
  unfold m0 at h1
  rw [h1]
  unfold m0
  congr 2
  exact f10_l3_congr ⟨fun _ => [], q.delays, 0⟩ q rfl _ _ _ _ _
theorem DQ_tot (d : List Due) (h : d.length < 9223372036854775808) : ∃ b, DQ d = some b :=
  f10_l3_tot _ _ (fun _ => ⟨true, rfl⟩) h _ 0 _ _ _ rfl (by simp) (by simp)
theorem f10_tot (q : Queues) (hb : Bnd q) : ∃ b, f10 q = some b := by
  rw [f10_eq q hb]
  cases ((!decide (q.run = (-1))) && (!(f30 q.run))) with
  | true => exact ⟨_, rfl⟩
  | false =>
    cases okS (flat q.ready 32 0) (m0 q.run) with
    | true => exact DQ_tot _ hb.d
    | false => exact ⟨_, rfl⟩

theorem inM_m0 (run x : Int) : inM (m0 run) x = (decide (run = x) || decide (-1 = x)) := by
  unfold m0
  rw [inM_put, inM_put]
  have : inM ([] : List (Int × Bool)) x = false := rfl
  rw [this, Bool.or_false]

/-- What May says of the running task and the ready queues. -/
structure Rdy (q : Queues) : Prop where
  run : q.run = -1 ∨ (0 ≤ q.run ∧ q.run < 32)
  num : ∀ x ∈ flat q.ready 32 0, 0 ≤ x ∧ x < 32
  nd : (flat q.ready 32 0).Nodup
  out : q.run ∉ flat q.ready 32 0
theorem f30_iff (x : Int) : f30 x = true ↔ 0 ≤ x ∧ x < 32 := by simp [f30]
theorem f10_true (q : Queues) (hb : Bnd q) : f10 q = some true ↔ Rdy q ∧ DQ q.delays = some true := by
  rw [f10_eq q hb]
  constructor
  · intro h
    cases h1 : ((!decide (q.run = (-1))) && (!(f30 q.run))) with
    | true => rw [h1] at h; cases h
    | false =>
      rw [h1, cond_false] at h
      cases h2 : okS (flat q.ready 32 0) (m0 q.run) with
      | false => rw [h2] at h; cases h
      | true =>
        rw [h2, cond_true] at h
        obtain ⟨a1, a2, a3⟩ := (okS_iff _ _).1 h2
        refine ⟨⟨?_, fun x hx => (f30_iff x).1 (a1 x hx), a2, fun hx => ?_⟩, h⟩
        · by_cases hr : q.run = -1
          · exact .inl hr
          · right
            have : f30 q.run = true := by
              cases hf : f30 q.run with
              | true => rfl
              | false => simp [hr, hf] at h1
            exact (f30_iff _).1 this
        · have := a3 _ hx
          rw [inM_m0] at this
          simp at this
  · rintro ⟨⟨h1, h2, h3, h4⟩, h5⟩
    have e1 : ((!decide (q.run = (-1))) && (!(f30 q.run))) = false := by
      rcases h1 with h | h
      · simp [h]
      · simp [(f30_iff _).2 h]
    have e2 : okS (flat q.ready 32 0) (m0 q.run) = true := (okS_iff _ _).2 ⟨fun x hx => (f30_iff x).2 (h2 x hx), h3, fun x hx => by
      rw [inM_m0]
      have g1 : ¬ q.run = x := fun e => h4 (by rw [e]; exact hx)
      have g2 : ¬ (-1 : Int) = x := fun e => by have := h2 x hx; omega
      simp [g1, g2]⟩
    rw [e1, e2]
    exact h5
end Go.Proofs.Ytpionlekbfoccaa
set_option maxRecDepth 10000
namespace Go.Proofs.Ytpionlekbfoccaa
open Go Go.Sk

theorem nodup_len : ∀ (n : Nat) (L : List Int), L.Nodup → (∀ x ∈ L, 0 ≤ x ∧ x < (n : Int)) → L.length ≤ n
  | 0, L, _, h => by
    cases L with
    | nil => simp
    | cons x L => have := h x (by simp); omega
  | n + 1, L, hn, h => by
    have h1 := nodup_len n (L.erase (n : Int)) (hn.erase _) (fun x hx => by
      have hm := (List.Nodup.mem_erase_iff hn).1 hx
      have := h x hm.2
      have hne : x ≠ (n : Int) := hm.1
      push_cast at this
      omega)
    by_cases hm : (n : Int) ∈ L
    · rw [List.length_erase_of_mem hm] at h1
      omega
    · rw [List.erase_of_not_mem hm] at h1
      omega

theorem mem_flat {F : Nat → List Int} {x : Int} : ∀ {n i : Nat}, x ∈ flat F n i ↔ ∃ j, i ≤ j ∧ j < i + n ∧ x ∈ F j
  | 0, i => by simp [flat]; omega
  | n + 1, i => by
    rw [flat, List.mem_append, mem_flat]
    constructor
    · rintro (h | ⟨j, h1, h2, h3⟩)
      · exact ⟨i, Nat.le_refl i, by omega, h⟩
      · exact ⟨j, by omega, by omega, h3⟩
    · rintro ⟨j, h1, h2, h3⟩
      by_cases hj : j = i
      · subst hj; exact .inl h3
      · exact .inr ⟨j, by omega, by omega, h3⟩
theorem flat_len {F : Nat → List Int} : ∀ {n i j : Nat}, i ≤ j → j < i + n → (F j).length ≤ (flat F n i).length
  | 0, i, j, h1, h2 => by omega
  | n + 1, i, j, h1, h2 => by
    rw [flat, List.length_append]
    by_cases hj : j = i
    · subst hj; omega
    · have := flat_len (F := F) (n := n) (i := i + 1) (j := j) (by omega) (by omega)
      omega
theorem flat_nodup {F : Nat → List Int} : ∀ {n i : Nat}, (flat F n i).Nodup ↔ (∀ j, i ≤ j → j < i + n → (F j).Nodup) ∧ ∀ j k x, i ≤ j → j < k → k < i + n → x ∈ F j → x ∈ F k → False
  | 0, i => by
    simp only [flat, List.nodup_nil, true_iff]
    exact ⟨fun j h1 h2 => by omega, fun j k x h1 h2 h3 => by omega⟩
  | n + 1, i => by
    rw [flat, List.nodup_append, flat_nodup]
    constructor
    · rintro ⟨h1, ⟨h2, h3⟩, h4⟩
      refine ⟨fun j a b => ?_, fun j k x a b c hj hk => ?_⟩
      · by_cases hj : j = i
        · subst hj; exact h1
        · exact h2 j (by omega) (by omega)
      · by_cases e : j = i
        · subst e
          exact h4 x hj x (mem_flat.2 ⟨k, by omega, by omega, hk⟩) rfl
        · exact h3 j k x (by omega) b (by omega) hj hk
    · rintro ⟨h1, h2⟩
      refine ⟨h1 i (Nat.le_refl i) (by omega), ⟨fun j a b => h1 j (by omega) (by omega), fun j k x a b c => h2 j k x (by omega) b (by omega)⟩, ?_⟩
      intro x hx y hy e
      subst e
      obtain ⟨j, a, b, c⟩ := mem_flat.1 hy
      exact h2 i j x (Nat.le_refl i) (by omega) (by omega) hx c

/-- The tasks that are ready, apart. -/
structure Rd2 (q : Queues) : Prop where
  run : q.run = -1 ∨ (0 ≤ q.run ∧ q.run < 32)
  num : ∀ j x, j < 32 → x ∈ q.ready j → 0 ≤ x ∧ x < 32
  nd : ∀ j, j < 32 → (q.ready j).Nodup
  ap : ∀ j k x, j < k → k < 32 → x ∈ q.ready j → x ∈ q.ready k → False
  out : ∀ j, j < 32 → q.run ∉ q.ready j
theorem Rdy_iff (q : Queues) : Rdy q ↔ Rd2 q := by
  constructor
  · rintro ⟨h1, h2, h3, h4⟩
    obtain ⟨h5, h6⟩ := flat_nodup.1 h3
    exact ⟨h1, fun j x hj hx => h2 x (mem_flat.2 ⟨j, by omega, by omega, hx⟩), fun j hj => h5 j (by omega) (by omega), fun j k x a b => h6 j k x (by omega) a (by omega), fun j hj hx => h4 (mem_flat.2 ⟨j, by omega, by omega, hx⟩)⟩
  · rintro ⟨h1, h2, h3, h4, h5⟩
    refine ⟨h1, fun x hx => ?_, flat_nodup.2 ⟨fun j _ b => h3 j (by omega), fun j k x _ b c => h4 j k x b (by omega)⟩, fun hx => ?_⟩
    · obtain ⟨j, _, b, c⟩ := mem_flat.1 hx
      exact h2 j x (by omega) c
    · obtain ⟨j, _, b, c⟩ := mem_flat.1 hx
      exact h5 j (by omega) c
theorem Rd2.ap' {q : Queues} (h : Rd2 q) {j k : Nat} {x : Int} (hj : j < 32) (hk : k < 32) (h1 : x ∈ q.ready j) (h2 : x ∈ q.ready k) : j = k := by
  rcases Nat.lt_trichotomy j k with a | a | a
  · exact (h.ap j k x a hk h1 h2).elim
  · exact a
  · exact (h.ap k j x a hj h2 h1).elim
theorem Rd2.len {q : Queues} (h : Rd2 q) {j : Nat} (hj : j < 32) : (q.ready j).length ≤ 32 := nodup_len 32 _ (h.nd j hj) (fun x hx => h.num j x hj hx)

theorem f10_l3_len (q : Queues) (k : List (Int × Bool) → Option Bool) (hl : q.delays.length < 9223372036854775808) : ∀ (n i : Nat) (z a : Int) (m : List (Int × Bool)), z = (i : Int) → q.delays.length < n + i → i ≤ q.delays.length →
    f10_l3 q k n a z m = some true → okS ((q.delays.map Due.task).drop i) m = true
  | 0, i, z, a, m, hz, hn, hi, _ => by omega
  | n + 1, i, z, a, m, hz, hn, hi, h => by
    subst hz
    rw [f10_l3] at h
    by_cases hh : i < q.delays.length
    · rw [decide_eq_true (by omega : (i : Int) < (q.delays.length : Int)), cond_true, idx_in hh, Option.bind_some, w64 (by omega) (by omega)] at h
      rw [drop_cons (by simpa using hh), okS]
      have ih := f10_l3_len q k hl n (i + 1) ((i : Int) + 1) (q.delays[i]).time (mpPut m (q.delays[i]).task true) (by push_cast; rfl) (by omega) (by omega)
      have e : (q.delays.map Due.task)[i]'(by simpa using hh) = (q.delays[i]).task := by simp
      rw [e]
      cases h1 : f30 (q.delays[i]).task with
      | false => rw [h1] at h; simp at h
      | true =>
        cases h2 : inM m (q.delays[i]).task with
        | true =>
          have h2' : Option.getD (mpGet m (q.delays[i]).task) false = true := h2
          rw [h1, h2'] at h; simp at h
        | false =>
          have h2' : Option.getD (mpGet m (q.delays[i]).task) false = false := h2
          rw [h1, h2'] at h
          cases h3 : ((decide ((q.delays[i]).time < a)) || (decide ((q.delays[i]).time > 9007199254740992))) with
          | true =>
            simp only [Bool.not_true, Bool.false_or] at h
            rw [h3] at h; simp at h
          | false =>
            simp only [Bool.not_true, Bool.false_or] at h
            rw [h3, cond_false] at h
            simp [ih h]
    · have : (q.delays.map Due.task).drop i = [] := List.drop_eq_nil_of_le (by simp; omega)
      rw [this]; rfl
theorem DQ_len (d : List Due) (hl : d.length < 9223372036854775808) (h : DQ d = some true) : d.length ≤ 32 := by
  have h1 := f10_l3_len ⟨fun _ => [], d, 0⟩ (fun _ => some true) hl _ 0 _ _ _ rfl (by simp) (by simp) h
  obtain ⟨a1, a2, _⟩ := (okS_iff _ _).1 h1
  have := nodup_len 32 _ a2 (fun x hx => (f30_iff x).1 (a1 x hx))
  simpa using this

/-- May. -/
structure Ok (q : Queues) : Prop where
  b : Bnd q
  r : Rd2 q
  d : DQ q.delays = some true
theorem Ok.may {q : Queues} (h : Ok q) : f10 q = some true := (f10_true q h.b).2 ⟨(Rdy_iff q).2 h.r, h.d⟩
theorem Ok.of {q : Queues} (hb : Bnd q) (h : f10 q = some true) : Ok q :=
  let ⟨h1, h2⟩ := (f10_true q hb).1 h
  ⟨hb, (Rdy_iff q).1 h1, h2⟩
theorem Ok.mk2 {q : Queues} (hr : Rd2 q) (hl : q.delays.length < 9223372036854775808) (h : DQ q.delays = some true) : Ok q :=
  ⟨⟨fun j hj => by have := hr.len hj; omega, hl⟩, hr, h⟩
theorem Ok.own {q : Queues} (h : Ok q) : O.ownOk q = true := by
  unfold O.ownOk
  rw [Bool.and_eq_true]
  constructor
  · rw [List.all_eq_true]
    intro j hj
    have := h.r.len (List.mem_range.1 hj)
    simp [appOk, maxLen] <;> omega
  · have := DQ_len _ h.b.d h.d
    simp [appOk, maxLen] <;> omega

/-! ### Top -/
def topF (F : Nat → List Int) : Nat → Int × Int × Bool
  | 0 => (0, 0, false)
  | n + 1 => match F n with | x :: _ => (x, (n : Int), true) | [] => topF F n
theorem f14_l1_eq (q : Queues) : ∀ (n i : Nat) (z : Int), z = (i : Int) - 1 → i ≤ 32 → i < n → f14_l1 q (fun a b => some (a, b, true)) (fun _ => some (0, 0, false)) n z = some (topF q.ready i)
  | 0, i, z, _, _, h => by omega
  | n + 1, 0, z, hz, hi, h => by
    subst hz
    rw [f14_l1]
    rfl
  | n + 1, i + 1, z, hz, hi, h => by
    have hz' : z = (i : Int) := by rw [hz]; push_cast; omega
    subst hz'
    rw [f14_l1]
    have hlt : i < ((List.range 32).map q.ready).length := by simp; omega
    have e : (List.map q.ready (List.range 32))[i]'hlt = q.ready i := by simp
    rw [decide_eq_true (by omega : (i : Int) ≥ 0), cond_true, idx_in hlt, Option.bind_some, e]
    unfold letk
    dsimp only
    unfold topF
    cases hq : q.ready i with
    | nil =>
      rw [decide_eq_false (by simp), cond_false, w64 (by omega) (by omega)]
      exact f14_l1_eq q n i _ rfl (by omega) (by omega)
    | cons x L =>
      rw [decide_eq_true (by simp <;> omega), cond_true]
      rfl
theorem f14_eq {q : Queues} (h : Ok q) : f14 q = some (topF q.ready 32) := by
  unfold f14
  rw [h.may, Option.bind_some]
  unfold letk
  dsimp only
  rw [Bool.not_true, cond_false]
  have e1 : ((List.length (List.map q.ready (List.range 32)) : Int) - 1) = 31 := by simp
  have e2 : IntKind.i64.wrap 31 = 31 := by decide
  rw [e1, e2]
  exact f14_l1_eq q 33 32 31 (by decide) (by decide) (by decide)
theorem topF_some {F : Nat → List Int} : ∀ {n : Nat}, (topF F n).2.2 = true → ∃ (p : Nat) (L : List Int), p < n ∧ F p = (topF F n).1 :: L ∧ (topF F n).2.1 = (p : Int) ∧ ∀ j, p < j → j < n → F j = []
  | 0, h => by cases h
  | n + 1, h => by
    unfold topF at h ⊢
    cases hF : F n with
    | cons x L => exact ⟨n, L, by omega, hF, rfl, fun j a b => by omega⟩
    | nil =>
      rw [hF] at h
      obtain ⟨p, L, h1, h2, h3, h4⟩ := topF_some h
      refine ⟨p, L, by omega, h2, h3, fun j a b => ?_⟩
      by_cases e : j = n
      · rw [e, hF]
      · exact h4 j a (by omega)
end Go.Proofs.Ytpionlekbfoccaa
set_option maxRecDepth 10000
namespace Go.Proofs.Ytpionlekbfoccaa
open Go Go.Sk

theorem vs_at {α : Type} (F : Nat → α) (i j : Nat) (v : α) : vset F i v j = if j = i then v else F j := vset_app (fun x => x) F i j v
theorem vs_id {α : Type} (F : Nat → α) (i : Nat) : vset F i (F i) = F := by
  funext j; rw [vs_at]
  by_cases h : j = i <;> simp [h]
theorem vs_eq {α : Type} (F : Nat → α) (i : Nat) (v : α) : vset F i v i = v := by rw [vs_at, if_pos rfl]
theorem vs_ne {α : Type} (F : Nat → α) {i j : Nat} (v : α) (h : j ≠ i) : vset F i v j = F j := by rw [vs_at, if_neg h]

theorem topF_rng {F : Nat → List Int} {n : Nat} (hn : 0 < n) : 0 ≤ (topF F n).2.1 ∧ (topF F n).2.1 < (n : Int) := by
  cases h : (topF F n).2.2 with
  | true =>
    obtain ⟨p, L, h1, _, h3, _⟩ := topF_some h
    rw [h3]; omega
  | false =>
    have : ∀ m, (topF F m).2.2 = false → topF F m = (0, 0, false) := fun m => by
      induction m with
      | zero => intro _; rfl
      | succ m ih =>
        intro h
        unfold topF at h ⊢
        cases hF : F m with
        | cons x L => rw [hF] at h; cases h
        | nil => rw [hF] at h; exact ih h
    rw [this n h]
    simp; omega
theorem ghost_ok {q : Queues} (h : Ok q) {prio : Int} (hp : q.run ≥ 0 → 0 ≤ prio ∧ prio < 32) : vecOk 32 (ghost q prio) = true := by
  unfold ghost
  rw [f14_eq h]
  by_cases hr : q.run ≥ 0
  · have := hp hr
    rw [decide_eq_true hr, cond_true]
    simp [vecOk]; omega
  · rw [decide_eq_false hr, cond_false]
    have := topF_rng (F := q.ready) (n := 32) (by decide)
    simp only [vecOk, Bool.and_eq_true, decide_eq_true_eq, Nat.blt_eq]
    omega

theorem gh_ne {q : Queues} {prio : Int} {r : Int × Int × Bool} (h14 : f14 q = some r) (hc : q.run ≥ 0 → prio < r.2.1) (hv : vecOk 32 r.2.1 = true) (hx : vecOk 32 (ghost q prio) = true) : Int.toNat r.2.1 ≠ Int.toNat (ghost q prio) := by
  have h1 := vecOk_spec hv
  have h2 := vecOk_spec hx
  unfold ghost at h2 ⊢
  by_cases hr : q.run ≥ 0
  · have := hc hr
    rw [decide_eq_true hr] at h2 ⊢
    simp only [cond_true] at h2 ⊢
    omega
  · rw [decide_eq_false hr, h14] at h2
    rw [decide_eq_false hr, h14]
    simp only [cond_false] at h2 ⊢
    omega
theorem disp_keep {q : Queues} (h : Ok q) {prio : Int} (hp : q.run ≥ 0 → 0 ≤ prio ∧ prio < 32) (hc : (topF q.ready 32).2.2 = false ∨ (q.run ≥ 0 ∧ (topF q.ready 32).2.1 ≤ prio)) : f12 q prio = some (q, 0) := by
  unfold f12
  rw [h.may, Option.bind_some]
  have e1 : ((decide (q.run ≥ 0)) && (!(f30 prio))) = false := by
    by_cases hr : q.run ≥ 0
    · rw [(f30_iff prio).2 (hp hr)]; simp
    · simp [hr]
  rw [Bool.not_true, Bool.false_or, e1, cond_false, guardB_t _ (ghost_ok h hp), guardB_t _ h.own, f14_eq h, Option.bind_some]
  have e2 : ((!(topF q.ready 32).2.2) || ((decide (q.run ≥ 0)) && (decide ((topF q.ready 32).2.1 ≤ prio)))) = true := by
    rcases hc with hc | ⟨h1, h2⟩
    · rw [hc]; rfl
    · rw [decide_eq_true h1, decide_eq_true h2]; simp
  rw [e2, cond_true, vs_id]

/-- What Dispatch makes of the ready queues. -/
def nextR (q : Queues) (prio : Int) (p : Nat) (L : List Int) : Nat → List Int :=
  if q.run ≥ 0 then vset (vset q.ready p L) (Int.toNat prio) (q.run :: q.ready (Int.toNat prio)) else vset q.ready p L
theorem disp_go {q : Queues} (h : Ok q) {prio : Int} (hp : q.run ≥ 0 → 0 ≤ prio ∧ prio < 32) (hc : (topF q.ready 32).2.2 = true) (hc2 : q.run ≥ 0 → prio < (topF q.ready 32).2.1) :
    ∃ (p : Nat) (L : List Int), p < 32 ∧ q.ready p = (topF q.ready 32).1 :: L ∧ (topF q.ready 32).2.1 = (p : Int) ∧ (∀ j, p < j → j < 32 → q.ready j = []) ∧ f12 q prio = some (⟨nextR q prio p L, q.delays, (topF q.ready 32).1⟩, 0) := by
  obtain ⟨p, L, h1, h2, h3, h4⟩ := topF_some hc
  refine ⟨p, L, h1, h2, h3, h4, ?_⟩
  unfold f12
  rw [h.may, Option.bind_some]
  have e1 : ((decide (q.run ≥ 0)) && (!(f30 prio))) = false := by
    by_cases hr : q.run ≥ 0
    · rw [(f30_iff prio).2 (hp hr)]; simp
    · simp [hr]
  have hg := ghost_ok h hp
  rw [Bool.not_true, Bool.false_or, e1, cond_false, guardB_t _ hg, guardB_t _ h.own, f14_eq h, Option.bind_some]
  have e2 : ((!(topF q.ready 32).2.2) || ((decide (q.run ≥ 0)) && (decide ((topF q.ready 32).2.1 ≤ prio)))) = false := by
    rw [hc]
    by_cases hr : q.run ≥ 0
    · have := hc2 hr
      rw [decide_eq_false (show ¬ (topF q.ready 32).2.1 ≤ prio by omega)]; simp
    · simp [hr]
  have hne := gh_ne (f14_eq h) hc2 (by rw [h3]; exact vecOk_nat h1) hg
  rw [e2, cond_false]
  rw [h3, Int.toNat_natCast] at hne ⊢
  rw [guardB_t _ (vecOk_nat h1)]
  have e3 : sliceOk (q.ready p) 1 (List.length (q.ready p) : Int) = true := by
    rw [h2]; simp [sliceOk]; omega
  have e4 : sliceF (q.ready p) 1 (List.length (q.ready p) : Int) = L := by
    rw [h2]; simp [sliceF]
  rw [guardB_t _ e3, guardB_t _ (vecOk_nat h1), e4]
  unfold letk
  dsimp only
  unfold nextR
  by_cases hr : q.run ≥ 0
  · obtain ⟨g1, g2⟩ := hp hr
    have e5 : vecOk 32 prio = true := by simp [vecOk]; omega
    have e6 : O.insOk (q.ready (Int.toNat prio)) = true := by
      have := h.r.len (j := Int.toNat prio) (by omega)
      simp [O.insOk]; omega
    rw [decide_eq_true hr, cond_true, guardB_t _ e5, guardB_t _ e6, guardB_t _ e5, if_pos hr]
  · rw [decide_eq_false hr, cond_false, if_neg hr]
    have : vset (vset q.ready p L) (Int.toNat (ghost q prio)) (q.ready (Int.toNat (ghost q prio))) = vset q.ready p L := by
      have e := vs_id (vset q.ready p L) (Int.toNat (ghost q prio))
      rw [vs_ne _ _ (Ne.symm hne)] at e
      exact e
    rw [this]

/-- Dispatch keeps May. -/
theorem next_ok {q : Queues} (h : Ok q) {prio : Int} (hp : q.run ≥ 0 → 0 ≤ prio ∧ prio < 32) {p : Nat} {L : List Int} {x : Int} (h1 : p < 32) (h2 : q.ready p = x :: L) (hpp : q.run ≥ 0 → prio < (p : Int)) : Ok ⟨nextR q prio p L, q.delays, x⟩ := by
  have hxn := h.r.num p x h1 (by rw [h2]; simp)
  have hnd := h.r.nd p h1
  rw [h2, List.nodup_cons] at hnd
  refine Ok.mk2 ?_ h.b.d h.d
  -- what is in a queue now
  have key : ∀ j y, j < 32 → y ∈ nextR q prio p L j → (y ∈ q.ready j ∧ y ≠ x) ∨ (q.run ≥ 0 ∧ j = Int.toNat prio ∧ y = q.run) := by
    intro j y hj hy
    have base : ∀ y, y ∈ vset q.ready p L j → y ∈ q.ready j ∧ y ≠ x := fun y hy => by
      by_cases e : j = p
      · rw [e, vs_eq] at hy
        rw [e, h2]
        exact ⟨by simp [hy], fun e2 => hnd.1 (by rw [← e2]; exact hy)⟩
      · rw [vs_ne _ _ e] at hy
        exact ⟨hy, fun e2 => by subst e2; exact e (h.r.ap' hj h1 hy (by rw [h2]; simp))⟩
    unfold nextR at hy
    by_cases hr : q.run ≥ 0
    · rw [if_pos hr] at hy
      by_cases e : j = Int.toNat prio
      · have hne : Int.toNat prio ≠ p := by have := hpp hr; have := hp hr; omega
        rw [e, vs_eq, List.mem_cons] at hy
        rcases hy with hy | hy
        · exact .inr ⟨hr, e, hy⟩
        · refine .inl (base y ?_)
          rw [e, vs_ne _ _ hne]; exact hy
      · rw [vs_ne _ _ e] at hy
        exact .inl (base y hy)
    · rw [if_neg hr] at hy
      exact .inl (base y hy)
  have ndj : ∀ j, j < 32 → (nextR q prio p L j).Nodup := by
    intro j hj
    have base : (vset q.ready p L j).Nodup := by
      by_cases e : j = p
      · rw [e, vs_eq]; exact hnd.2
      · rw [vs_ne _ _ e]; exact h.r.nd j hj
    unfold nextR
    by_cases hr : q.run ≥ 0
    · rw [if_pos hr]
      by_cases e : j = Int.toNat prio
      · rw [e, vs_eq, List.nodup_cons]
        have := hp hr
        exact ⟨h.r.out _ (by omega), h.r.nd _ (by omega)⟩
      · rw [vs_ne _ _ e]; exact base
    · rw [if_neg hr]; exact base
  refine ⟨.inr hxn, fun j y hj hy => ?_, ndj, fun j k y hjk hk hy hz => ?_, fun j hj hy => ?_⟩
  · rcases key j y hj hy with ⟨a, _⟩ | ⟨a, _, b⟩
    · exact h.r.num j y hj a
    · rcases h.r.run with c | c
      · omega
      · rw [b]; exact c
  · rcases key j y (by omega) hy with ⟨a, _⟩ | ⟨a, a2, a3⟩ <;> rcases key k y hk hz with ⟨b, _⟩ | ⟨b, b2, b3⟩
    · exact h.r.ap j k y hjk hk a b
    · exact h.r.out j (by omega) (by rw [← b3]; exact a)
    · exact h.r.out k hk (by rw [← a3]; exact b)
    · omega
  · rcases key j x hj hy with ⟨_, b⟩ | ⟨a, _, b⟩
    · exact b rfl
    · exact h.r.out p h1 (by rw [h2, ← b]; simp)
end Go.Proofs.Ytpionlekbfoccaa
set_option maxRecDepth 10000
namespace Go.Proofs.Ytpionlekbfoccaa
open Go Go.Sk

theorem f31_l1_refl (L : List Int) (k : Unit → Option Bool) (hl : L.length < 9223372036854775808) : ∀ (n i : Nat) (z : Int), z = (i : Int) → i ≤ L.length → L.length < n + i → f31_l1 L L k n z = k ()
  | 0, i, z, _, _, h => by omega
  | n + 1, i, z, hz, hi, h => by
    subst hz
    rw [f31_l1]
    by_cases hh : i < L.length
    · rw [decide_eq_true (by omega : (i : Int) < (L.length : Int)), cond_true, idx_in hh, Option.bind_some, Option.bind_some, decide_eq_true rfl, Bool.not_true, cond_false, w64 (by omega) (by omega)]
      exact f31_l1_refl L k hl n (i + 1) _ (by push_cast; rfl) (by omega) (by omega)
    · rw [decide_eq_false (by omega : ¬ (i : Int) < (L.length : Int)), cond_false]
theorem f31_refl (L : List Int) (hl : L.length < 9223372036854775808) : f31 L L = some true := by
  unfold f31 letk
  dsimp only
  rw [decide_eq_true rfl, Bool.not_true, cond_false]
  exact f31_l1_refl L _ hl _ 0 0 rfl (by omega) (by omega)
theorem f15_l1_refl (q : Queues) (k : Unit → Option Bool) (hl : q.delays.length < 9223372036854775808) : ∀ (n i : Nat) (z : Int), z = (i : Int) → i ≤ q.delays.length → q.delays.length < n + i → f15_l1 q q k n z = k ()
  | 0, i, z, _, _, h => by omega
  | n + 1, i, z, hz, hi, h => by
    subst hz
    rw [f15_l1]
    by_cases hh : i < q.delays.length
    · rw [decide_eq_true (by omega : (i : Int) < (q.delays.length : Int)), cond_true, idx_in hh, Option.bind_some, Option.bind_some, decide_eq_true rfl, decide_eq_true rfl, w64 (by omega) (by omega)]
      exact f15_l1_refl q k hl n (i + 1) _ (by push_cast; rfl) (by omega) (by omega)
    · rw [decide_eq_false (by omega : ¬ (i : Int) < (q.delays.length : Int)), cond_false]
theorem f15_l2_refl (q : Queues) (k : Unit → Option Bool) (hb : Bnd q) : ∀ (n i : Nat) (z : Int), z = (i : Int) → i ≤ 32 → 32 - i < n → f15_l2 q q k n z = k ()
  | 0, i, z, _, _, h => by omega
  | n + 1, i, z, hz, hi, h => by
    subst hz
    rw [f15_l2]
    by_cases hh : i < 32
    · rw [decide_eq_true (by omega : (i : Int) < 32), cond_true, guardB_t _ (vecOk_nat hh), guardB_t _ (vecOk_nat hh), Int.toNat_natCast, f31_refl _ (hb.r i hh), Option.bind_some, Bool.not_true, cond_false, w64 (by omega) (by omega)]
      exact f15_l2_refl q k hb n (i + 1) _ (by push_cast; rfl) (by omega) (by omega)
    · rw [decide_eq_false (by omega : ¬ (i : Int) < 32), cond_false]
theorem f15_gen (q : Queues) (hb : Bnd q) (n m : Nat) (hn : q.delays.length < n) (hm : 32 < m) : (bif ((!decide (q.run = q.run)) || (!decide ((List.length q.delays : Int) = (List.length q.delays : Int)))) then some false else letk (fun (_ : Unit) =>
  letk (fun (_ : Unit) =>
  some true) fun k62 =>
  (f15_l2 q q k62 m 0)) fun k56 =>
  (f15_l1 q q k56 n 0)) = some true := by
  unfold letk
  dsimp only
  rw [decide_eq_true rfl, decide_eq_true rfl, Bool.not_true, Bool.or_false, cond_false, f15_l1_refl q _ hb.d n 0 0 rfl (by omega) (by omega)]
  exact f15_l2_refl q _ hb m 0 0 rfl (by omega) (by omega)
theorem f15_refl (q : Queues) (hb : Bnd q) : f15 q q = some true := by
  rw [f15]
  exact f15_gen q hb 9223372036854775808 9223372036854775808 hb.d (by decide)

end Go.Proofs.Ytpionlekbfoccaa
set_option maxRecDepth 10000
namespace Go.Proofs.Ytpionlekbfoccaa
open Go Go.Sk

theorem f80_l1_eq (L : List Int) (x : Int) (hl : L.length < 9223372036854775808) : ∀ (n i : Nat) (z : Int), z = (i : Int) → i ≤ L.length → L.length < n + i → ∃ r, f80_l1 L x (fun _ => some (-1)) n z = some r ∧ (0 ≤ r ↔ x ∈ L.drop i)
  | 0, i, z, _, _, h => by omega
  | n + 1, i, z, hz, hi, h => by
    subst hz
    rw [f80_l1]
    by_cases hh : i < L.length
    · rw [decide_eq_true (by omega : (i : Int) < (L.length : Int)), cond_true, idx_in hh, Option.bind_some, w64 (by omega) (by omega), drop_cons hh]
      by_cases e : x = L[i]
      · rw [decide_eq_true e, cond_true]
        exact ⟨_, rfl, ⟨fun _ => by rw [e]; exact List.mem_cons_self, fun _ => by omega⟩⟩
      · rw [decide_eq_false e, cond_false]
        obtain ⟨r, h1, h2⟩ := f80_l1_eq L x hl n (i + 1) ((i : Int) + 1) (by push_cast; rfl) (by omega) (by omega)
        refine ⟨r, h1, h2.trans ?_⟩
        rw [List.mem_cons]
        exact ⟨.inr, fun h => h.resolve_left e⟩
    · have hd : L.drop i = [] := List.drop_eq_nil_of_le (by omega)
      rw [decide_eq_false (by omega : ¬ (i : Int) < (L.length : Int)), cond_false, hd]
      exact ⟨_, rfl, by simp⟩
theorem f71_eq (L : List Int) (x : Int) (hl : L.length < 9223372036854775808) : f71 L x = some (decide (x ∈ L)) := by
  unfold f71 f80 letk
  dsimp only
  obtain ⟨r, h1, h2⟩ := f80_l1_eq L x hl (Int.toNat ((List.length L : Int) - 0) + 1) 0 0 rfl (by omega) (by simp)
  rw [h1, Option.bind_some]
  rw [List.drop_zero] at h2
  congr 1
  by_cases e : x ∈ L
  · rw [decide_eq_true e, decide_eq_true (h2.2 e)]
  · rw [decide_eq_false e, decide_eq_false (fun a => e (h2.1 a))]

/-- The highest queue that holds a task. -/
def findF (F : Nat → List Int) (x : Int) : Nat → Int × Bool
  | 0 => (0, false)
  | n + 1 => if x ∈ F n then ((n : Int), true) else findF F x n
theorem f43_l1_eq (q : Queues) (x : Int) (hl : ∀ j, j < 32 → (q.ready j).length < 9223372036854775808) : ∀ (n i : Nat) (z : Int), z = (i : Int) - 1 → i ≤ 32 → i < n → f43_l1 q x (fun a => some (a, true)) (fun _ => some (0, false)) n z = some (findF q.ready x i)
  | 0, i, z, _, _, h => by omega
  | n + 1, 0, z, hz, hi, h => by
    subst hz
    rw [f43_l1]
    rfl
  | n + 1, i + 1, z, hz, hi, h => by
    have hz' : z = (i : Int) := by rw [hz]; push_cast; omega
    subst hz'
    rw [f43_l1]
    have hlt : i < ((List.range 32).map q.ready).length := by simp; omega
    have e : (List.map q.ready (List.range 32))[i]'hlt = q.ready i := by simp
    rw [decide_eq_true (by omega : (i : Int) ≥ 0), cond_true, idx_in hlt, Option.bind_some, e]
    unfold letk
    dsimp only
    rw [w64 (x := (i : Int) - 1) (by omega) (by omega), f43_l1_eq q x hl n i _ rfl (by omega) (by omega)]
    unfold findF
    by_cases h0 : q.ready i = []
    · rw [h0, decide_eq_false (by simp), cond_false]
      simp
      cases i <;> rfl
    · have : 0 < (q.ready i).length := List.length_pos_iff.2 h0
      rw [decide_eq_true (by omega), cond_true, f71_eq _ _ (hl i (by omega)), Option.bind_some]
      by_cases e : x ∈ q.ready i
      · rw [decide_eq_true e, cond_true, if_pos e]
      · rw [decide_eq_false e, cond_false, if_neg e]
        cases i <;> rfl
theorem f43_eq (q : Queues) (x : Int) (hb : Bnd q) : f43 q x = some (findF q.ready x 32) := by
  unfold f43 letk
  dsimp only
  have e1 : ((List.length (List.map q.ready (List.range 32)) : Int) - 1) = 31 := by simp
  have e2 : IntKind.i64.wrap 31 = 31 := by decide
  rw [e1, e2]
  exact f43_l1_eq q x hb.r 33 32 31 (by decide) (by decide) (by decide)
theorem findF_none {F : Nat → List Int} {x : Int} : ∀ {n : Nat}, (∀ j, j < n → x ∉ F j) → findF F x n = (0, false)
  | 0, _ => rfl
  | n + 1, h => by
    unfold findF
    rw [if_neg (h n (by omega))]
    exact findF_none (fun j hj => h j (by omega))
theorem findF_some {F : Nat → List Int} {x : Int} {p : Nat} : ∀ {n : Nat}, p < n → x ∈ F p → (∀ j, j < n → x ∈ F j → j = p) → findF F x n = ((p : Int), true)
  | 0, h, _, _ => by omega
  | n + 1, h, hx, hu => by
    unfold findF
    by_cases e : x ∈ F n
    · rw [if_pos e, hu n (by omega) e]
    · rw [if_neg e]
      have : p ≠ n := fun a => e (by rw [← a]; exact hx)
      exact findF_some (by omega) hx (fun j hj => hu j (by omega))

/-- Nowhere. -/
def Free (q : Queues) (x : Int) : Prop := q.run ≠ x ∧ ∀ j, j < 32 → x ∉ q.ready j
theorem put_ok {q : Queues} (h : Ok q) {p : Nat} {x : Int} {L : List Int} (hp : p < 32) (hx : 0 ≤ x ∧ x < 32) (hf : Free q x) (hL : ∀ y, y ∈ L ↔ y = x ∨ y ∈ q.ready p) (hn : L.Nodup) : Ok ⟨vset q.ready p L, q.delays, q.run⟩ := by
  refine Ok.mk2 ?_ h.b.d h.d
  have key : ∀ j y, j < 32 → y ∈ vset q.ready p L j → y ∈ q.ready j ∨ (j = p ∧ y = x) := fun j y hj hy => by
    by_cases e : j = p
    · rw [e, vs_eq] at hy
      rcases (hL y).1 hy with a | a
      · exact .inr ⟨e, a⟩
      · exact .inl (by rw [e]; exact a)
    · rw [vs_ne _ _ e] at hy; exact .inl hy
  refine ⟨h.r.run, fun j y hj hy => ?_, fun j hj => ?_, fun j k y hjk hk hy hz => ?_, fun j hj hy => ?_⟩
  · rcases key j y hj hy with a | ⟨_, a⟩
    · exact h.r.num j y hj a
    · rw [a]; exact hx
  · by_cases e : j = p
    · show (vset q.ready p L j).Nodup
      rw [e, vs_eq]; exact hn
    · show (vset q.ready p L j).Nodup
      rw [vs_ne _ _ e]; exact h.r.nd j hj
  · rcases key j y (by omega) hy with a | ⟨a1, a2⟩ <;> rcases key k y hk hz with b | ⟨b1, b2⟩
    · exact h.r.ap j k y hjk hk a b
    · exact hf.2 j (by omega) (by rw [← b2]; exact a)
    · exact hf.2 k hk (by rw [← a2]; exact b)
    · omega
  · rcases key j _ hj hy with a | ⟨_, a⟩
    · exact h.r.out j hj a
    · exact hf.1 a

theorem tail_eq {q : Queues} (h : Ok q) {prio x : Int} (hp : 0 ≤ prio ∧ prio < 32) (hx : 0 ≤ x ∧ x < 32) (hf : Free q x) :
    f21 q prio x = some (⟨vset q.ready (Int.toNat prio) (q.ready (Int.toNat prio) ++ [x]), q.delays, q.run⟩, 0) := by
  have hp2 : Int.toNat prio < 32 := by omega
  have e5 : vecOk 32 prio = true := by simp [vecOk]; omega
  have e6 : appOk 8 (q.ready (Int.toNat prio)) [x] = true := by
    have := h.r.len hp2
    simp [appOk, maxLen] <;> omega
  unfold f21 letk
  dsimp only
  rw [h.may, Option.bind_some, (f30_iff prio).2 hp, (f30_iff x).2 hx, f43_eq q x h.b, findF_none (fun j hj => hf.2 j hj)]
  dsimp only [Option.bind_some]
  rw [decide_eq_false hf.1, guardB_t _ e5, guardB_t _ h.own, guardB_t _ e5, guardB_t _ e5, guardB_t _ e6]
  rfl
theorem tail_ok {q : Queues} (h : Ok q) {prio x : Int} (hp : 0 ≤ prio ∧ prio < 32) (hx : 0 ≤ x ∧ x < 32) (hf : Free q x) : Ok ⟨vset q.ready (Int.toNat prio) (q.ready (Int.toNat prio) ++ [x]), q.delays, q.run⟩ :=
  put_ok h (by omega) hx hf (fun y => by simp [or_comm]) (by
    rw [List.nodup_append]
    exact ⟨h.r.nd _ (by omega), by simp, fun a ha b hb e => by
      simp at hb
      exact hf.2 (Int.toNat prio) (by omega) (by rw [← hb, ← e]; exact ha)⟩)
end Go.Proofs.Ytpionlekbfoccaa
set_option maxRecDepth 10000
namespace Go.Proofs.Ytpionlekbfoccaa
open Go Go.Sk

def strike (x : Int) (L : List Int) : List Int := L.filter (fun y => !decide (y = x))
theorem f22_l2_eq (x : Int) (k : Int → List Int → Option (Queues × Int)) : ∀ (n i j : Nat) (a b : Int) (l : List Int), a = (i : Int) → b = (j : Int) → i < j → j ≤ l.length → l.length < n + j → l.length < 9223372036854775808 →
    ∃ (i' : Nat) (l' : List Int), f22_l2 x k n a b l = k (i' : Int) l' ∧ i' ≤ l'.length ∧ l'.length = l.length ∧ l'.take i' = l.take i ++ strike x (l.drop j)
  | 0, i, j, a, b, l, _, _, _, _, h, _ => by omega
  | n + 1, i, j, a, b, l, ha, hb, hij, hj, h, hl => by
    subst ha; subst hb
    rw [f22_l2]
    by_cases hh : j < l.length
    · rw [decide_eq_true (by omega : (j : Int) < (l.length : Int)), cond_true]
      unfold letk
      dsimp only
      rw [idx_in hh, Option.bind_some, idx_in (show i < l.length by omega), Option.bind_some, w64 (x := (j : Int) + 1) (by omega) (by omega), w64 (x := (i : Int) + 1) (by omega) (by omega), Int.toNat_natCast, drop_cons hh]
      by_cases e : l[j] = x
      · rw [decide_eq_true e, Bool.not_true, cond_false]
        obtain ⟨i', l', h1, h2, h3, h4⟩ := f22_l2_eq x k n i (j + 1) _ ((j : Int) + 1) l rfl (by push_cast; rfl) (by omega) (by omega) (by omega) hl
        refine ⟨i', l', h1, h2, h3, h4.trans ?_⟩
        simp [strike, e]
      · rw [decide_eq_false e, Bool.not_false, cond_true]
        obtain ⟨i', l', h1, h2, h3, h4⟩ := f22_l2_eq x k n (i + 1) (j + 1) ((i : Int) + 1) ((j : Int) + 1) (l.set i l[j]) (by push_cast; rfl) (by push_cast; rfl) (by omega) (by simp; omega) (by simp; omega) (by simpa using hl)
        refine ⟨i', l', h1, h2, by simpa using h3, h4.trans ?_⟩
        have e1 : (l.set i l[j]).take (i + 1) = l.take i ++ [l[j]] := by
          apply List.ext_getElem?
          intro m
          rw [List.getElem?_take]
          by_cases hm : m < i
          · rw [if_pos (by omega), List.getElem?_set_ne (by omega), List.getElem?_append_left (by simp; omega), List.getElem?_take, if_pos hm]
          · by_cases hm2 : m = i
            · subst hm2
              rw [if_pos (by omega), List.getElem?_set_self (by omega), List.getElem?_append_right (by simp; omega), List.length_take, Nat.min_eq_left (by omega), Nat.sub_self]
              rfl
            · rw [if_neg (by omega), List.getElem?_append_right (by simp; omega), List.length_take]
              exact (List.getElem?_eq_none (by simp; omega)).symm
        have e2 : (l.set i l[j]).drop (j + 1) = l.drop (j + 1) := by
          apply List.ext_getElem?
          intro m
          rw [List.getElem?_drop, List.getElem?_drop, List.getElem?_set_ne (by omega)]
        rw [e1, e2, List.append_assoc]
        unfold strike
        rw [List.filter_cons, if_pos (by simp [e])]
        rfl
    · have hd : l.drop j = [] := List.drop_eq_nil_of_le (by omega)
      rw [decide_eq_false (by omega : ¬ (j : Int) < (l.length : Int)), cond_false, hd]
      exact ⟨i, l, rfl, by omega, rfl, by simp [strike]⟩

theorem f22_l1_eq (x : Int) (L : List Int) (k64 : Int → Option (Queues × Int)) (k65 : Unit → Option (Queues × Int)) (hl : L.length < 9223372036854775808) : ∀ (n i : Nat) (z : Int), z = (i : Int) → i ≤ L.length → L.length < n + i → x ∈ L.drop i →
    ∃ m, i ≤ m ∧ ∃ hm : m < L.length, L[m] = x ∧ (∀ y ∈ (L.take m).drop i, y ≠ x) ∧ f22_l1 x L k64 k65 n z = k64 (m : Int)
  | 0, i, z, _, _, h, _ => by omega
  | n + 1, i, z, hz, hi, h, hx => by
    subst hz
    by_cases hh : i < L.length
    · rw [f22_l1, decide_eq_true (by omega : (i : Int) < (L.length : Int)), cond_true, idx_in hh, Option.bind_some]
      unfold letk
      dsimp only
      by_cases e : L[i] = x
      · rw [decide_eq_true e, cond_true]
        exact ⟨i, Nat.le_refl i, hh, e, (fun y hy => by rw [List.drop_eq_nil_of_le (by simp; omega)] at hy; cases hy), rfl⟩
      · rw [decide_eq_false e, cond_false, w64 (by omega) (by omega)]
        rw [drop_cons hh, List.mem_cons] at hx
        obtain ⟨m, h1, h2, h3, h4, h5⟩ := f22_l1_eq x L k64 k65 hl n (i + 1) ((i : Int) + 1) (by push_cast; rfl) (by omega) (by omega) (hx.resolve_left (fun a => e a.symm))
        refine ⟨m, by omega, h2, h3, fun y hy => ?_, h5⟩
        have hlt : i < (L.take m).length := by simp; omega
        rw [drop_cons hlt, List.mem_cons] at hy
        rcases hy with hy | hy
        · rw [hy]; simpa using e
        · exact h4 y hy
    · rw [List.drop_eq_nil_of_le (by omega)] at hx; cases hx

theorem strike_id {x : Int} {L : List Int} (h : ∀ y ∈ L, y ≠ x) : strike x L = L := by
  unfold strike
  rw [List.filter_eq_self]
  intro y hy
  simp [h y hy]
theorem strike_at {x : Int} {L : List Int} {m : Nat} (hm : m < L.length) (e : L[m] = x) (h : ∀ y ∈ L.take m, y ≠ x) : L.take m ++ strike x (L.drop (m + 1)) = strike x L := by
  conv => rhs; rw [← List.take_append_drop m L]
  rw [drop_cons hm]
  have h1 := strike_id h
  unfold strike at h1 ⊢
  rw [List.filter_append, h1, List.filter_cons, if_neg (by simp [e])]

theorem drop_in {q : Queues} (h : Ok q) {x : Int} (hx : 0 ≤ x ∧ x < 32) {p : Nat} (hp : p < 32) (hm : x ∈ q.ready p) : f22 q x = some (⟨vset q.ready p (strike x (q.ready p)), q.delays, q.run⟩, 0) := by
  have hl : (q.ready p).length < 9223372036854775808 := h.b.r p hp
  unfold f22
  rw [h.may, Option.bind_some, (f30_iff x).2 hx, f43_eq q x h.b, findF_some hp hm (fun j hj hj2 => h.r.ap' hj hp hj2 hm)]
  have e0 : O.f32 q = some q := by unfold O.f32; rw [guardB_t _ h.own]
  have e1 : O.f60o (q.ready p) = some (q.ready p) := by
    unfold O.f60o
    rw [guardB_t]
    have := h.r.len hp
    simp [appOk, maxLen] <;> omega
  unfold letk
  dsimp only [Option.bind_some]
  rw [e0, Bool.not_true, Bool.or_false, cond_false]
  dsimp only [Option.bind_some]
  rw [cond_true, guardB_t _ (vecOk_nat hp), Int.toNat_natCast, e1]
  dsimp only [Option.bind_some]
  obtain ⟨m, _, h2, h3, h4, h5⟩ := f22_l1_eq x (q.ready p) _ (fun _ => _) hl (Int.toNat ((List.length (q.ready p) : Int) - 0) + 1) 0 0 rfl (by omega) (by simp) (by simpa using hm)
  rw [h5]
  rw [List.drop_zero] at h4
  rw [decide_eq_false (show ¬ (m : Int) = -1 by omega), cond_false, w64 (by omega) (by omega)]
  obtain ⟨i', l', g1, g2, g3, g4⟩ := f22_l2_eq x (fun iq72 l73 => guardB (sliceOk l73 iq72 (List.length l73 : Int)) <|
  guardB (pieceOk l73 (Int.toNat iq72) (Int.toNat (List.length l73 : Int) - Int.toNat iq72)) <|
  guardB (sliceOk (clearF l73 (Int.toNat iq72) (Int.toNat (List.length l73 : Int) - Int.toNat iq72) (0 : Int)) 0 iq72) <|
  (guardB (vecOk 32 (p : Int)) <| some (Queues.mk (vset q.ready p (sliceF (clearF l73 (Int.toNat iq72) (Int.toNat (List.length l73 : Int) - Int.toNat iq72) (0 : Int)) 0 iq72)) q.delays q.run, 0))) 9223372036854775808 m (m + 1) (m : Int) ((m : Int) + 1) (q.ready p) rfl (by push_cast; rfl) (by omega) (by omega) (by omega) hl
  refine Eq.trans g1 ?_
  rw [strike_at h2 h3 h4] at g4
  have hcl : (clearF l' i' (l'.length - i') (0 : Int)).length = l'.length := by simp [clearF]; omega
  have t1 : sliceOk l' (i' : Int) (List.length l' : Int) = true := by simp [sliceOk]; omega
  have t2 : pieceOk l' i' (l'.length - i') = true := by simp [pieceOk]; omega
  have t3 : sliceOk (clearF l' i' (l'.length - i') (0 : Int)) 0 (i' : Int) = true := by simp [sliceOk, hcl]; omega
  have t4 : sliceF (clearF l' i' (l'.length - i') (0 : Int)) 0 (i' : Int) = strike x (q.ready p) := by
    rw [← g4]
    show ((l'.take i' ++ (List.replicate (l'.length - i') 0 ++ l'.drop (i' + (l'.length - i')))).drop 0).take (i' - 0) = _
    rw [Nat.sub_zero, List.drop_zero, List.take_append_of_le_length (by simp; omega), List.take_take, Nat.min_self]
  rw [guardB_t _ t1]
  simp only [Int.toNat_natCast]
  rw [guardB_t _ t2, guardB_t _ t3, guardB_t _ (vecOk_nat hp), t4]
end Go.Proofs.Ytpionlekbfoccaa
set_option maxRecDepth 10000
namespace Go.Proofs.Ytpionlekbfoccaa
open Go Go.Sk

theorem drop_run {q : Queues} (h : Ok q) (hx : 0 ≤ q.run ∧ q.run < 32) : f22 q q.run = some (⟨q.ready, q.delays, -1⟩, 0) := by
  unfold f22
  rw [h.may, Option.bind_some, (f30_iff _).2 hx, f43_eq q _ h.b, findF_none (fun j hj => h.r.out j hj)]
  have e0 : O.f32 q = some q := by unfold O.f32; rw [guardB_t _ h.own]
  unfold letk
  dsimp only [Option.bind_some]
  rw [e0, Bool.not_true, Bool.or_false, cond_false]
  dsimp only [Option.bind_some]
  rw [cond_false, decide_eq_true rfl, cond_true]

/-- the priority that a number gives -/
def pf (x : Int) : Int := IntKind.i64.wrap (IntKind.u8.wrap (BitVec.ofInt IntKind.u8.bits x &&& BitVec.ofInt IntKind.u8.bits 31).toNat)
/-- The tasks of a list of priorities that are still there. -/
structure Sv (ps : List Int) (q : Queues) : Prop where
  ok : Ok q
  run : q.run = -1
  srt : ∀ p, p < 32 → (q.ready p).Pairwise (· < ·)
  num : ∀ p t, p < 32 → t ∈ q.ready p → 0 ≤ t ∧ t < (ps.length : Int) ∧ ∃ x, ps[Int.toNat t]? = some x ∧ pf x = (p : Int)

end Go.Proofs.Ytpionlekbfoccaa
set_option maxRecDepth 10000
namespace Go.Proofs.Ytpionlekbfoccaa
open Go Go.Sk

/-- A task is there. -/
def Occ (q : Queues) (t : Int) : Prop := q.run = t ∨ ∃ j, j < 32 ∧ t ∈ q.ready j
end Go.Proofs.Ytpionlekbfoccaa
set_option maxRecDepth 10000
namespace Go.Proofs.Ytpionlekbfoccaa
open Go Go.Sk

abbrev zQ : Queues := Queues.mk (fun _ => ([] : List Int)) [] 0
theorem occ_free {q : Queues} {x : Int} : Free q x ↔ ¬ Occ q x := by
  unfold Free Occ
  constructor
  · rintro ⟨h1, h2⟩ (h | ⟨j, h3, h4⟩)
    · exact h1 h
    · exact h2 j h3 h4
  · intro h
    exact ⟨fun a => h (.inl a), fun j hj a => h (.inr ⟨j, hj, a⟩)⟩
/-- What a call does to where the tasks are. -/
def Res (q : Queues) (o : Option (Queues × Int)) (P : Int → Prop) : Prop :=
  ∃ r e, o = some (r, e) ∧ ((e ≠ 0 ∧ r = zQ) ∨ (e = 0 ∧ Ok r ∧ r.delays = q.delays ∧ ∀ t, 0 ≤ t → (Occ r t ↔ P t)))
theorem find_in {q : Queues} (h : Ok q) {x : Int} {p : Nat} (hp : p < 32) (hm : x ∈ q.ready p) : f43 q x = some ((p : Int), true) := by
  rw [f43_eq q x h.b, findF_some hp hm (fun j hj hj2 => h.r.ap' hj hp hj2 hm)]
theorem find_out {q : Queues} (h : Ok q) {x : Int} (hn : ∀ j, j < 32 → x ∉ q.ready j) : f43 q x = some (0, false) := by
  rw [f43_eq q x h.b, findF_none hn]

theorem head_eq {q : Queues} (h : Ok q) {prio x : Int} (hp : 0 ≤ prio ∧ prio < 32) (hx : 0 ≤ x ∧ x < 32) (hf : Free q x) :
    f28 q prio x = some (⟨vset q.ready (Int.toNat prio) (x :: q.ready (Int.toNat prio)), q.delays, q.run⟩, 0) := by
  have hp2 : Int.toNat prio < 32 := by omega
  have e5 : vecOk 32 prio = true := by simp [vecOk]; omega
  have e6 : O.insOk (q.ready (Int.toNat prio)) = true := by
    have := h.r.len hp2
    simp [O.insOk]; omega
  unfold f28 letk
  dsimp only
  rw [h.may, Option.bind_some, (f30_iff prio).2 hp, (f30_iff x).2 hx, find_out h (fun j hj => hf.2 j hj)]
  dsimp only [Option.bind_some]
  rw [decide_eq_false hf.1, guardB_t _ e5, guardB_t _ h.own, guardB_t _ e5, guardB_t _ e5, guardB_t _ e6]
  rfl
theorem drop_res {q : Queues} (h : Ok q) {x : Int} (hx : 0 ≤ x ∧ x < 32) : Res q (f22 q x) (fun t => t ≠ x ∧ Occ q t) := by
  by_cases hj : ∃ j, j < 32 ∧ x ∈ q.ready j
  · obtain ⟨p, hp, hm⟩ := hj
    have key : ∀ j y, j < 32 → (y ∈ vset q.ready p (strike x (q.ready p)) j ↔ y ∈ q.ready j ∧ y ≠ x) := fun j y hj => by
      by_cases e : j = p
      · rw [e, vs_eq]; simp [strike]
      · rw [vs_ne _ _ e]
        exact ⟨fun a => ⟨a, fun b => e (h.r.ap' hj hp (by rw [← b]; exact a) hm)⟩, fun a => a.1⟩
    refine ⟨_, _, drop_in h hx hp hm, .inr ⟨rfl, Ok.mk2 ⟨h.r.run, fun j y hj hy => h.r.num j y hj ((key j y hj).1 hy).1, fun j hj => ?_, fun j k y hjk hk a b => h.r.ap j k y hjk hk ((key j y (by omega)).1 a).1 ((key k y hk).1 b).1, fun j hj hy => h.r.out j hj ((key j _ hj).1 hy).1⟩ h.b.d h.d, rfl, fun t ht => ?_⟩⟩
    · show (vset q.ready p _ j).Nodup
      by_cases e : j = p
      · rw [e, vs_eq]; exact (h.r.nd p hp).filter _
      · rw [vs_ne _ _ e]; exact h.r.nd j hj
    · have hxr : q.run ≠ x := fun a => h.r.out p hp (by rw [a]; exact hm)
      unfold Occ
      dsimp only
      constructor
      · rintro (a | ⟨j, a, b⟩)
        · exact ⟨fun c => hxr (by rw [a, c]), .inl a⟩
        · exact ⟨((key j t a).1 b).2, .inr ⟨j, a, ((key j t a).1 b).1⟩⟩
      · rintro ⟨a, b | ⟨j, b, c⟩⟩
        · exact .inl b
        · exact .inr ⟨j, b, (key j t b).2 ⟨c, a⟩⟩
  · by_cases hr : q.run = x
    · have hd := drop_run h (by rw [hr]; exact hx)
      rw [hr] at hd
      refine ⟨_, _, hd, .inr ⟨rfl, Ok.mk2 ⟨.inl rfl, h.r.num, h.r.nd, h.r.ap, fun j hj hy => by have := h.r.num j _ hj hy; simp at this⟩ h.b.d h.d, rfl, fun t ht => ?_⟩⟩
      unfold Occ
      dsimp only
      constructor
      · rintro (a | ⟨j, a, b⟩)
        · omega
        · exact ⟨fun c => hj ⟨j, a, by rw [← c]; exact b⟩, .inr ⟨j, a, b⟩⟩
      · rintro ⟨a, b | ⟨j, b, c⟩⟩
        · exact absurd (b.symm.trans hr) a
        · exact .inr ⟨j, b, c⟩
    · refine ⟨zQ, 6, ?_, .inl ⟨by decide, rfl⟩⟩
      unfold f22
      rw [h.may, Option.bind_some, (f30_iff x).2 hx, find_out h (fun j a b => hj ⟨j, a, b⟩)]
      have e0 : O.f32 q = some q := by unfold O.f32; rw [guardB_t _ h.own]
      unfold letk
      dsimp only [Option.bind_some]
      rw [e0, Bool.not_true, Bool.or_false, cond_false]
      dsimp only [Option.bind_some]
      rw [cond_false, decide_eq_false hr, cond_false]
end Go.Proofs.Ytpionlekbfoccaa
set_option maxRecDepth 10000
namespace Go.Proofs.Ytpionlekbfoccaa
open Go Go.Sk

noncomputable def occI (q : Queues) (t : Int) : Int := @ite _ (Occ q t) (Classical.propDecidable _) 1 0
/-- the task that a number names -/
def tk (x : Int) : Int := IntKind.i64.wrap (BitVec.ofInt IntKind.i64.bits x &&& BitVec.ofInt IntKind.i64.bits 31).toNat
/-- what is looked at behind the call -/
def keepK (q : Queues) (x : Step) (m : Nat) (want124 e125 : Int) (c00126 : Nat → List Int) (c032127 : List Due) (c033128 : Int) : Option Bool :=
  (bif (!decide (e125 = 0)) then Option.bind (f15 (Queues.mk c00126 c032127 c033128) (Queues.mk (fun _ => ([] : List Int)) [] 0)) fun r135 =>
   Option.bind (bif r135 then (Option.bind (f11) fun r137 => some r137) else some false) fun b136 =>
   some b136 else Option.bind (f10 (Queues.mk c00126 c032127 c033128)) fun r138 =>
   Option.bind (bif (!r138) then some true else (Option.bind (f27 (Queues.mk c00126 c032127 c033128) (IntKind.i64.wrap (BitVec.ofInt IntKind.i64.bits x.task &&& BitVec.ofInt IntKind.i64.bits 31).toNat)) fun r140 => some (!decide (r140 = want124)))) fun b139 =>
   (bif (b139 || (!decide ((List.length c032127 : Int) = (List.length q.delays : Int)))) then some false else letk (fun (_ : Unit) =>
   Option.bind (f11) fun r148 =>
   some r148) fun k141 =>
   (f8_l1 q x c00126 c032127 c033128 k141 m 0)))
end Go.Proofs.Ytpionlekbfoccaa
set_option maxRecDepth 10000
namespace Go.Proofs.Ytpionlekbfoccaa
open Go Go.Sk

theorem f37_lt (a b : Due) : decide (f37 a b < 0) = decide (a.time < b.time) := by
  unfold f37 f38 f69
  simp only [decide_true, Bool.not_true, cond_false]
  by_cases h : a.time < b.time
  · rw [decide_eq_true h]; rfl
  · rw [decide_eq_false h, cond_false]
    by_cases h2 : a.time > b.time
    · rw [decide_eq_true h2]; rfl
    · rw [decide_eq_false h2]; rfl

theorem idx_mid {α : Type} (A : List α) (x : α) (B : List α) {i : Int} (h : i = (A.length : Int)) : idx (A ++ x :: B) i = some x := by
  subst h
  rw [idx_in (by simp)]
  simp
theorem set_mid {α : Type} (A : List α) (x y : α) (B : List α) {i : Int} (h : i = (A.length : Int)) : List.set (A ++ x :: B) (Int.toNat i) y = A ++ y :: B := by
  subst h
  simp

/-- y goes down behind the last one that does not come later; the list is given from its end. -/
def downR (y : Due) : List Due → List Due
  | [] => [y]
  | z :: T => if y.time < z.time then downR y T ++ [z] else (z :: T).reverse ++ [y]
theorem f78_l2_eq (a : Nat) (k : List Due → Option (List Due)) (P : List Due) (hP : P.length = a) (y : Due) : ∀ (T : List Due) (n : Nat) (j : Int) (R : List Due), j = ((a + T.length : Nat) : Int) → T.length < n → a + T.length < 9223372036854775807 →
    f78_l2 (a : Int) k n j (P ++ (T.reverse ++ y :: R)) = k (P ++ (downR y T ++ R))
  | [], n, j, R, hj, hn, hl => by
    obtain ⟨n, rfl⟩ : ∃ m, n = m + 1 := ⟨n - 1, by simp at hn; omega⟩
    subst hj
    rw [f78_l2, decide_eq_false (by simp)]
    rfl
  | z :: T, n, j, R, hj, hn, hl => by
    obtain ⟨n, rfl⟩ : ∃ m, n = m + 1 := ⟨n - 1, by simp at hn; omega⟩
    subst hj
    simp only [List.length_cons] at hn hl ⊢
    have e1 : P ++ ((z :: T).reverse ++ y :: R) = (P ++ T.reverse) ++ z :: y :: R := by simp
    have e2 : P ++ ((z :: T).reverse ++ y :: R) = (P ++ (T.reverse ++ [z])) ++ y :: R := by simp
    have w1 : IntKind.i64.wrap (((a + (T.length + 1) : Nat) : Int) - 1) = ((a + T.length : Nat) : Int) := by rw [w64 (by omega) (by omega)]; omega
    have i1 : idx (P ++ ((z :: T).reverse ++ y :: R)) ((a + (T.length + 1) : Nat) : Int) = some y := by
      rw [e2]; exact idx_mid _ _ _ (by simp [hP])
    have i2 : idx (P ++ ((z :: T).reverse ++ y :: R)) ((a + T.length : Nat) : Int) = some z := by
      rw [e1]; exact idx_mid _ _ _ (by simp [hP])
    rw [f78_l2, w1, decide_eq_true (by omega), cond_true, i1, i2, Option.bind_some, Option.bind_some, f37_lt]
    dsimp only [Option.bind_some]
    by_cases h : y.time < z.time
    · have s1 : List.set (P ++ ((z :: T).reverse ++ y :: R)) (Int.toNat ((a + (T.length + 1) : Nat) : Int)) z = (P ++ T.reverse) ++ z :: z :: R := by
        rw [e2, set_mid _ _ _ _ (by simp [hP])]; simp
      have i3 : idx ((P ++ T.reverse) ++ z :: z :: R) ((a + T.length : Nat) : Int) = some z := idx_mid _ _ _ (by simp [hP])
      have s2 : List.set ((P ++ T.reverse) ++ z :: z :: R) (Int.toNat ((a + T.length : Nat) : Int)) y = P ++ (T.reverse ++ y :: (z :: R)) := by
        rw [set_mid _ _ _ _ (by simp [hP])]; simp
      rw [decide_eq_true h, cond_true]
      rw [s1, i3, Option.bind_some, s2, f78_l2_eq a k P hP y T n _ (z :: R) rfl (by omega) (by omega), downR, if_pos h]
      simp
    · rw [decide_eq_false h, cond_false, downR, if_neg h]
      simp
end Go.Proofs.Ytpionlekbfoccaa
set_option maxRecDepth 100000
namespace Go.Proofs.Ytpionlekbfoccaa
open Go Go.Sk

/-- The stable merge: the right one's head only if it is strictly earlier. -/
def mrg : List Due → List Due → List Due
  | [], R => R
  | l :: L, R => mrgR l (mrg L) R
where
  mrgR (l : Due) (f : List Due → List Due) : List Due → List Due
    | [] => l :: f []
    | r :: R => if r.time < l.time then r :: mrgR l f R else l :: f (r :: R)
theorem mrg_nil (R : List Due) : mrg [] R = R := rfl
theorem mrg_cc (l r : Due) (L R : List Due) : mrg (l :: L) (r :: R) = if r.time < l.time then r :: mrg (l :: L) R else l :: mrg L (r :: R) := rfl
theorem mrg_cn (l : Due) (L : List Due) : mrg (l :: L) [] = l :: mrg L [] := rfl
theorem mrg_nr : ∀ L : List Due, mrg L [] = L
  | [] => rfl
  | l :: L => by rw [mrg_cn, mrg_nr L]
theorem mrg_split : ∀ (L1 R1 L2 R2 : List Due), (∀ l ∈ L1, ∀ r ∈ R2, ¬ r.time < l.time) → (∀ r ∈ R1, ∀ l ∈ L2, r.time < l.time) → mrg (L1 ++ L2) (R1 ++ R2) = mrg L1 R1 ++ mrg L2 R2
  | [], [], L2, R2, _, _ => rfl
  | [], r :: R1, L2, R2, h1, h2 => by
    have ih := mrg_split [] R1 L2 R2 h1 (fun r hr => h2 r (List.mem_cons_of_mem _ hr))
    rw [mrg_nil] at ih ⊢
    rw [List.nil_append] at ih ⊢
    cases L2 with
    | nil => rfl
    | cons l L2 =>
      rw [List.cons_append, mrg_cc, if_pos (h2 r List.mem_cons_self l List.mem_cons_self), ih]
      rfl
  | l :: L1, [], L2, R2, h1, h2 => by
    have ih := mrg_split L1 [] L2 R2 (fun l hl => h1 l (List.mem_cons_of_mem _ hl)) h2
    rw [mrg_nr] at ih ⊢
    rw [List.nil_append] at ih ⊢
    cases R2 with
    | nil => rw [mrg_nr, mrg_nr]
    | cons r R2 =>
      rw [List.cons_append, mrg_cc, if_neg (h1 l List.mem_cons_self r List.mem_cons_self), ih]
      rfl
  | l :: L1, r :: R1, L2, R2, h1, h2 => by
    rw [List.cons_append, List.cons_append, mrg_cc, mrg_cc]
    by_cases h : r.time < l.time
    · rw [if_pos h, if_pos h]
      have ih := mrg_split (l :: L1) R1 L2 R2 h1 (fun r hr => h2 r (List.mem_cons_of_mem _ hr))
      rw [List.cons_append] at ih
      rw [ih]; rfl
    · rw [if_neg h, if_neg h]
      have ih := mrg_split L1 (r :: R1) L2 R2 (fun l hl => h1 l (List.mem_cons_of_mem _ hl)) h2
      rw [List.cons_append] at ih
      rw [ih]; rfl
termination_by L1 R1 => L1.length + R1.length

theorem f84_l1_eq (a b n : Int) (X : List Due) : ∀ (Y P Q R : List Due) (m : Nat) (i : Int), X.length = Y.length → 0 ≤ i → a + i = (P.length : Int) → b + i = ((P.length + X.length + Q.length : Nat) : Int) → n = i + (X.length : Int) → X.length < m → (P.length + X.length + Q.length + Y.length : Int) < 9223372036854775807 → 0 ≤ a →
    f84_l1 a b n m i (P ++ (X ++ (Q ++ (Y ++ R)))) = some (P ++ (Y ++ (Q ++ (X ++ R)))) := by
  induction X with
  | nil =>
    intro Y P Q R m i hl h0 ha hb hn hm hb2 ha0
    have hY : Y = [] := List.eq_nil_of_length_eq_zero hl.symm
    subst hY
    obtain ⟨m, rfl⟩ : ∃ k, m = k + 1 := ⟨m - 1, by simp at hm; omega⟩
    rw [f84_l1, decide_eq_false (by simp at hn; omega)]
    rfl
  | cons x X ih =>
    intro Y P Q R m i hl h0 ha hb hn hm hb2 ha0
    cases Y with
    | nil => simp at hl
    | cons y Y =>
      obtain ⟨m, rfl⟩ : ∃ k, m = k + 1 := ⟨m - 1, by simp at hm; omega⟩
      simp only [List.length_cons] at hl hb hn hm hb2
      have w1 : IntKind.i64.wrap (b + i) = ((P.length + (X.length + 1) + Q.length : Nat) : Int) := by rw [hb, w64 (by omega) (by omega)]
      have w2 : IntKind.i64.wrap (a + i) = (P.length : Int) := by rw [ha, w64 (by omega) (by omega)]
      have e1 : P ++ ((x :: X) ++ (Q ++ ((y :: Y) ++ R))) = (P ++ ((x :: X) ++ Q)) ++ y :: (Y ++ R) := by simp
      have e2 : P ++ ((x :: X) ++ (Q ++ ((y :: Y) ++ R))) = P ++ x :: (X ++ (Q ++ ((y :: Y) ++ R))) := by simp
      have e3 : P ++ y :: (X ++ (Q ++ ((y :: Y) ++ R))) = (P ++ (y :: (X ++ Q))) ++ y :: (Y ++ R) := by simp
      have i1 : idx (P ++ ((x :: X) ++ (Q ++ ((y :: Y) ++ R)))) ((P.length + (X.length + 1) + Q.length : Nat) : Int) = some y := by
        rw [e1]; exact idx_mid _ _ _ (by simp; omega)
      have i2 : idx (P ++ ((x :: X) ++ (Q ++ ((y :: Y) ++ R)))) (P.length : Int) = some x := by
        rw [e2]; exact idx_mid _ _ _ rfl
      have s1 : List.set (P ++ ((x :: X) ++ (Q ++ ((y :: Y) ++ R)))) (Int.toNat (P.length : Int)) y = P ++ y :: (X ++ (Q ++ ((y :: Y) ++ R))) := by
        rw [e2]; exact set_mid _ _ _ _ rfl
      have i3 : idx (P ++ y :: (X ++ (Q ++ ((y :: Y) ++ R)))) ((P.length + (X.length + 1) + Q.length : Nat) : Int) = some y := by
        rw [e3]; exact idx_mid _ _ _ (by simp; omega)
      have s2 : List.set (P ++ y :: (X ++ (Q ++ ((y :: Y) ++ R)))) (Int.toNat ((P.length + (X.length + 1) + Q.length : Nat) : Int)) x = (P ++ [y]) ++ (X ++ ((Q ++ [x]) ++ (Y ++ R))) := by
        rw [e3, set_mid _ _ _ _ (by simp; omega)]; simp
      rw [f84_l1, decide_eq_true (by omega), cond_true, w1, w2, i1, i2]
      simp only [Option.bind_some]
      rw [s1, i3]
      simp only [Option.bind_some]
      rw [s2, w64 (x := i + 1) (by omega) (by omega)]
      rw [ih Y (P ++ [y]) (Q ++ [x]) R m (i + 1) (by omega) (by omega) (by simp; omega) (by simp; omega) (by omega) (by omega) (by simp; omega) ha0]
      simp
end Go.Proofs.Ytpionlekbfoccaa
set_option maxRecDepth 10000
namespace Go.Proofs.Ytpionlekbfoccaa
open Go Go.Sk

theorem f84_eq (l : List Due) (a b n : Int) (X Y P Q R : List Due) (hl : l = P ++ (X ++ (Q ++ (Y ++ R)))) (h1 : X.length = Y.length) (ha : a = (P.length : Int)) (hb : b = ((P.length + X.length + Q.length : Nat) : Int)) (hn : n = (X.length : Int)) (hm : (P.length + X.length + Q.length + Y.length : Int) < 9223372036854775807) :
    f84 l a b n = some (P ++ (Y ++ (Q ++ (X ++ R)))) := by
  subst hl
  unfold f84
  exact f84_l1_eq a b n X Y P Q R 9223372036854775808 0 h1 (by omega) (by omega) (by omega) (by omega) (by omega) hm (by omega)

theorem f83_l1_eq (m2 : Int) (k : Int → List Due → Option (List Due)) (hk : ∀ P A B R : List Due, A.length = B.length → m2 = ((P.length + A.length : Nat) : Int) → (P.length + A.length + B.length : Int) < 9223372036854775807 → k (A.length : Int) (P ++ (A ++ (B ++ R))) = some (P ++ (B ++ (A ++ R)))) :
    ∀ (s : Nat) (A B P R : List Due) (n : Nat) (i j : Int), A.length + B.length ≤ s → 0 < A.length → 0 < B.length → i = (A.length : Int) → j = (B.length : Int) → m2 = ((P.length + A.length : Nat) : Int) → s < n → (P.length + A.length + B.length : Int) < 9223372036854775807 →
      f83_l1 m2 k n i j (P ++ (A ++ (B ++ R))) = some (P ++ (B ++ (A ++ R))) := by
  intro s
  induction s with
  | zero => intro A B P R n i j h; omega
  | succ s ih =>
    intro A B P R n i j hs hA hB hi hj hm hn hb
    obtain ⟨n, rfl⟩ : ∃ k, n = k + 1 := ⟨n - 1, by omega⟩
    subst hi; subst hj
    rw [f83_l1]
    by_cases e : A.length = B.length
    · rw [decide_eq_true (by omega : (A.length : Int) = (B.length : Int)), Bool.not_true, cond_false]
      exact hk P A B R e hm hb
    · rw [decide_eq_false (by omega : ¬ (A.length : Int) = (B.length : Int)), Bool.not_false, cond_true]
      by_cases g : A.length > B.length
      · rw [decide_eq_true (by omega : (A.length : Int) > (B.length : Int)), cond_true]
        have hsp : A = A.take B.length ++ A.drop B.length := (List.take_append_drop _ _).symm
        have l1 : (A.take B.length).length = B.length := by rw [List.length_take]; omega
        have l2 : (A.drop B.length).length = A.length - B.length := List.length_drop
        generalize hX : A.take B.length = X at hsp l1
        generalize hA2 : A.drop B.length = A2 at hsp l2
        have hAl : A.length = X.length + A2.length := by rw [hsp, List.length_append]
        rw [w64 (x := m2 - (A.length : Int)) (by omega) (by omega), w64 (x := (A.length : Int) - (B.length : Int)) (by omega) (by omega)]
        rw [f84_eq _ _ _ _ X B P A2 R (by rw [hsp]; simp) l1 (by omega) (by omega) (by omega) (by omega), Option.bind_some]
        have := ih A2 X (P ++ B) R n ((A.length : Int) - (B.length : Int)) (B.length : Int) (by omega) (by omega) (by omega) (by omega) (by omega) (by rw [List.length_append]; omega) (by omega) (by rw [List.length_append]; omega)
        rw [show P ++ (B ++ (A2 ++ (X ++ R))) = (P ++ B) ++ (A2 ++ (X ++ R)) by simp, this, hsp]
        simp
      · rw [decide_eq_false (by omega : ¬ (A.length : Int) > (B.length : Int)), cond_false]
        have hsp : B = B.take (B.length - A.length) ++ B.drop (B.length - A.length) := (List.take_append_drop _ _).symm
        have l1 : (B.take (B.length - A.length)).length = B.length - A.length := by rw [List.length_take]; omega
        have l2 : (B.drop (B.length - A.length)).length = A.length := by rw [List.length_drop]; omega
        generalize hX : B.take (B.length - A.length) = B1 at hsp l1
        generalize hA2 : B.drop (B.length - A.length) = Y at hsp l2
        have hBl : B.length = B1.length + Y.length := by rw [hsp, List.length_append]
        rw [w64 (x := m2 - (A.length : Int)) (by omega) (by omega), w64 (x := m2 + (B.length : Int)) (by omega) (by omega), w64 (x := m2 + (B.length : Int) - (A.length : Int)) (by omega) (by omega), w64 (x := (B.length : Int) - (A.length : Int)) (by omega) (by omega)]
        rw [f84_eq _ _ _ _ A Y P B1 R (by rw [hsp]; simp) (by omega) (by omega) (by omega) (by omega) (by omega), Option.bind_some]
        have := ih Y B1 P (A ++ R) n (A.length : Int) ((B.length : Int) - (A.length : Int)) (by omega) (by omega) (by omega) (by omega) (by omega) (by omega) (by omega) (by omega)
        rw [this, hsp]
        simp
theorem f83_eq (l : List Due) (a m b : Int) (P A B R : List Due) (hl : l = P ++ (A ++ (B ++ R))) (hA : 0 < A.length) (hB : 0 < B.length) (ha : a = (P.length : Int)) (hm : m = ((P.length + A.length : Nat) : Int)) (hb : b = ((P.length + A.length + B.length : Nat) : Int)) (hlt : (P.length + A.length + B.length : Int) < 4611686018427387904) :
    f83 l a m b = some (P ++ (B ++ (A ++ R))) := by
  subst hl
  unfold f83 letk
  dsimp only
  rw [w64 (x := m - a) (by omega) (by omega), w64 (x := b - m) (by omega) (by omega)]
  refine f83_l1_eq m _ (fun P A B R h1 h2 h3 => ?_) (A.length + B.length) A B P R 9223372036854775808 _ _ (Nat.le_refl _) hA hB (by omega) (by omega) hm (by omega) (by omega)
  rw [w64 (x := m - (A.length : Int)) (by omega) (by omega)]
  rw [f84_eq _ _ _ _ A B P [] R (by simp) h1 (by omega) (by simp; omega) (by omega) (by simp; omega)]
  simp
end Go.Proofs.Ytpionlekbfoccaa
set_option maxRecDepth 10000
namespace Go.Proofs.Ytpionlekbfoccaa
open Go Go.Sk

theorem mid_eq (x y : Nat) (h : x + y < 4611686018427387904) : IntKind.i64.wrap (Int.fdiv (IntKind.u64.wrap (IntKind.i64.wrap ((x : Int) + (y : Int)))) (2 ^ min (Int.toNat 1) IntKind.u64.bits)) = (((x + y) / 2 : Nat) : Int) := by
  have e1 : (2 : Int) ^ min (Int.toNat 1) IntKind.u64.bits = 2 := by decide
  rw [e1, w64 (x := (x : Int) + (y : Int)) (by omega) (by omega)]
  have e2 : IntKind.u64.wrap ((x : Int) + (y : Int)) = (x : Int) + (y : Int) := by
    have : IntKind.u64.wrap ((x : Int) + (y : Int)) = ((x : Int) + (y : Int)) % 18446744073709551616 := rfl
    rw [this]; omega
  rw [e2, Int.fdiv_eq_ediv_of_nonneg _ (by omega), w64 (by omega) (by omega)]
  omega
end Go.Proofs.Ytpionlekbfoccaa
set_option maxRecDepth 10000
namespace Go.Proofs.Ytpionlekbfoccaa
open Go Go.Sk

/-- the right part's places before the one left element: p h = it is strictly earlier -/
theorem f79s_l1_eq (l : List Due) (z : Due) (a : Int) (ha : idx l a = some z) (k : Int → Option (List Due)) (hl : l.length < 1000000000) : ∀ (s : Nat) (i j n : Nat) (iz jz : Int), j - i ≤ s → s < n → iz = (i : Int) → jz = (j : Int) → i ≤ j → j ≤ l.length →
    (∀ h g (_ : h < l.length) (_ : g < l.length), i ≤ h → h ≤ g → g < j → l[g].time < z.time → l[h].time < z.time) →
    ∃ c, i ≤ c ∧ c ≤ j ∧ f79s_l1 l a k n iz jz = k (c : Int) ∧ (∀ h (_ : h < l.length), i ≤ h → h < c → l[h].time < z.time) ∧ ∀ h (_ : h < l.length), c ≤ h → h < j → ¬ l[h].time < z.time := by
  intro s
  induction s with
  | zero =>
    intro i j n iz jz hs hn hi hj hij hjl _
    obtain ⟨n, rfl⟩ : ∃ m, n = m + 1 := ⟨n - 1, by omega⟩
    subst hi; subst hj
    refine ⟨i, by omega, by omega, ?_, fun h _ a b => by omega, fun h _ a b => by omega⟩
    rw [f79s_l1, decide_eq_false (by omega), cond_false]
  | succ s ih =>
    intro i j n iz jz hs hn hi hj hij hjl hm
    obtain ⟨n, rfl⟩ : ∃ m, n = m + 1 := ⟨n - 1, by omega⟩
    subst hi; subst hj
    by_cases e : i < j
    · have hh : (i + j) / 2 < l.length := by omega
      rw [f79s_l1, decide_eq_true (by omega), cond_true, mid_eq i j (by omega), idx_in hh, Option.bind_some, ha, Option.bind_some, f37_lt]
      by_cases c : l[(i + j) / 2].time < z.time
      · rw [decide_eq_true c, cond_true, w64 (by omega) (by omega)]
        obtain ⟨c', h1, h2, h3, h4, h5⟩ := ih ((i + j) / 2 + 1) j n ((((i + j) / 2 : Nat) : Int) + 1) (j : Int) (by omega) (by omega) (by push_cast; rfl) rfl (by omega) hjl (fun h g a b x y w => hm h g a b (by omega) y w)
        refine ⟨c', by omega, h2, h3, fun h a b d => ?_, h5⟩
        by_cases f : (i + j) / 2 + 1 ≤ h
        · exact h4 h a f d
        · exact hm h ((i + j) / 2) a hh b (by omega) (by omega) c
      · rw [decide_eq_false c, cond_false]
        obtain ⟨c', h1, h2, h3, h4, h5⟩ := ih i ((i + j) / 2) n (i : Int) (((i + j) / 2 : Nat) : Int) (by omega) (by omega) rfl rfl (by omega) (by omega) (fun h g a b x y w => hm h g a b x y (by omega))
        refine ⟨c', h1, by omega, h3, h4, fun h a b d => ?_⟩
        by_cases f : h < (i + j) / 2
        · exact h5 h a b f
        · exact fun q => c (hm ((i + j) / 2) h hh a (by omega) (by omega) d q)
    · refine ⟨i, by omega, by omega, ?_, fun h _ a b => by omega, fun h _ a b => by omega⟩
      rw [f79s_l1, decide_eq_false (by omega), cond_false]
/-- the left part's places up to the one right element: p h = the right one is not strictly earlier -/
theorem f79s_l3_eq (l : List Due) (z : Due) (a : Int) (ha : idx l a = some z) (k : Int → Option (List Due)) (hl : l.length < 1000000000) : ∀ (s : Nat) (i j n : Nat) (iz jz : Int), j - i ≤ s → s < n → iz = (i : Int) → jz = (j : Int) → i ≤ j → j ≤ l.length →
    (∀ h g (_ : h < l.length) (_ : g < l.length), i ≤ h → h ≤ g → g < j → ¬ z.time < l[g].time → ¬ z.time < l[h].time) →
    ∃ c, i ≤ c ∧ c ≤ j ∧ f79s_l3 l a k n iz jz = k (c : Int) ∧ (∀ h (_ : h < l.length), i ≤ h → h < c → ¬ z.time < l[h].time) ∧ ∀ h (_ : h < l.length), c ≤ h → h < j → z.time < l[h].time := by
  intro s
  induction s with
  | zero =>
    intro i j n iz jz hs hn hi hj hij hjl _
    obtain ⟨n, rfl⟩ : ∃ m, n = m + 1 := ⟨n - 1, by omega⟩
    subst hi; subst hj
    refine ⟨i, by omega, by omega, ?_, fun h _ a b => by omega, fun h _ a b => by omega⟩
    rw [f79s_l3, decide_eq_false (by omega), cond_false]
  | succ s ih =>
    intro i j n iz jz hs hn hi hj hij hjl hm
    obtain ⟨n, rfl⟩ : ∃ m, n = m + 1 := ⟨n - 1, by omega⟩
    subst hi; subst hj
    by_cases e : i < j
    · have hh : (i + j) / 2 < l.length := by omega
      rw [f79s_l3, decide_eq_true (by omega), cond_true, ha, Option.bind_some, mid_eq i j (by omega), idx_in hh, Option.bind_some, f37_lt]
      by_cases c : ¬ z.time < l[(i + j) / 2].time
      · rw [decide_eq_false c, Bool.not_false, cond_true, w64 (by omega) (by omega)]
        obtain ⟨c', h1, h2, h3, h4, h5⟩ := ih ((i + j) / 2 + 1) j n ((((i + j) / 2 : Nat) : Int) + 1) (j : Int) (by omega) (by omega) (by push_cast; rfl) rfl (by omega) hjl (fun h g a b x y w => hm h g a b (by omega) y w)
        refine ⟨c', by omega, h2, h3, fun h a b d => ?_, h5⟩
        by_cases f : (i + j) / 2 + 1 ≤ h
        · exact h4 h a f d
        · exact hm h ((i + j) / 2) a hh b (by omega) (by omega) c
      · rw [decide_eq_true (Decidable.not_not.1 c), Bool.not_true, cond_false]
        obtain ⟨c', h1, h2, h3, h4, h5⟩ := ih i ((i + j) / 2) n (i : Int) (((i + j) / 2 : Nat) : Int) (by omega) (by omega) rfl rfl (by omega) (by omega) (fun h g a b x y w => hm h g a b x y (by omega))
        refine ⟨c', h1, by omega, h3, h4, fun h a b d => ?_⟩
        by_cases f : h < (i + j) / 2
        · exact h5 h a b f
        · exact Decidable.not_not.1 fun q => c (hm ((i + j) / 2) h hh a (by omega) (by omega) d q)
    · refine ⟨i, by omega, by omega, ?_, fun h _ a b => by omega, fun h _ a b => by omega⟩
      rw [f79s_l3, decide_eq_false (by omega), cond_false]
end Go.Proofs.Ytpionlekbfoccaa
set_option maxRecDepth 10000
namespace Go.Proofs.Ytpionlekbfoccaa
open Go Go.Sk

/-- Q c: the right one at p - c is not strictly earlier than the left one at c. -/
def symQ (l : List Due) (p c : Nat) : Prop := ∃ (h1 : p - c < l.length) (h2 : c < l.length), ¬ l[p - c].time < l[c].time
theorem f79s_l5_eq (l : List Due) (a m b : Nat) (k : Int → Option (List Due)) (hl : l.length < 1000000000) (hab : a + b < 1000000000) (hmb : m < 1000000000) (hp : 1 ≤ (a + b) / 2 + m) : ∀ (s : Nat) (i j n : Nat) (iz jz : Int), j - i ≤ s → s < n → iz = (i : Int) → jz = (j : Int) → i ≤ j →
    (∀ c, i ≤ c → c < j → c < l.length ∧ c ≤ (a + b) / 2 + m - 1 ∧ (a + b) / 2 + m - 1 - c < l.length) →
    (∀ h g, i ≤ h → h ≤ g → g < j → symQ l ((a + b) / 2 + m - 1) g → symQ l ((a + b) / 2 + m - 1) h) →
    ∃ c, i ≤ c ∧ c ≤ j ∧ f79s_l5 l (a : Int) (m : Int) (b : Int) k n iz jz = k (c : Int) ∧ (∀ h, i ≤ h → h < c → symQ l ((a + b) / 2 + m - 1) h) ∧ ∀ h, c ≤ h → h < j → ¬ symQ l ((a + b) / 2 + m - 1) h := by
  intro s
  induction s with
  | zero =>
    intro i j n iz jz hs hn hi hj hij hr _
    obtain ⟨n, rfl⟩ : ∃ m, n = m + 1 := ⟨n - 1, by omega⟩
    subst hi; subst hj
    refine ⟨i, by omega, by omega, ?_, fun h a b => by omega, fun h a b => by omega⟩
    rw [f79s_l5, decide_eq_false (by omega), cond_false]
  | succ s ih =>
    intro i j n iz jz hs hn hi hj hij hr hm
    obtain ⟨n, rfl⟩ : ∃ m, n = m + 1 := ⟨n - 1, by omega⟩
    subst hi; subst hj
    by_cases e : i < j
    · obtain ⟨r1, r2, r3⟩ := hr ((i + j) / 2) (by omega) (by omega)
      have w : IntKind.i64.wrap ((IntKind.i64.wrap ((IntKind.i64.wrap ((((a + b) / 2 : Nat) : Int) + (m : Int))) - 1)) - (((i + j) / 2 : Nat) : Int)) = (((a + b) / 2 + m - 1 - (i + j) / 2 : Nat) : Int) := by
        rw [w64 (x := (((a + b) / 2 : Nat) : Int) + (m : Int)) (by omega) (by omega), w64 (x := (((a + b) / 2 : Nat) : Int) + (m : Int) - 1) (by omega) (by omega), w64 (by omega) (by omega)]
        omega
      rw [f79s_l5, decide_eq_true (by omega), cond_true, mid_eq i j (by omega), mid_eq a b (by omega), w, idx_in r3, Option.bind_some, idx_in r1, Option.bind_some, f37_lt]
      by_cases c : l[(a + b) / 2 + m - 1 - (i + j) / 2].time < l[(i + j) / 2].time
      · have nq : ¬ symQ l ((a + b) / 2 + m - 1) ((i + j) / 2) := fun ⟨_, _, q⟩ => q c
        rw [decide_eq_true c, Bool.not_true, cond_false]
        obtain ⟨c', h1, h2, h3, h4, h5⟩ := ih i ((i + j) / 2) n (i : Int) (((i + j) / 2 : Nat) : Int) (by omega) (by omega) rfl rfl (by omega) (fun c x y => hr c x (by omega)) (fun h g x y w => hm h g x y (by omega))
        refine ⟨c', h1, by omega, h3, h4, fun h b d => ?_⟩
        by_cases f : h < (i + j) / 2
        · exact h5 h b f
        · exact fun q => nq (hm ((i + j) / 2) h (by omega) (by omega) d q)
      · have q : symQ l ((a + b) / 2 + m - 1) ((i + j) / 2) := ⟨r3, r1, c⟩
        rw [decide_eq_false c, Bool.not_false, cond_true, w64 (by omega) (by omega)]
        obtain ⟨c', h1, h2, h3, h4, h5⟩ := ih ((i + j) / 2 + 1) j n ((((i + j) / 2 : Nat) : Int) + 1) (j : Int) (by omega) (by omega) (by push_cast; rfl) rfl (by omega) (fun c x y => hr c (by omega) y) (fun h g x y w => hm h g (by omega) y w)
        refine ⟨c', by omega, h2, h3, fun h b d => ?_, h5⟩
        by_cases f : (i + j) / 2 + 1 ≤ h
        · exact h4 h f d
        · exact hm h ((i + j) / 2) b (by omega) (by omega) q
    · refine ⟨i, by omega, by omega, ?_, fun h a b => by omega, fun h a b => by omega⟩
      rw [f79s_l5, decide_eq_false (by omega), cond_false]
end Go.Proofs.Ytpionlekbfoccaa
set_option maxRecDepth 10000
namespace Go.Proofs.Ytpionlekbfoccaa
open Go Go.Sk

theorem f79s_l2_eq (q : Int) (k : List Due → Option (List Due)) (z : Due) : ∀ (S P R : List Due) (n : Nat) (i : Int), i = (P.length : Int) → q = ((P.length + S.length + 1 : Nat) : Int) → S.length < n → P.length + S.length < 1000000000 →
    f79s_l2 q k n i (P ++ z :: (S ++ R)) = k (P ++ (S ++ z :: R)) := by
  intro S
  induction S with
  | nil =>
    intro P R n i hi hq hn hl
    obtain ⟨n, rfl⟩ : ∃ m, n = m + 1 := ⟨n - 1, by simp at hn; omega⟩
    subst hi
    simp only [List.length_nil] at hq
    rw [f79s_l2, w64 (x := q - 1) (by omega) (by omega), decide_eq_false (by omega), cond_false]
    rfl
  | cons s S ih =>
    intro P R n i hi hq hn hl
    simp only [List.length_cons] at hq hn hl
    obtain ⟨n, rfl⟩ : ∃ m, n = m + 1 := ⟨n - 1, by omega⟩
    subst hi
    have e1 : P ++ z :: ((s :: S) ++ R) = (P ++ [z]) ++ s :: (S ++ R) := by simp
    have w1 : IntKind.i64.wrap ((P.length : Int) + 1) = ((P.length + 1 : Nat) : Int) := by rw [w64 (by omega) (by omega)]; omega
    have i1 : idx (P ++ z :: ((s :: S) ++ R)) ((P.length + 1 : Nat) : Int) = some s := by rw [e1]; exact idx_mid _ _ _ (by simp)
    have i2 : idx (P ++ z :: ((s :: S) ++ R)) (P.length : Int) = some z := idx_mid _ _ _ rfl
    have s1 : List.set (P ++ z :: ((s :: S) ++ R)) (Int.toNat (P.length : Int)) s = P ++ s :: ((s :: S) ++ R) := set_mid _ _ _ _ rfl
    have e2 : P ++ s :: ((s :: S) ++ R) = (P ++ [s]) ++ s :: (S ++ R) := by simp
    have i3 : idx (P ++ s :: ((s :: S) ++ R)) ((P.length + 1 : Nat) : Int) = some s := by rw [e2]; exact idx_mid _ _ _ (by simp)
    have s2 : List.set (P ++ s :: ((s :: S) ++ R)) (Int.toNat ((P.length + 1 : Nat) : Int)) z = (P ++ [s]) ++ z :: (S ++ R) := by rw [e2]; exact set_mid _ _ _ _ (by simp)
    rw [f79s_l2, w64 (x := q - 1) (by omega) (by omega), decide_eq_true (by omega), cond_true, w1, i1, i2]
    simp only [Option.bind_some]
    rw [s1, i3]
    simp only [Option.bind_some]
    rw [s2, ih (P ++ [s]) R n _ (by simp) (by simp; omega) (by omega) (by simp; omega)]
    simp

theorem f79s_l4_eq (q : Int) (k : List Due → Option (List Due)) (z : Due) (P : List Due) (hq : q = (P.length : Int)) : ∀ (T R : List Due) (n : Nat) (i : Int), i = ((P.length + T.length : Nat) : Int) → T.length < n → P.length + T.length < 1000000000 →
    f79s_l4 q k n i (P ++ (T.reverse ++ z :: R)) = k (P ++ z :: (T.reverse ++ R)) := by
  intro T
  induction T with
  | nil =>
    intro R n i hi hn hl
    obtain ⟨n, rfl⟩ : ∃ m, n = m + 1 := ⟨n - 1, by simp at hn; omega⟩
    subst hi
    simp only [List.length_nil] at hl
    rw [f79s_l4, decide_eq_false (by simp; omega), cond_false]
    rfl
  | cons t T ih =>
    intro R n i hi hn hl
    simp only [List.length_cons] at hi hn hl
    obtain ⟨n, rfl⟩ : ∃ m, n = m + 1 := ⟨n - 1, by omega⟩
    subst hi
    have e1 : P ++ ((t :: T).reverse ++ z :: R) = (P ++ T.reverse) ++ t :: z :: R := by simp
    have e2 : P ++ ((t :: T).reverse ++ z :: R) = (P ++ (T.reverse ++ [t])) ++ z :: R := by simp
    have w1 : IntKind.i64.wrap (((P.length + (T.length + 1) : Nat) : Int) - 1) = ((P.length + T.length : Nat) : Int) := by rw [w64 (by omega) (by omega)]; omega
    have i1 : idx (P ++ ((t :: T).reverse ++ z :: R)) ((P.length + T.length : Nat) : Int) = some t := by rw [e1]; exact idx_mid _ _ _ (by simp)
    have i2 : idx (P ++ ((t :: T).reverse ++ z :: R)) ((P.length + (T.length + 1) : Nat) : Int) = some z := by rw [e2]; exact idx_mid _ _ _ (by simp)
    have s1 : List.set (P ++ ((t :: T).reverse ++ z :: R)) (Int.toNat ((P.length + (T.length + 1) : Nat) : Int)) t = (P ++ T.reverse) ++ t :: t :: R := by
      rw [e2, set_mid _ _ _ _ (by simp)]; simp
    have i3 : idx ((P ++ T.reverse) ++ t :: t :: R) ((P.length + T.length : Nat) : Int) = some t := idx_mid _ _ _ (by simp)
    have s2 : List.set ((P ++ T.reverse) ++ t :: t :: R) (Int.toNat ((P.length + T.length : Nat) : Int)) z = P ++ (T.reverse ++ z :: (t :: R)) := by
      rw [set_mid _ _ _ _ (by simp)]; simp
    rw [f79s_l4, decide_eq_true (by omega), cond_true, w1, i1, i2]
    simp only [Option.bind_some]
    rw [s1, i3]
    simp only [Option.bind_some]
    rw [s2, ih (t :: R) n _ rfl (by omega) (by omega)]
    simp
end Go.Proofs.Ytpionlekbfoccaa
set_option maxRecDepth 10000
namespace Go.Proofs.Ytpionlekbfoccaa
open Go Go.Sk

def Asc (L : List Due) : Prop := L.Pairwise (fun a b => a.time ≤ b.time)
theorem asc_le {L : List Due} (h : Asc L) {i j : Nat} (hj : j < L.length) (hij : i ≤ j) : (L[i]'(Nat.lt_of_le_of_lt hij hj)).time ≤ L[j].time := by
  rcases Nat.lt_or_eq_of_le hij with h1 | h1
  · exact List.pairwise_iff_getElem.1 h i j (by omega) hj h1
  · subst h1; exact Int.le_refl _
theorem asc_app {A B : List Due} (h : Asc (A ++ B)) : Asc A ∧ Asc B := by
  have := List.pairwise_append.1 h
  exact ⟨this.1, this.2.1⟩
theorem get_mid {α : Type} (P L R : List α) (i : Nat) (h1 : P.length ≤ i) (h2 : i < P.length + L.length) (h3 : i < (P ++ (L ++ R)).length) :
    (P ++ (L ++ R))[i] = L[i - P.length]'(by omega) := by
  rw [List.getElem_append_right h1, List.getElem_append_left]

theorem mrg_one_l (z : Due) (R1 R2 : List Due) (h1 : ∀ r ∈ R1, r.time < z.time) (h2 : ∀ r ∈ R2, ¬ r.time < z.time) : mrg [z] (R1 ++ R2) = R1 ++ z :: R2 := by
  have a := mrg_split [] R1 [z] R2 (fun l hl => by simp at hl) (fun r hr l hl => by rw [List.mem_singleton.1 hl]; exact h1 r hr)
  have b := mrg_split [z] [] [] R2 (fun l hl r hr => by rw [List.mem_singleton.1 hl]; exact h2 r hr) (fun r hr => by simp at hr)
  simp only [List.nil_append, List.append_nil, mrg_nil, mrg_nr] at a b
  rw [a, b]; rfl
theorem mrg_one_r (z : Due) (L1 L2 : List Due) (h1 : ∀ l ∈ L1, ¬ z.time < l.time) (h2 : ∀ l ∈ L2, z.time < l.time) : mrg (L1 ++ L2) [z] = L1 ++ z :: L2 := by
  have a := mrg_split L1 [] L2 [z] (fun l hl r hr => by rw [List.mem_singleton.1 hr]; exact h1 l hl) (fun r hr => by simp at hr)
  have b := mrg_split [] [z] L2 [] (fun l hl => by simp at hl) (fun r hr l hl => by rw [List.mem_singleton.1 hr]; exact h2 l hl)
  simp only [List.nil_append, List.append_nil, mrg_nil, mrg_nr] at a b
  rw [a, b]; rfl
theorem mrg_length : ∀ (L R : List Due), (mrg L R).length = L.length + R.length
  | [], R => by simp [mrg_nil]
  | l :: L, [] => by simp [mrg_nr]
  | l :: L, r :: R => by
    rw [mrg_cc]
    split
    · rw [List.length_cons, mrg_length (l :: L) R]; simp only [List.length_cons]; omega
    · rw [List.length_cons, mrg_length L (r :: R)]; simp only [List.length_cons]; omega
termination_by L R => L.length + R.length

theorem len_one {α : Type} {L : List α} (h : L.length = 1) : ∃ z, L = [z] := by
  cases L with
  | nil => simp at h
  | cons a L => cases L with
    | nil => exact ⟨a, rfl⟩
    | cons b L => simp at h

def f79sF (F : Nat) (rec79 : (List Due) → Int → Int → Int → Option (List Due)) (l0 : List Due) (a1 : Int) (m2 : Int) (b3 : Int) : Option (List Due) :=
  letk (fun (_ : Unit) =>
  letk (fun (_ : Unit) =>
  letk (fun (start272 : Int) (r273 : Int) =>
  letk (fun (start275 : Int) =>
  letk (fun (l285 : List Due) =>
  letk (fun (l288 : List Due) =>
  (bif ((decide ((IntKind.i64.wrap (Int.fdiv (IntKind.u64.wrap (IntKind.i64.wrap (a1 + b3))) (2 ^ min (Int.toNat 1) IntKind.u64.bits))) < (IntKind.i64.wrap ((IntKind.i64.wrap ((IntKind.i64.wrap (Int.fdiv (IntKind.u64.wrap (IntKind.i64.wrap (a1 + b3))) (2 ^ min (Int.toNat 1) IntKind.u64.bits))) + m2)) - start275)))) && (decide ((IntKind.i64.wrap ((IntKind.i64.wrap ((IntKind.i64.wrap (Int.fdiv (IntKind.u64.wrap (IntKind.i64.wrap (a1 + b3))) (2 ^ min (Int.toNat 1) IntKind.u64.bits))) + m2)) - start275)) < b3))) then Option.bind (rec79 l288 (IntKind.i64.wrap (Int.fdiv (IntKind.u64.wrap (IntKind.i64.wrap (a1 + b3))) (2 ^ min (Int.toNat 1) IntKind.u64.bits))) (IntKind.i64.wrap ((IntKind.i64.wrap ((IntKind.i64.wrap (Int.fdiv (IntKind.u64.wrap (IntKind.i64.wrap (a1 + b3))) (2 ^ min (Int.toNat 1) IntKind.u64.bits))) + m2)) - start275)) b3) fun r291 =>
  some r291 else some l288)) fun k289 =>
  (bif ((decide (a1 < start275)) && (decide (start275 < (IntKind.i64.wrap (Int.fdiv (IntKind.u64.wrap (IntKind.i64.wrap (a1 + b3))) (2 ^ min (Int.toNat 1) IntKind.u64.bits)))))) then Option.bind (rec79 l285 a1 start275 (IntKind.i64.wrap (Int.fdiv (IntKind.u64.wrap (IntKind.i64.wrap (a1 + b3))) (2 ^ min (Int.toNat 1) IntKind.u64.bits)))) fun r290 =>
  (k289 r290) else (k289 l285))) fun k286 =>
  (bif ((decide (start275 < m2)) && (decide (m2 < (IntKind.i64.wrap ((IntKind.i64.wrap ((IntKind.i64.wrap (Int.fdiv (IntKind.u64.wrap (IntKind.i64.wrap (a1 + b3))) (2 ^ min (Int.toNat 1) IntKind.u64.bits))) + m2)) - start275))))) then Option.bind (f83 l0 start275 m2 (IntKind.i64.wrap ((IntKind.i64.wrap ((IntKind.i64.wrap (Int.fdiv (IntKind.u64.wrap (IntKind.i64.wrap (a1 + b3))) (2 ^ min (Int.toNat 1) IntKind.u64.bits))) + m2)) - start275))) fun r287 =>
  (k286 r287) else (k286 l0))) fun k276 =>
  (f79s_l5 l0 a1 m2 b3 k276 F start272 r273)) fun k274 =>
  (bif (decide (m2 > (IntKind.i64.wrap (Int.fdiv (IntKind.u64.wrap (IntKind.i64.wrap (a1 + b3))) (2 ^ min (Int.toNat 1) IntKind.u64.bits))))) then (k274 (IntKind.i64.wrap ((IntKind.i64.wrap ((IntKind.i64.wrap (Int.fdiv (IntKind.u64.wrap (IntKind.i64.wrap (a1 + b3))) (2 ^ min (Int.toNat 1) IntKind.u64.bits))) + m2)) - b3)) (IntKind.i64.wrap (Int.fdiv (IntKind.u64.wrap (IntKind.i64.wrap (a1 + b3))) (2 ^ min (Int.toNat 1) IntKind.u64.bits)))) else (k274 a1 m2))) fun k249 =>
  (bif (decide ((IntKind.i64.wrap (b3 - m2)) = 1)) then letk (fun (iq250 : Int) =>
  letk (fun (l260 : List Due) =>
  some l260) fun k261 =>
  (f79s_l4 iq250 k261 F m2 l0)) fun k251 =>
  (f79s_l3 l0 m2 k251 F a1 m2) else (k249 ()))) fun k226 =>
  (bif (decide ((IntKind.i64.wrap (m2 - a1)) = 1)) then letk (fun (iq227 : Int) =>
  letk (fun (l237 : List Due) =>
  some l237) fun k238 =>
  (f79s_l2 iq227 k238 F a1 l0)) fun k228 =>
  (f79s_l1 l0 a1 k228 F m2 b3) else (k226 ()))
theorem f79s_F : f79s = f79sF 9223372036854775808 := rfl

theorem f79_l (rec : List Due → Int → Int → Int → Option (List Due)) (P R Q : List Due) (z : Due) (hR : Asc R) (hr : 0 < R.length) (hl : P.length + R.length + Q.length + 1 < 1000000) :
    f79s rec (P ++ ([z] ++ (R ++ Q))) (P.length : Int) ((P.length + 1 : Nat) : Int) ((P.length + 1 + R.length : Nat) : Int) = some (P ++ (mrg [z] R ++ Q)) := by
  obtain ⟨F, hF⟩ : ∃ F : Nat, F = 9223372036854775808 := ⟨_, rfl⟩
  rw [f79s_F, ← hF]
  unfold f79sF letk
  dsimp only
  rw [w64 (x := ((P.length + 1 : Nat) : Int) - (P.length : Int)) (by omega) (by omega), decide_eq_true (by omega : ((P.length + 1 : Nat) : Int) - (P.length : Int) = 1), cond_true]
  have hs : P ++ ([z] ++ (R ++ Q)) = (P ++ [z]) ++ (R ++ Q) := by simp
  have hpl : (P ++ [z]).length = P.length + 1 := by simp
  have hll : (P ++ ([z] ++ (R ++ Q))).length = P.length + 1 + R.length + Q.length := by simp; omega
  have hget : ∀ h (hh : h < (P ++ ([z] ++ (R ++ Q))).length), P.length + 1 ≤ h → (hb : h < P.length + 1 + R.length) → (P ++ ([z] ++ (R ++ Q)))[h] = R[h - (P.length + 1)]'(by omega) := by
    intro h hh ha hb
    have := get_mid (P ++ [z]) R Q h (by omega) (by omega) (by rw [← hs]; exact hh)
    simp only [hpl] at this
    rw [← this]
    congr 1
  obtain ⟨c, h1, h2, h3, h4, h5⟩ := f79s_l1_eq (P ++ ([z] ++ (R ++ Q))) z (P.length : Int) (idx_mid _ _ _ rfl)
    (fun iq227 => f79s_l2 iq227 (fun l => some l) F (P.length : Int) (P ++ ([z] ++ (R ++ Q)))) (by omega) R.length (P.length + 1) (P.length + 1 + R.length) F _ _ (by omega) (by omega) rfl rfl (by omega) (by omega) (by
      intro h g ha hb hi hhg hg hlt
      rw [hget g hb (by omega) hg] at hlt
      rw [hget h ha (by omega) (by omega)]
      have := asc_le hR (i := h - (P.length + 1)) (j := g - (P.length + 1)) (by omega) (by omega)
      omega)
  rw [h3]
  have hsp : R = R.take (c - (P.length + 1)) ++ R.drop (c - (P.length + 1)) := (List.take_append_drop _ _).symm
  have l1 : (R.take (c - (P.length + 1))).length = c - (P.length + 1) := by rw [List.length_take]; omega
  have m1 : ∀ r ∈ R.take (c - (P.length + 1)), r.time < z.time := by
    intro r hr
    obtain ⟨i, hi, rfl⟩ := List.mem_take_iff_getElem.1 hr
    have := h4 (i + (P.length + 1)) (by omega) (by omega) (by omega)
    rw [hget _ _ (by omega) (by omega)] at this
    simp only [Nat.add_sub_cancel] at this
    exact this
  have m2 : ∀ r ∈ R.drop (c - (P.length + 1)), ¬ r.time < z.time := by
    intro r hr
    obtain ⟨i, hi, rfl⟩ := List.mem_drop_iff_getElem.1 hr
    have := h5 (i + c) (by omega) (by omega) (by omega)
    rw [hget _ _ (by omega) (by omega)] at this
    have e : i + c - (P.length + 1) = c - (P.length + 1) + i := by omega
    simp only [e] at this
    exact this
  generalize R.take (c - (P.length + 1)) = R1 at hsp l1 m1
  generalize R.drop (c - (P.length + 1)) = R2 at hsp m2
  subst hsp
  rw [mrg_one_l z R1 R2 m1 m2]
  have := f79s_l2_eq (c : Int) (fun l => some l) z R1 P (R2 ++ Q) F (P.length : Int) rfl (by omega) (by omega) (by omega)
  simp only [List.append_assoc, List.cons_append, List.nil_append] at this ⊢
  exact this
end Go.Proofs.Ytpionlekbfoccaa
set_option maxRecDepth 10000
namespace Go.Proofs.Ytpionlekbfoccaa
open Go Go.Sk

theorem f79_r (rec : List Due → Int → Int → Int → Option (List Due)) (P L Q : List Due) (z : Due) (hL : Asc L) (hr : 1 < L.length) (hl : P.length + L.length + Q.length + 1 < 1000000) :
    f79s rec (P ++ (L ++ ([z] ++ Q))) (P.length : Int) ((P.length + L.length : Nat) : Int) ((P.length + L.length + 1 : Nat) : Int) = some (P ++ (mrg L [z] ++ Q)) := by
  obtain ⟨F, hF⟩ : ∃ F : Nat, F = 9223372036854775808 := ⟨_, rfl⟩
  rw [f79s_F, ← hF]
  unfold f79sF letk
  dsimp only
  rw [w64 (x := ((P.length + L.length : Nat) : Int) - (P.length : Int)) (by omega) (by omega), decide_eq_false (by omega : ¬ ((P.length + L.length : Nat) : Int) - (P.length : Int) = 1), cond_false]
  rw [w64 (x := ((P.length + L.length + 1 : Nat) : Int) - ((P.length + L.length : Nat) : Int)) (by omega) (by omega), decide_eq_true (by omega : ((P.length + L.length + 1 : Nat) : Int) - ((P.length + L.length : Nat) : Int) = 1), cond_true]
  have hll : (P ++ (L ++ ([z] ++ Q))).length = P.length + L.length + Q.length + 1 := by simp; omega
  have hget : ∀ h (hh : h < (P ++ (L ++ ([z] ++ Q))).length), P.length ≤ h → (hb : h < P.length + L.length) → (P ++ (L ++ ([z] ++ Q)))[h] = L[h - P.length]'(by omega) := fun h hh ha hb => get_mid P L ([z] ++ Q) h ha hb hh
  have hz : idx (P ++ (L ++ ([z] ++ Q))) ((P.length + L.length : Nat) : Int) = some z := by
    rw [show P ++ (L ++ ([z] ++ Q)) = (P ++ L) ++ z :: Q by simp]
    exact idx_mid _ _ _ (by simp)
  obtain ⟨c, h1, h2, h3, h4, h5⟩ := f79s_l3_eq (P ++ (L ++ ([z] ++ Q))) z ((P.length + L.length : Nat) : Int) hz
    (fun iq250 => f79s_l4 iq250 (fun l => some l) F ((P.length + L.length : Nat) : Int) (P ++ (L ++ ([z] ++ Q)))) (by omega) L.length P.length (P.length + L.length) F _ _ (by omega) (by omega) rfl rfl (by omega) (by omega) (by
      intro h g ha hb hi hhg hg hlt
      rw [hget g hb (by omega) hg] at hlt
      rw [hget h ha (by omega) (by omega)]
      have := asc_le hL (i := h - P.length) (j := g - P.length) (by omega) (by omega)
      omega)
  rw [h3]
  have hsp : L = L.take (c - P.length) ++ L.drop (c - P.length) := (List.take_append_drop _ _).symm
  have l1 : (L.take (c - P.length)).length = c - P.length := by rw [List.length_take]; omega
  have m1 : ∀ r ∈ L.take (c - P.length), ¬ z.time < r.time := by
    intro r hr
    obtain ⟨i, hi, rfl⟩ := List.mem_take_iff_getElem.1 hr
    have := h4 (i + P.length) (by omega) (by omega) (by omega)
    rw [hget _ _ (by omega) (by omega)] at this
    simp only [Nat.add_sub_cancel] at this
    exact this
  have m2 : ∀ r ∈ L.drop (c - P.length), z.time < r.time := by
    intro r hr
    obtain ⟨i, hi, rfl⟩ := List.mem_drop_iff_getElem.1 hr
    have := h5 (i + c) (by omega) (by omega) (by omega)
    rw [hget _ _ (by omega) (by omega)] at this
    have e : i + c - P.length = c - P.length + i := by omega
    simp only [e] at this
    exact this
  generalize L.take (c - P.length) = L1 at hsp l1 m1
  generalize L.drop (c - P.length) = L2 at hsp m2
  subst hsp
  rw [mrg_one_r z L1 L2 m1 m2]
  have := f79s_l4_eq (c : Int) (fun l => some l) z (P ++ L1) (by rw [List.length_append]; omega) L2.reverse Q F ((P.length + (L1 ++ L2).length : Nat) : Int) (by simp only [List.length_append, List.length_reverse]; omega) (by rw [List.length_reverse]; rw [List.length_append] at hl; omega) (by simp only [List.length_append, List.length_reverse] at *; omega)
  rw [List.reverse_reverse] at this
  simp only [List.append_assoc, List.cons_append, List.nil_append] at this ⊢
  exact this

theorem symQ_at {l : List Due} {p c i : Nat} (h1 : i < l.length) (h2 : c < l.length) (e : p - c = i) : symQ l p c ↔ ¬ l[i].time < l[c].time := by
  subst e
  exact ⟨fun ⟨_, _, q⟩ => q, fun q => ⟨h1, h2, q⟩⟩

/-- What the search finds: the cut of both parts. -/
theorem sym_cut (P L R Q : List Due) (hL : Asc L) (hR : Asc R) (a m b mid : Nat) (ha : a = P.length) (hm : m = P.length + L.length) (hb : b = P.length + L.length + R.length) (hmid : mid = (a + b) / 2) (h1L : 1 < L.length) (h1R : 1 < R.length) (hl : P.length + L.length + R.length + Q.length < 1000000) (F : Nat) (hF : F = 9223372036854775808) (k : Int → Option (List Due)) :
    ∃ c, a ≤ c ∧ c ≤ m ∧ c ≤ mid ∧ mid + m ≤ b + c ∧ f79s_l5 (P ++ (L ++ (R ++ Q))) (a : Int) (m : Int) (b : Int) k F (if mid < m then ((mid + m - b : Nat) : Int) else (a : Int)) (if mid < m then (mid : Int) else (m : Int)) = k (c : Int) ∧
      (∀ l ∈ L.take (c - a), ∀ r ∈ R.drop (mid - c), ¬ r.time < l.time) ∧ (∀ r ∈ R.take (mid - c), ∀ l ∈ L.drop (c - a), r.time < l.time) := by
  obtain ⟨X, hX⟩ : ∃ X, X = P ++ (L ++ (R ++ Q)) := ⟨_, rfl⟩
  rw [← hX]
  have hll : X.length = P.length + L.length + R.length + Q.length := by rw [hX]; simp; omega
  have hgL : ∀ h (hh : h < X.length), P.length ≤ h → (hb : h < P.length + L.length) → X[h] = L[h - P.length]'(by omega) := by
    intro h hh ha hb
    subst hX
    exact get_mid P L (R ++ Q) h ha hb hh
  have hpl : (P ++ L).length = P.length + L.length := by simp
  have hgR : ∀ h (hh : h < X.length), P.length + L.length ≤ h → (hb : h < P.length + L.length + R.length) → X[h] = R[h - (P.length + L.length)]'(by omega) := by
    intro h hh ha hb
    subst hX
    have e : P ++ (L ++ (R ++ Q)) = (P ++ L) ++ (R ++ Q) := by simp
    have := get_mid (P ++ L) R Q h (by omega) (by omega) (by rw [← e]; exact hh)
    simp only [hpl] at this
    rw [← this]
    congr 1
  obtain ⟨s0, hs0⟩ : ∃ s, s = if mid < m then mid + m - b else a := ⟨_, rfl⟩
  obtain ⟨r0, hr0⟩ : ∃ s, s = if mid < m then mid else m := ⟨_, rfl⟩
  have e1 : (if mid < m then ((mid + m - b : Nat) : Int) else (a : Int)) = (s0 : Int) := by rw [hs0]; split <;> rfl
  have e2 : (if mid < m then (mid : Int) else (m : Int)) = (r0 : Int) := by rw [hr0]; split <;> rfl
  rw [e1, e2]
  have hs : a ≤ s0 ∧ s0 ≤ r0 ∧ r0 ≤ m ∧ r0 ≤ mid ∧ mid + m ≤ b + s0 := by
    rw [hs0, hr0]; split <;> omega
  obtain ⟨c, h1, h2, h3, h4, h5⟩ := f79s_l5_eq X a m b k (by omega) (by omega) (by omega) (by omega) (r0 - s0) s0 r0 F _ _ (by omega) (by omega) rfl rfl (by omega)
    (fun c x y => ⟨by omega, by omega, by omega⟩)
    (fun h g x y w => by
      rw [symQ_at (i := (a + b) / 2 + m - 1 - g) (by omega) (by omega) rfl, symQ_at (i := (a + b) / 2 + m - 1 - h) (by omega) (by omega) rfl]
      rw [hgL g (by omega) (by omega) (by omega), hgL h (by omega) (by omega) (by omega), hgR _ (by omega) (by omega) (by omega), hgR _ (by omega) (by omega) (by omega)]
      have q1 := asc_le hL (i := h - P.length) (j := g - P.length) (by omega) (by omega)
      have q2 := asc_le hR (i := (a + b) / 2 + m - 1 - g - (P.length + L.length)) (j := (a + b) / 2 + m - 1 - h - (P.length + L.length)) (by omega) (by omega)
      omega)
  refine ⟨c, by omega, by omega, by omega, by omega, h3, ?_, ?_⟩
  · intro l hl' r hr'
    obtain ⟨i, hi, rfl⟩ := List.mem_take_iff_getElem.1 hl'
    obtain ⟨j, hj, rfl⟩ := List.mem_drop_iff_getElem.1 hr'
    have hc : s0 < c := by
      by_cases g : s0 < c
      · exact g
      · exfalso
        have : c = s0 := by omega
        revert hs0; split <;> intro hs0 <;> omega
    have q := h4 (c - 1) (by omega) (by omega)
    rw [symQ_at (i := mid + m - c) (by omega) (by omega) (by omega), hgL (c - 1) (by omega) (by omega) (by omega), hgR (mid + m - c) (by omega) (by omega) (by omega)] at q
    have q1 := asc_le hL (i := i) (j := c - 1 - P.length) (by omega) (by omega)
    have q2 := asc_le hR (i := mid + m - c - (P.length + L.length)) (j := mid - c + j) (by omega) (by omega)
    omega
  · intro r hr' l hl'
    obtain ⟨j, hj, rfl⟩ := List.mem_take_iff_getElem.1 hr'
    obtain ⟨i, hi, rfl⟩ := List.mem_drop_iff_getElem.1 hl'
    have hc : c < r0 := by
      by_cases g : c < r0
      · exact g
      · exfalso
        have : c = r0 := by omega
        revert hr0; split <;> intro hr0 <;> omega
    have q := h5 c (by omega) (by omega)
    rw [symQ_at (i := mid + m - 1 - c) (by omega) (by omega) (by omega), hgL c (by omega) (by omega) (by omega), hgR (mid + m - 1 - c) (by omega) (by omega) (by omega)] at q
    have q1 := asc_le hL (i := c - P.length) (j := c - a + i) (by omega) (by omega)
    have q2 := asc_le hR (i := j) (j := mid + m - 1 - c - (P.length + L.length)) (by omega) (by omega)
    omega
end Go.Proofs.Ytpionlekbfoccaa
set_option maxRecDepth 10000
namespace Go.Proofs.Ytpionlekbfoccaa
open Go Go.Sk

theorem sym_cutk (P L R Q : List Due) (hL : Asc L) (hR : Asc R) (a m b mid : Nat) (ha : a = P.length) (hm : m = P.length + L.length) (hb : b = P.length + L.length + R.length) (hmid : mid = (a + b) / 2) (h1L : 1 < L.length) (h1R : 1 < R.length) (hl : P.length + L.length + R.length + Q.length < 1000000) (F : Nat) (hF : F = 9223372036854775808) (k : Int → Option (List Due)) (v : Option (List Due)) (s r : Int)
    (hs : s = if mid < m then ((mid + m - b : Nat) : Int) else (a : Int)) (hr : r = if mid < m then (mid : Int) else (m : Int))
    (h : ∀ c : Nat, a ≤ c → c ≤ m → c ≤ mid → mid + m ≤ b + c → (∀ l ∈ L.take (c - a), ∀ r ∈ R.drop (mid - c), ¬ r.time < l.time) → (∀ r ∈ R.take (mid - c), ∀ l ∈ L.drop (c - a), r.time < l.time) → k (c : Int) = v) :
    f79s_l5 (P ++ (L ++ (R ++ Q))) (a : Int) (m : Int) (b : Int) k F s r = v := by
  subst hs; subst hr
  obtain ⟨c, h1, h2, h3, h4, h5, h6, h7⟩ := sym_cut P L R Q hL hR a m b mid ha hm hb hmid h1L h1R hl F hF k
  rw [h5]
  exact h c h1 h2 h3 h4 h6 h7
theorem rot_stage (P L1 L2 R1 R2 Q : List Due) (k : List Due → Option (List Due)) (c m e : Int) (hc : c = ((P.length + L1.length : Nat) : Int)) (hm : m = ((P.length + L1.length + L2.length : Nat) : Int)) (he : e = ((P.length + L1.length + L2.length + R1.length : Nat) : Int)) (hl : P.length + L1.length + L2.length + R1.length < 1000000) :
    (bif (decide (c < m) && decide (m < e)) then Option.bind (f83 (P ++ ((L1 ++ L2) ++ ((R1 ++ R2) ++ Q))) c m e) (fun r => k r) else k (P ++ ((L1 ++ L2) ++ ((R1 ++ R2) ++ Q)))) = k (P ++ (L1 ++ (R1 ++ (L2 ++ (R2 ++ Q))))) := by
  by_cases h2 : L2.length = 0
  · have := List.eq_nil_of_length_eq_zero h2
    subst this
    rw [decide_eq_false (by simp only [List.length_nil] at hm; omega : ¬ c < m)]
    simp
  · by_cases h3 : R1.length = 0
    · have := List.eq_nil_of_length_eq_zero h3
      subst this
      rw [decide_eq_false (by simp only [List.length_nil] at he; omega : ¬ m < e), Bool.and_false]
      simp
    · rw [decide_eq_true (by omega), decide_eq_true (by omega), Bool.and_true, cond_true]
      rw [f83_eq (P ++ ((L1 ++ L2) ++ ((R1 ++ R2) ++ Q))) c m e (P ++ L1) L2 R1 (R2 ++ Q) (by simp) (by omega) (by omega) (by rw [List.length_append]; exact hc) (by rw [List.length_append]; exact hm) (by rw [List.length_append]; exact he) (by rw [List.length_append]; omega), Option.bind_some]
      simp
theorem rec_stage (rec : List Due → Int → Int → Int → Option (List Due)) (P A B Q : List Due) (k : List Due → Option (List Due)) (a m b : Int) (X : List Due) (hX : X = P ++ (A ++ (B ++ Q))) (ha : a = (P.length : Int)) (hm : m = ((P.length + A.length : Nat) : Int)) (hb : b = ((P.length + A.length + B.length : Nat) : Int))
    (hrec : 0 < A.length → 0 < B.length → rec (P ++ (A ++ (B ++ Q))) (P.length : Int) ((P.length + A.length : Nat) : Int) ((P.length + A.length + B.length : Nat) : Int) = some (P ++ (mrg A B ++ Q))) :
    (bif (decide (a < m) && decide (m < b)) then Option.bind (rec X a m b) (fun r => k r) else k X) = k (P ++ (mrg A B ++ Q)) := by
  subst hX
  by_cases h2 : A.length = 0
  · have := List.eq_nil_of_length_eq_zero h2
    subst this
    rw [decide_eq_false (by simp only [List.length_nil] at hm; omega : ¬ a < m)]
    simp [mrg_nil]
  · by_cases h3 : B.length = 0
    · have := List.eq_nil_of_length_eq_zero h3
      subst this
      rw [decide_eq_false (by simp only [List.length_nil] at hb; omega : ¬ m < b), Bool.and_false, mrg_nr]
      simp
    · rw [decide_eq_true (by omega), decide_eq_true (by omega), Bool.and_true, cond_true, ha, hm, hb, hrec (by omega) (by omega)]
      rfl

theorem f79_m (rec : List Due → Int → Int → Int → Option (List Due)) (n : Nat)
    (hrec : ∀ (P L R Q : List Due), Asc L → Asc R → 0 < L.length → 0 < R.length → L.length + R.length ≤ n → P.length + L.length + R.length + Q.length < 1000000 →
      rec (P ++ (L ++ (R ++ Q))) (P.length : Int) ((P.length + L.length : Nat) : Int) ((P.length + L.length + R.length : Nat) : Int) = some (P ++ (mrg L R ++ Q)))
    (P L R Q : List Due) (hL : Asc L) (hR : Asc R) (h1L : 1 < L.length) (h1R : 1 < R.length) (hn : L.length + R.length ≤ n + 1) (hl : P.length + L.length + R.length + Q.length < 1000000) :
    f79s rec (P ++ (L ++ (R ++ Q))) (P.length : Int) ((P.length + L.length : Nat) : Int) ((P.length + L.length + R.length : Nat) : Int) = some (P ++ (mrg L R ++ Q)) := by
  obtain ⟨a, ha⟩ : ∃ a, a = P.length := ⟨_, rfl⟩
  obtain ⟨m, hm⟩ : ∃ a, a = P.length + L.length := ⟨_, rfl⟩
  obtain ⟨b, hb⟩ : ∃ a, a = P.length + L.length + R.length := ⟨_, rfl⟩
  obtain ⟨mid, hmid⟩ : ∃ x, x = (a + b) / 2 := ⟨_, rfl⟩
  rw [← hb, ← hm, ← ha]
  obtain ⟨F, hF⟩ : ∃ F : Nat, F = 9223372036854775808 := ⟨_, rfl⟩
  rw [f79s_F, ← hF]
  unfold f79sF letk
  dsimp only
  rw [w64 (x := (m : Int) - (a : Int)) (by omega) (by omega), decide_eq_false (by omega : ¬ (m : Int) - (a : Int) = 1), cond_false]
  rw [w64 (x := (b : Int) - (m : Int)) (by omega) (by omega), decide_eq_false (by omega : ¬ (b : Int) - (m : Int) = 1), cond_false]
  rw [mid_eq a b (by omega), ← hmid, w64 (x := (mid : Int) + (m : Int)) (by omega) (by omega)]
  have key := sym_cutk P L R Q hL hR a m b mid ha hm hb hmid h1L h1R hl F hF
  have main : ∀ c : Nat, a ≤ c → c ≤ m → c ≤ mid → mid + m ≤ b + c → (∀ l ∈ L.take (c - a), ∀ r ∈ R.drop (mid - c), ¬ r.time < l.time) → (∀ r ∈ R.take (mid - c), ∀ l ∈ L.drop (c - a), r.time < l.time) →
    ∀ e : Int, IntKind.i64.wrap ((mid : Int) + (m : Int) - (c : Int)) = e →
    (bif (decide ((c : Int) < (m : Int)) && decide ((m : Int) < e)) then Option.bind (f83 (P ++ (L ++ (R ++ Q))) (c : Int) (m : Int) e) (fun r287 =>
      (bif (decide ((a : Int) < (c : Int)) && decide ((c : Int) < (mid : Int))) then Option.bind (rec r287 (a : Int) (c : Int) (mid : Int)) (fun r290 =>
        (bif (decide ((mid : Int) < e) && decide (e < (b : Int))) then Option.bind (rec r290 (mid : Int) e (b : Int)) (fun r291 => some r291) else some r290))
      else (bif (decide ((mid : Int) < e) && decide (e < (b : Int))) then Option.bind (rec r287 (mid : Int) e (b : Int)) (fun r291 => some r291) else some r287)))
    else (bif (decide ((a : Int) < (c : Int)) && decide ((c : Int) < (mid : Int))) then Option.bind (rec (P ++ (L ++ (R ++ Q))) (a : Int) (c : Int) (mid : Int)) (fun r290 =>
        (bif (decide ((mid : Int) < e) && decide (e < (b : Int))) then Option.bind (rec r290 (mid : Int) e (b : Int)) (fun r291 => some r291) else some r290))
      else (bif (decide ((mid : Int) < e) && decide (e < (b : Int))) then Option.bind (rec (P ++ (L ++ (R ++ Q))) (mid : Int) e (b : Int)) (fun r291 => some r291) else some (P ++ (L ++ (R ++ Q)))))) = some (P ++ (mrg L R ++ Q)) := by
    intro c c1 c2 c3 c4 s1 s2 e he
    rw [w64 (by omega) (by omega)] at he
    have l1 : (L.take (c - a)).length = c - a := by rw [List.length_take]; omega
    have l2 : (L.drop (c - a)).length = m - c := by rw [List.length_drop]; omega
    have r1 : (R.take (mid - c)).length = mid - c := by rw [List.length_take]; omega
    have r2 : (R.drop (mid - c)).length = R.length - (mid - c) := by rw [List.length_drop]
    have aL : L = L.take (c - a) ++ L.drop (c - a) := (List.take_append_drop _ _).symm
    have aR : R = R.take (mid - c) ++ R.drop (mid - c) := (List.take_append_drop _ _).symm
    generalize L.take (c - a) = L1 at l1 aL s1 s2
    generalize L.drop (c - a) = L2 at l2 aL s1 s2
    generalize R.take (mid - c) = R1 at r1 aR s1 s2
    generalize R.drop (mid - c) = R2 at r2 aR s1 s2
    subst aL; subst aR
    simp only [List.length_append] at hm hb hl h1L h1R hn r2
    have ascL := asc_app hL
    have ascR := asc_app hR
    refine (rot_stage P L1 L2 R1 R2 Q _ _ _ _ (by omega) (by omega) (by omega) (by omega)).trans ?_
    refine (rec_stage rec P L1 R1 (L2 ++ (R2 ++ Q)) _ _ _ _ _ rfl (by omega) (by omega) (by omega) (fun x y => hrec P L1 R1 (L2 ++ (R2 ++ Q)) ascL.1 ascR.1 x y (by omega) (by simp only [List.length_append]; omega))).trans ?_
    have ml := mrg_length L1 R1
    refine (rec_stage rec (P ++ mrg L1 R1) L2 R2 Q _ _ _ _ _ (by simp) (by rw [List.length_append]; omega) (by rw [List.length_append]; omega) (by rw [List.length_append]; omega) (fun x y => hrec (P ++ mrg L1 R1) L2 R2 Q ascL.2 ascR.2 x y (by omega) (by simp only [List.length_append]; omega))).trans ?_
    rw [mrg_split L1 R1 L2 R2 s1 s2]
    simp
  by_cases hc : mid < m
  · rw [decide_eq_true (by omega : (m : Int) > (mid : Int)), cond_true, w64 (x := (mid : Int) + (m : Int) - (b : Int)) (by omega) (by omega)]
    refine key _ _ _ _ (by rw [if_pos hc]; omega) (by rw [if_pos hc]) (fun c c1 c2 c3 c4 s1 s2 => ?_)
    exact main c c1 c2 c3 c4 s1 s2 _ rfl
  · rw [decide_eq_false (by omega : ¬ (m : Int) > (mid : Int)), cond_false]
    refine key _ _ _ _ (by rw [if_neg hc]) (by rw [if_neg hc]) (fun c c1 c2 c3 c4 s1 s2 => ?_)
    exact main c c1 c2 c3 c4 s1 s2 _ rfl

theorem f79_eq : ∀ (n : Nat) (P L R Q : List Due), Asc L → Asc R → 0 < L.length → 0 < R.length → L.length + R.length ≤ n → P.length + L.length + R.length + Q.length < 1000000 →
      f79 n (P ++ (L ++ (R ++ Q))) (P.length : Int) ((P.length + L.length : Nat) : Int) ((P.length + L.length + R.length : Nat) : Int) = some (P ++ (mrg L R ++ Q)) := by
  intro n
  induction n with
  | zero => intro P L R Q _ _ h1 h2 h; omega
  | succ n ih =>
    intro P L R Q hL hR h1 h2 hn hl
    show f79s (f79 n) _ _ _ _ = _
    by_cases e1 : L.length = 1
    · obtain ⟨z, rfl⟩ := len_one e1
      exact f79_l (f79 n) P R Q z hR h2 (by simp only [List.length_singleton] at hl; omega)
    · by_cases e2 : R.length = 1
      · obtain ⟨z, rfl⟩ := len_one e2
        exact f79_r (f79 n) P L Q z hL (by omega) (by simp only [List.length_singleton] at hl; omega)
      · exact f79_m (f79 n) n ih P L R Q hL hR (by omega) (by omega) hn hl
end Go.Proofs.Ytpionlekbfoccaa
set_option maxRecDepth 10000
namespace Go.Proofs.Ytpionlekbfoccaa
open Go Go.Sk

theorem letk_eq {α β : Sort _} (k : α) (f : α → β) : letk k f = f k := rfl
/-- x comes in before the first one that is later. -/
def insU (x : Due) : List Due → List Due
  | [] => [x]
  | z :: L => if x.time < z.time then x :: z :: L else z :: insU x L
theorem insU_append_le (x : Due) : ∀ (A B : List Due), (∀ a ∈ A, ¬ x.time < a.time) → insU x (A ++ B) = A ++ insU x B
  | [], B, _ => rfl
  | a :: A, B, h => by
    rw [List.cons_append, insU, if_neg (h a List.mem_cons_self), insU_append_le x A B (fun a ha => h a (List.mem_cons_of_mem _ ha))]
    rfl
theorem insU_gt (x : Due) : ∀ (B : List Due), (∀ b ∈ B, x.time < b.time) → insU x B = x :: B
  | [], _ => rfl
  | b :: B, h => by rw [insU, if_pos (h b List.mem_cons_self)]
/-- an ascending list's cut by a time -/
theorem asc_cut (t : Int) : ∀ (L : List Due), Asc L → ∃ A B, L = A ++ B ∧ (∀ a ∈ A, ¬ t < a.time) ∧ (∀ b ∈ B, t < b.time)
  | [], _ => ⟨[], [], rfl, fun a h => by simp at h, fun a h => by simp at h⟩
  | z :: L, h => by
    have hp := List.pairwise_cons.1 h
    by_cases c : t < z.time
    · refine ⟨[], z :: L, rfl, fun a h => by simp at h, fun b hb => ?_⟩
      rcases List.mem_cons.1 hb with e | e
      · rw [e]; exact c
      · exact Int.lt_of_lt_of_le c (hp.1 b e)
    · obtain ⟨A, B, h1, h2, h3⟩ := asc_cut t L hp.2
      refine ⟨z :: A, B, by rw [h1]; rfl, fun a ha => ?_, h3⟩
      rcases List.mem_cons.1 ha with e | e
      · rw [e]; exact c
      · exact h2 a e
theorem insU_cut (x : Due) (A B : List Due) (h1 : ∀ a ∈ A, ¬ x.time < a.time) (h2 : ∀ b ∈ B, x.time < b.time) : insU x (A ++ B) = A ++ x :: B := by
  rw [insU_append_le x A B h1, insU_gt x B h2]
theorem downR_app (y : Due) : ∀ (B A : List Due), (∀ b ∈ B, y.time < b.time) → downR y (B ++ A) = downR y A ++ B.reverse
  | [], A, _ => by simp
  | b :: B, A, h => by
    rw [List.cons_append, downR, if_pos (h b List.mem_cons_self), downR_app y B A (fun b hb => h b (List.mem_cons_of_mem _ hb))]
    simp
theorem downR_le (y : Due) : ∀ (A : List Due), (∀ a ∈ A, ¬ y.time < a.time) → downR y A = A.reverse ++ [y]
  | [], _ => rfl
  | a :: A, h => by rw [downR, if_neg (h a List.mem_cons_self)]
theorem downR_insU (x : Due) (L : List Due) (h : Asc L) : downR x L.reverse = insU x L := by
  obtain ⟨A, B, rfl, h1, h2⟩ := asc_cut x.time L h
  rw [insU_cut x A B h1 h2, List.reverse_append, downR_app x _ _ (fun b hb => h2 b (List.mem_reverse.1 hb)), downR_le x _ (fun a ha => h1 a (List.mem_reverse.1 ha))]
  simp
theorem insU_asc (x : Due) (L : List Due) (h : Asc L) : Asc (insU x L) := by
  obtain ⟨A, B, rfl, h1, h2⟩ := asc_cut x.time L h
  rw [insU_cut x A B h1 h2]
  have hp := List.pairwise_append.1 h
  refine List.pairwise_append.2 ⟨hp.1, List.pairwise_cons.2 ⟨fun b hb => Int.le_of_lt (h2 b hb), hp.2.1⟩, fun a ha b hb => ?_⟩
  rcases List.mem_cons.1 hb with e | e
  · rw [e]; exact Int.not_lt.1 (h1 a ha)
  · exact hp.2.2 a ha b e
/-- the merge of the two halves -/
theorem mrg_insU (A B : List Due) (x : Due) (h : Asc (A ++ B)) : mrg A (insU x B) = insU x (A ++ B) := by
  have hp := List.pairwise_append.1 h
  have m0 : ∀ (X Y : List Due), (∀ a ∈ X, ∀ b ∈ Y, ¬ b.time < a.time) → mrg X Y = X ++ Y := fun X Y hh => by
    have := mrg_split X [] [] Y hh (fun r hr => by simp at hr)
    simpa [mrg_nil, mrg_nr] using this
  obtain ⟨A1, A2, rfl, h1, h2⟩ := asc_cut x.time A hp.1
  by_cases e : A2 = []
  · subst e
    rw [List.append_nil] at *
    rw [insU_append_le x A1 B h1]
    refine m0 _ _ (fun a ha b hb => ?_)
    obtain ⟨B1, B2, rfl, g1, g2⟩ := asc_cut x.time B hp.2.1
    rw [insU_cut x B1 B2 g1 g2] at hb
    rcases List.mem_append.1 hb with hb | hb
    · exact Int.not_lt.2 (hp.2.2 a ha b (List.mem_append_left _ hb))
    · rcases List.mem_cons.1 hb with hb | hb
      · rw [hb]; exact h1 a ha
      · exact Int.not_lt.2 (hp.2.2 a ha b (List.mem_append_right _ hb))
  · obtain ⟨y, hy⟩ : ∃ y, y ∈ A2 := by
      cases A2 with
      | nil => exact absurd rfl e
      | cons y A2 => exact ⟨y, List.mem_cons_self⟩
    have hB : ∀ b ∈ B, x.time < b.time := fun b hb => Int.lt_of_lt_of_le (h2 y hy) (hp.2.2 y (List.mem_append_right _ hy) b hb)
    rw [insU_gt x B hB, List.append_assoc, insU_append_le x A1 _ h1, insU_gt x (A2 ++ B) (fun b hb => by
      rcases List.mem_append.1 hb with hb | hb
      · exact h2 b hb
      · exact hB b hb)]
    have s1 := mrg_split A1 [] A2 (x :: B) (fun l hl r hr => by
      rcases List.mem_cons.1 hr with hr | hr
      · rw [hr]; exact h1 l hl
      · have := hp.2.2 l (List.mem_append_left _ hl) r hr; omega) (fun r hr => by simp at hr)
    have s2 := mrg_split [] [x] A2 B (fun l hl => by simp at hl) (fun r hr l hl => by rw [List.mem_singleton.1 hr]; exact h2 l hl)
    rw [List.nil_append, mrg_nr] at s1
    simp only [List.nil_append, mrg_nil, List.cons_append] at s2
    rw [s1, s2, m0 A2 B (fun a ha b hb => Int.not_lt.2 (hp.2.2 a (List.mem_append_right _ ha) b hb))]

theorem f78_l1_asc (a b : Nat) (P R : List Due) (hP : P.length = a) : ∀ (S T : List Due) (n : Nat) (i : Int), Asc (T ++ S) → i = ((a + T.length : Nat) : Int) → 0 < T.length → b = a + T.length + S.length → S.length < n → a + T.length + S.length < 1000000 →
    f78_l1 (a : Int) (b : Int) n i (P ++ ((T ++ S) ++ R)) = some (P ++ ((T ++ S) ++ R)) := by
  intro S
  induction S with
  | nil =>
    intro T n i hA hi h0 hb hn hl
    obtain ⟨n, rfl⟩ : ∃ m, n = m + 1 := ⟨n - 1, by simp at hn; omega⟩
    subst hi
    rw [List.length_nil] at hb
    rw [f78_l1, decide_eq_false (by omega), cond_false]
  | cons s S ih =>
    intro T n i hA hi h0 hb hn hl
    simp only [List.length_cons] at hb hn hl
    obtain ⟨n, rfl⟩ : ∃ m, n = m + 1 := ⟨n - 1, by omega⟩
    subst hi
    have hT : ∀ t ∈ T.reverse, ¬ s.time < t.time := fun t ht => Int.not_lt.2 ((List.pairwise_append.1 hA).2.2 t (List.mem_reverse.1 ht) s List.mem_cons_self)
    rw [f78_l1, decide_eq_true (by omega), cond_true]
    unfold letk
    have e : P ++ ((T ++ s :: S) ++ R) = P ++ ((T.reverse).reverse ++ s :: (S ++ R)) := by simp
    obtain ⟨F, hF⟩ : ∃ F : Nat, F = 9223372036854775808 := ⟨_, rfl⟩
    rw [← hF, e]
    dsimp only
    rw [f78_l2_eq a _ P hP s T.reverse F _ (S ++ R) (by rw [List.length_reverse]) (by rw [List.length_reverse]; omega) (by rw [List.length_reverse]; omega)]
    rw [downR_le s _ hT, List.reverse_reverse, w64 (by omega) (by omega)]
    have := ih (T ++ [s]) n (((a + T.length : Nat) : Int) + 1) (by simpa using hA) (by simp; omega) (by simp) (by simp; omega) (by omega) (by simp; omega)
    simpa using this
/-- an ascending block with one more at its end -/
theorem f78_l1_one (a b : Nat) (P R : List Due) (x : Due) (hP : P.length = a) : ∀ (S T : List Due) (n : Nat) (i : Int), Asc (T ++ S) → i = ((a + T.length : Nat) : Int) → 0 < T.length → b = a + T.length + S.length + 1 → S.length + 1 < n → a + T.length + S.length < 1000000 →
    f78_l1 (a : Int) (b : Int) n i (P ++ ((T ++ S) ++ (x :: R))) = some (P ++ (insU x (T ++ S) ++ R)) := by
  intro S
  induction S with
  | nil =>
    intro T n i hA hi h0 hb hn hl
    obtain ⟨n, rfl⟩ : ∃ m, n = m + 2 := ⟨n - 2, by simp at hn; omega⟩
    subst hi
    rw [List.length_nil] at hb
    rw [f78_l1, decide_eq_true (by omega), cond_true]
    unfold letk
    have e : P ++ ((T ++ []) ++ x :: R) = P ++ ((T.reverse).reverse ++ x :: R) := by simp
    obtain ⟨F, hF⟩ : ∃ F : Nat, F = 9223372036854775808 := ⟨_, rfl⟩
    rw [← hF, e]
    dsimp only
    rw [f78_l2_eq a _ P hP x T.reverse F _ R (by rw [List.length_reverse]) (by rw [List.length_reverse]; omega) (by rw [List.length_reverse]; omega)]
    rw [downR_insU x T (asc_app hA).1, w64 (by omega) (by omega)]
    rw [f78_l1, decide_eq_false (by omega), cond_false, List.append_nil]
  | cons s S ih =>
    intro T n i hA hi h0 hb hn hl
    simp only [List.length_cons] at hb hn hl
    obtain ⟨n, rfl⟩ : ∃ m, n = m + 1 := ⟨n - 1, by omega⟩
    subst hi
    have hT : ∀ t ∈ T.reverse, ¬ s.time < t.time := fun t ht => Int.not_lt.2 ((List.pairwise_append.1 hA).2.2 t (List.mem_reverse.1 ht) s List.mem_cons_self)
    rw [f78_l1, decide_eq_true (by omega), cond_true]
    unfold letk
    have e : P ++ ((T ++ s :: S) ++ x :: R) = P ++ ((T.reverse).reverse ++ s :: (S ++ x :: R)) := by simp
    obtain ⟨F, hF⟩ : ∃ F : Nat, F = 9223372036854775808 := ⟨_, rfl⟩
    rw [← hF, e]
    dsimp only
    rw [f78_l2_eq a _ P hP s T.reverse F _ (S ++ x :: R) (by rw [List.length_reverse]) (by rw [List.length_reverse]; omega) (by rw [List.length_reverse]; omega)]
    rw [downR_le s _ hT, List.reverse_reverse, w64 (by omega) (by omega)]
    have := ih (T ++ [s]) n (((a + T.length : Nat) : Int) + 1) (by simpa using hA) (by simp; omega) (by simp) (by simp; omega) (by omega) (by simp; omega)
    simpa using this
theorem f78_end (a b : Nat) (X : List Due) (h : b ≤ a + 1) (hl : a < 1000000) : f78 X (a : Int) (b : Int) = some X := by
  unfold f78
  obtain ⟨F, hF⟩ : ∃ F : Nat, 9223372036854775808 = F + 1 := ⟨_, rfl⟩
  rw [hF, w64 (by omega) (by omega), f78_l1, decide_eq_false (by omega), cond_false]
theorem f78_asc (a b : Nat) (P L R : List Due) (hP : P.length = a) (hA : Asc L) (hb : b = a + L.length) (hl : b < 1000000) : f78 (P ++ (L ++ R)) (a : Int) (b : Int) = some (P ++ (L ++ R)) := by
  cases L with
  | nil => exact f78_end a b _ (by rw [List.length_nil] at hb; omega) (by omega)
  | cons l L =>
    unfold f78
    rw [List.length_cons] at hb
    obtain ⟨F, hF⟩ : ∃ F : Nat, F = 9223372036854775808 := ⟨_, rfl⟩
    rw [← hF, w64 (by omega) (by omega)]
    exact f78_l1_asc a b P R hP L [l] F _ hA (by simp) (by simp) (by simp; omega) (by omega) (by simp; omega)
theorem f78_one (a b : Nat) (P L R : List Due) (x : Due) (hP : P.length = a) (hA : Asc L) (hb : b = a + L.length + 1) (hl : b < 1000000) : f78 (P ++ (L ++ x :: R)) (a : Int) (b : Int) = some (P ++ (insU x L ++ R)) := by
  cases L with
  | nil =>
    rw [f78_end a b _ (by rw [List.length_nil] at hb; omega) (by omega)]
    rfl
  | cons l L =>
    unfold f78
    rw [List.length_cons] at hb
    obtain ⟨F, hF⟩ : ∃ F : Nat, F = 9223372036854775808 := ⟨_, rfl⟩
    rw [← hF, w64 (by omega) (by omega)]
    exact f78_l1_one a b P R x hP L [l] F _ hA (by simp) (by simp) (by simp; omega) (by omega) (by simp; omega)
theorem insU_length (x : Due) : ∀ L : List Due, (insU x L).length = L.length + 1
  | [] => rfl
  | z :: L => by
    rw [insU]; split
    · rfl
    · rw [List.length_cons, insU_length x L]; rfl
theorem f36_eq (L : List Due) (x : Due) (h : Asc L) (hl : L.length ≤ 32) : f36 (L ++ [x]) = some (insU x L) := by
  have hlen : (L ++ [x]).length = L.length + 1 := by simp
  unfold f36 f68 letk
  rw [hlen]
  obtain ⟨F, hF⟩ : ∃ F : Nat, 9223372036854775808 = F + 3 := ⟨_, rfl⟩
  rw [hF]
  dsimp only
  by_cases c : L.length < 19
  · rw [f68_l1, decide_eq_false (by omega), cond_false]
    have := f78_one 0 (L.length + 1) [] L [] x rfl h (by omega) (by omega)
    simp only [List.nil_append, List.append_nil] at this
    rw [show ((0 : Nat) : Int) = 0 from rfl] at this
    rw [this, Option.bind_some, f68_l2, decide_eq_false (by omega), cond_false, Option.bind_some]
  · by_cases c2 : L.length = 19
    · rw [f68_l1, decide_eq_true (by omega), cond_true]
      have := f78_one 0 20 [] L [] x rfl h (by omega) (by omega)
      simp only [List.nil_append, List.append_nil] at this
      rw [show ((0 : Nat) : Int) = 0 from rfl, show ((20 : Nat) : Int) = 20 from rfl] at this
      rw [this, Option.bind_some, w64 (by omega) (by omega), f68_l1, decide_eq_false (by omega), cond_false]
      have := f78_end 20 (L.length + 1) (insU x L) (by omega) (by omega)
      rw [show ((20 : Nat) : Int) = 20 from rfl] at this
      rw [this, Option.bind_some, f68_l2, decide_eq_false (by omega), cond_false, Option.bind_some]
    · have aL : L = L.take 20 ++ L.drop 20 := (List.take_append_drop _ _).symm
      have l1 : (L.take 20).length = 20 := by rw [List.length_take]; omega
      have l2 : (L.drop 20).length = L.length - 20 := List.length_drop
      generalize L.take 20 = A at aL l1
      generalize L.drop 20 = B at aL l2
      subst aL
      have hAB := asc_app h
      rw [List.length_append] at *
      rw [f68_l1, decide_eq_true (by omega), cond_true]
      have e1 := f78_asc 0 20 [] A (B ++ [x]) rfl hAB.1 (by omega) (by omega)
      rw [show ((0 : Nat) : Int) = 0 from rfl, show ((20 : Nat) : Int) = 20 from rfl, List.nil_append, ← List.append_assoc] at e1
      rw [e1, Option.bind_some, w64 (by omega) (by omega), f68_l1, decide_eq_false (by omega), cond_false]
      have e2 := f78_one 20 (A.length + B.length + 1) A B [] x l1 hAB.2 (by omega) (by omega)
      rw [show ((20 : Nat) : Int) = 20 from rfl, List.append_nil, ← List.append_assoc] at e2
      rw [e2, Option.bind_some, f68_l2, decide_eq_true (by omega), cond_true]
      obtain ⟨F2, hF2⟩ : ∃ F2 : Nat, 9223372036854775808 = F2 + 1 := ⟨_, rfl⟩
      rw [hF2, w64 (x := 2 * 20) (by omega) (by omega)]
      rw [letk_eq, f68_l3]
      rw [decide_eq_false (by omega), cond_false, letk_eq, w64 (x := 0 + 20) (by omega) (by omega), decide_eq_true (by omega), cond_true]
      have e3 := f79_eq 64 [] A (insU x B) [] hAB.1 (insU_asc x B hAB.2) (by omega) (by rw [insU_length]; omega) (by rw [insU_length]; omega) (by rw [insU_length]; simp; omega)
      simp only [List.nil_append, List.append_nil, List.length_nil, Nat.zero_add, insU_length] at e3
      have e4 : ∀ x1 x2 x3 : Int, x1 = 0 → x2 = (A.length : Int) → x3 = ((A.length + (B.length + 1) : Nat) : Int) → f79 64 (A ++ insU x B) x1 x2 x3 = some (mrg A (insU x B)) := fun x1 x2 x3 h1 h2 h3 => by
        rw [h1, h2, h3]; exact e3
      rw [e4 _ _ _ rfl (by omega) (by omega), Option.bind_some, w64 (by omega) (by omega)]
      show (f68_l2 _ (F + 2) _ _).bind _ = _
      rw [f68_l2, decide_eq_false (by omega), cond_false, Option.bind_some, mrg_insU A B x h]
end Go.Proofs.Ytpionlekbfoccaa
set_option maxRecDepth 10000
namespace Go.Proofs.Ytpionlekbfoccaa
open Go Go.Sk

def okD : List Due → Int → List (Int × Bool) → Bool
  | [], _, _ => true
  | x :: d, a, m => f30 x.task && (!(inM m x.task)) && decide (a ≤ x.time) && decide (x.time ≤ 9007199254740992) && okD d x.time (mpPut m x.task true)
theorem f10_l3_eq (q : Queues) (hl : q.delays.length < 9223372036854775808) : ∀ (n i : Nat) (z a : Int) (m : List (Int × Bool)), z = (i : Int) → q.delays.length < n + i → i ≤ q.delays.length →
    f10_l3 q (fun _ => some true) n a z m = some (okD (q.delays.drop i) a m)
  | 0, i, z, a, m, hz, hn, hi => by omega
  | n + 1, i, z, a, m, hz, hn, hi => by
    subst hz
    rw [f10_l3]
    by_cases hh : i < q.delays.length
    · rw [decide_eq_true (by omega : (i : Int) < (q.delays.length : Int)), cond_true, idx_in hh, Option.bind_some, w64 (by omega) (by omega), drop_cons hh, okD]
      rw [f10_l3_eq q hl n (i + 1) ((i : Int) + 1) _ _ (by push_cast; rfl) (by omega) (by omega)]
      show (bif (((!(f30 _)) || inM m _) || _) || _ then _ else _) = _
      cases h1 : f30 (q.delays[i]).task
      · rfl
      · cases h2 : inM m (q.delays[i]).task
        · by_cases h3 : a ≤ (q.delays[i]).time
          · rw [decide_eq_false (by omega : ¬ (q.delays[i]).time < a), decide_eq_true h3]
            by_cases h4 : (q.delays[i]).time ≤ 9007199254740992
            · rw [decide_eq_false (by omega : ¬ (q.delays[i]).time > 9007199254740992), decide_eq_true h4]
              simp
            · rw [decide_eq_true (by omega : (q.delays[i]).time > 9007199254740992), decide_eq_false h4]
              simp
          · rw [decide_eq_true (by omega : (q.delays[i]).time < a), decide_eq_false h3]
            simp
        · rfl
    · rw [decide_eq_false (by omega : ¬ (i : Int) < (q.delays.length : Int)), cond_false, List.drop_eq_nil_of_le (by omega)]
      rfl

/-- The delay queue is valid. -/
structure DOk (d : List Due) : Prop where
  num : ∀ x ∈ d, 0 ≤ x.task ∧ x.task < 32
  nd : (d.map Due.task).Nodup
  asc : Asc d
  tm : ∀ x ∈ d, 0 ≤ x.time ∧ x.time ≤ 9007199254740992
theorem okD_iff : ∀ (d : List Due) (a : Int) (m : List (Int × Bool)), okD d a m = true ↔ (∀ x ∈ d, 0 ≤ x.task ∧ x.task < 32) ∧ (d.map Due.task).Nodup ∧ Asc d ∧ (∀ x ∈ d, a ≤ x.time ∧ x.time ≤ 9007199254740992) ∧ ∀ x ∈ d, inM m x.task = false
  | [], a, m => by simp [okD, Asc]
  | x :: d, a, m => by
    rw [okD]
    simp only [Bool.and_eq_true, okD_iff d, f30_iff, inM_put, List.mem_cons, List.map_cons, List.nodup_cons, Bool.or_eq_false_iff, decide_eq_false_iff_not, Bool.not_eq_true', forall_eq_or_imp, decide_eq_true_eq, Asc, List.pairwise_cons, List.mem_map, not_exists, not_and]
    constructor
    · rintro ⟨⟨⟨⟨h1, h2⟩, h3⟩, h4⟩, h5, h6, h7, h8, h9⟩
      exact ⟨⟨h1, h5⟩, ⟨fun y hy e => (h9 y hy).1 e.symm, h6⟩, ⟨fun y hy => (h8 y hy).1, h7⟩, ⟨⟨h3, h4⟩, fun y hy => ⟨Int.le_trans h3 (h8 y hy).1, (h8 y hy).2⟩⟩, h2, fun y hy => (h9 y hy).2⟩
    · rintro ⟨⟨h1, h5⟩, ⟨h9, h6⟩, ⟨h10, h7⟩, ⟨⟨h3, h4⟩, h8⟩, h2, h11⟩
      exact ⟨⟨⟨⟨h1, h2⟩, h3⟩, h4⟩, h5, h6, h7, fun y hy => ⟨h10 y hy, (h8 y hy).2⟩, fun y hy => ⟨fun e => h9 y hy e.symm, h11 y hy⟩⟩
theorem DQ_eq (d : List Due) (hl : d.length < 9223372036854775808) : DQ d = some (okD d 0 []) :=
  f10_l3_eq ⟨fun _ => [], d, 0⟩ hl _ 0 _ _ _ rfl (by simp) (by simp)
theorem DQ_iff (d : List Due) (hl : d.length < 9223372036854775808) : DQ d = some true ↔ DOk d := by
  rw [DQ_eq d hl, Option.some.injEq, okD_iff]
  exact ⟨fun ⟨a, b, c, e, _⟩ => ⟨a, b, c, e⟩, fun ⟨a, b, c, e⟩ => ⟨a, b, c, e, fun _ _ => rfl⟩⟩
theorem Ok.dok {q : Queues} (h : Ok q) : DOk q.delays := (DQ_iff _ h.b.d).1 h.d
theorem DOk.len {d : List Due} (h : DOk d) : d.length ≤ 32 := by
  have := nodup_len 32 _ h.nd (fun x hx => by
    obtain ⟨y, hy, rfl⟩ := List.mem_map.1 hx
    exact h.num y hy)
  simpa using this
theorem Ok.set_d {q : Queues} (h : Ok q) {d : List Due} (hd : DOk d) : Ok ⟨q.ready, d, q.run⟩ := by
  have hl := hd.len
  exact Ok.mk2 ⟨h.r.run, h.r.num, h.r.nd, h.r.ap, h.r.out⟩ (show d.length < _ by omega) ((DQ_iff d (by omega)).2 hd)

/-! ### Put -/
theorem f77_eq (L : List Due) (x : Int) (hl : L.length < 9223372036854775808) : ∀ (n i : Nat) (z : Int), z = (i : Int) → i ≤ L.length → L.length < n + i → ∃ r, f77_l1 L (fun z0 => some (f67 z0 x)) (fun _ => some (-1)) n z = some r ∧ (0 ≤ r ↔ ∃ d ∈ L.drop i, d.task = x)
  | 0, i, z, _, _, h => by omega
  | n + 1, i, z, hz, hi, h => by
    subst hz
    rw [f77_l1]
    by_cases hh : i < L.length
    · rw [decide_eq_true (by omega : (i : Int) < (L.length : Int)), cond_true, idx_in hh, Option.bind_some, w64 (by omega) (by omega), drop_cons hh, Option.bind_some]
      unfold f67
      by_cases e : (L[i]).task = x
      · rw [decide_eq_true e, cond_true]
        exact ⟨_, rfl, ⟨fun _ => ⟨_, List.mem_cons_self, e⟩, fun _ => by omega⟩⟩
      · rw [decide_eq_false e, cond_false]
        obtain ⟨r, h1, h2⟩ := f77_eq L x hl n (i + 1) ((i : Int) + 1) (by push_cast; rfl) (by omega) (by omega)
        refine ⟨r, h1, h2.trans ?_⟩
        constructor
        · rintro ⟨d, a, b⟩; exact ⟨d, List.mem_cons_of_mem _ a, b⟩
        · rintro ⟨d, a, b⟩
          rcases List.mem_cons.1 a with a | a
          · exact absurd (by rw [← a]; exact b) e
          · exact ⟨d, a, b⟩
    · have hd : L.drop i = [] := List.drop_eq_nil_of_le (by omega)
      rw [decide_eq_false (by omega : ¬ (i : Int) < (L.length : Int)), cond_false, hd]
      exact ⟨_, rfl, by simp⟩
def waits (d : List Due) (x : Int) : Bool := d.any (fun y => decide (y.task = x))
theorem waits_iff (d : List Due) (x : Int) : waits d x = true ↔ ∃ y ∈ d, y.task = x := by simp [waits]
theorem f35_eq (q : Queues) (x : Int) (hl : q.delays.length < 9223372036854775808) : f35 q x = some (waits q.delays x) := by
  unfold f35 f66 f77 letk
  dsimp only
  obtain ⟨r, h1, h2⟩ := f77_eq q.delays x hl (Int.toNat ((List.length q.delays : Int) - 0) + 1) 0 0 rfl (by omega) (by simp)
  rw [h1, Option.bind_some, Option.bind_some]
  rw [List.drop_zero] at h2
  congr 1
  by_cases e : 0 ≤ r
  · rw [decide_eq_true e]; exact ((waits_iff _ _).2 (h2.1 e)).symm
  · rw [decide_eq_false e]
    cases hw : waits q.delays x with
    | false => rfl
    | true => exact absurd (h2.2 ((waits_iff _ _).1 hw)) e
theorem insU_mem (x : Due) : ∀ (L : List Due) (y : Due), y ∈ insU x L ↔ y = x ∨ y ∈ L
  | [], y => by simp [insU]
  | z :: L, y => by
    rw [insU]
    split
    · simp
    · rw [List.mem_cons, insU_mem x L y, List.mem_cons]
      constructor <;> rintro (h | h | h) <;> simp [h]
theorem insU_perm (x : Due) : ∀ (L : List Due), (insU x L).Perm (x :: L)
  | [] => List.Perm.refl _
  | z :: L => by
    rw [insU]
    split
    · exact List.Perm.refl _
    · exact ((insU_perm x L).cons z).trans (List.Perm.swap x z L)
theorem put_dok {d : List Due} (h : DOk d) {x : Due} (h1 : 0 ≤ x.task ∧ x.task < 32) (h2 : 0 ≤ x.time ∧ x.time ≤ 9007199254740992) (h3 : waits d x.task = false) : DOk (insU x d) := by
  have hn : x.task ∉ d.map Due.task := fun hm => by
    obtain ⟨y, hy, e⟩ := List.mem_map.1 hm
    have : waits d x.task = true := (waits_iff _ _).2 ⟨y, hy, e⟩
    rw [h3] at this; cases this
  refine ⟨fun y hy => ?_, ?_, insU_asc x d h.asc, fun y hy => ?_⟩
  · rcases (insU_mem x d y).1 hy with e | e
    · rw [e]; exact h1
    · exact h.num y e
  · exact (((insU_perm x d).map Due.task).nodup_iff).2 (by rw [List.map_cons, List.nodup_cons]; exact ⟨hn, h.nd⟩)
  · rcases (insU_mem x d y).1 hy with e | e
    · rw [e]; exact h2
    · exact h.tm y e
/-- Put on valid queues. -/
theorem putq_eq {q : Queues} (h : Ok q) (time task : Int) : f17 q time task = some (
    if (0 ≤ task ∧ task < 32) ∧ 0 ≤ time ∧ time ≤ 9007199254740992 then (if waits q.delays task then (⟨fun _ => [], [], 0⟩, 7) else (⟨q.ready, insU ⟨time, task⟩ q.delays, q.run⟩, 0)) else (⟨fun _ => [], [], 0⟩, 2)) := by
  unfold f17
  rw [h.may, Option.bind_some, Bool.not_true, Bool.false_or]
  by_cases h1 : 0 ≤ task ∧ task < 32
  · rw [(f30_iff task).2 h1, Bool.not_true, Bool.false_or]
    by_cases h2 : 0 ≤ time ∧ time ≤ 9007199254740992
    · rw [decide_eq_false (by omega : ¬ time < 0), decide_eq_false (by omega : ¬ time > 9007199254740992), Bool.or_false, cond_false, f35_eq q task h.b.d, Option.bind_some, if_pos ⟨h1, h2⟩]
      cases hw : waits q.delays task with
      | true => rfl
      | false =>
        have hl := h.dok.len
        rw [cond_false, guardB_t _ h.own, guardB_t _ (by simp [appOk, maxLen]; omega), f36_eq q.delays ⟨time, task⟩ h.dok.asc hl, Option.bind_some]
        rfl
    · rw [if_neg (fun a => h2 a.2)]
      by_cases h3 : time < 0
      · rw [decide_eq_true h3]; rfl
      · rw [decide_eq_true (by omega : time > 9007199254740992), Bool.or_true]; rfl
  · rw [if_neg (fun a => h1 a.1)]
    have : f30 task = false := by
      cases hf : f30 task with
      | false => rfl
      | true => exact absurd ((f30_iff _).1 hf) h1
    rw [this]; rfl
end Go.Proofs.Ytpionlekbfoccaa
set_option maxRecDepth 10000
namespace Go.Proofs.Ytpionlekbfoccaa
open Go Go.Sk

def strikeD (x : Int) (L : List Due) : List Due := L.filter (fun y => !decide (y.task = x))
theorem f18_l2_eq (x : Int) (k : Int → List Due → Option (Queues × Int)) : ∀ (n i j : Nat) (a b : Int) (l : List Due), a = (i : Int) → b = (j : Int) → i < j → j ≤ l.length → l.length < n + j → l.length < 9223372036854775808 →
    ∃ (i' : Nat) (l' : List Due), f18_l2 x k n a b l = k (i' : Int) l' ∧ i' ≤ l'.length ∧ l'.length = l.length ∧ l'.take i' = l.take i ++ strikeD x (l.drop j)
  | 0, i, j, a, b, l, _, _, _, _, h, _ => by omega
  | n + 1, i, j, a, b, l, ha, hb, hij, hj, h, hl => by
    subst ha; subst hb
    rw [f18_l2]
    by_cases hh : j < l.length
    · rw [decide_eq_true (by omega : (j : Int) < (l.length : Int)), cond_true]
      unfold letk
      dsimp only
      rw [idx_in hh, Option.bind_some, idx_in (show i < l.length by omega), Option.bind_some, w64 (x := (j : Int) + 1) (by omega) (by omega), w64 (x := (i : Int) + 1) (by omega) (by omega), Int.toNat_natCast, drop_cons hh]
      by_cases e : (l[j]).task = x
      · rw [decide_eq_true e, Bool.not_true, cond_false]
        obtain ⟨i', l', h1, h2, h3, h4⟩ := f18_l2_eq x k n i (j + 1) _ ((j : Int) + 1) l rfl (by push_cast; rfl) (by omega) (by omega) (by omega) hl
        refine ⟨i', l', h1, h2, h3, h4.trans ?_⟩
        unfold strikeD
        rw [List.filter_cons, if_neg (by simp [e])]
      · rw [decide_eq_false e, Bool.not_false, cond_true]
        obtain ⟨i', l', h1, h2, h3, h4⟩ := f18_l2_eq x k n (i + 1) (j + 1) ((i : Int) + 1) ((j : Int) + 1) (l.set i l[j]) (by push_cast; rfl) (by push_cast; rfl) (by omega) (by simp; omega) (by simp; omega) (by simpa using hl)
        refine ⟨i', l', h1, h2, by simpa using h3, h4.trans ?_⟩
        have e1 : (l.set i l[j]).take (i + 1) = l.take i ++ [l[j]] := by
          apply List.ext_getElem?
          intro m
          rw [List.getElem?_take]
          by_cases hm : m < i
          · rw [if_pos (by omega), List.getElem?_set_ne (by omega), List.getElem?_append_left (by simp; omega), List.getElem?_take, if_pos hm]
          · by_cases hm2 : m = i
            · subst hm2
              rw [if_pos (by omega), List.getElem?_set_self (by omega), List.getElem?_append_right (by simp; omega), List.length_take, Nat.min_eq_left (by omega), Nat.sub_self]
              rfl
            · rw [if_neg (by omega), List.getElem?_append_right (by simp; omega), List.length_take]
              exact (List.getElem?_eq_none (by simp; omega)).symm
        have e2 : (l.set i l[j]).drop (j + 1) = l.drop (j + 1) := by
          apply List.ext_getElem?
          intro m
          rw [List.getElem?_drop, List.getElem?_drop, List.getElem?_set_ne (by omega)]
        rw [e1, e2, List.append_assoc]
        unfold strikeD
        rw [List.filter_cons, if_pos (by simp [e])]
        rfl
    · have hd : l.drop j = [] := List.drop_eq_nil_of_le (by omega)
      rw [decide_eq_false (by omega : ¬ (j : Int) < (l.length : Int)), cond_false, hd]
      exact ⟨i, l, rfl, by omega, rfl, by simp [strikeD]⟩

theorem f18_l1_eq (x : Int) (L : List Due) (k64 : Int → Option (Queues × Int)) (k65 : Unit → Option (Queues × Int)) (hl : L.length < 9223372036854775808) : ∀ (n i : Nat) (z : Int), z = (i : Int) → i ≤ L.length → L.length < n + i → (∃ y ∈ L.drop i, y.task = x) →
    ∃ m, i ≤ m ∧ ∃ hm : m < L.length, (L[m]).task = x ∧ (∀ y ∈ (L.take m).drop i, y.task ≠ x) ∧ f18_l1 x L k64 k65 n z = k64 (m : Int)
  | 0, i, z, _, _, h, _ => by omega
  | n + 1, i, z, hz, hi, h, hx => by
    subst hz
    by_cases hh : i < L.length
    · rw [f18_l1, decide_eq_true (by omega : (i : Int) < (L.length : Int)), cond_true, idx_in hh, Option.bind_some]
      unfold letk
      dsimp only
      by_cases e : (L[i]).task = x
      · rw [decide_eq_true e, cond_true]
        exact ⟨i, Nat.le_refl i, hh, e, (fun y hy => by rw [List.drop_eq_nil_of_le (by simp; omega)] at hy; cases hy), rfl⟩
      · rw [decide_eq_false e, cond_false, w64 (by omega) (by omega)]
        rw [drop_cons hh] at hx
        obtain ⟨y, hy, ey⟩ := hx
        have hx2 : ∃ y ∈ L.drop (i + 1), y.task = x := by
          rcases List.mem_cons.1 hy with hy | hy
          · exact absurd (by rw [← hy]; exact ey) e
          · exact ⟨y, hy, ey⟩
        obtain ⟨m, h1, h2, h3, h4, h5⟩ := f18_l1_eq x L k64 k65 hl n (i + 1) ((i : Int) + 1) (by push_cast; rfl) (by omega) (by omega) hx2
        refine ⟨m, by omega, h2, h3, fun y hy => ?_, h5⟩
        have hlt : i < (L.take m).length := by simp; omega
        rw [drop_cons hlt, List.mem_cons] at hy
        rcases hy with hy | hy
        · rw [hy]; simpa using e
        · exact h4 y hy
    · rw [List.drop_eq_nil_of_le (by omega)] at hx
      obtain ⟨y, hy, _⟩ := hx
      cases hy

theorem strikeD_id {x : Int} {L : List Due} (h : ∀ y ∈ L, y.task ≠ x) : strikeD x L = L := by
  unfold strikeD
  rw [List.filter_eq_self]
  intro y hy
  simp [h y hy]
theorem strikeD_at {x : Int} {L : List Due} {m : Nat} (hm : m < L.length) (e : (L[m]).task = x) (h : ∀ y ∈ L.take m, y.task ≠ x) : L.take m ++ strikeD x (L.drop (m + 1)) = strikeD x L := by
  conv => rhs; rw [← List.take_append_drop m L]
  rw [drop_cons hm]
  have h1 := strikeD_id h
  unfold strikeD at h1 ⊢
  rw [List.filter_append, h1, List.filter_cons, if_neg (by simp [e])]
theorem strikeD_dok {d : List Due} (h : DOk d) (x : Int) : DOk (strikeD x d) where
  num y hy := h.num y (List.mem_filter.1 hy).1
  nd := by
    have : ((strikeD x d).map Due.task).Sublist (d.map Due.task) := (List.filter_sublist).map _
    exact this.nodup h.nd
  asc := h.asc.filter _
  tm y hy := h.tm y (List.mem_filter.1 hy).1

/-- Cancel on valid queues. -/
theorem cancel_eq {q : Queues} (h : Ok q) (x : Int) : f18 q x = some (
    if 0 ≤ x ∧ x < 32 then (if waits q.delays x then (⟨q.ready, strikeD x q.delays, q.run⟩, 0) else (⟨fun _ => [], [], 0⟩, 6)) else (⟨fun _ => [], [], 0⟩, 2)) := by
  have hl : q.delays.length < 9223372036854775808 := h.b.d
  unfold f18
  rw [h.may, Option.bind_some, Bool.not_true, Bool.false_or]
  by_cases h1 : 0 ≤ x ∧ x < 32
  · rw [(f30_iff x).2 h1, Bool.not_true, cond_false, f35_eq q x hl, Option.bind_some, if_pos h1]
    cases hw : waits q.delays x with
    | false => rfl
    | true =>
      have e0 : O.f32 q = some q := by unfold O.f32; rw [guardB_t _ h.own]
      have e1 : O.f61o q.delays = some q.delays := by
        unfold O.f61o
        rw [guardB_t]
        have := h.dok.len
        simp [appOk, maxLen] <;> omega
      rw [Bool.not_true, cond_false, e0, Option.bind_some]
      unfold letk
      dsimp only
      rw [e1, Option.bind_some]
      obtain ⟨m, _, h2, h3, h4, h5⟩ := f18_l1_eq x q.delays _ (fun _ => _) hl (Int.toNat ((List.length q.delays : Int) - 0) + 1) 0 0 rfl (by omega) (by simp) (by simpa using (waits_iff _ _).1 hw)
      rw [h5]
      rw [List.drop_zero] at h4
      rw [decide_eq_false (show ¬ (m : Int) = -1 by omega), cond_false, w64 (by omega) (by omega)]
      obtain ⟨i', l', g1, g2, g3, g4⟩ := f18_l2_eq x (fun iq52 l53 => guardB (sliceOk l53 iq52 (List.length l53 : Int)) <|
  guardB (pieceOk l53 (Int.toNat iq52) (Int.toNat (List.length l53 : Int) - Int.toNat iq52)) <|
  guardB (sliceOk (clearF l53 (Int.toNat iq52) (Int.toNat (List.length l53 : Int) - Int.toNat iq52) ((Due.mk 0 0) : Due)) 0 iq52) <|
  some ((Queues.mk q.ready (sliceF (clearF l53 (Int.toNat iq52) (Int.toNat (List.length l53 : Int) - Int.toNat iq52) ((Due.mk 0 0) : Due)) 0 iq52) q.run), 0)) 9223372036854775808 m (m + 1) (m : Int) ((m : Int) + 1) q.delays rfl (by push_cast; rfl) (by omega) (by omega) (by omega) hl
      refine Eq.trans g1 ?_
      rw [strikeD_at h2 h3 h4] at g4
      have hcl : (clearF l' i' (l'.length - i') ((Due.mk 0 0) : Due)).length = l'.length := by simp [clearF]; omega
      have t1 : sliceOk l' (i' : Int) (List.length l' : Int) = true := by simp [sliceOk]; omega
      have t2 : pieceOk l' i' (l'.length - i') = true := by simp [pieceOk]; omega
      have t3 : sliceOk (clearF l' i' (l'.length - i') ((Due.mk 0 0) : Due)) 0 (i' : Int) = true := by simp [sliceOk, hcl]; omega
      have t4 : sliceF (clearF l' i' (l'.length - i') ((Due.mk 0 0) : Due)) 0 (i' : Int) = strikeD x q.delays := by
        rw [← g4]
        show ((l'.take i' ++ (List.replicate (l'.length - i') _ ++ l'.drop (i' + (l'.length - i')))).drop 0).take (i' - 0) = _
        rw [Nat.sub_zero, List.drop_zero, List.take_append_of_le_length (by simp; omega), List.take_take, Nat.min_self]
      rw [guardB_t _ t1]
      simp only [Int.toNat_natCast]
      rw [guardB_t _ t2, guardB_t _ t3, t4]
      rfl
  · rw [if_neg h1]
    have : f30 x = false := by
      cases hf : f30 x with
      | false => rfl
      | true => exact absurd ((f30_iff _).1 hf) h1
    rw [this]; rfl

/-! ### Expire -/
def due (now : Int) (y : Due) : Bool := decide (y.time ≤ now)
theorem f19_l1_eq (now : Int) (q : Queues) (k : Int → List Int → Option (Queues × List Int × Int)) (hl : q.delays.length ≤ 32) : ∀ (n i : Nat) (z : Int) (l : List Int), z = (i : Int) → i ≤ q.delays.length → q.delays.length < n + i → l.length ≤ i →
    f19_l1 now q k n z l = k ((i + ((q.delays.drop i).takeWhile (due now)).length : Nat) : Int) (l ++ ((q.delays.drop i).takeWhile (due now)).map Due.task)
  | 0, i, z, l, _, _, h, _ => by omega
  | n + 1, i, z, l, hz, hi, h, hll => by
    subst hz
    rw [f19_l1]
    by_cases hh : i < q.delays.length
    · rw [decide_eq_true (by omega : (i : Int) < (q.delays.length : Int)), cond_true, idx_in hh, Option.bind_some, Option.bind_some, drop_cons hh, List.takeWhile_cons]
      unfold due
      by_cases e : (q.delays[i]).time ≤ now
      · rw [decide_eq_true e, cond_true, Option.bind_some, guardB_t _ (by simp [appOk, maxLen]; omega), w64 (by omega) (by omega)]
        rw [f19_l1_eq now q k hl n (i + 1) ((i : Int) + 1) _ (by push_cast; rfl) (by omega) (by omega) (by simp; omega)]
        unfold due
        simp only [if_true, List.length_cons, List.map_cons, List.append_assoc, List.cons_append, List.nil_append]
        congr 1
        omega
      · rw [decide_eq_false e, cond_false]
        simp
    · rw [decide_eq_false (by omega : ¬ (i : Int) < (q.delays.length : Int)), cond_false, Option.bind_some, cond_false, List.drop_eq_nil_of_le (by omega)]
      simp
theorem drop_tw {α : Type} (p : α → Bool) : ∀ L : List α, L.drop (L.takeWhile p).length = L.dropWhile p
  | [] => rfl
  | x :: L => by
    rw [List.takeWhile_cons, List.dropWhile_cons]
    split
    · rw [List.length_cons, List.drop_succ_cons, drop_tw p L]
    · rfl
theorem expire_eq {q : Queues} (h : Ok q) (now : Int) : f19 q now = some (⟨q.ready, q.delays.dropWhile (due now), q.run⟩, (q.delays.takeWhile (due now)).map Due.task, 0) := by
  have hl := h.dok.len
  have e0 : O.f32 q = some q := by unfold O.f32; rw [guardB_t _ h.own]
  have htw : (q.delays.takeWhile (due now)).length ≤ q.delays.length := (List.takeWhile_sublist _).length_le
  unfold f19
  rw [h.may, Option.bind_some, Bool.not_true, cond_false, e0, Option.bind_some]
  obtain ⟨F, hF⟩ : ∃ F : Nat, F = 9223372036854775808 := ⟨_, rfl⟩
  rw [← hF, letk_eq, f19_l1_eq now q _ hl F 0 0 [] rfl (by omega) (by omega) (by simp)]
  rw [List.drop_zero, Nat.zero_add, guardB_t _ (by simp [sliceOk]; omega)]
  have : sliceF q.delays ((q.delays.takeWhile (due now)).length : Int) (q.delays.length : Int) = q.delays.dropWhile (due now) := by
    unfold sliceF
    rw [Int.toNat_natCast, Int.toNat_natCast, List.take_of_length_le (by simp), drop_tw]
  rw [this]
  rfl
theorem first_eq {q : Queues} (h : Ok q) : f20 q = some (match q.delays with | [] => (0, false) | x :: _ => (x.time, true)) := by
  unfold f20
  rw [h.may, Option.bind_some, Bool.not_true, Bool.false_or]
  cases hd : q.delays with
  | nil => rfl
  | cons x L =>
    rw [decide_eq_false (by simp only [List.length_cons]; omega), cond_false]
    have := idx_in (L := x :: L) (i := 0) (by simp)
    rw [show ((0 : Nat) : Int) = 0 from rfl] at this
    rw [this, Option.bind_some]
    rfl
end Go.Proofs.Ytpionlekbfoccaa
set_option maxRecDepth 10000
namespace Go.Proofs.Ytpionlekbfoccaa
open Go Go.Sk

def LE2 (a b : Due) : Prop := a.time < b.time ∨ (a.time = b.time ∧ a.task < b.task)
def Lx (d : List Due) : Prop := d.Pairwise LE2
def lt2 (b s : Int) (y : Due) : Prop := b < y.time ∨ (b = y.time ∧ s < y.task)
def can (c i : Int) : Bool := decide ((IntKind.u32.wrap (BitVec.ofInt IntKind.u32.bits (Int.fdiv c (2 ^ min (Int.toNat (IntKind.u64.wrap i)) IntKind.u32.bits)) &&& BitVec.ofInt IntKind.u32.bits 1).toNat) = 1)
/-- an entry of the list of times -/
def Ent (ts : List Int) (y : Due) : Prop := ∃ j, ∃ h : j < ts.length, y = ⟨ts[j], (j : Int)⟩
end Go.Proofs.Ytpionlekbfoccaa
set_option maxRecDepth 10000
namespace Go.Proofs.Ytpionlekbfoccaa
open Go Go.Sk

theorem dw_dok {d : List Due} (h : DOk d) (now : Int) : DOk (d.dropWhile (due now)) where
  num y hy := h.num y ((List.dropWhile_suffix _).subset hy)
  nd := (((List.dropWhile_sublist (due now) (l := d))).map Due.task).nodup h.nd
  asc := List.Pairwise.sublist (List.dropWhile_sublist _) h.asc
  tm y hy := h.tm y ((List.dropWhile_suffix _).subset hy)

end Go.Proofs.Ytpionlekbfoccaa
set_option maxRecDepth 10000
namespace Go.Proofs.Ytpionlekbfoccaa
open Go Go.Sk

theorem f57_l2_eq (q : Queues) (t : Int) (p : Nat) (hp : p < 32) (k : Int → Option Int) (hl : (q.ready p).length ≤ 32) : ∀ (na i c : Nat) (z n : Int), z = (i : Int) → n = (c : Int) → c ≤ 10000 + i → i ≤ (q.ready p).length → (q.ready p).length < na + i →
    f57_l2 q t (p : Int) k na n z = k ((c + ((q.ready p).drop i).count t : Nat) : Int)
  | 0, i, c, z, n, _, _, _, _, h => by omega
  | na + 1, i, c, z, n, hz, hn, hc, hi, h => by
    subst hz; subst hn
    rw [f57_l2, guardB_t _ (vecOk_nat hp), Int.toNat_natCast]
    by_cases hh : i < (q.ready p).length
    · rw [decide_eq_true (by omega : (i : Int) < ((q.ready p).length : Int)), cond_true]
      unfold letk
      dsimp only
      rw [guardB_t _ (vecOk_nat hp), idx_in hh, Option.bind_some, w64 (x := (i : Int) + 1) (by omega) (by omega), w64 (x := (c : Int) + 1) (by omega) (by omega), drop_cons hh, List.count_cons]
      by_cases e : (q.ready p)[i] = t
      · rw [decide_eq_true e, cond_true, f57_l2_eq q t p hp k hl na (i + 1) (c + 1) _ _ (by push_cast; rfl) (by push_cast; rfl) (by omega) (by omega) (by omega)]
        rw [if_pos (by simp [e])]
        congr 2
        omega
      · rw [decide_eq_false e, cond_false, f57_l2_eq q t p hp k hl na (i + 1) c _ _ (by push_cast; rfl) rfl (by omega) (by omega) (by omega)]
        rw [if_neg (by simpa using e)]
        rfl
    · have hd : (q.ready p).drop i = [] := List.drop_eq_nil_of_le (by omega)
      rw [decide_eq_false (by omega : ¬ (i : Int) < ((q.ready p).length : Int)), cond_false, hd]
      rfl
theorem f57_l1_eq (q : Queues) (t : Int) (k : Int → Option Int) (hl : ∀ j, j < 32 → (q.ready j).length ≤ 32) : ∀ (n i c : Nat) (z a : Int), z = (i : Int) → a = (c : Int) → c ≤ 32 * i + 1 → i ≤ 32 → 32 - i < n →
    f57_l1 q t k n a z = k ((c + (flat q.ready (32 - i) i).count t : Nat) : Int)
  | 0, i, c, z, a, _, _, _, _, h => by omega
  | n + 1, i, c, z, a, hz, ha, hc, hi, h => by
    subst hz; subst ha
    rw [f57_l1]
    by_cases hh : i < 32
    · rw [decide_eq_true (by omega : (i : Int) < 32), cond_true]
      rw [letk_eq]
      have hli := hl i hh
      rw [f57_l2_eq q t i hh _ hli _ 0 c 0 _ rfl rfl (by omega) (by omega) (by omega), List.drop_zero, w64 (by omega) (by omega)]
      have h2 : (q.ready i).count t ≤ 32 := Nat.le_trans List.count_le_length hli
      rw [f57_l1_eq q t k hl n (i + 1) (c + (q.ready i).count t) _ _ (by push_cast; rfl) rfl (by omega) (by omega) (by omega)]
      have e : 32 - i = (32 - (i + 1)) + 1 := by omega
      conv => rhs; rw [e, flat, List.count_append, ← Nat.add_assoc]
    · have : i = 32 := by omega
      subst this
      rfl
/-- places -/
def cnt (q : Queues) (t : Int) : Nat := (if q.run = t then 1 else 0) + (flat q.ready 32 0).count t
theorem f57_eq (q : Queues) (t : Int) (hl : ∀ j, j < 32 → (q.ready j).length ≤ 32) : f57 q t = some ((cnt q t : Nat) : Int) := by
  rw [f57, letk_eq]
  have e1 : IntKind.i64.wrap (0 + 1) = 1 := by decide
  unfold cnt
  by_cases e : q.run = t
  · rw [decide_eq_true e, cond_true]
    show letk _ _ = _
    rw [letk_eq, f57_l1_eq q t _ hl _ 0 1 0 _ rfl (by rw [e1]; rfl) (by omega) (by omega) (by omega), if_pos e]
  · rw [decide_eq_false e, cond_false]
    show letk _ _ = _
    rw [letk_eq, f57_l1_eq q t _ hl _ 0 0 0 0 rfl rfl (by omega) (by omega) (by omega), if_neg e]
theorem f58_l1_eq (q : Queues) (t : Int) (k : Int → Option Int) (hl : q.delays.length ≤ 32) : ∀ (n i c : Nat) (z a : Int), z = (i : Int) → a = (c : Int) → c ≤ i → i ≤ q.delays.length → q.delays.length < n + i →
    f58_l1 q t k n a z = k ((c + ((q.delays.drop i).map Due.task).count t : Nat) : Int)
  | 0, i, c, z, a, _, _, _, _, h => by omega
  | n + 1, i, c, z, a, hz, ha, hc, hi, h => by
    subst hz; subst ha
    rw [f58_l1]
    by_cases hh : i < q.delays.length
    · rw [decide_eq_true (by omega : (i : Int) < (q.delays.length : Int)), cond_true, letk_eq, idx_in hh, Option.bind_some, w64 (x := (i : Int) + 1) (by omega) (by omega), w64 (x := (c : Int) + 1) (by omega) (by omega), drop_cons hh, List.map_cons, List.count_cons]
      by_cases e : (q.delays[i]).task = t
      · rw [decide_eq_true e, cond_true]
        show f58_l1 q t k n _ _ = _
        rw [f58_l1_eq q t k hl n (i + 1) (c + 1) _ _ (by push_cast; rfl) (by push_cast; rfl) (by omega) (by omega) (by omega)]
        rw [if_pos (by simp [e])]
        congr 2
        omega
      · rw [decide_eq_false e, cond_false]
        show f58_l1 q t k n _ _ = _
        rw [f58_l1_eq q t k hl n (i + 1) c _ _ (by push_cast; rfl) rfl (by omega) (by omega) (by omega)]
        rw [if_neg (by simpa using e)]
        rfl
    · rw [decide_eq_false (by omega : ¬ (i : Int) < (q.delays.length : Int)), cond_false, List.drop_eq_nil_of_le (by omega)]
      rfl
def wcnt (q : Queues) (t : Int) : Nat := (q.delays.map Due.task).count t
theorem f58_eq (q : Queues) (t : Int) (hl : q.delays.length ≤ 32) : f58 q t = some ((wcnt q t : Nat) : Int) := by
  rw [f58, letk_eq, f58_l1_eq q t _ hl _ 0 0 0 0 rfl rfl (by omega) (by omega) (by omega), List.drop_zero, Nat.zero_add]
  rfl

theorem f56_iff (x : Int) : f56 x = true ↔ 0 ≤ x ∧ x < 32 := by simp [f56]; omega
theorem f25_l2_eq (q : Queues) (p : Nat) (hp : p < 32) (k : Unit → Option Bool) (hl : (q.ready p).length ≤ 32) : ∀ (n i : Nat) (z : Int), z = (i : Int) → i ≤ (q.ready p).length → (q.ready p).length < n + i →
    f25_l2 q (p : Int) k n z = bif ((q.ready p).drop i).all f56 then k () else some false
  | 0, i, z, _, _, h => by omega
  | n + 1, i, z, hz, hi, h => by
    subst hz
    rw [f25_l2, guardB_t _ (vecOk_nat hp), Int.toNat_natCast]
    by_cases hh : i < (q.ready p).length
    · rw [decide_eq_true (by omega : (i : Int) < ((q.ready p).length : Int)), cond_true, guardB_t _ (vecOk_nat hp), idx_in hh, Option.bind_some, w64 (x := (i : Int) + 1) (by omega) (by omega), f25_l2_eq q p hp k hl n (i + 1) _ (by push_cast; rfl) (by omega) (by omega), drop_cons hh, List.all_cons]
      cases f56 (q.ready p)[i] <;> rfl
    · rw [decide_eq_false (by omega : ¬ (i : Int) < ((q.ready p).length : Int)), cond_false, List.drop_eq_nil_of_le (by omega)]
      rfl
def rngO (q : Queues) (j : Nat) : Bool := decide ((q.ready j).length ≤ 32) && (q.ready j).all f56
theorem f25_l1_eq (q : Queues) (r : Option Bool) (hb : Bnd q) : ∀ (n i : Nat) (z : Int), z = (i : Int) → i ≤ 32 → 32 - i < n →
    f25_l1 q (fun _ => r) n z = bif (List.range' i (32 - i)).all (rngO q) then r else some false
  | 0, i, z, _, _, h => by omega
  | n + 1, i, z, hz, hi, h => by
    subst hz
    rw [f25_l1]
    by_cases hh : i < 32
    · have e : 32 - i = (32 - (i + 1)) + 1 := by omega
      rw [decide_eq_true (by omega : (i : Int) < 32), cond_true, letk_eq, guardB_t _ (vecOk_nat hh), Int.toNat_natCast, e, List.range'_succ, List.all_cons]
      by_cases hl : (q.ready i).length ≤ 32
      · rw [decide_eq_false (by omega : ¬ ((q.ready i).length : Int) > 32), cond_false, f25_l2_eq q i hh _ hl _ 0 0 rfl (by omega) (by omega), w64 (by omega) (by omega), f25_l1_eq q r hb n (i + 1) _ (by push_cast; rfl) (by omega) (by omega), List.drop_zero]
        unfold rngO
        rw [decide_eq_true hl]
        cases (q.ready i).all f56 <;> rfl
      · rw [decide_eq_true (by omega : ((q.ready i).length : Int) > 32), cond_true]
        unfold rngO
        rw [decide_eq_false hl]
        rfl
    · have : i = 32 := by omega
      subst this
      rfl
def leO (pr : Option Due) (x : Due) : Bool := match pr with | none => true | some y => decide (y.time ≤ x.time)
def okL : List Due → Option Due → Bool
  | [], _ => true
  | x :: d, pr => f56 x.task && decide (0 ≤ x.time) && decide (x.time ≤ 9007199254740992) && leO pr x && okL d (some x)
def okT (pr : Option Due) (d : List Due) : Bool := okL d pr
theorem okT_nil (pr : Option Due) : okT pr [] = true := rfl
theorem okT_cons (pr : Option Due) (x : Due) (d : List Due) : okT pr (x :: d) = (f56 x.task && decide (0 ≤ x.time) && decide (x.time ≤ 9007199254740992) && leO pr x && okT (some x) d) := rfl
def prevO (L : List Due) : Nat → Option Due
  | 0 => none
  | i + 1 => L[i]?
theorem f25_l3_eq (q : Queues) (r : Option Bool) (hl : q.delays.length ≤ 32) : ∀ (n i : Nat) (z : Int), z = (i : Int) → i ≤ q.delays.length → q.delays.length < n + i →
    f25_l3 q (fun _ => r) n z = bif okT (prevO q.delays i) (q.delays.drop i) then r else some false
  | 0, i, z, _, _, h => by omega
  | n + 1, i, z, hz, hi, h => by
    subst hz
    rw [f25_l3]
    by_cases hh : i < q.delays.length
    · have hp : prevO q.delays (i + 1) = some q.delays[i] := by simp [prevO, hh]
      rw [decide_eq_true (by omega : (i : Int) < (q.delays.length : Int)), cond_true, idx_in hh, Option.bind_some, w64 (x := (i : Int) + 1) (by omega) (by omega), f25_l3_eq q r hl n (i + 1) _ (by push_cast; rfl) (by omega) (by omega), hp, drop_cons hh, okT_cons]
      cases h1 : f56 (q.delays[i]).task
      · rfl
      · by_cases h2 : 0 ≤ (q.delays[i]).time
        · rw [decide_eq_false (by omega : ¬ (q.delays[i]).time < 0), decide_eq_true h2]
          by_cases h3 : (q.delays[i]).time ≤ 9007199254740992
          · rw [decide_eq_false (by omega : ¬ (q.delays[i]).time > 9007199254740992), decide_eq_true h3]
            simp only [Bool.not_true, Bool.or_false, cond_false, Bool.true_and, Bool.and_true]
            cases i with
            | zero =>
              rw [decide_eq_false (by omega : ¬ ((0 : Nat) : Int) > 0), cond_false]
              rfl
            | succ j =>
              have hj : j < q.delays.length := by omega
              rw [decide_eq_true (by omega : ((j + 1 : Nat) : Int) > 0), cond_true, w64 (by omega) (by omega)]
              have e : ((j + 1 : Nat) : Int) - 1 = (j : Int) := by omega
              have hpj : prevO q.delays (j + 1) = some q.delays[j] := by simp [prevO, hj]
              rw [e, idx_in hj, hpj]
              simp only [Option.bind_some]
              show _ = bif decide ((q.delays[j]).time ≤ (q.delays[j + 1]).time) && _ then _ else _
              by_cases h4 : (q.delays[j]).time ≤ (q.delays[j + 1]).time
              · rw [decide_eq_false (by omega : ¬ (q.delays[j]).time > (q.delays[j + 1]).time), decide_eq_true h4]; rfl
              · rw [decide_eq_true (by omega : (q.delays[j]).time > (q.delays[j + 1]).time), decide_eq_false h4]; rfl
          · rw [decide_eq_true (by omega : (q.delays[i]).time > 9007199254740992), decide_eq_false h3]
            simp
        · rw [decide_eq_true (by omega : (q.delays[i]).time < 0), decide_eq_false h2]
          simp
    · rw [decide_eq_false (by omega : ¬ (i : Int) < (q.delays.length : Int)), cond_false, List.drop_eq_nil_of_le (by omega)]
      cases prevO q.delays i <;> rfl
def oneO (q : Queues) (t : Nat) : Bool := decide (cnt q t ≤ 1) && decide (wcnt q t ≤ 1)
theorem f25_l4_eq (q : Queues) (r : Option Bool) (hl : ∀ j, j < 32 → (q.ready j).length ≤ 32) (hd : q.delays.length ≤ 32) : ∀ (n i : Nat) (z : Int), z = (i : Int) → i ≤ 32 → 32 - i < n →
    f25_l4 q (fun _ => r) n z = bif (List.range' i (32 - i)).all (oneO q) then r else some false
  | 0, i, z, _, _, h => by omega
  | n + 1, i, z, hz, hi, h => by
    subst hz
    rw [f25_l4]
    by_cases hh : i < 32
    · have e : 32 - i = (32 - (i + 1)) + 1 := by omega
      rw [decide_eq_true (by omega : (i : Int) < 32), cond_true, f57_eq q _ hl, Option.bind_some, f58_eq q _ hd, e, List.range'_succ, List.all_cons, w64 (by omega) (by omega), f25_l4_eq q r hl hd n (i + 1) _ (by push_cast; rfl) (by omega) (by omega)]
      unfold oneO
      by_cases h1 : cnt q i ≤ 1
      · rw [decide_eq_false (by omega : ¬ ((cnt q i : Nat) : Int) > 1), decide_eq_true h1, cond_false]
        simp only [Option.bind_some]
        by_cases h2 : wcnt q i ≤ 1
        · rw [decide_eq_false (by omega : ¬ ((wcnt q i : Nat) : Int) > 1), decide_eq_true h2]; rfl
        · rw [decide_eq_true (by omega : ((wcnt q i : Nat) : Int) > 1), decide_eq_false h2]; rfl
      · rw [decide_eq_true (by omega : ((cnt q i : Nat) : Int) > 1), decide_eq_false h1, cond_true]
        rfl
    · have : i = 32 := by omega
      subst this
      rfl
def rMay (q : Queues) : Bool := decide (-1 ≤ q.run) && decide (q.run ≤ 31) && decide (q.delays.length ≤ 32) && (List.range' 0 32).all (rngO q) && okT none q.delays && (List.range' 0 32).all (oneO q)
theorem f25_eq (q : Queues) (hb : Bnd q) : f25 q = some (rMay q) := by
  rw [f25, letk_eq, letk_eq, letk_eq]
  unfold rMay
  by_cases h1 : -1 ≤ q.run
  · rw [decide_eq_false (by omega : ¬ q.run < -1), decide_eq_true h1]
    by_cases h2 : q.run ≤ 31
    · rw [decide_eq_false (by omega : ¬ q.run > 31), decide_eq_true h2]
      by_cases h3 : q.delays.length ≤ 32
      · rw [decide_eq_false (by omega : ¬ (q.delays.length : Int) > 32), decide_eq_true h3, Bool.or_false, Bool.or_false, cond_false, f25_l1_eq q _ hb _ 0 0 rfl (by omega) (by omega)]
        rw [show 32 - 0 = 32 from rfl]
        simp only [Bool.true_and]
        cases h4 : (List.range' 0 32).all (rngO q) with
        | false => rfl
        | true =>
          have hl : ∀ j, j < 32 → (q.ready j).length ≤ 32 := fun j hj => by
            have := List.all_eq_true.1 h4 j (by rw [List.mem_range'_1]; omega)
            unfold rngO at this
            rw [Bool.and_eq_true, decide_eq_true_eq] at this
            exact this.1
          rw [cond_true, f25_l3_eq q _ h3 _ 0 0 rfl (by omega) (by omega), List.drop_zero, Bool.true_and]
          show (bif okT none q.delays then _ else _) = _
          cases okT none q.delays with
          | false => rfl
          | true =>
            rw [cond_true, f25_l4_eq q _ hl h3 _ 0 0 rfl (by omega) (by omega), show 32 - 0 = 32 from rfl]
            cases (List.range' 0 32).all (oneO q) <;> rfl
      · rw [decide_eq_true (by omega : (q.delays.length : Int) > 32), decide_eq_false h3]; rfl
    · rw [decide_eq_true (by omega : q.run > 31), decide_eq_false h2]; rfl
  · rw [decide_eq_true (by omega : q.run < -1), decide_eq_false h1]; rfl

theorem okT_iff : ∀ (d : List Due) (pr : Option Due), okT pr d = true ↔ (∀ x ∈ d, 0 ≤ x.task ∧ x.task < 32) ∧ Asc d ∧ (∀ x ∈ d, 0 ≤ x.time ∧ x.time ≤ 9007199254740992) ∧ ∀ y, pr = some y → ∀ x ∈ d, y.time ≤ x.time
  | [], pr => by simp [okT_nil, Asc]
  | x :: d, pr => by
    have key : (leO pr x = true) ↔ ∀ y, pr = some y → y.time ≤ x.time := by
      cases pr with
      | none => simp [leO]
      | some y => simp [leO]
    rw [okT_cons, Bool.and_eq_true, Bool.and_eq_true, key, okT_iff d (some x)]
    simp only [Bool.and_eq_true, f56_iff, decide_eq_true_eq, List.mem_cons, forall_eq_or_imp, Asc, List.pairwise_cons]
    constructor
    · rintro ⟨⟨⟨⟨h1, h2⟩, h3⟩, h4⟩, h5, h6, h7, h8⟩
      have g := h8 x rfl
      exact ⟨⟨h1, h5⟩, ⟨g, h6⟩, ⟨⟨h2, h3⟩, h7⟩, fun y hy => ⟨h4 y hy, fun z hz => Int.le_trans (h4 y hy) (g z hz)⟩⟩
    · rintro ⟨⟨h1, h5⟩, ⟨g, h6⟩, ⟨⟨h2, h3⟩, h7⟩, h8⟩
      exact ⟨⟨⟨⟨h1, h2⟩, h3⟩, fun y hy => (h8 y hy).1⟩, h5, h6, h7, fun y hy z hz => by cases hy; exact g z hz⟩
theorem rMay_iff (q : Queues) (hb : Bnd q) : rMay q = true ↔ Ok q := by
  unfold rMay
  simp only [Bool.and_eq_true, decide_eq_true_eq, List.all_eq_true, List.mem_range'_1, rngO, oneO, okT_iff]
  constructor
  · rintro ⟨⟨⟨⟨⟨h1, h2⟩, h3⟩, h4⟩, h5, h6, h7, _⟩, h8⟩
    have num : ∀ x ∈ flat q.ready 32 0, 0 ≤ x ∧ x < 32 := fun x hx => by
      obtain ⟨j, _, hj, hxj⟩ := mem_flat.1 hx
      exact (f56_iff x).1 ((h4 j (by omega)).2 x hxj)
    have one : ∀ t : Int, 0 ≤ t → t < 32 → cnt q t ≤ 1 ∧ wcnt q t ≤ 1 := fun t a b => by
      have := h8 t.toNat (by omega)
      rw [Int.toNat_of_nonneg a] at this
      exact this
    have rdy : Rdy q := by
      refine ⟨by omega, num, List.nodup_iff_count.2 (fun a => ?_), fun hr => ?_⟩
      · by_cases ha : a ∈ flat q.ready 32 0
        · have := num a ha
          have := (one a this.1 this.2).1
          unfold cnt at this
          omega
        · rw [List.count_eq_zero_of_not_mem ha]; omega
      · have g1 := num _ hr
        have g2 := (one _ g1.1 g1.2).1
        have g3 := List.count_pos_iff.2 hr
        unfold cnt at g2
        rw [if_pos rfl] at g2
        omega
    refine Ok.mk2 ((Rdy_iff q).1 rdy) hb.d ((DQ_iff _ hb.d).2 ⟨h5, List.nodup_iff_count.2 (fun a => ?_), h6, h7⟩)
    by_cases ha : a ∈ q.delays.map Due.task
    · obtain ⟨y, hy, rfl⟩ := List.mem_map.1 ha
      have := h5 y hy
      exact (one _ this.1 this.2).2
    · rw [List.count_eq_zero_of_not_mem ha]; omega
  · intro h
    have hd := h.dok
    have hr := (Rdy_iff q).2 h.r
    have hrun := h.r.run
    refine ⟨⟨⟨⟨⟨by omega, by omega⟩, hd.len⟩, fun j hj => ⟨h.r.len (by omega), fun x hx => (f56_iff x).2 (h.r.num j x (by omega) hx)⟩⟩, hd.num, hd.asc, hd.tm, fun y hy => by cases hy⟩, fun t ht => ⟨?_, ?_⟩⟩
    · unfold cnt
      have g1 := List.nodup_iff_count.1 hr.nd (t : Int)
      by_cases e : q.run = (t : Int)
      · rw [if_pos e, List.count_eq_zero_of_not_mem (by rw [← e]; exact hr.out)]; omega
      · rw [if_neg e]; omega
    · exact List.nodup_iff_count.1 hd.nd (t : Int)
theorem f25_f10 (q : Queues) (hb : Bnd q) : ∃ b, f10 q = some b ∧ f25 q = some b ∧ (b = true → Ok q) := by
  obtain ⟨b, hb10⟩ := f10_tot q hb
  refine ⟨b, hb10, ?_, fun e => Ok.of hb (by rw [hb10, e])⟩
  rw [f25_eq q hb]
  congr 1
  cases b with
  | true => exact (rMay_iff q hb).2 (Ok.of hb hb10)
  | false =>
    cases hr : rMay q with
    | false => rfl
    | true =>
      have := ((rMay_iff q hb).1 hr).may
      rw [hb10] at this; cases this
end Go.Proofs.Ytpionlekbfoccaa
set_option maxRecDepth 10000
namespace Go.Proofs.Ytpionlekbfoccaa
open Go Go.Sk

/-- Both give the same. -/
def RR (o o' : Option (Queues × Int)) : Prop := ∃ r e, o = some (r, e) ∧ o' = some (r, e) ∧ (Ok r ∨ r = zQ)
theorem Ok.ref {q : Queues} (h : Ok q) : f25 q = some true := by rw [f25_eq q h.b, (rMay_iff q h.b).2 h]
theorem f56_f (x : Int) (h : ¬ (0 ≤ x ∧ x < 32)) : f56 x = false := by
  cases hf : f56 x with
  | false => rfl
  | true => exact absurd ((f56_iff x).1 hf) h
theorem f30_f (x : Int) (h : ¬ (0 ≤ x ∧ x < 32)) : f30 x = false := by
  cases hf : f30 x with
  | false => rfl
  | true => exact absurd ((f30_iff x).1 hf) h
theorem f73_ok {q : Queues} (h : Ok q) (p t : Int) (hp : 0 ≤ p ∧ p < 32) (ht : 0 ≤ t ∧ t < 32) : f73 q p t = some 0 := by
  unfold f73
  rw [h.ref, Option.bind_some, (f56_iff p).2 hp, (f56_iff t).2 ht]; rfl
theorem f73_p {q : Queues} (h : Ok q) (p t : Int) (hp : ¬ (0 ≤ p ∧ p < 32)) : f73 q p t = some 2 := by
  unfold f73
  rw [h.ref, Option.bind_some, f56_f p hp]; rfl
theorem f73_t {q : Queues} (h : Ok q) (p t : Int) (ht : ¬ (0 ≤ t ∧ t < 32)) : f73 q p t = some 2 := by
  unfold f73
  rw [h.ref, Option.bind_some, f56_f t ht, Bool.not_false, Bool.or_true]; rfl
theorem cnt_free {q : Queues} (h : Ok q) (t : Int) : (Free q t → cnt q t = 0) ∧ (¬ Free q t → cnt q t = 1) := by
  have hr := (Rdy_iff q).2 h.r
  have hm : t ∈ flat q.ready 32 0 ↔ ∃ j, j < 32 ∧ t ∈ q.ready j := by
    rw [mem_flat]
    constructor
    · rintro ⟨j, _, a, b⟩; exact ⟨j, by omega, b⟩
    · rintro ⟨j, a, b⟩; exact ⟨j, by omega, by omega, b⟩
  unfold cnt
  constructor
  · rintro ⟨h1, h2⟩
    rw [if_neg h1, List.count_eq_zero_of_not_mem (fun a => by obtain ⟨j, a, b⟩ := hm.1 a; exact h2 j a b)]
  · intro hn
    by_cases e : q.run = t
    · rw [if_pos e, List.count_eq_zero_of_not_mem (by rw [← e]; exact hr.out)]
    · by_cases hin : t ∈ flat q.ready 32 0
      · have g1 := List.nodup_iff_count.1 hr.nd t
        have g2 := List.count_pos_iff.2 hin
        rw [if_neg e]; omega
      · exact absurd ⟨e, fun j a b => hin (hm.2 ⟨j, a, b⟩)⟩ hn
theorem Ok.len {q : Queues} (h : Ok q) : ∀ j, j < 32 → (q.ready j).length ≤ 32 := fun _ hj => h.r.len hj
theorem Ok.f23 {q : Queues} (h : Ok q) : O.f23 q = some q := by unfold O.f23; rw [guardB_t _ h.own]

theorem add_errs {q : Queues} (h : Ok q) {p t : Int} (hn : ¬ ((0 ≤ p ∧ p < 32) ∧ (0 ≤ t ∧ t < 32))) : f21 q p t = some (zQ, 2) ∧ f28 q p t = some (zQ, 2) ∧ f46 q p t = some (zQ, 2) ∧ f47 q p t = some (zQ, 2) := by
  have e1 : ((!(f30 p)) || (!(f30 t))) = true := by
    by_cases hp : 0 ≤ p ∧ p < 32
    · rw [f30_f t (fun a => hn ⟨hp, a⟩)]; simp
    · rw [f30_f p hp]; rfl
  have e2 : f73 q p t = some 2 := by
    by_cases hp : 0 ≤ p ∧ p < 32
    · exact f73_t h p t (fun a => hn ⟨hp, a⟩)
    · exact f73_p h p t hp
  refine ⟨?_, ?_, ?_, ?_⟩
  · unfold f21 letk; dsimp only; rw [h.may, Option.bind_some, Bool.not_true, Bool.false_or, e1]; rfl
  · unfold f28 letk; dsimp only; rw [h.may, Option.bind_some, Bool.not_true, Bool.false_or, e1]; rfl
  · unfold f46 letk; dsimp only; rw [e2]; rfl
  · unfold f47 letk; dsimp only; rw [e2]; rfl
theorem add_there {q : Queues} (h : Ok q) {p t : Int} (hp : 0 ≤ p ∧ p < 32) (ht : 0 ≤ t ∧ t < 32) (hf : ¬ Free q t) : f21 q p t = some (zQ, 7) ∧ f28 q p t = some (zQ, 7) ∧ f46 q p t = some (zQ, 7) ∧ f47 q p t = some (zQ, 7) := by
  have ho : Occ q t := Classical.byContradiction fun a => hf (occ_free.2 a)
  have key : ∃ a b, f43 q t = some (a, b) ∧ (b || decide (q.run = t)) = true := by
    rcases ho with ho | ⟨j, h1, h2⟩
    · exact ⟨_, _, f43_eq q t h.b, by rw [decide_eq_true ho]; simp⟩
    · exact ⟨_, _, find_in h h1 h2, rfl⟩
  obtain ⟨a, b, k1, k2⟩ := key
  have hc := (cnt_free h t).2 hf
  have e57 := f57_eq q t h.len
  rw [hc] at e57
  refine ⟨?_, ?_, ?_, ?_⟩
  · unfold f21 letk; dsimp only; rw [h.may, Option.bind_some, (f30_iff p).2 hp, (f30_iff t).2 ht, k1]; dsimp only [Option.bind_some]; rw [k2]; rfl
  · unfold f28 letk; dsimp only; rw [h.may, Option.bind_some, (f30_iff p).2 hp, (f30_iff t).2 ht, k1]; dsimp only [Option.bind_some]; rw [k2]; rfl
  · unfold f46 letk; dsimp only; rw [f73_ok h p t hp ht, e57]; rfl
  · unfold f47 letk; dsimp only; rw [f73_ok h p t hp ht, e57]; rfl
theorem tail_refE {q : Queues} (h : Ok q) {p t : Int} (hp : 0 ≤ p ∧ p < 32) (ht : 0 ≤ t ∧ t < 32) (hf : Free q t) : f46 q p t = f21 q p t := by
  have e57 := f57_eq q t h.len
  rw [(cnt_free h t).1 hf] at e57
  have hp2 : Int.toNat p < 32 := by omega
  have e5 : vecOk 32 p = true := by simp [vecOk]; omega
  have e6 : appOk 8 (q.ready (Int.toNat p)) [t] = true := by
    have := h.r.len hp2
    simp [appOk, maxLen] <;> omega
  rw [tail_eq h hp ht hf]
  unfold f46 letk
  dsimp only
  rw [f73_ok h p t hp ht, e57]
  show (guardB (vecOk 32 p) <| guardB (O.ownOk q) <| guardB (vecOk 32 p) <| guardB (appOk 8 (q.ready (Int.toNat p)) [t]) <| guardB (vecOk 32 p) <| _) = _
  rw [guardB_t _ e5, guardB_t _ h.own, guardB_t _ e5, guardB_t _ e6, guardB_t _ e5]
theorem head_refE {q : Queues} (h : Ok q) {p t : Int} (hp : 0 ≤ p ∧ p < 32) (ht : 0 ≤ t ∧ t < 32) (hf : Free q t) : f47 q p t = f28 q p t := by
  have e57 := f57_eq q t h.len
  rw [(cnt_free h t).1 hf] at e57
  have hp2 : Int.toNat p < 32 := by omega
  have e5 : vecOk 32 p = true := by simp [vecOk]; omega
  have e6 : appOk 8 [t] (q.ready (Int.toNat p)) = true := by
    have := h.r.len hp2
    simp [appOk, maxLen] <;> omega
  rw [head_eq h hp ht hf]
  unfold f47 letk
  dsimp only
  rw [f73_ok h p t hp ht, e57, h.f23]
  show (guardB (vecOk 32 p) <| guardB (appOk 8 [t] (q.ready (Int.toNat p))) <| guardB (vecOk 32 p) <| _) = _
  rw [guardB_t _ e5, guardB_t _ e6, guardB_t _ e5]
  rfl
theorem head_ok {q : Queues} (h : Ok q) {prio x : Int} (hp : 0 ≤ prio ∧ prio < 32) (hx : 0 ≤ x ∧ x < 32) (hf : Free q x) : Ok ⟨vset q.ready (Int.toNat prio) (x :: q.ready (Int.toNat prio)), q.delays, q.run⟩ :=
  put_ok h (by omega) hx hf (fun y => by simp) (List.nodup_cons.2 ⟨hf.2 _ (by omega), h.r.nd _ (by omega)⟩)
theorem tail_ref {q : Queues} (h : Ok q) (p t : Int) : RR (f21 q p t) (f46 q p t) := by
  by_cases hn : (0 ≤ p ∧ p < 32) ∧ (0 ≤ t ∧ t < 32)
  · obtain ⟨hp, ht⟩ := hn
    by_cases hf : Free q t
    · exact ⟨_, _, tail_eq h hp ht hf, (tail_refE h hp ht hf).trans (tail_eq h hp ht hf), .inl (tail_ok h hp ht hf)⟩
    · obtain ⟨a, _, b, _⟩ := add_there h hp ht hf
      exact ⟨_, _, a, b, .inr rfl⟩
  · obtain ⟨a, _, b, _⟩ := add_errs h hn
    exact ⟨_, _, a, b, .inr rfl⟩
theorem head_ref {q : Queues} (h : Ok q) (p t : Int) : RR (f28 q p t) (f47 q p t) := by
  by_cases hn : (0 ≤ p ∧ p < 32) ∧ (0 ≤ t ∧ t < 32)
  · obtain ⟨hp, ht⟩ := hn
    by_cases hf : Free q t
    · exact ⟨_, _, head_eq h hp ht hf, (head_refE h hp ht hf).trans (head_eq h hp ht hf), .inl (head_ok h hp ht hf)⟩
    · obtain ⟨_, a, _, b⟩ := add_there h hp ht hf
      exact ⟨_, _, a, b, .inr rfl⟩
  · obtain ⟨_, a, _, b⟩ := add_errs h hn
    exact ⟨_, _, a, b, .inr rfl⟩

/-! ### Drop -/
theorem f74_l1_eq (L : List Int) (t : Int) (k : List Int → Option (List Int)) (hl : L.length ≤ 32) : ∀ (n i : Nat) (z : Int) (l : List Int), z = (i : Int) → i ≤ L.length → L.length < n + i → l.length ≤ i →
    f74_l1 L t k n z l = k (l ++ strike t (L.drop i))
  | 0, i, z, l, _, _, h, _ => by omega
  | n + 1, i, z, l, hz, hi, h, hll => by
    subst hz
    rw [f74_l1]
    by_cases hh : i < L.length
    · rw [decide_eq_true (by omega : (i : Int) < (L.length : Int)), cond_true, letk_eq, idx_in hh, Option.bind_some, Option.bind_some, w64 (by omega) (by omega), drop_cons hh]
      unfold strike
      rw [List.filter_cons]
      by_cases e : L[i] = t
      · rw [decide_eq_true e, Bool.not_true, cond_false]
        show f74_l1 L t k n _ _ = _
        rw [f74_l1_eq L t k hl n (i + 1) _ l (by push_cast; rfl) (by omega) (by omega) (by omega)]
        rfl
      · rw [decide_eq_false e, Bool.not_false, cond_true, guardB_t _ (by simp [appOk, maxLen]; omega)]
        show f74_l1 L t k n _ _ = _
        rw [f74_l1_eq L t k hl n (i + 1) _ (l ++ [L[i]]) (by push_cast; rfl) (by omega) (by omega) (by simp; omega)]
        simp [strike]
    · rw [decide_eq_false (by omega : ¬ (i : Int) < (L.length : Int)), cond_false, List.drop_eq_nil_of_le (by omega)]
      simp [strike]
theorem f74_eq (L : List Int) (t : Int) (hl : L.length ≤ 32) : f74 L t = some (strike t L) := by
  rw [f74, letk_eq, f74_l1_eq L t _ hl _ 0 0 [] rfl (by omega) (by omega) (by simp), List.drop_zero, List.nil_append]
def strikeAll (t : Int) (i : Nat) (F : Nat → List Int) : Nat → List Int := fun j => if i ≤ j ∧ j < 32 then strike t (F j) else F j
theorem f48_l1_eq (t : Int) (k : (Nat → List Int) → Option (Queues × Int)) : ∀ (n i : Nat) (z : Int) (F : Nat → List Int), z = (i : Int) → i ≤ 32 → 32 - i < n → (∀ j, j < 32 → (F j).length ≤ 32) →
    f48_l1 t k n z F = k (strikeAll t i F)
  | 0, i, z, F, _, _, h, _ => by omega
  | n + 1, i, z, F, hz, hi, h, hl => by
    subst hz
    rw [f48_l1]
    by_cases hh : i < 32
    · rw [decide_eq_true (by omega : (i : Int) < 32), cond_true, guardB_t _ (vecOk_nat hh), Int.toNat_natCast, f74_eq _ _ (hl i hh), Option.bind_some, guardB_t _ (vecOk_nat hh), w64 (by omega) (by omega)]
      rw [f48_l1_eq t k n (i + 1) _ _ (by push_cast; rfl) (by omega) (by omega) (fun j hj => by
        by_cases e : j = i
        · rw [e, vs_eq]
          exact Nat.le_trans (List.length_filter_le _ _) (hl i hh)
        · rw [vs_ne _ _ e]; exact hl j hj)]
      congr 1
      funext j
      unfold strikeAll
      by_cases e : j = i
      · subst e
        rw [if_neg (by omega), if_pos (by omega), vs_eq]
      · rw [vs_ne _ _ e]
        by_cases g : i + 1 ≤ j ∧ j < 32
        · rw [if_pos g, if_pos (by omega)]
        · rw [if_neg g, if_neg (by omega)]
    · rw [decide_eq_false (by omega : ¬ (i : Int) < 32), cond_false]
      congr 1
      funext j
      unfold strikeAll
      rw [if_neg (by omega)]
theorem f48_ok {q : Queues} (h : Ok q) {t : Int} (ht : 0 ≤ t ∧ t < 32) (hf : ¬ Free q t) : f48 q t = some (⟨strikeAll t 0 q.ready, q.delays, if q.run = t then -1 else q.run⟩, 0) := by
  have e57 := f57_eq q t h.len
  rw [(cnt_free h t).2 hf] at e57
  rw [f48, f73_ok h 0 t (by omega) ht, Option.bind_some, letk_eq, e57, decide_eq_true rfl, cond_true, Option.bind_some, decide_eq_false (by omega : ¬ ((1 : Nat) : Int) = 0), Option.bind_some, cond_false]
  show (bif !decide ((0 : Int) = 0) then _ else _) = _
  rw [decide_eq_true rfl, Bool.not_true, cond_false, h.f23, Option.bind_some, letk_eq]
  by_cases e : q.run = t
  · rw [decide_eq_true e, cond_true, if_pos e]
    show letk _ _ = _
    rw [letk_eq, f48_l1_eq t _ _ 0 0 _ rfl (by omega) (by omega) h.len]
  · rw [decide_eq_false e, cond_false, if_neg e]
    show letk _ _ = _
    rw [letk_eq, f48_l1_eq t _ _ 0 0 _ rfl (by omega) (by omega) h.len]
theorem drop_nowhere {q : Queues} (h : Ok q) {x : Int} (hx : 0 ≤ x ∧ x < 32) (hf : Free q x) : f22 q x = some (zQ, 6) := by
  unfold f22
  rw [h.may, Option.bind_some, (f30_iff x).2 hx, find_out h (fun j a b => hf.2 j a b)]
  have e0 : O.f32 q = some q := by unfold O.f32; rw [guardB_t _ h.own]
  unfold letk
  dsimp only [Option.bind_some]
  rw [e0, Bool.not_true, Bool.or_false, cond_false]
  dsimp only [Option.bind_some]
  rw [cond_false, decide_eq_false hf.1, cond_false]
theorem f48_f22 {q : Queues} (h : Ok q) {t : Int} (ht : 0 ≤ t ∧ t < 32) (hf : ¬ Free q t) : f48 q t = f22 q t := by
  rw [f48_ok h ht hf]
  by_cases hj : ∃ j, j < 32 ∧ t ∈ q.ready j
  · obtain ⟨p, hp, hm⟩ := hj
    have hr : ¬ q.run = t := fun e => h.r.out p hp (by rw [e]; exact hm)
    rw [drop_in h ht hp hm, if_neg hr]
    congr 3
    funext j
    unfold strikeAll
    by_cases e : j = p
    · subst e
      rw [if_pos (by omega), vs_eq]
    · rw [vs_ne _ _ e]
      by_cases g : 0 ≤ j ∧ j < 32
      · rw [if_pos g]
        exact strike_id (fun y hy ey => e (h.r.ap' g.2 hp (by rw [← ey]; exact hy) hm))
      · rw [if_neg g]
  · have hr : q.run = t := Classical.byContradiction fun e => hf ⟨e, fun j a b => hj ⟨j, a, b⟩⟩
    have := drop_run h (by rw [hr]; exact ht)
    rw [hr] at this
    rw [this, if_pos hr]
    congr 3
    funext j
    unfold strikeAll
    by_cases g : 0 ≤ j ∧ j < 32
    · rw [if_pos g]
      exact strike_id (fun y hy ey => hj ⟨j, g.2, by rw [← ey]; exact hy⟩)
    · rw [if_neg g]
theorem drop_ref {q : Queues} (h : Ok q) (t : Int) : RR (f22 q t) (f48 q t) := by
  by_cases ht : 0 ≤ t ∧ t < 32
  · by_cases hf : Free q t
    · have e57 := f57_eq q t h.len
      rw [(cnt_free h t).1 hf] at e57
      refine ⟨zQ, 6, drop_nowhere h ht hf, ?_, .inr rfl⟩
      rw [f48, f73_ok h 0 t (by omega) ht, Option.bind_some, letk_eq, e57]
      rfl
    · obtain ⟨r, e, h1, h2⟩ := drop_res h ht
      refine ⟨r, e, h1, (f48_f22 h ht hf).trans h1, ?_⟩
      rcases h2 with ⟨_, h2⟩ | ⟨_, h2, _⟩
      · exact .inr h2
      · exact .inl h2
  · refine ⟨zQ, 2, ?_, ?_, .inr rfl⟩
    · unfold f22
      rw [h.may, Option.bind_some, f30_f t ht]; rfl
    · rw [f48, f73_t h 0 t ht]; rfl
theorem move_ref {q : Queues} (h : Ok q) (p t : Int) : RR (f29 q p t) (f49 q p t) := by
  by_cases hn : (0 ≤ p ∧ p < 32) ∧ (0 ≤ t ∧ t < 32)
  · obtain ⟨hp, ht⟩ := hn
    by_cases hj : ∃ j, j < 32 ∧ t ∈ q.ready j
    · obtain ⟨j, hj, hm⟩ := hj
      have hf : ¬ Free q t := fun a => a.2 j hj hm
      have hr : ¬ q.run = t := fun e => h.r.out j hj (by rw [e]; exact hm)
      have e57 := f57_eq q t h.len
      rw [(cnt_free h t).2 hf] at e57
      obtain ⟨r, e, h1, h2⟩ := drop_res h ht
      have h3 := drop_in h ht hj hm
      rw [h1] at h3
      simp only [Option.some.injEq, Prod.mk.injEq] at h3
      have he : e = 0 := h3.2
      rcases h2 with ⟨h2, _⟩ | ⟨_, hok, _, hocc⟩
      · exact absurd he h2
      · have hfr : Free r t := occ_free.2 (fun a => ((hocc t ht.1).1 a).1 rfl)
        have ht2 := tail_eq hok hp ht hfr
        refine ⟨_, 0, ?_, ?_, .inl (tail_ok hok hp ht hfr)⟩
        · unfold f29
          rw [h.may, Option.bind_some, (f30_iff p).2 hp, (f30_iff t).2 ht, find_in h hj hm]
          dsimp only [Option.bind_some]
          rw [h1]
          dsimp only [Option.bind_some]
          rw [ht2]; rfl
        · rw [f49, f73_ok h p t hp ht, Option.bind_some, letk_eq, e57, f48_f22 h ht hf, h1]
          dsimp only [Option.bind_some]
          rw [tail_refE hok hp ht hfr, ht2, decide_eq_false hr]; rfl
    · refine ⟨zQ, 6, ?_, ?_, .inr rfl⟩
      · unfold f29
        rw [h.may, Option.bind_some, (f30_iff p).2 hp, (f30_iff t).2 ht, find_out h (fun j a b => hj ⟨j, a, b⟩)]
        rfl
      · have e57 := f57_eq q t h.len
        rw [f49, f73_ok h p t hp ht, Option.bind_some, letk_eq, e57]
        by_cases hr : q.run = t
        · rw [decide_eq_true hr, decide_eq_true rfl, cond_true, Option.bind_some, Bool.or_true]; rfl
        · rw [(cnt_free h t).1 ⟨hr, fun j a b => hj ⟨j, a, b⟩⟩]
          rfl
  · refine ⟨zQ, 2, ?_, ?_, .inr rfl⟩
    · have e1 : ((!(f30 p)) || (!(f30 t))) = true := by
        by_cases hp : 0 ≤ p ∧ p < 32
        · rw [f30_f t (fun a => hn ⟨hp, a⟩)]; simp
        · rw [f30_f p hp]; rfl
      unfold f29
      rw [h.may, Option.bind_some, Bool.not_true, Bool.false_or, e1]; rfl
    · have e2 : f73 q p t = some 2 := by
        by_cases hp : 0 ≤ p ∧ p < 32
        · exact f73_t h p t (fun a => hn ⟨hp, a⟩)
        · exact f73_p h p t hp
      rw [f49, e2]; rfl
end Go.Proofs.Ytpionlekbfoccaa
set_option maxRecDepth 10000
namespace Go.Proofs.Ytpionlekbfoccaa
open Go Go.Sk

theorem f54_l1_eq (q : Queues) : ∀ (n i : Nat) (z : Int), z = (i : Int) - 1 → i ≤ 32 → i < n → f54_l1 q (fun _ => some (0, 0, false)) n z = some (topF q.ready i)
  | 0, i, z, _, _, h => by omega
  | n + 1, 0, z, hz, hi, h => by
    subst hz
    rw [f54_l1]
    rfl
  | n + 1, i + 1, z, hz, hi, h => by
    have hz' : z = (i : Int) := by rw [hz]; push_cast; omega
    subst hz'
    have hv := vecOk_nat (show i < 32 by omega)
    rw [f54_l1, decide_eq_true (by omega : (i : Int) ≥ 0), cond_true, guardB_t _ hv, Int.toNat_natCast]
    unfold topF
    cases hq : q.ready i with
    | nil =>
      rw [decide_eq_false (by simp), cond_false, w64 (by omega) (by omega)]
      exact f54_l1_eq q n i _ rfl (by omega) (by omega)
    | cons x L =>
      rw [decide_eq_true (by simp <;> omega), cond_true, guardB_t _ hv]
      rfl
theorem f54_eq {q : Queues} (h : Ok q) : f54 q = some (topF q.ready 32) := by
  rw [f54, h.ref, Option.bind_some, Bool.not_true, cond_false, letk_eq]
  exact f54_l1_eq q _ 32 31 (by decide) (by decide) (by decide)

theorem disp_ref {q : Queues} (h : Ok q) (prio : Int) : RR (f12 q prio) (f50 q prio) := by
  by_cases hp : q.run ≥ 0 → 0 ≤ prio ∧ prio < 32
  · have e1 : ((decide (q.run ≥ 0)) && (!(f56 prio))) = false := by
      by_cases hr : q.run ≥ 0
      · rw [(f56_iff prio).2 (hp hr)]; simp
      · simp [hr]
    by_cases hk : (topF q.ready 32).2.2 = false ∨ (q.run ≥ 0 ∧ (topF q.ready 32).2.1 ≤ prio)
    · refine ⟨_, _, disp_keep h hp hk, ?_, .inl h⟩
      have e2 : ((!(topF q.ready 32).2.2) || ((decide (q.run ≥ 0)) && (decide ((topF q.ready 32).2.1 ≤ prio)))) = true := by
        rcases hk with hc | ⟨h1, h2⟩
        · rw [hc]; rfl
        · rw [decide_eq_true h1, decide_eq_true h2]; simp
      rw [f50, h.ref, Option.bind_some, Bool.not_true, Bool.false_or, e1, cond_false, h.f23, Option.bind_some, f54_eq h, Option.bind_some, e2, cond_true]
    · have hc : (topF q.ready 32).2.2 = true := by
        cases hh : (topF q.ready 32).2.2 with
        | true => rfl
        | false => exact absurd (.inl hh) hk
      have hc2 : q.run ≥ 0 → prio < (topF q.ready 32).2.1 := fun hr => by
        by_cases a : (topF q.ready 32).2.1 ≤ prio
        · exact absurd (.inr ⟨hr, a⟩) hk
        · omega
      obtain ⟨p, L, h1, h2, h3, h4, h5⟩ := disp_go h hp hc hc2
      have e2 : ((!(topF q.ready 32).2.2) || ((decide (q.run ≥ 0)) && (decide ((topF q.ready 32).2.1 ≤ prio)))) = false := by
        rw [hc]
        by_cases hr : q.run ≥ 0
        · have := hc2 hr
          rw [decide_eq_false (show ¬ (topF q.ready 32).2.1 ≤ prio by omega)]; simp
        · simp [hr]
      have hpp : q.run ≥ 0 → prio < (p : Int) := fun hr => by have := hc2 hr; omega
      generalize hx : (topF q.ready 32).1 = x at h2 h5
      refine ⟨_, _, h5, ?_, .inl (next_ok h hp h1 h2 hpp)⟩
      have hm : x ∈ q.ready p := by rw [h2]; exact List.mem_cons_self
      have hxn := h.r.num p x h1 hm
      have hf : ¬ Free q x := fun a => a.2 p h1 hm
      have hnd := h.r.nd p h1
      rw [h2, List.nodup_cons] at hnd
      have hs : strike x (q.ready p) = L := by
        rw [h2]
        have := strike_id (x := x) (L := L) (fun y hy e => hnd.1 (by rw [← e]; exact hy))
        unfold strike at this ⊢
        rw [List.filter_cons, if_neg (by simp), this]
      obtain ⟨r, e, g1, g2⟩ := drop_res h hxn
      have g3 := drop_in h hxn h1 hm
      rw [hs] at g3
      rw [g1] at g3
      simp only [Option.some.injEq, Prod.mk.injEq] at g3
      obtain ⟨hr, he⟩ := g3
      rcases g2 with ⟨g2, _⟩ | ⟨_, hok, _, hocc⟩
      · exact absurd he g2
      · rw [f50, h.ref, Option.bind_some, Bool.not_true, Bool.false_or, e1, cond_false, h.f23, Option.bind_some, f54_eq h, Option.bind_some, e2, cond_false, hx, f48_f22 h hxn hf, g1, Option.bind_some, letk_eq]
        have hq1 : Ok ⟨r.ready, r.delays, -1⟩ := Ok.mk2 ⟨.inl rfl, hok.r.num, hok.r.nd, hok.r.ap, fun j hj hy => by have := hok.r.num j _ hj hy; simp at this⟩ hok.b.d hok.d
        unfold nextR
        by_cases hrun : q.run ≥ 0
        · obtain ⟨k1, k2⟩ := hp hrun
          have hrr := h.r.run
          have hne : Int.toNat prio ≠ p := by have := hpp hrun; omega
          have hfree : Free ⟨r.ready, r.delays, -1⟩ q.run := by
            refine ⟨by show ¬ (-1 : Int) = q.run; omega, fun j hj hy => ?_⟩
            have : q.run ∈ vset q.ready p L j := by rw [hr] at hy; exact hy
            by_cases ej : j = p
            · rw [ej, vs_eq] at this
              exact h.r.out p h1 (by rw [h2]; exact List.mem_cons_of_mem _ this)
            · rw [vs_ne _ _ ej] at this; exact h.r.out j hj this
          rw [decide_eq_true hrun, cond_true, head_refE hq1 (by omega) (by omega) hfree, head_eq hq1 (by omega) (by omega) hfree, if_pos hrun]
          rw [hr]
          show some _ = some _
          rw [← vs_ne q.ready L hne]
        · rw [decide_eq_false hrun, cond_false, if_neg hrun, hr]
  · refine ⟨zQ, 2, ?_, ?_, .inr rfl⟩
    · unfold f12
      have hrp : q.run ≥ 0 ∧ ¬ (0 ≤ prio ∧ prio < 32) := by
        by_cases a : q.run ≥ 0
        · exact ⟨a, fun b => hp (fun _ => b)⟩
        · exact absurd (fun b => absurd b a) hp
      rw [h.may, Option.bind_some, decide_eq_true hrp.1, f30_f prio hrp.2]; rfl
    · have hrp : q.run ≥ 0 ∧ ¬ (0 ≤ prio ∧ prio < 32) := by
        by_cases a : q.run ≥ 0
        · exact ⟨a, fun b => hp (fun _ => b)⟩
        · exact absurd (fun b => absurd b a) hp
      rw [f50, h.ref, Option.bind_some, decide_eq_true hrp.1, f56_f prio hrp.2]; rfl

/-! ### the delay queue -/
theorem wcnt_waits {q : Queues} (h : Ok q) (t : Int) : wcnt q t = if waits q.delays t then 1 else 0 := by
  unfold wcnt
  have g1 := List.nodup_iff_count.1 h.dok.nd t
  cases hw : waits q.delays t with
  | true =>
    obtain ⟨y, hy, e⟩ := (waits_iff _ _).1 hw
    have := List.count_pos_iff.2 (show t ∈ q.delays.map Due.task from List.mem_map.2 ⟨y, hy, e⟩)
    rw [if_pos rfl]; omega
  | false =>
    rw [List.count_eq_zero_of_not_mem (fun hm => by
      obtain ⟨y, hy, e⟩ := List.mem_map.1 hm
      have := (waits_iff q.delays t).2 ⟨y, hy, e⟩
      rw [hw] at this; cases this)]
    rfl
theorem f51_l1_done (q : Queues) (time task : Int) (k : Bool → List Due → Option (Queues × Int)) (hl : q.delays.length ≤ 32) : ∀ (n i : Nat) (z : Int) (l : List Due), z = (i : Int) → i ≤ q.delays.length → q.delays.length < n + i → l.length ≤ i + 1 →
    f51_l1 q time task k n true z l = k true (l ++ q.delays.drop i)
  | 0, i, z, l, _, _, h, _ => by omega
  | n + 1, i, z, l, hz, hi, h, hll => by
    subst hz
    rw [f51_l1]
    by_cases hh : i < q.delays.length
    · rw [decide_eq_true (by omega : (i : Int) < (q.delays.length : Int)), cond_true, letk_eq, idx_in hh, Option.bind_some, Bool.not_true, cond_false, Option.bind_some, cond_false, drop_cons hh]
      show (guardB (appOk 16 l [q.delays[i]]) _) = _
      rw [guardB_t _ (by simp [appOk, maxLen]; omega), w64 (by omega) (by omega), f51_l1_done q time task k hl n (i + 1) _ _ (by push_cast; rfl) (by omega) (by omega) (by simp; omega)]
      simp
    · rw [decide_eq_false (by omega : ¬ (i : Int) < (q.delays.length : Int)), cond_false, List.drop_eq_nil_of_le (by omega), List.append_nil]
theorem f51_l1_eq (q : Queues) (time task : Int) (k : Bool → List Due → Option (Queues × Int)) (hl : q.delays.length ≤ 32) : ∀ (n i : Nat) (z : Int) (l : List Due), z = (i : Int) → i ≤ q.delays.length → q.delays.length < n + i → l.length ≤ i →
    ∃ d M, f51_l1 q time task k n false z l = k d (l ++ M) ∧ M.length ≤ q.delays.length + 1 ∧ (bif !d then M ++ [⟨time, task⟩] else M) = insU ⟨time, task⟩ (q.delays.drop i)
  | 0, i, z, l, _, _, h, _ => by omega
  | n + 1, i, z, l, hz, hi, h, hll => by
    subst hz
    by_cases hh : i < q.delays.length
    · rw [f51_l1, decide_eq_true (by omega : (i : Int) < (q.delays.length : Int)), cond_true, letk_eq, idx_in hh, Option.bind_some, Bool.not_false, cond_true, Option.bind_some, drop_cons hh, insU]
      by_cases e : (q.delays[i]).time > time
      · rw [decide_eq_true e, cond_true, if_pos e, guardB_t _ (by simp [appOk, maxLen]; omega)]
        refine ⟨true, ⟨time, task⟩ :: q.delays[i] :: q.delays.drop (i + 1), ?_, by simp <;> omega, rfl⟩
        show (guardB (appOk 16 (l ++ [⟨time, task⟩]) [q.delays[i]]) _) = _
        rw [guardB_t _ (by simp [appOk, maxLen]; omega), w64 (by omega) (by omega), f51_l1_done q time task k hl n (i + 1) _ _ (by push_cast; rfl) (by omega) (by omega) (by simp; omega)]
        simp
      · rw [decide_eq_false e, cond_false, if_neg e]
        obtain ⟨d, M, h1, h2, h3⟩ := f51_l1_eq q time task k hl n (i + 1) ((i : Int) + 1) (l ++ [q.delays[i]]) (by push_cast; rfl) (by omega) (by omega) (by simp; omega)
        have hM : M.length ≤ (q.delays.drop (i + 1)).length + 1 := by
          have := congrArg List.length h3
          rw [insU_length] at this
          cases d with
          | true => simp only [Bool.not_true, cond_false] at this; omega
          | false => simp only [Bool.not_false, cond_true, List.length_append, List.length_singleton] at this; omega
        rw [List.length_drop] at hM
        refine ⟨d, q.delays[i] :: M, ?_, by rw [List.length_cons]; omega, ?_⟩
        · show (guardB (appOk 16 l [q.delays[i]]) _) = _
          rw [guardB_t _ (by simp [appOk, maxLen]; omega), w64 (by omega) (by omega), h1]
          simp
        · rw [← h3]
          cases d <;> rfl
    · rw [f51_l1, decide_eq_false (by omega : ¬ (i : Int) < (q.delays.length : Int)), cond_false, List.drop_eq_nil_of_le (by omega)]
      exact ⟨false, [], by simp, by simp, rfl⟩
theorem put_ref {q : Queues} (h : Ok q) (time task : Int) : RR (f17 q time task) (f51 q time task) := by
  have e17 := putq_eq h time task
  have e58 := f58_eq q task h.dok.len
  rw [wcnt_waits h] at e58
  by_cases ht : 0 ≤ task ∧ task < 32
  · by_cases hm : 0 ≤ time ∧ time ≤ 9007199254740992
    · rw [if_pos ⟨ht, hm⟩] at e17
      cases hw : waits q.delays task with
      | true =>
        rw [hw] at e17 e58
        refine ⟨_, _, e17, ?_, .inr rfl⟩
        rw [f51, f73_ok h 0 task (by omega) ht, Option.bind_some, decide_eq_true rfl, decide_eq_false (by omega : ¬ time < 0), decide_eq_false (by omega : ¬ time > 9007199254740992), e58]
        rfl
      | false =>
        rw [hw] at e17 e58
        refine ⟨_, _, e17, ?_, .inl (h.set_d (put_dok h.dok (x := ⟨time, task⟩) ht hm hw))⟩
        rw [f51, f73_ok h 0 task (by omega) ht, Option.bind_some, decide_eq_true rfl, decide_eq_false (by omega : ¬ time < 0), decide_eq_false (by omega : ¬ time > 9007199254740992), Bool.not_true, Bool.or_false, Bool.or_false, cond_false, show f58 q task = some 0 from e58, Option.bind_some, decide_eq_false (by omega : ¬ (0 : Int) > 0), cond_false, letk_eq]
        obtain ⟨d, M, h1, h2, h3⟩ := f51_l1_eq q time task (fun (done81 : Bool) (l82 : List Due) =>
  letk (fun (l106 : List Due) =>
  Option.bind (O.f23 q) fun r110 =>
  some ((Queues.mk r110.ready l106 r110.run), 0)) fun k108 =>
  (bif (!done81) then guardB (appOk 16 l82 [(Due.mk time task)]) <|
  (k108 (l82 ++ [(Due.mk time task)])) else (k108 l82))) h.dok.len 9223372036854775808 0 0 [] rfl (by omega) (by have := h.dok.len; omega) (by simp)
        have hl := h.dok.len
        rw [h1, letk_eq, h.f23]
        rw [List.drop_zero] at h3
        rw [List.nil_append, ← h3]
        cases d with
        | true => rfl
        | false =>
          rw [Bool.not_false, cond_true, guardB_t _ (by simp [appOk, maxLen]; omega)]
          rfl
    · rw [if_neg (fun a => hm a.2)] at e17
      refine ⟨_, _, e17, ?_, .inr rfl⟩
      rw [f51, f73_ok h 0 task (by omega) ht, Option.bind_some, decide_eq_true rfl]
      by_cases g : time < 0
      · rw [decide_eq_true g]; rfl
      · rw [decide_eq_true (by omega : time > 9007199254740992), Bool.or_true]; rfl
  · rw [if_neg (fun a => ht a.1)] at e17
    refine ⟨_, _, e17, ?_, .inr rfl⟩
    rw [f51, f73_t h 0 task ht]; rfl
theorem f52_l1_eq (q : Queues) (t : Int) (k : List Due → Option (Queues × Int)) (hl : q.delays.length ≤ 32) : ∀ (n i : Nat) (z : Int) (l : List Due), z = (i : Int) → i ≤ q.delays.length → q.delays.length < n + i → l.length ≤ i →
    f52_l1 q t k n z l = k (l ++ strikeD t (q.delays.drop i))
  | 0, i, z, l, _, _, h, _ => by omega
  | n + 1, i, z, l, hz, hi, h, hll => by
    subst hz
    rw [f52_l1]
    by_cases hh : i < q.delays.length
    · rw [decide_eq_true (by omega : (i : Int) < (q.delays.length : Int)), cond_true, letk_eq, idx_in hh, Option.bind_some, Option.bind_some, w64 (by omega) (by omega), drop_cons hh]
      unfold strikeD
      rw [List.filter_cons]
      by_cases e : (q.delays[i]).task = t
      · rw [decide_eq_true e, Bool.not_true, cond_false]
        show f52_l1 q t k n _ _ = _
        rw [f52_l1_eq q t k hl n (i + 1) _ l (by push_cast; rfl) (by omega) (by omega) (by omega)]
        rfl
      · rw [decide_eq_false e, Bool.not_false, cond_true, guardB_t _ (by simp [appOk, maxLen]; omega)]
        show f52_l1 q t k n _ _ = _
        rw [f52_l1_eq q t k hl n (i + 1) _ (l ++ [q.delays[i]]) (by push_cast; rfl) (by omega) (by omega) (by simp; omega)]
        simp [strikeD]
    · rw [decide_eq_false (by omega : ¬ (i : Int) < (q.delays.length : Int)), cond_false, List.drop_eq_nil_of_le (by omega)]
      simp [strikeD]
theorem cancel_ref {q : Queues} (h : Ok q) (t : Int) : RR (f18 q t) (f52 q t) := by
  have e18 := cancel_eq h t
  have e58 := f58_eq q t h.dok.len
  rw [wcnt_waits h] at e58
  by_cases ht : 0 ≤ t ∧ t < 32
  · rw [if_pos ht] at e18
    cases hw : waits q.delays t with
    | true =>
      rw [hw] at e18 e58
      refine ⟨_, _, e18, ?_, .inl (h.set_d (strikeD_dok h.dok t))⟩
      rw [f52, f73_ok h 0 t (by omega) ht, Option.bind_some, decide_eq_true rfl, Bool.not_true, cond_false, show f58 q t = some 1 from e58, Option.bind_some, decide_eq_false (by omega : ¬ (1 : Int) = 0), cond_false, letk_eq, f52_l1_eq q t _ h.dok.len _ 0 0 [] rfl (by omega) (by have := h.dok.len; omega) (by simp), h.f23, List.drop_zero]
      rfl
    | false =>
      rw [hw] at e18 e58
      refine ⟨_, _, e18, ?_, .inr rfl⟩
      rw [f52, f73_ok h 0 t (by omega) ht, Option.bind_some, decide_eq_true rfl, e58]
      rfl
  · rw [if_neg ht] at e18
    refine ⟨_, _, e18, ?_, .inr rfl⟩
    rw [f52, f73_t h 0 t ht]; rfl
theorem f53_l1_eq (q : Queues) (now : Int) (k : List Due → List Int → Option (Queues × List Int × Int)) (hl : q.delays.length ≤ 32) : ∀ (n i : Nat) (z : Int) (l : List Due) (o : List Int), z = (i : Int) → i ≤ q.delays.length → q.delays.length < n + i → l.length ≤ i → o.length ≤ i →
    f53_l1 q now k n z l o = k (l ++ (q.delays.drop i).filter (fun y => !due now y)) (o ++ ((q.delays.drop i).filter (due now)).map Due.task)
  | 0, i, z, l, o, _, _, h, _, _ => by omega
  | n + 1, i, z, l, o, hz, hi, h, hll, hlo => by
    subst hz
    rw [f53_l1]
    by_cases hh : i < q.delays.length
    · rw [decide_eq_true (by omega : (i : Int) < (q.delays.length : Int)), cond_true, letk_eq, idx_in hh, Option.bind_some, Option.bind_some, w64 (by omega) (by omega), drop_cons hh, List.filter_cons, List.filter_cons]
      by_cases e : (q.delays[i]).time ≤ now
      · have ed : due now q.delays[i] = true := decide_eq_true e
        rw [decide_eq_true e, cond_true, guardB_t _ (by simp [appOk, maxLen]; omega), ed]
        show f53_l1 q now k n _ _ _ = _
        rw [f53_l1_eq q now k hl n (i + 1) _ l _ (by push_cast; rfl) (by omega) (by omega) (by omega) (by simp; omega)]
        simp
      · have ed : due now q.delays[i] = false := decide_eq_false e
        rw [decide_eq_false e, cond_false, Option.bind_some, guardB_t _ (by simp [appOk, maxLen]; omega), ed]
        show f53_l1 q now k n _ _ _ = _
        rw [f53_l1_eq q now k hl n (i + 1) _ _ o (by push_cast; rfl) (by omega) (by omega) (by simp; omega) (by omega)]
        simp
    · rw [decide_eq_false (by omega : ¬ (i : Int) < (q.delays.length : Int)), cond_false, List.drop_eq_nil_of_le (by omega)]
      simp
theorem asc_filter (now : Int) : ∀ {d : List Due}, Asc d → d.filter (due now) = d.takeWhile (due now) ∧ d.filter (fun y => !due now y) = d.dropWhile (due now)
  | [], _ => ⟨rfl, rfl⟩
  | x :: d, h => by
    have hp := List.pairwise_cons.1 h
    rw [List.filter_cons, List.filter_cons, List.takeWhile_cons, List.dropWhile_cons]
    cases e : due now x with
    | true =>
      obtain ⟨h1, h2⟩ := asc_filter now hp.2
      simp only [if_true, Bool.not_true, Bool.false_eq_true, if_false]
      exact ⟨by rw [h1], h2⟩
    | false =>
      have ex : ¬ x.time ≤ now := of_decide_eq_false e
      have all : ∀ y ∈ d, due now y = false := fun y hy => decide_eq_false (by have := hp.1 y hy; omega)
      simp only [if_true, Bool.not_false, Bool.false_eq_true, if_false]
      refine ⟨?_, ?_⟩
      · rw [List.filter_eq_nil_iff]; intro y hy; rw [all y hy]; decide
      · rw [List.filter_eq_self.2 (fun y hy => by rw [all y hy]; rfl)]
theorem expire_ref {q : Queues} (h : Ok q) (now : Int) : f53 q now = f19 q now := by
  have hl := h.dok.len
  rw [expire_eq h now, f53, h.ref, Option.bind_some, Bool.not_true, cond_false, letk_eq, f53_l1_eq q now _ hl _ 0 0 [] [] rfl (by omega) (by omega) (by simp) (by simp), List.drop_zero, (asc_filter now h.dok.asc).1, (asc_filter now h.dok.asc).2, h.f23]
  rfl
theorem first_ref {q : Queues} (h : Ok q) : f55 q = f20 q := by
  unfold f55 f20
  rw [h.ref, h.may]
end Go.Proofs.Ytpionlekbfoccaa
set_option maxRecDepth 10000
namespace Go.Proofs.Ytpionlekbfoccaa
open Go Go.Sk

/-! ### queues that are not valid -/
theorem bad_prog {q : Queues} (h : f10 q = some false) (p t tm : Int) : f21 q p t = some (zQ, 2) ∧ f28 q p t = some (zQ, 2) ∧ f22 q t = some (zQ, 2) ∧ f29 q p t = some (zQ, 2) ∧ f12 q p = some (zQ, 2) ∧ f17 q tm t = some (zQ, 2) ∧ f18 q t = some (zQ, 2) ∧ f19 q tm = some (zQ, [], 2) ∧ f14 q = some (0, 0, false) ∧ f20 q = some (0, false) := by
  refine ⟨?_, ?_, ?_, ?_, ?_, ?_, ?_, ?_, ?_, ?_⟩
  · unfold f21 letk; dsimp only; rw [h]; rfl
  · unfold f28 letk; dsimp only; rw [h]; rfl
  · rw [f22, h]; rfl
  · rw [f29, h]; rfl
  · rw [f12, h]; rfl
  · rw [f17, h]; rfl
  · rw [f18, h]; rfl
  · rw [f19, h]; rfl
  · rw [f14]; unfold letk; dsimp only; rw [h]; rfl
  · rw [f20, h]; rfl
theorem bad_ref {q : Queues} (h : f25 q = some false) (p t tm : Int) : f46 q p t = some (zQ, 2) ∧ f47 q p t = some (zQ, 2) ∧ f48 q t = some (zQ, 2) ∧ f49 q p t = some (zQ, 2) ∧ f50 q p = some (zQ, 2) ∧ f51 q tm t = some (zQ, 2) ∧ f52 q t = some (zQ, 2) ∧ f53 q tm = some (zQ, [], 2) ∧ f54 q = some (0, 0, false) ∧ f55 q = some (0, false) := by
  have h73 : ∀ a b, f73 q a b = some 2 := fun a b => by unfold f73; rw [h]; rfl
  refine ⟨?_, ?_, ?_, ?_, ?_, ?_, ?_, ?_, ?_, ?_⟩
  · rw [f46, h73]; rfl
  · rw [f47, h73]; rfl
  · rw [f48, h73]; rfl
  · rw [f49, h73]; rfl
  · rw [f50, h]; rfl
  · rw [f51, h73]; rfl
  · rw [f52, h73]; rfl
  · rw [f53, h]; rfl
  · rw [f54, h]; rfl
  · rw [f55, h]; rfl

theorem zQ_bnd : Bnd zQ := ⟨fun _ _ => by simp, by simp⟩
theorem k244_eq (r : Queues) (e : Int) (l : List Int) (hb : Bnd r) (hl : l.length < 9223372036854775808) : (letk (fun (t265 : Bool) (c00266 : Nat → (List Int)) (c10267 : Nat → (List Int)) (c20268 : Nat → (List Int)) =>
  some ((Queues.mk c00266 r.delays r.run), t265)) fun k269 =>
  Option.bind (f15 (Queues.mk r.ready r.delays r.run) (Queues.mk r.ready r.delays r.run)) fun r270 =>
  (bif r270 then (bif (decide (e = e)) then Option.bind (f31 l l) fun r271 =>
  (k269 r271 r.ready r.ready r.ready) else (k269 false r.ready r.ready r.ready)) else (k269 false r.ready r.ready r.ready))) = some (r, true) := by
  rw [letk_eq, f15_refl _ (show Bnd (Queues.mk r.ready r.delays r.run) from hb), Option.bind_some, cond_true, decide_eq_true rfl, cond_true, f31_refl l hl]
  rfl
/-- A call by the program and by the reference. -/
theorem f24_eq (q : Queues) (x : Step) (hb : Bnd q) : ∃ s, f24 q x = some (s, true) ∧ (Ok s ∨ s = zQ ∨ s = q) := by
  -- what both give
  have both : (∀ p t, RR (f21 q p t) (f46 q p t)) ∧ (∀ p t, RR (f28 q p t) (f47 q p t)) ∧ (∀ t, RR (f22 q t) (f48 q t)) ∧ (∀ p t, RR (f29 q p t) (f49 q p t)) ∧ (∀ p, RR (f12 q p) (f50 q p)) ∧ (∀ p t, RR (f17 q p t) (f51 q p t)) ∧ (∀ t, RR (f18 q t) (f52 q t)) ∧
      (∀ t, ∃ r l e, f19 q t = some (r, l, e) ∧ f53 q t = some (r, l, e) ∧ l.length < 9223372036854775808 ∧ (Ok r ∨ r = zQ)) ∧ (∃ a, f14 q = some a ∧ f54 q = some a) ∧ (∃ a, f20 q = some a ∧ f55 q = some a) := by
    obtain ⟨b, h10, h25, hok⟩ := f25_f10 q hb
    cases b with
    | true =>
      have h := hok rfl
      refine ⟨tail_ref h, head_ref h, drop_ref h, move_ref h, disp_ref h, put_ref h, cancel_ref h, fun t => ?_, ⟨_, f14_eq h, f54_eq h⟩, ⟨_, first_eq h, (first_ref h).trans (first_eq h)⟩⟩
      have hl := h.dok.len
      have htw : (q.delays.takeWhile (due t)).length ≤ q.delays.length := (List.takeWhile_sublist _).length_le
      exact ⟨_, _, _, expire_eq h t, (expire_ref h t).trans (expire_eq h t), by rw [List.length_map]; omega, .inl (h.set_d (dw_dok h.dok t))⟩
    | false =>
      refine ⟨fun p t => ⟨_, _, (bad_prog h10 p t 0).1, (bad_ref h25 p t 0).1, .inr rfl⟩, fun p t => ⟨_, _, (bad_prog h10 p t 0).2.1, (bad_ref h25 p t 0).2.1, .inr rfl⟩, fun t => ⟨_, _, (bad_prog h10 0 t 0).2.2.1, (bad_ref h25 0 t 0).2.2.1, .inr rfl⟩, fun p t => ⟨_, _, (bad_prog h10 p t 0).2.2.2.1, (bad_ref h25 p t 0).2.2.2.1, .inr rfl⟩, fun p => ⟨_, _, (bad_prog h10 p 0 0).2.2.2.2.1, (bad_ref h25 p 0 0).2.2.2.2.1, .inr rfl⟩, fun p t => ⟨_, _, (bad_prog h10 0 t p).2.2.2.2.2.1, (bad_ref h25 0 t p).2.2.2.2.2.1, .inr rfl⟩, fun t => ⟨_, _, (bad_prog h10 0 t 0).2.2.2.2.2.2.1, (bad_ref h25 0 t 0).2.2.2.2.2.2.1, .inr rfl⟩, fun t => ⟨_, _, _, (bad_prog h10 0 0 t).2.2.2.2.2.2.2.1, (bad_ref h25 0 0 t).2.2.2.2.2.2.2.1, by simp, .inr rfl⟩, ⟨_, (bad_prog h10 0 0 0).2.2.2.2.2.2.2.2.1, (bad_ref h25 0 0 0).2.2.2.2.2.2.2.2.1⟩, ⟨_, (bad_prog h10 0 0 0).2.2.2.2.2.2.2.2.2, (bad_ref h25 0 0 0).2.2.2.2.2.2.2.2.2⟩⟩
  have bnd : ∀ r, (Ok r ∨ r = zQ) → Bnd r := fun r h => by
    rcases h with h | h
    · exact h.b
    · rw [h]; exact zQ_bnd
  have wk : ∀ r, (Ok r ∨ r = zQ) → (Ok r ∨ r = zQ ∨ r = q) := fun r h => by
    rcases h with h | h
    · exact .inl h
    · exact .inr (.inl h)
  obtain ⟨B0, B1, B2, B3, B4, B5, B6, B7, ⟨a8, B8, C8⟩, ⟨a9, B9, C9⟩⟩ := both
  rw [f24, letk_eq]
  by_cases c0 : Int.tmod x.what 9 = 0
  · obtain ⟨r, e, h1, h2, h3⟩ := B0 x.prio x.task
    rw [decide_eq_true c0, cond_true, h1, Option.bind_some, h2, Option.bind_some]
    exact ⟨r, k244_eq r e [] (bnd r h3) (by simp), wk r h3⟩
  rw [decide_eq_false c0, cond_false]
  by_cases c1 : Int.tmod x.what 9 = 1
  · obtain ⟨r, e, h1, h2, h3⟩ := B1 x.prio x.task
    rw [decide_eq_true c1, cond_true, h1, Option.bind_some, h2, Option.bind_some]
    exact ⟨r, k244_eq r e [] (bnd r h3) (by simp), wk r h3⟩
  rw [decide_eq_false c1, cond_false]
  by_cases c2 : Int.tmod x.what 9 = 2
  · obtain ⟨r, e, h1, h2, h3⟩ := B2 x.task
    rw [decide_eq_true c2, cond_true, h1, Option.bind_some, h2, Option.bind_some]
    exact ⟨r, k244_eq r e [] (bnd r h3) (by simp), wk r h3⟩
  rw [decide_eq_false c2, cond_false]
  by_cases c3 : Int.tmod x.what 9 = 3
  · obtain ⟨r, e, h1, h2, h3⟩ := B3 x.prio x.task
    rw [decide_eq_true c3, cond_true, h1, Option.bind_some, h2, Option.bind_some]
    exact ⟨r, k244_eq r e [] (bnd r h3) (by simp), wk r h3⟩
  rw [decide_eq_false c3, cond_false]
  by_cases c4 : Int.tmod x.what 9 = 4
  · obtain ⟨r, e, h1, h2, h3⟩ := B4 x.prio
    rw [decide_eq_true c4, cond_true, h1, Option.bind_some, h2, Option.bind_some]
    exact ⟨r, k244_eq r e [] (bnd r h3) (by simp), wk r h3⟩
  rw [decide_eq_false c4, cond_false]
  by_cases c5 : Int.tmod x.what 9 = 5
  · obtain ⟨r, e, h1, h2, h3⟩ := B5 x.time x.task
    rw [decide_eq_true c5, cond_true, h1, Option.bind_some, h2, Option.bind_some]
    exact ⟨r, k244_eq r e [] (bnd r h3) (by simp), wk r h3⟩
  rw [decide_eq_false c5, cond_false]
  by_cases c6 : Int.tmod x.what 9 = 6
  · obtain ⟨r, e, h1, h2, h3⟩ := B6 x.task
    rw [decide_eq_true c6, cond_true, h1, Option.bind_some, h2, Option.bind_some]
    exact ⟨r, k244_eq r e [] (bnd r h3) (by simp), wk r h3⟩
  rw [decide_eq_false c6, cond_false]
  by_cases c7 : Int.tmod x.what 9 = 7
  · obtain ⟨r, l, e, h1, h2, hl, h3⟩ := B7 x.time
    rw [decide_eq_true c7, cond_true, h1, Option.bind_some, h2, Option.bind_some]
    exact ⟨r, k244_eq r e l (bnd r h3) hl, wk r h3⟩
  rw [decide_eq_false c7, cond_false, B8, Option.bind_some, C8, Option.bind_some, B9, Option.bind_some, C9, Option.bind_some]
  refine ⟨q, ?_, .inr (.inr rfl)⟩
  simp

/-! ### QueueCalls -/
/-- The arguments are no longer than a machine's memory. -/
structure Bnd2 (q : Queues) : Prop where
  r : ∀ j, j < 32 → (q.ready j).length ≤ 140737488355328
  d : q.delays.length ≤ 140737488355328
theorem Bnd2.b {q : Queues} (h : Bnd2 q) : Bnd q := ⟨fun j hj => by have := h.r j hj; omega, by have := h.d; omega⟩
theorem f9_l1_eq (q : Queues) (hb : Bnd2 q) (k : Int → Option Bool) : ∀ (n i c : Nat) (a z : Int), z = (i : Int) → a = (c : Int) → c ≤ 140737488355328 * (i + 1) → i ≤ 32 → 32 - i < n → f9_l1 q k n a z = k ((c + (flat q.ready (32 - i) i).length : Nat) : Int)
  | 0, i, c, a, z, _, _, _, _, h => by omega
  | n + 1, i, c, a, z, hz, ha, hc, hi, h => by
    subst hz; subst ha
    rw [f9_l1]
    by_cases hh : i < 32
    · have hbi := hb.r i hh
      have e : 32 - i = (32 - (i + 1)) + 1 := by omega
      rw [decide_eq_true (by omega : (i : Int) < 32), cond_true, guardB_t _ (vecOk_nat hh), Int.toNat_natCast, w64 (x := (i : Int) + 1) (by omega) (by omega), w64 (x := (c : Int) + _) (by omega) (by omega)]
      rw [f9_l1_eq q hb k n (i + 1) (c + (q.ready i).length) _ _ (by push_cast; rfl) (by push_cast; rfl) (by omega) (by omega) (by omega), e, flat, List.length_append, Nat.add_assoc]
    · have : i = 32 := by omega
      subst this
      rfl
theorem f9_eq (q : Queues) (hb : Bnd2 q) : f9 q = some (decide (((q.delays.length + (flat q.ready 32 0).length : Nat) : Int) > 300)) := by
  have := hb.d
  rw [f9, letk_eq, f9_l1_eq q hb _ _ 0 q.delays.length _ 0 rfl rfl (by omega) (by omega) (by omega)]
theorem law6 (q : Queues) (x : Step) (hb2 : Bnd2 q) : f6 q x = some true := by
  have hb := hb2.b
  rw [f6, f9_eq q hb2, Option.bind_some, f11_true]
  by_cases hg : q.delays.length + (flat q.ready 32 0).length > 300
  · rw [decide_eq_true (by omega), cond_true]; rfl
  · have hown : O.ownOk q = true := by
      unfold O.ownOk
      rw [Bool.and_eq_true]
      constructor
      · rw [List.all_eq_true]
        intro j hj
        have h1 := List.mem_range.1 hj
        have := flat_len (F := q.ready) (n := 32) (i := 0) (j := j) (by omega) (by omega)
        simp [appOk, maxLen] <;> omega
      · simp [appOk, maxLen] <;> omega
    have h23 : O.f23 q = some q := by unfold O.f23; rw [guardB_t _ hown]
    obtain ⟨s, h24, _⟩ := f24_eq q x hb
    obtain ⟨b, h10, h25, _⟩ := f25_f10 q hb
    have hb16 : Bnd f16 := ⟨fun _ _ => by simp [f16], by simp [f16]⟩
    have e26 : f26 = f16 := rfl
    rw [decide_eq_false (by omega), cond_false, h23, Option.bind_some, h24, Option.bind_some, letk_eq, cond_true, f15_refl q hb, Option.bind_some, cond_true, h10, Option.bind_some, h25, Option.bind_some, e26, f15_refl f16 hb16]
    cases b <;> rfl

/-! ### QueuePlays -/
theorem f31_nil (L : List Int) : ∃ b, f31 L [] = some b := by
  rw [f31]
  cases L with
  | nil => exact ⟨_, f31_refl [] (by simp)⟩
  | cons x L =>
    rw [decide_eq_false (by simp only [List.length_cons, List.length_nil]; omega), Bool.not_false, cond_true]
    exact ⟨_, rfl⟩
theorem f15_l2_nil (r : Queues) : ∀ (n i : Nat) (z : Int), z = (i : Int) → i ≤ 32 → 32 - i < n → ∃ b, f15_l2 r zQ (fun _ => some true) n z = some b
  | 0, i, z, _, _, h => by omega
  | n + 1, i, z, hz, hi, h => by
    subst hz
    rw [f15_l2]
    by_cases hh : i < 32
    · obtain ⟨b, hb⟩ := f31_nil (r.ready i)
      rw [decide_eq_true (by omega : (i : Int) < 32), cond_true, guardB_t _ (vecOk_nat hh), guardB_t _ (vecOk_nat hh), Int.toNat_natCast]
      show ∃ b, Option.bind (f31 (r.ready i) []) _ = some b
      rw [hb, Option.bind_some]
      cases b with
      | false => exact ⟨_, rfl⟩
      | true =>
        rw [Bool.not_true, cond_false, w64 (by omega) (by omega)]
        exact f15_l2_nil r n (i + 1) _ (by push_cast; rfl) (by omega) (by omega)
    · rw [decide_eq_false (by omega : ¬ (i : Int) < 32), cond_false]
      exact ⟨_, rfl⟩
theorem f15_tot (r : Queues) : ∃ b, f15 r zQ = some b := by
  rw [f15]
  by_cases h1 : r.run = 0
  · by_cases h2 : r.delays = []
    · rw [decide_eq_true h1, h2, decide_eq_true (by rfl), Bool.not_true, Bool.or_false, cond_false, letk_eq]
      show ∃ b, letk _ _ = some b
      rw [letk_eq]
      obtain ⟨F, hF⟩ : ∃ F : Nat, 9223372036854775808 = F + 1 := ⟨_, rfl⟩
      rw [hF, f15_l1, h2, decide_eq_false (by simp), cond_false, ← hF]
      exact f15_l2_nil r _ 0 0 rfl (by omega) (by omega)
    · have : 0 < r.delays.length := List.length_pos_iff.2 h2
      rw [decide_eq_false (show ¬ (r.delays.length : Int) = ((zQ.delays.length : Nat) : Int) by show ¬ (r.delays.length : Int) = ((0 : Nat) : Int); omega), Bool.not_false, Bool.or_true, cond_true]
      exact ⟨_, rfl⟩
  · rw [decide_eq_false h1, Bool.not_false, Bool.true_or, cond_true]
    exact ⟨_, rfl⟩
theorem zQ_ok : Ok zQ := Ok.mk2 ⟨.inr ⟨by decide, by decide⟩, (fun j x _ h => by cases h), (fun j _ => List.nodup_nil), (fun j k x _ _ h => by cases h), (fun j _ h => by cases h)⟩ (by decide) (by decide)
theorem f7_l1_eq (l : List Step) (hl : l.length ≤ 60) (k : (Nat → List Int) → List Due → Int → Option Bool) (hk : ∀ F d r, k F d r = some true) : ∀ (n i : Nat) (z : Int) (q : Queues), z = (i : Int) → i ≤ l.length → l.length < n + i → Ok q →
    f7_l1 l k n z q.ready q.delays q.run = some true
  | 0, i, z, q, _, _, h, _ => by omega
  | n + 1, i, z, q, hz, hi, h, ho => by
    subst hz
    rw [f7_l1]
    by_cases hh : i < l.length
    · obtain ⟨s, h24, h3⟩ := f24_eq q l[i] ho.b
      have hs : Ok s := by
        rcases h3 with h3 | h3 | h3
        · exact h3
        · rw [h3]; exact zQ_ok
        · rw [h3]; exact ho
      obtain ⟨b, hb⟩ := f15_tot s
      have e1 : Queues.mk q.ready q.delays q.run = q := rfl
      rw [decide_eq_true (by omega : (i : Int) < (l.length : Int)), cond_true, idx_in hh, Option.bind_some, e1, h24, Option.bind_some]
      have hrun : s.run ≥ -1 := by have := hs.r.run; omega
      show (bif !true then _ else letk _ _) = _
      rw [Bool.not_true, cond_false, letk_eq, hs.ref, Option.bind_some, decide_eq_true hrun, Bool.and_true, cond_true]
      show Option.bind (Option.bind (f15 s zQ) _) _ = _
      rw [hb, Option.bind_some, Option.bind_some, w64 (by omega) (by omega)]
      have next : ∀ r : Queues, Ok r → (Option.bind (f10 (Queues.mk r.ready r.delays r.run)) fun r75 =>
          (bif (!r75) then some false else (f7_l1 l k n ((i : Int) + 1) r.ready r.delays r.run))) = some true := fun r hr => by
        have e2 : Queues.mk r.ready r.delays r.run = r := rfl
        rw [e2, hr.may, Option.bind_some, Bool.not_true, cond_false]
        exact f7_l1_eq l hl k hk n (i + 1) _ r (by push_cast; rfl) (by omega) (by omega) hr
      cases b with
      | true => exact next q ho
      | false => exact next s hs
    · rw [decide_eq_false (by omega : ¬ (i : Int) < (l.length : Int)), cond_false]
      exact hk _ _ _
theorem law7 (l : List Step) (hl : l.length < 9223372036854775808) : f7 l = some true := by
  rw [f7, f11_true]
  by_cases h : l.length > 60
  · rw [decide_eq_true (by omega), cond_true]; rfl
  · have hok0 : Ok f26 := Ok.mk2 ⟨.inl rfl, (fun j x _ h => by cases h), (fun j _ => List.nodup_nil), (fun j k x _ _ h => by cases h), (fun j _ h => by cases h)⟩ (by decide) (by decide)
    rw [decide_eq_false (by omega), cond_false, letk_eq]
    exact f7_l1_eq l (by omega) _ (fun _ _ _ => rfl) _ 0 0 f26 rfl (by omega) (by omega) hok0
end Go.Proofs.Ytpionlekbfoccaa
