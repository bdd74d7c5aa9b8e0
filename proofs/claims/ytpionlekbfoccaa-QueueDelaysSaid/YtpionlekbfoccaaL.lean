/- The fixed examples. -/
import Derived.KernelRfl
import Derived.Test.YtpionlekbfoccaaO
set_option maxRecDepth 100000
namespace Go.Proofs.Ytpionlekbfoccaa
open Go Go.Sk
theorem f11_true : f11 = some true := by kernel_rfl
end Go.Proofs.Ytpionlekbfoccaa
set_option maxRecDepth 10000
namespace Go.Proofs.Ytpionlekbfoccaa
open Go Go.Sk

theorem w64 {x : Int} (h1 : -9223372036854775808 ≤ x) (h2 : x ≤ 9223372036854775807) : IntKind.i64.wrap x = x := by
  rw [IntKind.wrap_i64]; omega
theorem idx_in {α : Type} {L : List α} {i : Nat} (h : i < L.length) : idx L (i : Int) = some L[i] := by
  unfold idx
  rw [decide_eq_true (Int.natCast_nonneg i)]
  simp [h]
theorem drop_cons {α : Type} {L : List α} {i : Nat} (h : i < L.length) : L.drop i = L[i] :: L.drop (i + 1) := List.drop_eq_getElem_cons h
theorem guardB_t {α : Type} {c : Bool} (o : Option α) (h : c = true) : guardB c o = o := by rw [h]; rfl
theorem vecOk_nat {i : Nat} (h : i < 32) : vecOk 32 (i : Int) = true := by simp [vecOk, h]

/-- The set of the tasks seen. -/
def inM (m : List (Int × Bool)) (x : Int) : Bool := Option.getD (mpGet m x) false
theorem mpGet_put (m : List (Int × Bool)) (k : Int) (v : Bool) (x : Int) : mpGet (mpPut m k v) x = if k = x then some v else mpGet m x := by
  induction m with
  | nil => simp [mpPut, mpGet]
  | cons p r ih =>
    unfold mpPut
    by_cases h : p.1 = k
    · rw [if_pos h]
      unfold mpGet
      by_cases hk : k = x
      · simp [hk]
      · simp [hk, h]
    · rw [if_neg h]
      unfold mpGet
      rw [ih]
      by_cases hk : p.1 = x
      · have : ¬ k = x := fun e => h (by rw [hk, e])
        simp [hk, this]
      · simp [hk]
theorem inM_put (m : List (Int × Bool)) (k x : Int) : inM (mpPut m k true) x = (decide (k = x) || inM m x) := by
  unfold inM
  rw [mpGet_put]
  by_cases h : k = x <;> simp [h]

def okS : List Int → List (Int × Bool) → Bool
  | [], _ => true
  | x :: L, m => f30 x && (!(inM m x)) && okS L (mpPut m x true)
theorem okS_iff : ∀ (L : List Int) (m : List (Int × Bool)), okS L m = true ↔ (∀ x ∈ L, f30 x = true) ∧ L.Nodup ∧ ∀ x ∈ L, inM m x = false
  | [], m => by simp [okS]
  | x :: L, m => by
    rw [okS, Bool.and_eq_true, Bool.and_eq_true, okS_iff L]
    simp only [inM_put, List.mem_cons, List.nodup_cons, Bool.or_eq_false_iff, decide_eq_false_iff_not, Bool.not_eq_true', forall_eq_or_imp]
    constructor
    · rintro ⟨⟨h1, h2⟩, h3, h4, h5⟩
      exact ⟨⟨h1, h3⟩, ⟨fun h => (h5 x h).1 rfl, h4⟩, h2, fun a ha => (h5 a ha).2⟩
    · rintro ⟨⟨h1, h3⟩, ⟨h6, h4⟩, h2, h5⟩
      exact ⟨⟨h1, h2⟩, h3, h4, fun a ha => ⟨fun e => h6 (by rw [e]; exact ha), h5 a ha⟩⟩
theorem okS_app : ∀ (L L2 : List Int) (m : List (Int × Bool)), okS (L ++ L2) m = (okS L m && okS L2 (L.foldl (fun m x => mpPut m x true) m))
  | [], L2, m => by simp [okS]
  | x :: L, L2, m => by simp [okS, okS_app L L2, Bool.and_assoc]

theorem f10_l2_eq (q : Queues) (t : Int) (k : List (Int × Bool) → Option Bool) (hl : (q.ready (Int.toNat t)).length < 9223372036854775808) : ∀ (n i : Nat) (z : Int) (m : List (Int × Bool)), z = (i : Int) → (q.ready (Int.toNat t)).length < n + i → i ≤ (q.ready (Int.toNat t)).length →
    f10_l2 q t k n z m = (bif okS ((q.ready (Int.toNat t)).drop i) m then k (((q.ready (Int.toNat t)).drop i).foldl (fun m x => mpPut m x true) m) else some false)
  | 0, i, z, m, hz, hn, hi => by omega
  | n + 1, i, z, m, hz, hn, hi => by
    subst hz
    rw [f10_l2]
    by_cases h : i < (q.ready (Int.toNat t)).length
    · rw [decide_eq_true (by omega : (i : Int) < ((q.ready (Int.toNat t)).length : Int)), cond_true, idx_in h, Option.bind_some, drop_cons h, okS]
      rw [w64 (by omega) (by omega)]
      rw [f10_l2_eq q t k hl n (i + 1) _ _ (by push_cast; rfl) (by omega) (by omega), List.foldl_cons]
      show (bif ((!(f30 _)) || inM m _) then some false else _) = _
      cases h1 : f30 (q.ready (Int.toNat t))[i] <;> cases h2 : inM m (q.ready (Int.toNat t))[i] <;> simp
    · have hd : (q.ready (Int.toNat t)).drop i = [] := List.drop_eq_nil_of_le (by omega)
      rw [decide_eq_false (by omega : ¬ (i : Int) < ((q.ready (Int.toNat t)).length : Int)), cond_false, hd]
      rfl

/-- The ready queues from number i on, n of them. -/
def flat (F : Nat → List Int) : Nat → Nat → List Int
  | 0, _ => []
  | n + 1, i => F i ++ flat F n (i + 1)
theorem f10_l1_eq (q : Queues) (r : Option Bool) (hl : ∀ j, j < 32 → (q.ready j).length < 9223372036854775808) : ∀ (n i : Nat) (z : Int) (m : List (Int × Bool)), z = (i : Int) → n + i = 33 → i ≤ 32 →
    f10_l1 q (fun _ => r) n z m = (bif okS (flat q.ready (32 - i) i) m then r else some false)
  | 0, i, z, m, hz, hn, hi => by omega
  | n + 1, i, z, m, hz, hn, hi => by
    subst hz
    rw [f10_l1]
    by_cases h : i < 32
    · rw [decide_eq_true (by omega : (i : Int) < 32), cond_true]
      unfold letk
      dsimp only
      rw [guardB_t _ (vecOk_nat h), f10_l2_eq q (i : Int) _ (hl i h) _ 0 0 _ rfl (by simp) (by simp)]
      simp only [List.drop_zero, Int.toNat_natCast]
      rw [w64 (by omega) (by omega)]
      rw [f10_l1_eq q r hl n (i + 1) _ _ (by push_cast; rfl) (by omega) (by omega)]
      have e : 32 - i = (32 - (i + 1)) + 1 := by omega
      rw [e, flat, okS_app]
      cases h1 : okS (q.ready i) m <;> simp
    · have : i = 32 := by omega
      subst this
      rfl

theorem f10_l3_congr (q q' : Queues) (h : q'.delays = q.delays) (k : List (Int × Bool) → Option Bool) : ∀ (n : Nat) (a b : Int) (m : List (Int × Bool)), f10_l3 q' k n a b m = f10_l3 q k n a b m
  | 0, _, _, _ => rfl
  | n + 1, a, b, m => by
    rw [f10_l3, f10_l3, h]
    simp only [f10_l3_congr q q' h k n]
theorem f10_l3_tot (q : Queues) (k : List (Int × Bool) → Option Bool) (hk : ∀ m, ∃ b, k m = some b) (hl : q.delays.length < 9223372036854775808) : ∀ (n i : Nat) (z a : Int) (m : List (Int × Bool)), z = (i : Int) → q.delays.length < n + i → i ≤ q.delays.length →
    ∃ b, f10_l3 q k n a z m = some b
  | 0, i, z, a, m, hz, hn, hi => by omega
  | n + 1, i, z, a, m, hz, hn, hi => by
    subst hz
    rw [f10_l3]
    by_cases h : i < q.delays.length
    · rw [decide_eq_true (by omega : (i : Int) < (q.delays.length : Int)), cond_true, idx_in h, Option.bind_some, w64 (by omega) (by omega)]
      obtain ⟨b, hb⟩ := f10_l3_tot q k hk hl n (i + 1) ((i : Int) + 1) (q.delays[i]).time (mpPut m (q.delays[i]).task true) (by push_cast; rfl) (by omega) (by omega)
      rw [hb]
      cases ((((!(f30 (q.delays[i]).task)) || (Option.getD (mpGet m (q.delays[i]).task) false)) || (decide ((q.delays[i]).time < a))) || (decide ((q.delays[i]).time > 9007199254740992))) <;> exact ⟨_, rfl⟩
    · rw [decide_eq_false (by omega : ¬ (i : Int) < (q.delays.length : Int)), cond_false]
      exact hk m

/-- The bounds that arguments keep. -/
structure Bnd (q : Queues) : Prop where
  r : ∀ j, j < 32 → (q.ready j).length < 9223372036854775808
  d : q.delays.length < 9223372036854775808

def DQ (d : List Due) : Option Bool := f10_l3 ⟨fun _ => [], d, 0⟩ (fun _ => some true) (Int.toNat ((List.length d : Int) - 0) + 1) 0 0 ([] : List (Int × Bool))
def m0 (run : Int) : List (Int × Bool) := mpPut (mpPut ([] : List (Int × Bool)) (-1) true) run true
theorem f10_eq (q : Queues) (hb : Bnd q) : f10 q = (bif ((!decide (q.run = (-1))) && (!(f30 q.run))) then some false else (bif okS (flat q.ready 32 0) (m0 q.run) then DQ q.delays else some false)) := by
  unfold f10 letk
  dsimp only
  have e : Int.toNat (32 - 0) + 1 = 33 := rfl
  have h1 := f10_l1_eq q (f10_l3 q (fun _ => some true) (Int.toNat ((List.length q.delays : Int) - 0) + 1) 0 0 ([] : List (Int × Bool))) hb.r 33 0 0 (m0 q.run) rfl rfl (by decide)
  rw [e]
  unfold m0 at h1
  rw [h1]
  unfold m0
  congr 2
  exact f10_l3_congr ⟨fun _ => [], q.delays, 0⟩ q rfl _ _ _ _ _
theorem DQ_tot (d : List Due) (h : d.length < 9223372036854775808) : ∃ b, DQ d = some b :=
  f10_l3_tot _ _ (fun _ => ⟨true, rfl⟩) h _ 0 _ _ _ rfl (by simp) (by simp)
theorem f10_tot (q : Queues) (hb : Bnd q) : ∃ b, f10 q = some b := by
  rw [f10_eq q hb]
  cases ((!decide (q.run = (-1))) && (!(f30 q.run))) with
  | true => exact ⟨_, rfl⟩
  | false =>
    cases okS (flat q.ready 32 0) (m0 q.run) with
    | true => exact DQ_tot _ hb.d
    | false => exact ⟨_, rfl⟩

theorem inM_m0 (run x : Int) : inM (m0 run) x = (decide (run = x) || decide (-1 = x)) := by
  unfold m0
  rw [inM_put, inM_put]
  have : inM ([] : List (Int × Bool)) x = false := rfl
  rw [this, Bool.or_false]

/-- What May says of the running task and the ready queues. -/
structure Rdy (q : Queues) : Prop where
  run : q.run = -1 ∨ (0 ≤ q.run ∧ q.run < 32)
  num : ∀ x ∈ flat q.ready 32 0, 0 ≤ x ∧ x < 32
  nd : (flat q.ready 32 0).Nodup
  out : q.run ∉ flat q.ready 32 0
theorem f30_iff (x : Int) : f30 x = true ↔ 0 ≤ x ∧ x < 32 := by simp [f30]
theorem f10_true (q : Queues) (hb : Bnd q) : f10 q = some true ↔ Rdy q ∧ DQ q.delays = some true := by
  rw [f10_eq q hb]
  constructor
  · intro h
    cases h1 : ((!decide (q.run = (-1))) && (!(f30 q.run))) with
    | true => rw [h1] at h; cases h
    | false =>
      rw [h1, cond_false] at h
      cases h2 : okS (flat q.ready 32 0) (m0 q.run) with
      | false => rw [h2] at h; cases h
      | true =>
        rw [h2, cond_true] at h
        obtain ⟨a1, a2, a3⟩ := (okS_iff _ _).1 h2
        refine ⟨⟨?_, fun x hx => (f30_iff x).1 (a1 x hx), a2, fun hx => ?_⟩, h⟩
        · by_cases hr : q.run = -1
          · exact .inl hr
          · right
            have : f30 q.run = true := by
              cases hf : f30 q.run with
              | true => rfl
              | false => simp [hr, hf] at h1
            exact (f30_iff _).1 this
        · have := a3 _ hx
          rw [inM_m0] at this
          simp at this
  · rintro ⟨⟨h1, h2, h3, h4⟩, h5⟩
    have e1 : ((!decide (q.run = (-1))) && (!(f30 q.run))) = false := by
      rcases h1 with h | h
      · simp [h]
      · simp [(f30_iff _).2 h]
    have e2 : okS (flat q.ready 32 0) (m0 q.run) = true := (okS_iff _ _).2 ⟨fun x hx => (f30_iff x).2 (h2 x hx), h3, fun x hx => by
      rw [inM_m0]
      have g1 : ¬ q.run = x := fun e => h4 (by rw [e]; exact hx)
      have g2 : ¬ (-1 : Int) = x := fun e => by have := h2 x hx; omega
      simp [g1, g2]⟩
    rw [e1, e2]
    exact h5
end Go.Proofs.Ytpionlekbfoccaa
set_option maxRecDepth 10000
namespace Go.Proofs.Ytpionlekbfoccaa
open Go Go.Sk

theorem nodup_len : ∀ (n : Nat) (L : List Int), L.Nodup → (∀ x ∈ L, 0 ≤ x ∧ x < (n : Int)) → L.length ≤ n
  | 0, L, _, h => by
    cases L with
    | nil => simp
    | cons x L => have := h x (by simp); omega
  | n + 1, L, hn, h => by
    have h1 := nodup_len n (L.erase (n : Int)) (hn.erase _) (fun x hx => by
      have hm := (List.Nodup.mem_erase_iff hn).1 hx
      have := h x hm.2
      have hne : x ≠ (n : Int) := hm.1
      push_cast at this
      omega)
    by_cases hm : (n : Int) ∈ L
    · rw [List.length_erase_of_mem hm] at h1
      omega
    · rw [List.erase_of_not_mem hm] at h1
      omega

theorem mem_flat {F : Nat → List Int} {x : Int} : ∀ {n i : Nat}, x ∈ flat F n i ↔ ∃ j, i ≤ j ∧ j < i + n ∧ x ∈ F j
  | 0, i => by simp [flat]; omega
  | n + 1, i => by
    rw [flat, List.mem_append, mem_flat]
    constructor
    · rintro (h | ⟨j, h1, h2, h3⟩)
      · exact ⟨i, Nat.le_refl i, by omega, h⟩
      · exact ⟨j, by omega, by omega, h3⟩
    · rintro ⟨j, h1, h2, h3⟩
      by_cases hj : j = i
      · subst hj; exact .inl h3
      · exact .inr ⟨j, by omega, by omega, h3⟩
theorem flat_len {F : Nat → List Int} : ∀ {n i j : Nat}, i ≤ j → j < i + n → (F j).length ≤ (flat F n i).length
  | 0, i, j, h1, h2 => by omega
  | n + 1, i, j, h1, h2 => by
    rw [flat, List.length_append]
    by_cases hj : j = i
    · subst hj; omega
    · have := flat_len (F := F) (n := n) (i := i + 1) (j := j) (by omega) (by omega)
      omega
theorem flat_nodup {F : Nat → List Int} : ∀ {n i : Nat}, (flat F n i).Nodup ↔ (∀ j, i ≤ j → j < i + n → (F j).Nodup) ∧ ∀ j k x, i ≤ j → j < k → k < i + n → x ∈ F j → x ∈ F k → False
  | 0, i => by
    simp only [flat, List.nodup_nil, true_iff]
    exact ⟨fun j h1 h2 => by omega, fun j k x h1 h2 h3 => by omega⟩
  | n + 1, i => by
    rw [flat, List.nodup_append, flat_nodup]
    constructor
    · rintro ⟨h1, ⟨h2, h3⟩, h4⟩
      refine ⟨fun j a b => ?_, fun j k x a b c hj hk => ?_⟩
      · by_cases hj : j = i
        · subst hj; exact h1
        · exact h2 j (by omega) (by omega)
      · by_cases e : j = i
        · subst e
          exact h4 x hj x (mem_flat.2 ⟨k, by omega, by omega, hk⟩) rfl
        · exact h3 j k x (by omega) b (by omega) hj hk
    · rintro ⟨h1, h2⟩
      refine ⟨h1 i (Nat.le_refl i) (by omega), ⟨fun j a b => h1 j (by omega) (by omega), fun j k x a b c => h2 j k x (by omega) b (by omega)⟩, ?_⟩
      intro x hx y hy e
      subst e
      obtain ⟨j, a, b, c⟩ := mem_flat.1 hy
      exact h2 i j x (Nat.le_refl i) (by omega) (by omega) hx c

/-- The tasks that are ready, apart. -/
structure Rd2 (q : Queues) : Prop where
  run : q.run = -1 ∨ (0 ≤ q.run ∧ q.run < 32)
  num : ∀ j x, j < 32 → x ∈ q.ready j → 0 ≤ x ∧ x < 32
  nd : ∀ j, j < 32 → (q.ready j).Nodup
  ap : ∀ j k x, j < k → k < 32 → x ∈ q.ready j → x ∈ q.ready k → False
  out : ∀ j, j < 32 → q.run ∉ q.ready j
theorem Rdy_iff (q : Queues) : Rdy q ↔ Rd2 q := by
  constructor
  · rintro ⟨h1, h2, h3, h4⟩
    obtain ⟨h5, h6⟩ := flat_nodup.1 h3
    exact ⟨h1, fun j x hj hx => h2 x (mem_flat.2 ⟨j, by omega, by omega, hx⟩), fun j hj => h5 j (by omega) (by omega), fun j k x a b => h6 j k x (by omega) a (by omega), fun j hj hx => h4 (mem_flat.2 ⟨j, by omega, by omega, hx⟩)⟩
  · rintro ⟨h1, h2, h3, h4, h5⟩
    refine ⟨h1, fun x hx => ?_, flat_nodup.2 ⟨fun j _ b => h3 j (by omega), fun j k x _ b c => h4 j k x b (by omega)⟩, fun hx => ?_⟩
    · obtain ⟨j, _, b, c⟩ := mem_flat.1 hx
      exact h2 j x (by omega) c
    · obtain ⟨j, _, b, c⟩ := mem_flat.1 hx
      exact h5 j (by omega) c
theorem Rd2.ap' {q : Queues} (h : Rd2 q) {j k : Nat} {x : Int} (hj : j < 32) (hk : k < 32) (h1 : x ∈ q.ready j) (h2 : x ∈ q.ready k) : j = k := by
  rcases Nat.lt_trichotomy j k with a | a | a
  · exact (h.ap j k x a hk h1 h2).elim
  · exact a
  · exact (h.ap k j x a hj h2 h1).elim
theorem Rd2.len {q : Queues} (h : Rd2 q) {j : Nat} (hj : j < 32) : (q.ready j).length ≤ 32 := nodup_len 32 _ (h.nd j hj) (fun x hx => h.num j x hj hx)

theorem f10_l3_len (q : Queues) (k : List (Int × Bool) → Option Bool) (hl : q.delays.length < 9223372036854775808) : ∀ (n i : Nat) (z a : Int) (m : List (Int × Bool)), z = (i : Int) → q.delays.length < n + i → i ≤ q.delays.length →
    f10_l3 q k n a z m = some true → okS ((q.delays.map Due.task).drop i) m = true
  | 0, i, z, a, m, hz, hn, hi, _ => by omega
  | n + 1, i, z, a, m, hz, hn, hi, h => by
    subst hz
    rw [f10_l3] at h
    by_cases hh : i < q.delays.length
    · rw [decide_eq_true (by omega : (i : Int) < (q.delays.length : Int)), cond_true, idx_in hh, Option.bind_some, w64 (by omega) (by omega)] at h
      rw [drop_cons (by simpa using hh), okS]
      have ih := f10_l3_len q k hl n (i + 1) ((i : Int) + 1) (q.delays[i]).time (mpPut m (q.delays[i]).task true) (by push_cast; rfl) (by omega) (by omega)
      have e : (q.delays.map Due.task)[i]'(by simpa using hh) = (q.delays[i]).task := by simp
      rw [e]
      cases h1 : f30 (q.delays[i]).task with
      | false => rw [h1] at h; simp at h
      | true =>
        cases h2 : inM m (q.delays[i]).task with
        | true =>
          have h2' : Option.getD (mpGet m (q.delays[i]).task) false = true := h2
          rw [h1, h2'] at h; simp at h
        | false =>
          have h2' : Option.getD (mpGet m (q.delays[i]).task) false = false := h2
          rw [h1, h2'] at h
          cases h3 : ((decide ((q.delays[i]).time < a)) || (decide ((q.delays[i]).time > 9007199254740992))) with
          | true =>
            simp only [Bool.not_true, Bool.false_or] at h
            rw [h3] at h; simp at h
          | false =>
            simp only [Bool.not_true, Bool.false_or] at h
            rw [h3, cond_false] at h
            simp [ih h]
    · have : (q.delays.map Due.task).drop i = [] := List.drop_eq_nil_of_le (by simp; omega)
      rw [this]; rfl
theorem DQ_len (d : List Due) (hl : d.length < 9223372036854775808) (h : DQ d = some true) : d.length ≤ 32 := by
  have h1 := f10_l3_len ⟨fun _ => [], d, 0⟩ (fun _ => some true) hl _ 0 _ _ _ rfl (by simp) (by simp) h
  obtain ⟨a1, a2, _⟩ := (okS_iff _ _).1 h1
  have := nodup_len 32 _ a2 (fun x hx => (f30_iff x).1 (a1 x hx))
  simpa using this

/-- May. -/
structure Ok (q : Queues) : Prop where
  b : Bnd q
  r : Rd2 q
  d : DQ q.delays = some true
theorem Ok.may {q : Queues} (h : Ok q) : f10 q = some true := (f10_true q h.b).2 ⟨(Rdy_iff q).2 h.r, h.d⟩
theorem Ok.of {q : Queues} (hb : Bnd q) (h : f10 q = some true) : Ok q :=
  let ⟨h1, h2⟩ := (f10_true q hb).1 h
  ⟨hb, (Rdy_iff q).1 h1, h2⟩
theorem Ok.mk2 {q : Queues} (hr : Rd2 q) (hl : q.delays.length < 9223372036854775808) (h : DQ q.delays = some true) : Ok q :=
  ⟨⟨fun j hj => by have := hr.len hj; omega, hl⟩, hr, h⟩
theorem Ok.own {q : Queues} (h : Ok q) : O.ownOk q = true := by
  unfold O.ownOk
  rw [Bool.and_eq_true]
  constructor
  · rw [List.all_eq_true]
    intro j hj
    have := h.r.len (List.mem_range.1 hj)
    simp [appOk, maxLen] <;> omega
  · have := DQ_len _ h.b.d h.d
    simp [appOk, maxLen] <;> omega

/-! ### Top -/
def topF (F : Nat → List Int) : Nat → Int × Int × Bool
  | 0 => (0, 0, false)
  | n + 1 => match F n with | x :: _ => (x, (n : Int), true) | [] => topF F n
theorem f14_l1_eq (q : Queues) : ∀ (n i : Nat) (z : Int), z = (i : Int) - 1 → i ≤ 32 → i < n → f14_l1 q (fun a b => some (a, b, true)) (fun _ => some (0, 0, false)) n z = some (topF q.ready i)
  | 0, i, z, _, _, h => by omega
  | n + 1, 0, z, hz, hi, h => by
    subst hz
    rw [f14_l1]
    rfl
  | n + 1, i + 1, z, hz, hi, h => by
    have hz' : z = (i : Int) := by rw [hz]; push_cast; omega
    subst hz'
    rw [f14_l1]
    have hlt : i < ((List.range 32).map q.ready).length := by simp; omega
    have e : (List.map q.ready (List.range 32))[i]'hlt = q.ready i := by simp
    rw [decide_eq_true (by omega : (i : Int) ≥ 0), cond_true, idx_in hlt, Option.bind_some, e]
    unfold letk
    dsimp only
    unfold topF
    cases hq : q.ready i with
    | nil =>
      rw [decide_eq_false (by simp), cond_false, w64 (by omega) (by omega)]
      exact f14_l1_eq q n i _ rfl (by omega) (by omega)
    | cons x L =>
      rw [decide_eq_true (by simp <;> omega), cond_true]
      rfl
theorem f14_eq {q : Queues} (h : Ok q) : f14 q = some (topF q.ready 32) := by
  unfold f14
  rw [h.may, Option.bind_some]
  unfold letk
  dsimp only
  rw [Bool.not_true, cond_false]
  have e1 : ((List.length (List.map q.ready (List.range 32)) : Int) - 1) = 31 := by simp
  have e2 : IntKind.i64.wrap 31 = 31 := by decide
  rw [e1, e2]
  exact f14_l1_eq q 33 32 31 (by decide) (by decide) (by decide)
theorem topF_none {F : Nat → List Int} : ∀ {n : Nat} , (topF F n).2.2 = false → ∀ j, j < n → F j = []
  | 0, _, j, hj => by omega
  | n + 1, h, j, hj => by
    unfold topF at h
    cases hF : F n with
    | cons x L => rw [hF] at h; cases h
    | nil =>
      rw [hF] at h
      by_cases e : j = n
      · rw [e, hF]
      · exact topF_none h j (by omega)
theorem topF_some {F : Nat → List Int} : ∀ {n : Nat}, (topF F n).2.2 = true → ∃ (p : Nat) (L : List Int), p < n ∧ F p = (topF F n).1 :: L ∧ (topF F n).2.1 = (p : Int) ∧ ∀ j, p < j → j < n → F j = []
  | 0, h => by cases h
  | n + 1, h => by
    unfold topF at h ⊢
    cases hF : F n with
    | cons x L => exact ⟨n, L, by omega, hF, rfl, fun j a b => by omega⟩
    | nil =>
      rw [hF] at h
      obtain ⟨p, L, h1, h2, h3, h4⟩ := topF_some h
      refine ⟨p, L, by omega, h2, h3, fun j a b => ?_⟩
      by_cases e : j = n
      · rw [e, hF]
      · exact h4 j a (by omega)
end Go.Proofs.Ytpionlekbfoccaa
set_option maxRecDepth 10000
namespace Go.Proofs.Ytpionlekbfoccaa
open Go Go.Sk

theorem vs_at {α : Type} (F : Nat → α) (i j : Nat) (v : α) : vset F i v j = if j = i then v else F j := vset_app (fun x => x) F i j v
theorem vs_id {α : Type} (F : Nat → α) (i : Nat) : vset F i (F i) = F := by
  funext j; rw [vs_at]
  by_cases h : j = i <;> simp [h]
theorem vs_eq {α : Type} (F : Nat → α) (i : Nat) (v : α) : vset F i v i = v := by rw [vs_at, if_pos rfl]
theorem vs_ne {α : Type} (F : Nat → α) {i j : Nat} (v : α) (h : j ≠ i) : vset F i v j = F j := by rw [vs_at, if_neg h]

theorem topF_rng {F : Nat → List Int} {n : Nat} (hn : 0 < n) : 0 ≤ (topF F n).2.1 ∧ (topF F n).2.1 < (n : Int) := by
  cases h : (topF F n).2.2 with
  | true =>
    obtain ⟨p, L, h1, _, h3, _⟩ := topF_some h
    rw [h3]; omega
  | false =>
    have : ∀ m, (topF F m).2.2 = false → topF F m = (0, 0, false) := fun m => by
      induction m with
      | zero => intro _; rfl
      | succ m ih =>
        intro h
        unfold topF at h ⊢
        cases hF : F m with
        | cons x L => rw [hF] at h; cases h
        | nil => rw [hF] at h; exact ih h
    rw [this n h]
    simp; omega
theorem ghost_ok {q : Queues} (h : Ok q) {prio : Int} (hp : q.run ≥ 0 → 0 ≤ prio ∧ prio < 32) : vecOk 32 (ghost q prio) = true := by
  unfold ghost
  rw [f14_eq h]
  by_cases hr : q.run ≥ 0
  · have := hp hr
    rw [decide_eq_true hr, cond_true]
    simp [vecOk]; omega
  · rw [decide_eq_false hr, cond_false]
    have := topF_rng (F := q.ready) (n := 32) (by decide)
    simp only [vecOk, Bool.and_eq_true, decide_eq_true_eq, Nat.blt_eq]
    omega

theorem gh_ne {q : Queues} {prio : Int} {r : Int × Int × Bool} (h14 : f14 q = some r) (hc : q.run ≥ 0 → prio < r.2.1) (hv : vecOk 32 r.2.1 = true) (hx : vecOk 32 (ghost q prio) = true) : Int.toNat r.2.1 ≠ Int.toNat (ghost q prio) := by
  have h1 := vecOk_spec hv
  have h2 := vecOk_spec hx
  unfold ghost at h2 ⊢
  by_cases hr : q.run ≥ 0
  · have := hc hr
    rw [decide_eq_true hr] at h2 ⊢
    simp only [cond_true] at h2 ⊢
    omega
  · rw [decide_eq_false hr, h14] at h2
    rw [decide_eq_false hr, h14]
    simp only [cond_false] at h2 ⊢
    omega
theorem disp_keep {q : Queues} (h : Ok q) {prio : Int} (hp : q.run ≥ 0 → 0 ≤ prio ∧ prio < 32) (hc : (topF q.ready 32).2.2 = false ∨ (q.run ≥ 0 ∧ (topF q.ready 32).2.1 ≤ prio)) : f12 q prio = some (q, 0) := by
  unfold f12
  rw [h.may, Option.bind_some]
  have e1 : ((decide (q.run ≥ 0)) && (!(f30 prio))) = false := by
    by_cases hr : q.run ≥ 0
    · rw [(f30_iff prio).2 (hp hr)]; simp
    · simp [hr]
  rw [Bool.not_true, Bool.false_or, e1, cond_false, guardB_t _ (ghost_ok h hp), guardB_t _ h.own, f14_eq h, Option.bind_some]
  have e2 : ((!(topF q.ready 32).2.2) || ((decide (q.run ≥ 0)) && (decide ((topF q.ready 32).2.1 ≤ prio)))) = true := by
    rcases hc with hc | ⟨h1, h2⟩
    · rw [hc]; rfl
    · rw [decide_eq_true h1, decide_eq_true h2]; simp
  rw [e2, cond_true, vs_id]

/-- What Dispatch makes of the ready queues. -/
def nextR (q : Queues) (prio : Int) (p : Nat) (L : List Int) : Nat → List Int :=
  if q.run ≥ 0 then vset (vset q.ready p L) (Int.toNat prio) (q.run :: q.ready (Int.toNat prio)) else vset q.ready p L
theorem disp_go {q : Queues} (h : Ok q) {prio : Int} (hp : q.run ≥ 0 → 0 ≤ prio ∧ prio < 32) (hc : (topF q.ready 32).2.2 = true) (hc2 : q.run ≥ 0 → prio < (topF q.ready 32).2.1) :
    ∃ (p : Nat) (L : List Int), p < 32 ∧ q.ready p = (topF q.ready 32).1 :: L ∧ (topF q.ready 32).2.1 = (p : Int) ∧ (∀ j, p < j → j < 32 → q.ready j = []) ∧ f12 q prio = some (⟨nextR q prio p L, q.delays, (topF q.ready 32).1⟩, 0) := by
  obtain ⟨p, L, h1, h2, h3, h4⟩ := topF_some hc
  refine ⟨p, L, h1, h2, h3, h4, ?_⟩
  unfold f12
  rw [h.may, Option.bind_some]
  have e1 : ((decide (q.run ≥ 0)) && (!(f30 prio))) = false := by
    by_cases hr : q.run ≥ 0
    · rw [(f30_iff prio).2 (hp hr)]; simp
    · simp [hr]
  have hg := ghost_ok h hp
  rw [Bool.not_true, Bool.false_or, e1, cond_false, guardB_t _ hg, guardB_t _ h.own, f14_eq h, Option.bind_some]
  have e2 : ((!(topF q.ready 32).2.2) || ((decide (q.run ≥ 0)) && (decide ((topF q.ready 32).2.1 ≤ prio)))) = false := by
    rw [hc]
    by_cases hr : q.run ≥ 0
    · have := hc2 hr
      rw [decide_eq_false (show ¬ (topF q.ready 32).2.1 ≤ prio by omega)]; simp
    · simp [hr]
  have hne := gh_ne (f14_eq h) hc2 (by rw [h3]; exact vecOk_nat h1) hg
  rw [e2, cond_false]
  rw [h3, Int.toNat_natCast] at hne ⊢
  rw [guardB_t _ (vecOk_nat h1)]
  have e3 : sliceOk (q.ready p) 1 (List.length (q.ready p) : Int) = true := by
    rw [h2]; simp [sliceOk]; omega
  have e4 : sliceF (q.ready p) 1 (List.length (q.ready p) : Int) = L := by
    rw [h2]; simp [sliceF]
  rw [guardB_t _ e3, guardB_t _ (vecOk_nat h1), e4]
  unfold letk
  dsimp only
  unfold nextR
  by_cases hr : q.run ≥ 0
  · obtain ⟨g1, g2⟩ := hp hr
    have e5 : vecOk 32 prio = true := by simp [vecOk]; omega
    have e6 : O.insOk (q.ready (Int.toNat prio)) = true := by
      have := h.r.len (j := Int.toNat prio) (by omega)
      simp [O.insOk]; omega
    rw [decide_eq_true hr, cond_true, guardB_t _ e5, guardB_t _ e6, guardB_t _ e5, if_pos hr]
  · rw [decide_eq_false hr, cond_false, if_neg hr]
    have : vset (vset q.ready p L) (Int.toNat (ghost q prio)) (q.ready (Int.toNat (ghost q prio))) = vset q.ready p L := by
      have e := vs_id (vset q.ready p L) (Int.toNat (ghost q prio))
      rw [vs_ne _ _ (Ne.symm hne)] at e
      exact e
    rw [this]

/-- Dispatch keeps May. -/
theorem next_ok {q : Queues} (h : Ok q) {prio : Int} (hp : q.run ≥ 0 → 0 ≤ prio ∧ prio < 32) {p : Nat} {L : List Int} {x : Int} (h1 : p < 32) (h2 : q.ready p = x :: L) (hpp : q.run ≥ 0 → prio < (p : Int)) : Ok ⟨nextR q prio p L, q.delays, x⟩ := by
  have hxn := h.r.num p x h1 (by rw [h2]; simp)
  have hnd := h.r.nd p h1
  rw [h2, List.nodup_cons] at hnd
  refine Ok.mk2 ?_ h.b.d h.d
  -- what is in a queue now
  have key : ∀ j y, j < 32 → y ∈ nextR q prio p L j → (y ∈ q.ready j ∧ y ≠ x) ∨ (q.run ≥ 0 ∧ j = Int.toNat prio ∧ y = q.run) := by
    intro j y hj hy
    have base : ∀ y, y ∈ vset q.ready p L j → y ∈ q.ready j ∧ y ≠ x := fun y hy => by
      by_cases e : j = p
      · rw [e, vs_eq] at hy
        rw [e, h2]
        exact ⟨by simp [hy], fun e2 => hnd.1 (by rw [← e2]; exact hy)⟩
      · rw [vs_ne _ _ e] at hy
        exact ⟨hy, fun e2 => by subst e2; exact e (h.r.ap' hj h1 hy (by rw [h2]; simp))⟩
    unfold nextR at hy
    by_cases hr : q.run ≥ 0
    · rw [if_pos hr] at hy
      by_cases e : j = Int.toNat prio
      · have hne : Int.toNat prio ≠ p := by have := hpp hr; have := hp hr; omega
        rw [e, vs_eq, List.mem_cons] at hy
        rcases hy with hy | hy
        · exact .inr ⟨hr, e, hy⟩
        · refine .inl (base y ?_)
          rw [e, vs_ne _ _ hne]; exact hy
      · rw [vs_ne _ _ e] at hy
        exact .inl (base y hy)
    · rw [if_neg hr] at hy
      exact .inl (base y hy)
  have ndj : ∀ j, j < 32 → (nextR q prio p L j).Nodup := by
    intro j hj
    have base : (vset q.ready p L j).Nodup := by
      by_cases e : j = p
      · rw [e, vs_eq]; exact hnd.2
      · rw [vs_ne _ _ e]; exact h.r.nd j hj
    unfold nextR
    by_cases hr : q.run ≥ 0
    · rw [if_pos hr]
      by_cases e : j = Int.toNat prio
      · rw [e, vs_eq, List.nodup_cons]
        have := hp hr
        exact ⟨h.r.out _ (by omega), h.r.nd _ (by omega)⟩
      · rw [vs_ne _ _ e]; exact base
    · rw [if_neg hr]; exact base
  refine ⟨.inr hxn, fun j y hj hy => ?_, ndj, fun j k y hjk hk hy hz => ?_, fun j hj hy => ?_⟩
  · rcases key j y hj hy with ⟨a, _⟩ | ⟨a, _, b⟩
    · exact h.r.num j y hj a
    · rcases h.r.run with c | c
      · omega
      · rw [b]; exact c
  · rcases key j y (by omega) hy with ⟨a, _⟩ | ⟨a, a2, a3⟩ <;> rcases key k y hk hz with ⟨b, _⟩ | ⟨b, b2, b3⟩
    · exact h.r.ap j k y hjk hk a b
    · exact h.r.out j (by omega) (by rw [← b3]; exact a)
    · exact h.r.out k hk (by rw [← a3]; exact b)
    · omega
  · rcases key j x hj hy with ⟨_, b⟩ | ⟨a, _, b⟩
    · exact b rfl
    · exact h.r.out p h1 (by rw [h2, ← b]; simp)
end Go.Proofs.Ytpionlekbfoccaa
