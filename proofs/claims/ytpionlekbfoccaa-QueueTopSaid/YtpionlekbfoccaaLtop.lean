/- Layer 29: QueueTop. -/
import Derived.Test.YtpionlekbfoccaaL
set_option maxRecDepth 10000
namespace Go.Proofs.Ytpionlekbfoccaa
open Go Go.Sk

theorem f9_l1_tot (q : Queues) (k : Int → Option Bool) (hk : ∀ a, ∃ b, k a = some b) : ∀ (n i : Nat) (z a : Int), z = (i : Int) → i ≤ 32 → 32 - i < n → ∃ b, f9_l1 q k n a z = some b
  | 0, i, z, a, _, _, h => by omega
  | n + 1, i, z, a, hz, hi, h => by
    subst hz
    rw [f9_l1]
    by_cases hh : i < 32
    · rw [decide_eq_true (by omega : (i : Int) < 32), cond_true, guardB_t _ (vecOk_nat hh), w64 (x := (i : Int) + 1) (by omega) (by omega)]
      exact f9_l1_tot q k hk n (i + 1) _ _ (by push_cast; rfl) (by omega) (by omega)
    · rw [decide_eq_false (by omega : ¬ (i : Int) < 32), cond_false]
      exact hk a
theorem f9_tot (q : Queues) : ∃ b, f9 q = some b := by
  unfold f9 letk
  dsimp only
  exact f9_l1_tot q _ (fun _ => ⟨_, rfl⟩) _ 0 0 _ rfl (by decide) (by decide)

theorem f13_l2_eq (q : Queues) (x : Int) (p : Nat) (hp : p < 32) (k : Unit → Option Int) (hl : (q.ready p).length < 9223372036854775808) : ∀ (n i : Nat) (z : Int), z = (i : Int) → i ≤ (q.ready p).length → (q.ready p).length < n + i →
    f13_l2 q x (p : Int) k n z = if x ∈ (q.ready p).drop i then some (p : Int) else k ()
  | 0, i, z, _, _, h => by omega
  | n + 1, i, z, hz, hi, h => by
    subst hz
    rw [f13_l2, guardB_t _ (vecOk_nat hp), Int.toNat_natCast]
    by_cases hh : i < (q.ready p).length
    · rw [decide_eq_true (by omega : (i : Int) < ((q.ready p).length : Int)), cond_true, guardB_t _ (vecOk_nat hp), idx_in hh, Option.bind_some, w64 (by omega) (by omega), drop_cons hh]
      rw [f13_l2_eq q x p hp k hl n (i + 1) _ (by push_cast; rfl) (by omega) (by omega)]
      by_cases e : (q.ready p)[i] = x
      · rw [decide_eq_true e, cond_true, if_pos (by rw [e]; exact List.mem_cons_self)]
      · rw [decide_eq_false e, cond_false]
        have : x ∈ (q.ready p)[i] :: (q.ready p).drop (i + 1) ↔ x ∈ (q.ready p).drop (i + 1) := by
          rw [List.mem_cons]
          exact ⟨fun h => h.resolve_left (fun a => e a.symm), .inr⟩
        simp only [this]
    · have hd : (q.ready p).drop i = [] := List.drop_eq_nil_of_le (by omega)
      rw [decide_eq_false (by omega : ¬ (i : Int) < ((q.ready p).length : Int)), cond_false, hd]
      simp
theorem f13_l1_eq (q : Queues) (x : Int) (hb : Bnd q) (k : Unit → Option Int) {p : Nat} (hp : p < 32) (hx : x ∈ q.ready p) (hu : ∀ j, j < 32 → x ∈ q.ready j → j = p) : ∀ (n i : Nat) (z : Int), z = (i : Int) → i ≤ p → p - i < n → f13_l1 q x k n z = some (p : Int)
  | 0, i, z, _, _, h => by omega
  | n + 1, i, z, hz, hi, h => by
    subst hz
    rw [f13_l1, decide_eq_true (by omega : (i : Int) < 32), cond_true]
    unfold letk
    dsimp only
    rw [f13_l2_eq q x i (by omega) _ (hb.r i (by omega)) _ 0 0 rfl (by omega) (by have := hb.r i (by omega); omega), List.drop_zero]
    by_cases e : i = p
    · subst e; rw [if_pos hx]
    · rw [if_neg (fun h => e (hu i (by omega) h)), w64 (by omega) (by omega)]
      exact f13_l1_eq q x hb k hp hx hu n (i + 1) _ (by push_cast; rfl) (by omega) (by omega)
theorem f13_eq (q : Queues) (x : Int) (hb : Bnd q) {p : Nat} (hp : p < 32) (hx : x ∈ q.ready p) (hu : ∀ j, j < 32 → x ∈ q.ready j → j = p) : f13 q x = some (p : Int) := by
  unfold f13 letk
  dsimp only
  exact f13_l1_eq q x hb _ hp hx hu _ 0 0 rfl (Nat.zero_le _) (by omega)

theorem f31_l1_refl (L : List Int) (k : Unit → Option Bool) (hl : L.length < 9223372036854775808) : ∀ (n i : Nat) (z : Int), z = (i : Int) → i ≤ L.length → L.length < n + i → f31_l1 L L k n z = k ()
  | 0, i, z, _, _, h => by omega
  | n + 1, i, z, hz, hi, h => by
    subst hz
    rw [f31_l1]
    by_cases hh : i < L.length
    · rw [decide_eq_true (by omega : (i : Int) < (L.length : Int)), cond_true, idx_in hh, Option.bind_some, Option.bind_some, decide_eq_true rfl, Bool.not_true, cond_false, w64 (by omega) (by omega)]
      exact f31_l1_refl L k hl n (i + 1) _ (by push_cast; rfl) (by omega) (by omega)
    · rw [decide_eq_false (by omega : ¬ (i : Int) < (L.length : Int)), cond_false]
theorem f31_refl (L : List Int) (hl : L.length < 9223372036854775808) : f31 L L = some true := by
  unfold f31 letk
  dsimp only
  rw [decide_eq_true rfl, Bool.not_true, cond_false]
  exact f31_l1_refl L _ hl _ 0 0 rfl (by omega) (by omega)
theorem f15_l1_refl (q : Queues) (k : Unit → Option Bool) (hl : q.delays.length < 9223372036854775808) : ∀ (n i : Nat) (z : Int), z = (i : Int) → i ≤ q.delays.length → q.delays.length < n + i → f15_l1 q q k n z = k ()
  | 0, i, z, _, _, h => by omega
  | n + 1, i, z, hz, hi, h => by
    subst hz
    rw [f15_l1]
    by_cases hh : i < q.delays.length
    · rw [decide_eq_true (by omega : (i : Int) < (q.delays.length : Int)), cond_true, idx_in hh, Option.bind_some, Option.bind_some, decide_eq_true rfl, decide_eq_true rfl, w64 (by omega) (by omega)]
      exact f15_l1_refl q k hl n (i + 1) _ (by push_cast; rfl) (by omega) (by omega)
    · rw [decide_eq_false (by omega : ¬ (i : Int) < (q.delays.length : Int)), cond_false]
theorem f15_l2_refl (q : Queues) (k : Unit → Option Bool) (hb : Bnd q) : ∀ (n i : Nat) (z : Int), z = (i : Int) → i ≤ 32 → 32 - i < n → f15_l2 q q k n z = k ()
  | 0, i, z, _, _, h => by omega
  | n + 1, i, z, hz, hi, h => by
    subst hz
    rw [f15_l2]
    by_cases hh : i < 32
    · rw [decide_eq_true (by omega : (i : Int) < 32), cond_true, guardB_t _ (vecOk_nat hh), guardB_t _ (vecOk_nat hh), Int.toNat_natCast, f31_refl _ (hb.r i hh), Option.bind_some, Bool.not_true, cond_false, w64 (by omega) (by omega)]
      exact f15_l2_refl q k hb n (i + 1) _ (by push_cast; rfl) (by omega) (by omega)
    · rw [decide_eq_false (by omega : ¬ (i : Int) < 32), cond_false]
theorem f15_gen (q : Queues) (hb : Bnd q) (n m : Nat) (hn : q.delays.length < n) (hm : 32 < m) : (bif ((!decide (q.run = q.run)) || (!decide ((List.length q.delays : Int) = (List.length q.delays : Int)))) then some false else letk (fun (_ : Unit) =>
  letk (fun (_ : Unit) =>
  some true) fun k62 =>
  (f15_l2 q q k62 m 0)) fun k56 =>
  (f15_l1 q q k56 n 0)) = some true := by
  unfold letk
  dsimp only
  rw [decide_eq_true rfl, decide_eq_true rfl, Bool.not_true, Bool.or_false, cond_false, f15_l1_refl q _ hb.d n 0 0 rfl (by omega) (by omega)]
  exact f15_l2_refl q _ hb m 0 0 rfl (by omega) (by omega)
theorem f15_refl (q : Queues) (hb : Bnd q) : f15 q q = some true := by
  rw [f15]
  exact f15_gen q hb 9223372036854775808 9223372036854775808 hb.d (by decide)

/-- behind a dispatch: the second one changes nothing. -/
theorem top_le {F : Nat → List Int} {p : Nat} (hp : p < 32) (h : ∀ j, p < j → j < 32 → F j = []) (hc : (topF F 32).2.2 = true) : (topF F 32).2.1 ≤ (p : Int) := by
  obtain ⟨p', L, h1, h2, h3, _⟩ := topF_some hc
  rw [h3]
  by_cases e : p < p'
  · rw [h p' e h1] at h2; cases h2
  · omega

theorem law3 (q : Queues) (prio : Int) (hb : Bnd q) : f3 q prio = some true := by
  unfold f3
  obtain ⟨b9, e9⟩ := f9_tot q
  obtain ⟨b10, e10⟩ := f10_tot q hb
  rw [e9, Option.bind_some, e10]
  have eh : (Option.bind f11 fun r126 => some r126) = some true := by rw [f11_true]; rfl
  cases b9 with
  | true => simp only [cond_true, Option.bind_some, Bool.true_or]; exact eh
  | false =>
    simp only [cond_false, Option.bind_some]
    cases b10 with
    | false => simp only [Bool.not_false, Bool.true_or, cond_true]; exact eh
    | true =>
      have ho := Ok.of hb e10
      by_cases hp : 0 ≤ prio ∧ prio < 32
      · have e1 : ((!true) || decide (prio < 0) || decide (prio > 31)) = false := by simp; omega
        rw [e1, cond_false]
        have hp' : q.run ≥ 0 → 0 ≤ prio ∧ prio < 32 := fun _ => hp
        by_cases hk : (topF q.ready 32).2.2 = false ∨ (q.run ≥ 0 ∧ (topF q.ready 32).2.1 ≤ prio)
        · -- nothing changes
          have hd := disp_keep ho hp' hk
          rw [hd]
          unfold letk
          dsimp only [Option.bind_some]
          rw [decide_eq_true rfl, decide_eq_true rfl, Bool.not_true, cond_false, cond_false, f14_eq ho, Option.bind_some]
          have e2 : ((topF q.ready 32).2.2 && ((decide (q.run < 0)) || (decide ((topF q.ready 32).2.1 > prio)))) = false := by
            rcases hk with hk | ⟨a, b⟩
            · rw [hk]; rfl
            · rw [decide_eq_false (by omega), decide_eq_false (by omega)]; simp
          rw [e2, cond_false]
          by_cases hr : q.run < 0
          · rw [decide_eq_true hr, cond_true, cond_true, f11_true]; rfl
          · rw [decide_eq_false hr, cond_false, hd]
            dsimp only [Option.bind_some]
            rw [decide_eq_true rfl, cond_true, f15_refl q hb, f11_true]; rfl
        · have hc : (topF q.ready 32).2.2 = true := by
            cases h : (topF q.ready 32).2.2 with
            | true => rfl
            | false => exact absurd (.inl h) hk
          have hc2 : q.run ≥ 0 → prio < (topF q.ready 32).2.1 := fun hr => by
            by_cases a : (topF q.ready 32).2.1 ≤ prio
            · exact absurd (.inr ⟨hr, a⟩) hk
            · omega
          obtain ⟨p, L, h1, h2, h3, h4, h5⟩ := disp_go ho hp' hc hc2
          rw [h5]
          generalize hx : (topF q.ready 32).1 = x at *
          have hpp : q.run ≥ 0 → prio < (p : Int) := fun hr => by have := hc2 hr; omega
          have hok := next_ok ho hp' h1 h2 hpp
          have hxp : x ∈ q.ready p := by rw [h2]; simp
          have hxn := ho.r.num p x h1 hxp
          have hne : x ≠ q.run := fun e => ho.r.out p h1 (by rw [← e]; exact hxp)
          -- the queue where it was
          have hat : f13 q x = some (p : Int) := f13_eq q x hb h1 hxp (fun j hj hj2 => ho.r.ap' hj h1 hj2 hxp)
          have hemp : ∀ j, p < j → j < 32 → nextR q prio p L j = [] := fun j a b => by
            unfold nextR
            by_cases hr : q.run ≥ 0
            · have := hpp hr
              rw [if_pos hr, vs_ne _ _ (by omega), vs_ne _ _ (by omega)]; exact h4 j a b
            · rw [if_neg hr, vs_ne _ _ (by omega)]; exact h4 j a b
          have hrx : x ≥ 0 := hxn.1
          have hkeep : f12 ⟨nextR q prio p L, q.delays, x⟩ (p : Int) = some (⟨nextR q prio p L, q.delays, x⟩, 0) := by
            refine disp_keep hok (fun _ => by omega) ?_
            cases h : (topF (nextR q prio p L) 32).2.2 with
            | false => exact .inl rfl
            | true => exact .inr ⟨hrx, top_le h1 hemp h⟩
          unfold letk
          dsimp only [Option.bind_some]
          rw [decide_eq_true rfl, Bool.not_true, cond_false, decide_eq_false hne, Bool.not_false, cond_true, hat]
          dsimp only [Option.bind_some]
          rw [decide_eq_false (show ¬ (p : Int) < 0 by omega), cond_false]
          have e3 : (Option.bind (bif (decide (q.run ≥ 0)) then (guardB (vecOk 32 prio) <| Option.bind (bif (decide ((List.length (nextR q prio p L (Int.toNat prio)) : Int) = 0)) then some true else (guardB (vecOk 32 prio) <| Option.bind (idx (nextR q prio p L (Int.toNat prio)) 0) fun x136 => some (!decide (x136 = q.run)))) fun b134 => some (b134 || (decide ((p : Int) ≤ prio)))) else some false) fun b132 => some b132) = some false := by
            by_cases hr : q.run ≥ 0
            · have hq := hpp hr
              have e5 : vecOk 32 prio = true := by simp [vecOk]; omega
              have e6 : nextR q prio p L (Int.toNat prio) = q.run :: q.ready (Int.toNat prio) := by
                unfold nextR; rw [if_pos hr, vs_eq]
              rw [decide_eq_true hr, cond_true, guardB_t _ e5, e6, decide_eq_false (by simp; omega), cond_false, guardB_t _ e5]
              have : idx (q.run :: q.ready (Int.toNat prio)) 0 = some q.run := rfl
              rw [this, Option.bind_some, decide_eq_true rfl, Option.bind_some, decide_eq_false (show ¬ (p : Int) ≤ prio by omega)]
              rfl
            · rw [decide_eq_false hr]; rfl
          rw [e3]
          dsimp only [Option.bind_some]
          rw [cond_false, f14_eq hok]
          dsimp only [Option.bind_some]
          have e4 : ((topF (nextR q prio p L) 32).2.2 && ((decide (x < 0)) || (decide ((topF (nextR q prio p L) 32).2.1 > (p : Int))))) = false := by
            cases h : (topF (nextR q prio p L) 32).2.2 with
            | false => rfl
            | true =>
              have := top_le h1 hemp h
              rw [decide_eq_false (by omega), decide_eq_false (by omega)]; rfl
          rw [e4, cond_false, decide_eq_false (show ¬ x < 0 by omega), cond_false, hkeep]
          dsimp only [Option.bind_some]
          rw [decide_eq_true rfl, cond_true, f15_refl _ hok.b, f11_true]; rfl
      · have e1 : ((!true) || decide (prio < 0) || decide (prio > 31)) = true := by
          simp; omega
        rw [e1, cond_true]; exact eh
end Go.Proofs.Ytpionlekbfoccaa
