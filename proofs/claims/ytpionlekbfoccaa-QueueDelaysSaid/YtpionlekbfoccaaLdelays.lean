/- Layer 29: QueueTop. -/
import Derived.Test.YtpionlekbfoccaaL
set_option maxRecDepth 10000
namespace Go.Proofs.Ytpionlekbfoccaa
open Go Go.Sk

theorem f9_l1_tot (q : Queues) (k : Int → Option Bool) (hk : ∀ a, ∃ b, k a = some b) : ∀ (n i : Nat) (z a : Int), z = (i : Int) → i ≤ 32 → 32 - i < n → ∃ b, f9_l1 q k n a z = some b
  | 0, i, z, a, _, _, h => by omega
  | n + 1, i, z, a, hz, hi, h => by
    subst hz
    rw [f9_l1]
    by_cases hh : i < 32
    · rw [decide_eq_true (by omega : (i : Int) < 32), cond_true, guardB_t _ (vecOk_nat hh), w64 (x := (i : Int) + 1) (by omega) (by omega)]
      exact f9_l1_tot q k hk n (i + 1) _ _ (by push_cast; rfl) (by omega) (by omega)
    · rw [decide_eq_false (by omega : ¬ (i : Int) < 32), cond_false]
      exact hk a
theorem f9_tot (q : Queues) : ∃ b, f9 q = some b := by
  unfold f9 letk
  dsimp only
  exact f9_l1_tot q _ (fun _ => ⟨_, rfl⟩) _ 0 0 _ rfl (by decide) (by decide)

theorem f13_l2_eq (q : Queues) (x : Int) (p : Nat) (hp : p < 32) (k : Unit → Option Int) (hl : (q.ready p).length < 9223372036854775808) : ∀ (n i : Nat) (z : Int), z = (i : Int) → i ≤ (q.ready p).length → (q.ready p).length < n + i →
    f13_l2 q x (p : Int) k n z = if x ∈ (q.ready p).drop i then some (p : Int) else k ()
  | 0, i, z, _, _, h => by omega
  | n + 1, i, z, hz, hi, h => by
    subst hz
    rw [f13_l2, guardB_t _ (vecOk_nat hp), Int.toNat_natCast]
    by_cases hh : i < (q.ready p).length
    · rw [decide_eq_true (by omega : (i : Int) < ((q.ready p).length : Int)), cond_true, guardB_t _ (vecOk_nat hp), idx_in hh, Option.bind_some, w64 (by omega) (by omega), drop_cons hh]
      rw [f13_l2_eq q x p hp k hl n (i + 1) _ (by push_cast; rfl) (by omega) (by omega)]
      by_cases e : (q.ready p)[i] = x
      · rw [decide_eq_true e, cond_true, if_pos (by rw [e]; exact List.mem_cons_self)]
      · rw [decide_eq_false e, cond_false]
        have : x ∈ (q.ready p)[i] :: (q.ready p).drop (i + 1) ↔ x ∈ (q.ready p).drop (i + 1) := by
          rw [List.mem_cons]
          exact ⟨fun h => h.resolve_left (fun a => e a.symm), .inr⟩
        simp only [this]
    · have hd : (q.ready p).drop i = [] := List.drop_eq_nil_of_le (by omega)
      rw [decide_eq_false (by omega : ¬ (i : Int) < ((q.ready p).length : Int)), cond_false, hd]
      simp
theorem f13_l1_eq (q : Queues) (x : Int) (hb : Bnd q) (k : Unit → Option Int) {p : Nat} (hp : p < 32) (hx : x ∈ q.ready p) (hu : ∀ j, j < 32 → x ∈ q.ready j → j = p) : ∀ (n i : Nat) (z : Int), z = (i : Int) → i ≤ p → p - i < n → f13_l1 q x k n z = some (p : Int)
  | 0, i, z, _, _, h => by omega
  | n + 1, i, z, hz, hi, h => by
    subst hz
    rw [f13_l1, decide_eq_true (by omega : (i : Int) < 32), cond_true]
    unfold letk
    dsimp only
    rw [f13_l2_eq q x i (by omega) _ (hb.r i (by omega)) _ 0 0 rfl (by omega) (by have := hb.r i (by omega); omega), List.drop_zero]
    by_cases e : i = p
    · subst e; rw [if_pos hx]
    · rw [if_neg (fun h => e (hu i (by omega) h)), w64 (by omega) (by omega)]
      exact f13_l1_eq q x hb k hp hx hu n (i + 1) _ (by push_cast; rfl) (by omega) (by omega)
theorem f13_eq (q : Queues) (x : Int) (hb : Bnd q) {p : Nat} (hp : p < 32) (hx : x ∈ q.ready p) (hu : ∀ j, j < 32 → x ∈ q.ready j → j = p) : f13 q x = some (p : Int) := by
  unfold f13 letk
  dsimp only
  exact f13_l1_eq q x hb _ hp hx hu _ 0 0 rfl (Nat.zero_le _) (by omega)

theorem f31_l1_refl (L : List Int) (k : Unit → Option Bool) (hl : L.length < 9223372036854775808) : ∀ (n i : Nat) (z : Int), z = (i : Int) → i ≤ L.length → L.length < n + i → f31_l1 L L k n z = k ()
  | 0, i, z, _, _, h => by omega
  | n + 1, i, z, hz, hi, h => by
    subst hz
    rw [f31_l1]
    by_cases hh : i < L.length
    · rw [decide_eq_true (by omega : (i : Int) < (L.length : Int)), cond_true, idx_in hh, Option.bind_some, Option.bind_some, decide_eq_true rfl, Bool.not_true, cond_false, w64 (by omega) (by omega)]
      exact f31_l1_refl L k hl n (i + 1) _ (by push_cast; rfl) (by omega) (by omega)
    · rw [decide_eq_false (by omega : ¬ (i : Int) < (L.length : Int)), cond_false]
theorem f31_refl (L : List Int) (hl : L.length < 9223372036854775808) : f31 L L = some true := by
  unfold f31 letk
  dsimp only
  rw [decide_eq_true rfl, Bool.not_true, cond_false]
  exact f31_l1_refl L _ hl _ 0 0 rfl (by omega) (by omega)
theorem f15_l1_refl (q : Queues) (k : Unit → Option Bool) (hl : q.delays.length < 9223372036854775808) : ∀ (n i : Nat) (z : Int), z = (i : Int) → i ≤ q.delays.length → q.delays.length < n + i → f15_l1 q q k n z = k ()
  | 0, i, z, _, _, h => by omega
  | n + 1, i, z, hz, hi, h => by
    subst hz
    rw [f15_l1]
    by_cases hh : i < q.delays.length
    · rw [decide_eq_true (by omega : (i : Int) < (q.delays.length : Int)), cond_true, idx_in hh, Option.bind_some, Option.bind_some, decide_eq_true rfl, decide_eq_true rfl, w64 (by omega) (by omega)]
      exact f15_l1_refl q k hl n (i + 1) _ (by push_cast; rfl) (by omega) (by omega)
    · rw [decide_eq_false (by omega : ¬ (i : Int) < (q.delays.length : Int)), cond_false]
theorem f15_l2_refl (q : Queues) (k : Unit → Option Bool) (hb : Bnd q) : ∀ (n i : Nat) (z : Int), z = (i : Int) → i ≤ 32 → 32 - i < n → f15_l2 q q k n z = k ()
  | 0, i, z, _, _, h => by omega
  | n + 1, i, z, hz, hi, h => by
    subst hz
    rw [f15_l2]
    by_cases hh : i < 32
    · rw [decide_eq_true (by omega : (i : Int) < 32), cond_true, guardB_t _ (vecOk_nat hh), guardB_t _ (vecOk_nat hh), Int.toNat_natCast, f31_refl _ (hb.r i hh), Option.bind_some, Bool.not_true, cond_false, w64 (by omega) (by omega)]
      exact f15_l2_refl q k hb n (i + 1) _ (by push_cast; rfl) (by omega) (by omega)
    · rw [decide_eq_false (by omega : ¬ (i : Int) < 32), cond_false]
theorem f15_gen (q : Queues) (hb : Bnd q) (n m : Nat) (hn : q.delays.length < n) (hm : 32 < m) : (bif ((!decide (q.run = q.run)) || (!decide ((List.length q.delays : Int) = (List.length q.delays : Int)))) then some false else letk (fun (_ : Unit) =>
  letk (fun (_ : Unit) =>
  some true) fun k62 =>
  (f15_l2 q q k62 m 0)) fun k56 =>
  (f15_l1 q q k56 n 0)) = some true := by
  unfold letk
  dsimp only
  rw [decide_eq_true rfl, decide_eq_true rfl, Bool.not_true, Bool.or_false, cond_false, f15_l1_refl q _ hb.d n 0 0 rfl (by omega) (by omega)]
  exact f15_l2_refl q _ hb m 0 0 rfl (by omega) (by omega)
theorem f15_refl (q : Queues) (hb : Bnd q) : f15 q q = some true := by
  rw [f15]
  exact f15_gen q hb 9223372036854775808 9223372036854775808 hb.d (by decide)

/-- behind a dispatch: the second one changes nothing. -/
theorem top_le {F : Nat → List Int} {p : Nat} (hp : p < 32) (h : ∀ j, p < j → j < 32 → F j = []) (hc : (topF F 32).2.2 = true) : (topF F 32).2.1 ≤ (p : Int) := by
  obtain ⟨p', L, h1, h2, h3, _⟩ := topF_some hc
  rw [h3]
  by_cases e : p < p'
  · rw [h p' e h1] at h2; cases h2
  · omega

theorem law3 (q : Queues) (prio : Int) (hb : Bnd q) : f3 q prio = some true := by
  unfold f3
  obtain ⟨b9, e9⟩ := f9_tot q
  obtain ⟨b10, e10⟩ := f10_tot q hb
  rw [e9, Option.bind_some, e10]
  have eh : (Option.bind f11 fun r126 => some r126) = some true := by rw [f11_true]; rfl
  cases b9 with
  | true => simp only [cond_true, Option.bind_some, Bool.true_or]; exact eh
  | false =>
    simp only [cond_false, Option.bind_some]
    cases b10 with
    | false => simp only [Bool.not_false, Bool.true_or, cond_true]; exact eh
    | true =>
      have ho := Ok.of hb e10
      by_cases hp : 0 ≤ prio ∧ prio < 32
      · have e1 : ((!true) || decide (prio < 0) || decide (prio > 31)) = false := by simp; omega
        rw [e1, cond_false]
        have hp' : q.run ≥ 0 → 0 ≤ prio ∧ prio < 32 := fun _ => hp
        by_cases hk : (topF q.ready 32).2.2 = false ∨ (q.run ≥ 0 ∧ (topF q.ready 32).2.1 ≤ prio)
        · -- nothing changes
          have hd := disp_keep ho hp' hk
          rw [hd]
          unfold letk
          dsimp only [Option.bind_some]
          rw [decide_eq_true rfl, decide_eq_true rfl, Bool.not_true, cond_false, cond_false, f14_eq ho, Option.bind_some]
          have e2 : ((topF q.ready 32).2.2 && ((decide (q.run < 0)) || (decide ((topF q.ready 32).2.1 > prio)))) = false := by
            rcases hk with hk | ⟨a, b⟩
            · rw [hk]; rfl
            · rw [decide_eq_false (by omega), decide_eq_false (by omega)]; simp
          rw [e2, cond_false]
          by_cases hr : q.run < 0
          · rw [decide_eq_true hr, cond_true, cond_true, f11_true]; rfl
          · rw [decide_eq_false hr, cond_false, hd]
            dsimp only [Option.bind_some]
            rw [decide_eq_true rfl, cond_true, f15_refl q hb, f11_true]; rfl
        · have hc : (topF q.ready 32).2.2 = true := by
            cases h : (topF q.ready 32).2.2 with
            | true => rfl
            | false => exact absurd (.inl h) hk
          have hc2 : q.run ≥ 0 → prio < (topF q.ready 32).2.1 := fun hr => by
            by_cases a : (topF q.ready 32).2.1 ≤ prio
            · exact absurd (.inr ⟨hr, a⟩) hk
            · omega
          obtain ⟨p, L, h1, h2, h3, h4, h5⟩ := disp_go ho hp' hc hc2
          rw [h5]
          generalize hx : (topF q.ready 32).1 = x at *
          have hpp : q.run ≥ 0 → prio < (p : Int) := fun hr => by have := hc2 hr; omega
          have hok := next_ok ho hp' h1 h2 hpp
          have hxp : x ∈ q.ready p := by rw [h2]; simp
          have hxn := ho.r.num p x h1 hxp
          have hne : x ≠ q.run := fun e => ho.r.out p h1 (by rw [← e]; exact hxp)
          -- the queue where it was
          have hat : f13 q x = some (p : Int) := f13_eq q x hb h1 hxp (fun j hj hj2 => ho.r.ap' hj h1 hj2 hxp)
          have hemp : ∀ j, p < j → j < 32 → nextR q prio p L j = [] := fun j a b => by
            unfold nextR
            by_cases hr : q.run ≥ 0
            · have := hpp hr
              rw [if_pos hr, vs_ne _ _ (by omega), vs_ne _ _ (by omega)]; exact h4 j a b
            · rw [if_neg hr, vs_ne _ _ (by omega)]; exact h4 j a b
          have hrx : x ≥ 0 := hxn.1
          have hkeep : f12 ⟨nextR q prio p L, q.delays, x⟩ (p : Int) = some (⟨nextR q prio p L, q.delays, x⟩, 0) := by
            refine disp_keep hok (fun _ => by omega) ?_
            cases h : (topF (nextR q prio p L) 32).2.2 with
            | false => exact .inl rfl
            | true => exact .inr ⟨hrx, top_le h1 hemp h⟩
          unfold letk
          dsimp only [Option.bind_some]
          rw [decide_eq_true rfl, Bool.not_true, cond_false, decide_eq_false hne, Bool.not_false, cond_true, hat]
          dsimp only [Option.bind_some]
          rw [decide_eq_false (show ¬ (p : Int) < 0 by omega), cond_false]
          have e3 : (Option.bind (bif (decide (q.run ≥ 0)) then (guardB (vecOk 32 prio) <| Option.bind (bif (decide ((List.length (nextR q prio p L (Int.toNat prio)) : Int) = 0)) then some true else (guardB (vecOk 32 prio) <| Option.bind (idx (nextR q prio p L (Int.toNat prio)) 0) fun x136 => some (!decide (x136 = q.run)))) fun b134 => some (b134 || (decide ((p : Int) ≤ prio)))) else some false) fun b132 => some b132) = some false := by
            by_cases hr : q.run ≥ 0
            · have hq := hpp hr
              have e5 : vecOk 32 prio = true := by simp [vecOk]; omega
              have e6 : nextR q prio p L (Int.toNat prio) = q.run :: q.ready (Int.toNat prio) := by
                unfold nextR; rw [if_pos hr, vs_eq]
              rw [decide_eq_true hr, cond_true, guardB_t _ e5, e6, decide_eq_false (by simp; omega), cond_false, guardB_t _ e5]
              have : idx (q.run :: q.ready (Int.toNat prio)) 0 = some q.run := rfl
              rw [this, Option.bind_some, decide_eq_true rfl, Option.bind_some, decide_eq_false (show ¬ (p : Int) ≤ prio by omega)]
              rfl
            · rw [decide_eq_false hr]; rfl
          rw [e3]
          dsimp only [Option.bind_some]
          rw [cond_false, f14_eq hok]
          dsimp only [Option.bind_some]
          have e4 : ((topF (nextR q prio p L) 32).2.2 && ((decide (x < 0)) || (decide ((topF (nextR q prio p L) 32).2.1 > (p : Int))))) = false := by
            cases h : (topF (nextR q prio p L) 32).2.2 with
            | false => rfl
            | true =>
              have := top_le h1 hemp h
              rw [decide_eq_false (by omega), decide_eq_false (by omega)]; rfl
          rw [e4, cond_false, decide_eq_false (show ¬ x < 0 by omega), cond_false, hkeep]
          dsimp only [Option.bind_some]
          rw [decide_eq_true rfl, cond_true, f15_refl _ hok.b, f11_true]; rfl
      · have e1 : ((!true) || decide (prio < 0) || decide (prio > 31)) = true := by
          simp; omega
        rw [e1, cond_true]; exact eh
end Go.Proofs.Ytpionlekbfoccaa
set_option maxRecDepth 10000
namespace Go.Proofs.Ytpionlekbfoccaa
open Go Go.Sk

theorem f80_l1_eq (L : List Int) (x : Int) (hl : L.length < 9223372036854775808) : ∀ (n i : Nat) (z : Int), z = (i : Int) → i ≤ L.length → L.length < n + i → ∃ r, f80_l1 L x (fun _ => some (-1)) n z = some r ∧ (0 ≤ r ↔ x ∈ L.drop i)
  | 0, i, z, _, _, h => by omega
  | n + 1, i, z, hz, hi, h => by
    subst hz
    rw [f80_l1]
    by_cases hh : i < L.length
    · rw [decide_eq_true (by omega : (i : Int) < (L.length : Int)), cond_true, idx_in hh, Option.bind_some, w64 (by omega) (by omega), drop_cons hh]
      by_cases e : x = L[i]
      · rw [decide_eq_true e, cond_true]
        exact ⟨_, rfl, ⟨fun _ => by rw [e]; exact List.mem_cons_self, fun _ => by omega⟩⟩
      · rw [decide_eq_false e, cond_false]
        obtain ⟨r, h1, h2⟩ := f80_l1_eq L x hl n (i + 1) ((i : Int) + 1) (by push_cast; rfl) (by omega) (by omega)
        refine ⟨r, h1, h2.trans ?_⟩
        rw [List.mem_cons]
        exact ⟨.inr, fun h => h.resolve_left e⟩
    · have hd : L.drop i = [] := List.drop_eq_nil_of_le (by omega)
      rw [decide_eq_false (by omega : ¬ (i : Int) < (L.length : Int)), cond_false, hd]
      exact ⟨_, rfl, by simp⟩
theorem f71_eq (L : List Int) (x : Int) (hl : L.length < 9223372036854775808) : f71 L x = some (decide (x ∈ L)) := by
  unfold f71 f80 letk
  dsimp only
  obtain ⟨r, h1, h2⟩ := f80_l1_eq L x hl (Int.toNat ((List.length L : Int) - 0) + 1) 0 0 rfl (by omega) (by simp)
  rw [h1, Option.bind_some]
  rw [List.drop_zero] at h2
  congr 1
  by_cases e : x ∈ L
  · rw [decide_eq_true e, decide_eq_true (h2.2 e)]
  · rw [decide_eq_false e, decide_eq_false (fun a => e (h2.1 a))]

/-- The highest queue that holds a task. -/
def findF (F : Nat → List Int) (x : Int) : Nat → Int × Bool
  | 0 => (0, false)
  | n + 1 => if x ∈ F n then ((n : Int), true) else findF F x n
theorem f43_l1_eq (q : Queues) (x : Int) (hl : ∀ j, j < 32 → (q.ready j).length < 9223372036854775808) : ∀ (n i : Nat) (z : Int), z = (i : Int) - 1 → i ≤ 32 → i < n → f43_l1 q x (fun a => some (a, true)) (fun _ => some (0, false)) n z = some (findF q.ready x i)
  | 0, i, z, _, _, h => by omega
  | n + 1, 0, z, hz, hi, h => by
    subst hz
    rw [f43_l1]
    rfl
  | n + 1, i + 1, z, hz, hi, h => by
    have hz' : z = (i : Int) := by rw [hz]; push_cast; omega
    subst hz'
    rw [f43_l1]
    have hlt : i < ((List.range 32).map q.ready).length := by simp; omega
    have e : (List.map q.ready (List.range 32))[i]'hlt = q.ready i := by simp
    rw [decide_eq_true (by omega : (i : Int) ≥ 0), cond_true, idx_in hlt, Option.bind_some, e]
    unfold letk
    dsimp only
    rw [w64 (x := (i : Int) - 1) (by omega) (by omega), f43_l1_eq q x hl n i _ rfl (by omega) (by omega)]
    unfold findF
    by_cases h0 : q.ready i = []
    · rw [h0, decide_eq_false (by simp), cond_false]
      simp
      cases i <;> rfl
    · have : 0 < (q.ready i).length := List.length_pos_iff.2 h0
      rw [decide_eq_true (by omega), cond_true, f71_eq _ _ (hl i (by omega)), Option.bind_some]
      by_cases e : x ∈ q.ready i
      · rw [decide_eq_true e, cond_true, if_pos e]
      · rw [decide_eq_false e, cond_false, if_neg e]
        cases i <;> rfl
theorem f43_eq (q : Queues) (x : Int) (hb : Bnd q) : f43 q x = some (findF q.ready x 32) := by
  unfold f43 letk
  dsimp only
  have e1 : ((List.length (List.map q.ready (List.range 32)) : Int) - 1) = 31 := by simp
  have e2 : IntKind.i64.wrap 31 = 31 := by decide
  rw [e1, e2]
  exact f43_l1_eq q x hb.r 33 32 31 (by decide) (by decide) (by decide)
theorem findF_none {F : Nat → List Int} {x : Int} : ∀ {n : Nat}, (∀ j, j < n → x ∉ F j) → findF F x n = (0, false)
  | 0, _ => rfl
  | n + 1, h => by
    unfold findF
    rw [if_neg (h n (by omega))]
    exact findF_none (fun j hj => h j (by omega))
theorem findF_some {F : Nat → List Int} {x : Int} {p : Nat} : ∀ {n : Nat}, p < n → x ∈ F p → (∀ j, j < n → x ∈ F j → j = p) → findF F x n = ((p : Int), true)
  | 0, h, _, _ => by omega
  | n + 1, h, hx, hu => by
    unfold findF
    by_cases e : x ∈ F n
    · rw [if_pos e, hu n (by omega) e]
    · rw [if_neg e]
      have : p ≠ n := fun a => e (by rw [← a]; exact hx)
      exact findF_some (by omega) hx (fun j hj => hu j (by omega))

/-- Nowhere. -/
def Free (q : Queues) (x : Int) : Prop := q.run ≠ x ∧ ∀ j, j < 32 → x ∉ q.ready j
theorem put_ok {q : Queues} (h : Ok q) {p : Nat} {x : Int} {L : List Int} (hp : p < 32) (hx : 0 ≤ x ∧ x < 32) (hf : Free q x) (hL : ∀ y, y ∈ L ↔ y = x ∨ y ∈ q.ready p) (hn : L.Nodup) : Ok ⟨vset q.ready p L, q.delays, q.run⟩ := by
  refine Ok.mk2 ?_ h.b.d h.d
  have key : ∀ j y, j < 32 → y ∈ vset q.ready p L j → y ∈ q.ready j ∨ (j = p ∧ y = x) := fun j y hj hy => by
    by_cases e : j = p
    · rw [e, vs_eq] at hy
      rcases (hL y).1 hy with a | a
      · exact .inr ⟨e, a⟩
      · exact .inl (by rw [e]; exact a)
    · rw [vs_ne _ _ e] at hy; exact .inl hy
  refine ⟨h.r.run, fun j y hj hy => ?_, fun j hj => ?_, fun j k y hjk hk hy hz => ?_, fun j hj hy => ?_⟩
  · rcases key j y hj hy with a | ⟨_, a⟩
    · exact h.r.num j y hj a
    · rw [a]; exact hx
  · by_cases e : j = p
    · show (vset q.ready p L j).Nodup
      rw [e, vs_eq]; exact hn
    · show (vset q.ready p L j).Nodup
      rw [vs_ne _ _ e]; exact h.r.nd j hj
  · rcases key j y (by omega) hy with a | ⟨a1, a2⟩ <;> rcases key k y hk hz with b | ⟨b1, b2⟩
    · exact h.r.ap j k y hjk hk a b
    · exact hf.2 j (by omega) (by rw [← b2]; exact a)
    · exact hf.2 k hk (by rw [← a2]; exact b)
    · omega
  · rcases key j _ hj hy with a | ⟨_, a⟩
    · exact h.r.out j hj a
    · exact hf.1 a

theorem tail_eq {q : Queues} (h : Ok q) {prio x : Int} (hp : 0 ≤ prio ∧ prio < 32) (hx : 0 ≤ x ∧ x < 32) (hf : Free q x) :
    f21 q prio x = some (⟨vset q.ready (Int.toNat prio) (q.ready (Int.toNat prio) ++ [x]), q.delays, q.run⟩, 0) := by
  have hp2 : Int.toNat prio < 32 := by omega
  have e5 : vecOk 32 prio = true := by simp [vecOk]; omega
  have e6 : appOk 8 (q.ready (Int.toNat prio)) [x] = true := by
    have := h.r.len hp2
    simp [appOk, maxLen] <;> omega
  unfold f21 letk
  dsimp only
  rw [h.may, Option.bind_some, (f30_iff prio).2 hp, (f30_iff x).2 hx, f43_eq q x h.b, findF_none (fun j hj => hf.2 j hj)]
  dsimp only [Option.bind_some]
  rw [decide_eq_false hf.1, guardB_t _ e5, guardB_t _ h.own, guardB_t _ e5, guardB_t _ e5, guardB_t _ e6]
  rfl
theorem tail_ok {q : Queues} (h : Ok q) {prio x : Int} (hp : 0 ≤ prio ∧ prio < 32) (hx : 0 ≤ x ∧ x < 32) (hf : Free q x) : Ok ⟨vset q.ready (Int.toNat prio) (q.ready (Int.toNat prio) ++ [x]), q.delays, q.run⟩ :=
  put_ok h (by omega) hx hf (fun y => by simp [or_comm]) (by
    rw [List.nodup_append]
    exact ⟨h.r.nd _ (by omega), by simp, fun a ha b hb e => by
      simp at hb
      exact hf.2 (Int.toNat prio) (by omega) (by rw [← hb, ← e]; exact ha)⟩)
end Go.Proofs.Ytpionlekbfoccaa
set_option maxRecDepth 10000
namespace Go.Proofs.Ytpionlekbfoccaa
open Go Go.Sk

def strike (x : Int) (L : List Int) : List Int := L.filter (fun y => !decide (y = x))
theorem f22_l2_eq (x : Int) (k : Int → List Int → Option (Queues × Int)) : ∀ (n i j : Nat) (a b : Int) (l : List Int), a = (i : Int) → b = (j : Int) → i < j → j ≤ l.length → l.length < n + j → l.length < 9223372036854775808 →
    ∃ (i' : Nat) (l' : List Int), f22_l2 x k n a b l = k (i' : Int) l' ∧ i' ≤ l'.length ∧ l'.length = l.length ∧ l'.take i' = l.take i ++ strike x (l.drop j)
  | 0, i, j, a, b, l, _, _, _, _, h, _ => by omega
  | n + 1, i, j, a, b, l, ha, hb, hij, hj, h, hl => by
    subst ha; subst hb
    rw [f22_l2]
    by_cases hh : j < l.length
    · rw [decide_eq_true (by omega : (j : Int) < (l.length : Int)), cond_true]
      unfold letk
      dsimp only
      rw [idx_in hh, Option.bind_some, idx_in (show i < l.length by omega), Option.bind_some, w64 (x := (j : Int) + 1) (by omega) (by omega), w64 (x := (i : Int) + 1) (by omega) (by omega), Int.toNat_natCast, drop_cons hh]
      by_cases e : l[j] = x
      · rw [decide_eq_true e, Bool.not_true, cond_false]
        obtain ⟨i', l', h1, h2, h3, h4⟩ := f22_l2_eq x k n i (j + 1) _ ((j : Int) + 1) l rfl (by push_cast; rfl) (by omega) (by omega) (by omega) hl
        refine ⟨i', l', h1, h2, h3, h4.trans ?_⟩
        simp [strike, e]
      · rw [decide_eq_false e, Bool.not_false, cond_true]
        obtain ⟨i', l', h1, h2, h3, h4⟩ := f22_l2_eq x k n (i + 1) (j + 1) ((i : Int) + 1) ((j : Int) + 1) (l.set i l[j]) (by push_cast; rfl) (by push_cast; rfl) (by omega) (by simp; omega) (by simp; omega) (by simpa using hl)
        refine ⟨i', l', h1, h2, by simpa using h3, h4.trans ?_⟩
        have e1 : (l.set i l[j]).take (i + 1) = l.take i ++ [l[j]] := by
          apply List.ext_getElem?
          intro m
          rw [List.getElem?_take]
          by_cases hm : m < i
          · rw [if_pos (by omega), List.getElem?_set_ne (by omega), List.getElem?_append_left (by simp; omega), List.getElem?_take, if_pos hm]
          · by_cases hm2 : m = i
            · subst hm2
              rw [if_pos (by omega), List.getElem?_set_self (by omega), List.getElem?_append_right (by simp; omega), List.length_take, Nat.min_eq_left (by omega), Nat.sub_self]
              rfl
            · rw [if_neg (by omega), List.getElem?_append_right (by simp; omega), List.length_take]
              exact (List.getElem?_eq_none (by simp; omega)).symm
        have e2 : (l.set i l[j]).drop (j + 1) = l.drop (j + 1) := by
          apply List.ext_getElem?
          intro m
          rw [List.getElem?_drop, List.getElem?_drop, List.getElem?_set_ne (by omega)]
        rw [e1, e2, List.append_assoc]
        unfold strike
        rw [List.filter_cons, if_pos (by simp [e])]
        rfl
    · have hd : l.drop j = [] := List.drop_eq_nil_of_le (by omega)
      rw [decide_eq_false (by omega : ¬ (j : Int) < (l.length : Int)), cond_false, hd]
      exact ⟨i, l, rfl, by omega, rfl, by simp [strike]⟩

theorem f22_l1_eq (x : Int) (L : List Int) (k64 : Int → Option (Queues × Int)) (k65 : Unit → Option (Queues × Int)) (hl : L.length < 9223372036854775808) : ∀ (n i : Nat) (z : Int), z = (i : Int) → i ≤ L.length → L.length < n + i → x ∈ L.drop i →
    ∃ m, i ≤ m ∧ ∃ hm : m < L.length, L[m] = x ∧ (∀ y ∈ (L.take m).drop i, y ≠ x) ∧ f22_l1 x L k64 k65 n z = k64 (m : Int)
  | 0, i, z, _, _, h, _ => by omega
  | n + 1, i, z, hz, hi, h, hx => by
    subst hz
    by_cases hh : i < L.length
    · rw [f22_l1, decide_eq_true (by omega : (i : Int) < (L.length : Int)), cond_true, idx_in hh, Option.bind_some]
      unfold letk
      dsimp only
      by_cases e : L[i] = x
      · rw [decide_eq_true e, cond_true]
        exact ⟨i, Nat.le_refl i, hh, e, (fun y hy => by rw [List.drop_eq_nil_of_le (by simp; omega)] at hy; cases hy), rfl⟩
      · rw [decide_eq_false e, cond_false, w64 (by omega) (by omega)]
        rw [drop_cons hh, List.mem_cons] at hx
        obtain ⟨m, h1, h2, h3, h4, h5⟩ := f22_l1_eq x L k64 k65 hl n (i + 1) ((i : Int) + 1) (by push_cast; rfl) (by omega) (by omega) (hx.resolve_left (fun a => e a.symm))
        refine ⟨m, by omega, h2, h3, fun y hy => ?_, h5⟩
        have hlt : i < (L.take m).length := by simp; omega
        rw [drop_cons hlt, List.mem_cons] at hy
        rcases hy with hy | hy
        · rw [hy]; simpa using e
        · exact h4 y hy
    · rw [List.drop_eq_nil_of_le (by omega)] at hx; cases hx

theorem strike_id {x : Int} {L : List Int} (h : ∀ y ∈ L, y ≠ x) : strike x L = L := by
  unfold strike
  rw [List.filter_eq_self]
  intro y hy
  simp [h y hy]
theorem strike_at {x : Int} {L : List Int} {m : Nat} (hm : m < L.length) (e : L[m] = x) (h : ∀ y ∈ L.take m, y ≠ x) : L.take m ++ strike x (L.drop (m + 1)) = strike x L := by
  conv => rhs; rw [← List.take_append_drop m L]
  rw [drop_cons hm]
  have h1 := strike_id h
  unfold strike at h1 ⊢
  rw [List.filter_append, h1, List.filter_cons, if_neg (by simp [e])]

theorem drop_in {q : Queues} (h : Ok q) {x : Int} (hx : 0 ≤ x ∧ x < 32) {p : Nat} (hp : p < 32) (hm : x ∈ q.ready p) : f22 q x = some (⟨vset q.ready p (strike x (q.ready p)), q.delays, q.run⟩, 0) := by
  have hl : (q.ready p).length < 9223372036854775808 := h.b.r p hp
  unfold f22
  rw [h.may, Option.bind_some, (f30_iff x).2 hx, f43_eq q x h.b, findF_some hp hm (fun j hj hj2 => h.r.ap' hj hp hj2 hm)]
  have e0 : O.f32 q = some q := by unfold O.f32; rw [guardB_t _ h.own]
  have e1 : O.f60o (q.ready p) = some (q.ready p) := by
    unfold O.f60o
    rw [guardB_t]
    have := h.r.len hp
    simp [appOk, maxLen] <;> omega
  unfold letk
  dsimp only [Option.bind_some]
  rw [e0, Bool.not_true, Bool.or_false, cond_false]
  dsimp only [Option.bind_some]
  rw [cond_true, guardB_t _ (vecOk_nat hp), Int.toNat_natCast, e1]
  dsimp only [Option.bind_some]
  obtain ⟨m, _, h2, h3, h4, h5⟩ := f22_l1_eq x (q.ready p) _ (fun _ => _) hl (Int.toNat ((List.length (q.ready p) : Int) - 0) + 1) 0 0 rfl (by omega) (by simp) (by simpa using hm)
  rw [h5]
  rw [List.drop_zero] at h4
  rw [decide_eq_false (show ¬ (m : Int) = -1 by omega), cond_false, w64 (by omega) (by omega)]
  obtain ⟨i', l', g1, g2, g3, g4⟩ := f22_l2_eq x (fun iq72 l73 => guardB (sliceOk l73 iq72 (List.length l73 : Int)) <|
  guardB (pieceOk l73 (Int.toNat iq72) (Int.toNat (List.length l73 : Int) - Int.toNat iq72)) <|
  guardB (sliceOk (clearF l73 (Int.toNat iq72) (Int.toNat (List.length l73 : Int) - Int.toNat iq72) (0 : Int)) 0 iq72) <|
  (guardB (vecOk 32 (p : Int)) <| some (Queues.mk (vset q.ready p (sliceF (clearF l73 (Int.toNat iq72) (Int.toNat (List.length l73 : Int) - Int.toNat iq72) (0 : Int)) 0 iq72)) q.delays q.run, 0))) 9223372036854775808 m (m + 1) (m : Int) ((m : Int) + 1) (q.ready p) rfl (by push_cast; rfl) (by omega) (by omega) (by omega) hl
  refine Eq.trans g1 ?_
  rw [strike_at h2 h3 h4] at g4
  have hcl : (clearF l' i' (l'.length - i') (0 : Int)).length = l'.length := by simp [clearF]; omega
  have t1 : sliceOk l' (i' : Int) (List.length l' : Int) = true := by simp [sliceOk]; omega
  have t2 : pieceOk l' i' (l'.length - i') = true := by simp [pieceOk]; omega
  have t3 : sliceOk (clearF l' i' (l'.length - i') (0 : Int)) 0 (i' : Int) = true := by simp [sliceOk, hcl]; omega
  have t4 : sliceF (clearF l' i' (l'.length - i') (0 : Int)) 0 (i' : Int) = strike x (q.ready p) := by
    rw [← g4]
    show ((l'.take i' ++ (List.replicate (l'.length - i') 0 ++ l'.drop (i' + (l'.length - i')))).drop 0).take (i' - 0) = _
    rw [Nat.sub_zero, List.drop_zero, List.take_append_of_le_length (by simp; omega), List.take_take, Nat.min_self]
  rw [guardB_t _ t1]
  simp only [Int.toNat_natCast]
  rw [guardB_t _ t2, guardB_t _ t3, guardB_t _ (vecOk_nat hp), t4]
end Go.Proofs.Ytpionlekbfoccaa
set_option maxRecDepth 10000
namespace Go.Proofs.Ytpionlekbfoccaa
open Go Go.Sk

theorem drop_run {q : Queues} (h : Ok q) (hx : 0 ≤ q.run ∧ q.run < 32) : f22 q q.run = some (⟨q.ready, q.delays, -1⟩, 0) := by
  unfold f22
  rw [h.may, Option.bind_some, (f30_iff _).2 hx, f43_eq q _ h.b, findF_none (fun j hj => h.r.out j hj)]
  have e0 : O.f32 q = some q := by unfold O.f32; rw [guardB_t _ h.own]
  unfold letk
  dsimp only [Option.bind_some]
  rw [e0, Bool.not_true, Bool.or_false, cond_false]
  dsimp only [Option.bind_some]
  rw [cond_false, decide_eq_true rfl, cond_true]

/-- the priority that a number gives -/
def pf (x : Int) : Int := IntKind.i64.wrap (IntKind.u8.wrap (BitVec.ofInt IntKind.u8.bits x &&& BitVec.ofInt IntKind.u8.bits 31).toNat)
theorem pf_rng (x : Int) : 0 ≤ pf x ∧ pf x < 32 := by
  unfold pf
  have h1 : (BitVec.ofInt IntKind.u8.bits x &&& BitVec.ofInt IntKind.u8.bits 31).toNat < 32 := by
    rw [BitVec.toNat_and]
    have e : (BitVec.ofInt IntKind.u8.bits 31).toNat = 31 := by decide
    rw [e]
    exact Nat.lt_succ_of_le Nat.and_le_right
  generalize (BitVec.ofInt IntKind.u8.bits x &&& BitVec.ofInt IntKind.u8.bits 31).toNat = m at h1
  have h2 : ∀ m : Nat, m < 32 → 0 ≤ IntKind.i64.wrap (IntKind.u8.wrap (m : Int)) ∧ IntKind.i64.wrap (IntKind.u8.wrap (m : Int)) < 32 := by decide
  exact h2 m h1

theorem tot_vset (F : Nat → List Int) (p : Nat) (L : List Int) : ∀ n i, i ≤ p → p < i + n → (flat (vset F p L) n i).length + (F p).length = (flat F n i).length + L.length
  | 0, i, h1, h2 => by omega
  | n + 1, i, h1, h2 => by
    rw [flat, flat, List.length_append, List.length_append]
    by_cases e : p = i
    · subst e
      rw [vs_eq]
      have : ∀ m j, p < j → flat (vset F p L) m j = flat F m j := fun m => by
        induction m with
        | zero => intro j _; rfl
        | succ m ih => intro j hj; rw [flat, flat, vs_ne _ _ (by omega), ih (j + 1) (by omega)]
      rw [this n (p + 1) (by omega)]
      omega
    · rw [vs_ne _ _ (Ne.symm e)]
      have := tot_vset F p L n (i + 1) (by omega) (by omega)
      omega
theorem flat_nil {F : Nat → List Int} (h : (flat F 32 0).length = 0) : ∀ j, j < 32 → F j = [] := fun j hj => by
  have := flat_len (F := F) (n := 32) (i := 0) (j := j) (by omega) (by omega)
  exact List.eq_nil_of_length_eq_zero (by omega)

/-- The tasks of a list of priorities that are still there. -/
structure Sv (ps : List Int) (q : Queues) : Prop where
  ok : Ok q
  run : q.run = -1
  srt : ∀ p, p < 32 → (q.ready p).Pairwise (· < ·)
  num : ∀ p t, p < 32 → t ∈ q.ready p → 0 ≤ t ∧ t < (ps.length : Int) ∧ ∃ x, ps[Int.toNat t]? = some x ∧ pf x = (p : Int)

theorem serve_loop (ps : List Int) (hn : ps.length ≤ 32) (k : (Nat → List Int) → List Due → Int → Option Bool) (hk : ∀ F d, Ok ⟨F, d, -1⟩ → (∀ j, j < 32 → F j = []) → k F d (-1) = some true) : ∀ (n i : Nat) (z last seen : Int) (q : Queues), z = (i : Int) → i ≤ ps.length → ps.length < n + i → Sv ps q → (flat q.ready 32 0).length = ps.length - i →
    (∀ p : Nat, p < 32 → last < (p : Int) → q.ready p = []) → (∀ (p : Nat) t, p < 32 → last = (p : Int) → t ∈ q.ready p → seen ≤ t) → f5_l2 ps k n last seen z q.ready q.delays q.run = some true
  | 0, i, z, last, seen, q, _, _, h, _, _, _, _ => by omega
  | n + 1, i, z, last, seen, q, hz, hi, h, hs, ht, hl1, hl2 => by
    subst hz
    rw [f5_l2]
    by_cases hh : i < ps.length
    · have hq : (⟨q.ready, q.delays, q.run⟩ : Queues) = q := rfl
      rw [decide_eq_true (by omega : (i : Int) < (ps.length : Int)), cond_true, hq]
      have hr0 : ¬ q.run ≥ 0 := by rw [hs.run]; decide
      have hc : (topF q.ready 32).2.2 = true := by
        cases hcc : (topF q.ready 32).2.2 with
        | true => rfl
        | false =>
          have hz := topF_none hcc
          have : ∀ m j, j + m ≤ 32 → flat q.ready m j = [] := fun m => by
            induction m with
            | zero => intro j _; rfl
            | succ m ih => intro j hj; rw [flat, hz j (by omega), ih (j + 1) (by omega)]; rfl
          rw [this 32 0 (by omega)] at ht
          simp at ht
          omega
      obtain ⟨p, L, h1, h2, h3, h4, h5⟩ := disp_go hs.ok (prio := 0) (fun hr => absurd hr hr0) hc (fun hr => absurd hr hr0)
      rw [h5, Option.bind_some]
      generalize (topF q.ready 32).1 = x at h2 h5 ⊢
      have hN : nextR q 0 p L = vset q.ready p L := by unfold nextR; rw [if_neg hr0]
      have hok := next_ok hs.ok (prio := 0) (fun hr => absurd hr hr0) h1 h2 (fun hr => absurd hr hr0)
      rw [hN] at hok ⊢
      obtain ⟨a1, a2, y, a3, a4⟩ := hs.num p x h1 (by rw [h2]; simp)
      have hxt : Int.toNat x < ps.length := by omega
      have hidx : idx ps x = some y := by
        have := idx_in hxt
        rw [Int.toNat_of_nonneg a1] at this
        rw [this]
        rw [List.getElem?_eq_getElem hxt] at a3
        exact a3
      dsimp only
      rw [decide_eq_true rfl, decide_eq_false (show ¬ x < 0 by omega), decide_eq_false (show ¬ x ≥ (ps.length : Int) by omega)]
      simp only [Bool.not_true, Bool.or_false, cond_false]
      rw [hidx, Option.bind_some]
      have e1 : IntKind.i64.wrap (IntKind.u8.wrap (BitVec.ofInt IntKind.u8.bits y &&& BitVec.ofInt IntKind.u8.bits 31).toNat) = (p : Int) := a4
      rw [e1]
      have hle : (p : Int) ≤ last := by
        by_cases c : last < (p : Int)
        · have := hl1 p h1 c
          rw [this] at h2; cases h2
        · omega
      have e2 : ((decide ((p : Int) > last)) || ((decide ((p : Int) = last)) && (decide (x < seen)))) = false := by
        rw [decide_eq_false (by omega)]
        by_cases c : (p : Int) = last
        · have := hl2 p x h1 c.symm (by rw [h2]; simp)
          rw [decide_eq_false (show ¬ x < seen by omega)]; simp
        · rw [decide_eq_false c]; rfl
      rw [e2, cond_false]
      have hd := drop_run hok ⟨a1, by show x < 32; omega⟩
      dsimp only at hd
      rw [hd, Option.bind_some]
      dsimp only
      rw [decide_eq_true rfl, Bool.not_true, cond_false, w64 (by omega) (by omega)]
      have hsr := hs.srt p h1
      rw [h2, List.pairwise_cons] at hsr
      have hok2 : Ok ⟨vset q.ready p L, q.delays, -1⟩ := Ok.mk2 ⟨.inl rfl, hok.r.num, hok.r.nd, hok.r.ap, fun j hj hy => by
        have := hok.r.num j _ hj hy
        simp at this⟩ hok.b.d hok.d
      refine serve_loop ps hn k hk n (i + 1) _ (p : Int) x ⟨vset q.ready p L, q.delays, -1⟩ (by push_cast; rfl) (by omega) (by omega) ⟨hok2, rfl, fun j hj => ?_, fun j t hj ht2 => ?_⟩ ?_ (fun j hj hlt => ?_) (fun j t hj hjl ht2 => ?_)
      · show (vset q.ready p L j).Pairwise _
        by_cases e : j = p
        · rw [e, vs_eq]; exact hsr.2
        · rw [vs_ne _ _ e]; exact hs.srt j hj
      · have ht3 : t ∈ vset q.ready p L j := ht2
        by_cases e : j = p
        · rw [e, vs_eq] at ht3
          rw [e]
          exact hs.num p t h1 (by rw [h2]; exact List.mem_cons_of_mem _ ht3)
        · rw [vs_ne _ _ e] at ht3; exact hs.num j t hj ht3
      · have := tot_vset q.ready p L 32 0 (by omega) (by omega)
        rw [h2] at this
        simp only [List.length_cons] at this
        show (flat (vset q.ready p L) 32 0).length = _
        omega
      · show vset q.ready p L j = []
        rw [vs_ne _ _ (by omega)]
        exact h4 j (by omega) hj
      · have e : j = p := by omega
        have ht3 : t ∈ vset q.ready p L j := ht2
        rw [e, vs_eq] at ht3
        have := hsr.1 t ht3
        omega
    · rw [decide_eq_false (by omega : ¬ (i : Int) < (ps.length : Int)), cond_false, hs.run]
      refine hk _ _ ?_ (flat_nil (by omega))
      have := hs.ok
      have e : q = ⟨q.ready, q.delays, -1⟩ := by rw [← hs.run]
      rw [e] at this
      exact this

theorem fill_loop (ps : List Int) (hn : ps.length ≤ 32) (k : (Nat → List Int) → List Due → Int → Option Bool) (hk : ∀ q, Sv ps q → (flat q.ready 32 0).length = ps.length → k q.ready q.delays q.run = some true) : ∀ (n i : Nat) (z : Int) (q : Queues), z = (i : Int) → i ≤ ps.length → ps.length < n + i → Sv ps q → (flat q.ready 32 0).length = i → (∀ p t, p < 32 → t ∈ q.ready p → t < (i : Int)) →
    f5_l1 ps k n z q.ready q.delays q.run = some true
  | 0, i, z, q, _, _, h, _, _, _ => by omega
  | n + 1, i, z, q, hz, hi, h, hs, ht, hlt => by
    subst hz
    rw [f5_l1]
    by_cases hh : i < ps.length
    · have hq : (⟨q.ready, q.delays, q.run⟩ : Queues) = q := rfl
      rw [decide_eq_true (by omega : (i : Int) < (ps.length : Int)), cond_true, hq, idx_in hh, Option.bind_some]
      have hp := pf_rng ps[i]
      have e1 : IntKind.i64.wrap (IntKind.u8.wrap (BitVec.ofInt IntKind.u8.bits ps[i] &&& BitVec.ofInt IntKind.u8.bits 31).toNat) = pf ps[i] := rfl
      rw [e1]
      generalize hpe : pf ps[i] = pr at hp
      have hx : 0 ≤ (i : Int) ∧ (i : Int) < 32 := by omega
      have hf : Free q (i : Int) := ⟨by rw [hs.run]; omega, fun j hj hm => by have := hlt j _ hj hm; omega⟩
      rw [tail_eq hs.ok hp hx hf, Option.bind_some]
      dsimp only
      rw [decide_eq_true rfl, Bool.not_true, cond_false, w64 (by omega) (by omega)]
      have hpn : Int.toNat pr < 32 := by omega
      refine fill_loop ps hn k hk n (i + 1) _ ⟨vset q.ready (Int.toNat pr) (q.ready (Int.toNat pr) ++ [(i : Int)]), q.delays, q.run⟩ (by push_cast; rfl) (by omega) (by omega) ⟨tail_ok hs.ok hp hx hf, hs.run, fun j hj => ?_, fun j t hj ht2 => ?_⟩ ?_ (fun j t hj ht2 => ?_)
      · show (vset q.ready (Int.toNat pr) _ j).Pairwise _
        by_cases e : j = Int.toNat pr
        · rw [e, vs_eq, List.pairwise_append]
          exact ⟨hs.srt _ hpn, by simp, fun a ha b hb => by
            simp at hb
            rw [hb]; exact hlt _ a hpn ha⟩
        · rw [vs_ne _ _ e]; exact hs.srt j hj
      · have ht3 : t ∈ vset q.ready (Int.toNat pr) (q.ready (Int.toNat pr) ++ [(i : Int)]) j := ht2
        by_cases e : j = Int.toNat pr
        · rw [e, vs_eq, List.mem_append] at ht3
          rcases ht3 with ht3 | ht3
          · rw [e]; exact hs.num _ t hpn ht3
          · simp at ht3
            rw [ht3]
            exact ⟨by omega, by omega, ps[i], by simp [hh], by rw [hpe, e]; omega⟩
        · rw [vs_ne _ _ e] at ht3; exact hs.num j t hj ht3
      · have := tot_vset q.ready (Int.toNat pr) (q.ready (Int.toNat pr) ++ [(i : Int)]) 32 0 (by omega) (by omega)
        simp only [List.length_append, List.length_cons, List.length_nil] at this
        show (flat (vset q.ready (Int.toNat pr) _) 32 0).length = _
        omega
      · have ht3 : t ∈ vset q.ready (Int.toNat pr) (q.ready (Int.toNat pr) ++ [(i : Int)]) j := ht2
        by_cases e : j = Int.toNat pr
        · rw [e, vs_eq, List.mem_append] at ht3
          rcases ht3 with ht3 | ht3
          · have := hlt _ t hpn ht3; push_cast; omega
          · simp at ht3; push_cast; omega
        · rw [vs_ne _ _ e] at ht3
          have := hlt j t hj ht3; push_cast; omega
    · rw [decide_eq_false (by omega : ¬ (i : Int) < (ps.length : Int)), cond_false]
      exact hk q hs (by omega)

theorem law5_gen (ps : List Int) (n m : Nat) (hn : ps.length < n) (hm : ps.length < m) : (bif (decide ((List.length ps : Int) > 32)) then Option.bind (f11) fun r113 =>
  some r113 else letk (fun (c00114 : Nat → (List Int)) (c032115 : List Due) (c033116 : Int) =>
  letk (fun (c00132 : Nat → (List Int)) (c032133 : List Due) (c033134 : Int) =>
  Option.bind (f14 (Queues.mk c00132 c032133 c033134)) fun r157 =>
  Option.bind (bif (!r157.2.2) then (Option.bind (f11) fun r159 => some r159) else some false) fun b158 =>
  some b158) fun k135 =>
  (f5_l2 ps k135 m 31 (-1) 0 c00114 c032115 c033116)) fun k117 =>
  (f5_l1 ps k117 n 0 f16.ready f16.delays f16.run)) = some true := by
  by_cases h32 : (ps.length : Int) > 32
  · rw [decide_eq_true h32, cond_true, f11_true]; rfl
  · rw [decide_eq_false h32, cond_false]
    unfold letk
    dsimp only
    have hok0 : Ok f16 := Ok.mk2 ⟨.inl rfl, (fun j x _ h => by cases h), (fun j _ => List.nodup_nil), (fun j k x _ _ h => by cases h), (fun j _ h => by cases h)⟩ (by decide) (by decide)
    refine fill_loop ps (by omega) _ (fun q hs ht => ?_) n 0 0 f16 rfl (by omega) (by omega) ⟨hok0, rfl, (fun p _ => List.Pairwise.nil), (fun p t _ h => by cases h)⟩ (by decide) (fun p t _ h => by cases h)
    refine serve_loop ps (by omega) _ (fun F d hok hF => ?_) m 0 0 31 (-1) q rfl (by omega) (by omega) hs (by omega) (fun p hp hlt => by omega) (fun p t hp _ ht => by have := hs.num p t hp ht; omega)
    rw [f14_eq hok, Option.bind_some]
    have : (topF F 32).2.2 = false := by
      cases h : (topF F 32).2.2 with
      | false => rfl
      | true =>
        obtain ⟨p, L, h1, h2, _⟩ := topF_some h
        rw [hF p h1] at h2; cases h2
    show Option.bind (bif (!(topF F 32).2.2) then _ else _) _ = _
    rw [this, f11_true]
    rfl
theorem law5 (ps : List Int) (hl : ps.length < 9223372036854775808) : f5 ps = some true := by
  rw [f5]
  exact law5_gen ps 9223372036854775808 9223372036854775808 hl hl
end Go.Proofs.Ytpionlekbfoccaa
set_option maxRecDepth 10000
namespace Go.Proofs.Ytpionlekbfoccaa
open Go Go.Sk

theorem f27_l2_eq (q : Queues) (t : Int) (p : Nat) (hp : p < 32) (k : Int → Option Int) (hl : (q.ready p).length ≤ 32) : ∀ (na i c : Nat) (z n : Int), z = (i : Int) → n = (c : Int) → c ≤ 10000 + i → i ≤ (q.ready p).length → (q.ready p).length < na + i →
    f27_l2 q t (p : Int) k na n z = k ((c + ((q.ready p).drop i).count t : Nat) : Int)
  | 0, i, c, z, n, _, _, _, _, h => by omega
  | na + 1, i, c, z, n, hz, hn, hc, hi, h => by
    subst hz; subst hn
    rw [f27_l2, guardB_t _ (vecOk_nat hp), Int.toNat_natCast]
    by_cases hh : i < (q.ready p).length
    · rw [decide_eq_true (by omega : (i : Int) < ((q.ready p).length : Int)), cond_true]
      unfold letk
      dsimp only
      rw [guardB_t _ (vecOk_nat hp), idx_in hh, Option.bind_some, w64 (x := (i : Int) + 1) (by omega) (by omega), w64 (x := (c : Int) + 1) (by omega) (by omega), drop_cons hh, List.count_cons]
      by_cases e : (q.ready p)[i] = t
      · rw [decide_eq_true e, cond_true, f27_l2_eq q t p hp k hl na (i + 1) (c + 1) _ _ (by push_cast; rfl) (by push_cast; rfl) (by omega) (by omega) (by omega)]
        rw [if_pos (by simp [e])]
        congr 2
        omega
      · rw [decide_eq_false e, cond_false, f27_l2_eq q t p hp k hl na (i + 1) c _ _ (by push_cast; rfl) rfl (by omega) (by omega) (by omega)]
        rw [if_neg (by simpa using e)]
        rfl
    · have hd : (q.ready p).drop i = [] := List.drop_eq_nil_of_le (by omega)
      rw [decide_eq_false (by omega : ¬ (i : Int) < ((q.ready p).length : Int)), cond_false, hd]
      rfl
theorem f27_l1_eq (q : Queues) (t : Int) (k : Int → Option Int) (hl : ∀ j, j < 32 → (q.ready j).length ≤ 32) : ∀ (n i c : Nat) (z a : Int), z = (i : Int) → a = (c : Int) → c ≤ 32 * i → i ≤ 32 → 32 - i < n →
    f27_l1 q t k n a z = k ((c + (flat q.ready (32 - i) i).count t : Nat) : Int)
  | 0, i, c, z, a, _, _, _, _, h => by omega
  | n + 1, i, c, z, a, hz, ha, hc, hi, h => by
    subst hz; subst ha
    rw [f27_l1]
    by_cases hh : i < 32
    · rw [decide_eq_true (by omega : (i : Int) < 32), cond_true]
      unfold letk
      dsimp only
      have hli := hl i hh
      rw [f27_l2_eq q t i hh _ hli _ 0 c 0 _ rfl rfl (by omega) (by omega) (by omega), List.drop_zero, w64 (by omega) (by omega)]
      have h2 : (q.ready i).count t ≤ 32 := Nat.le_trans List.count_le_length hli
      rw [f27_l1_eq q t k hl n (i + 1) (c + (q.ready i).count t) _ _ (by push_cast; rfl) rfl (by omega) (by omega) (by omega)]
      have e : 32 - i = (32 - (i + 1)) + 1 := by omega
      conv => rhs; rw [e, flat, List.count_append, ← Nat.add_assoc]
    · have : i = 32 := by omega
      subst this
      rfl
theorem f27_gen (q : Queues) (t : Int) (hl : ∀ j, j < 32 → (q.ready j).length ≤ 32) (n : Nat) (hn : 32 < n) : (letk (fun (n42 : Int) =>
  letk (fun (n63 : Int) =>
  some n63) fun k64 =>
  (bif (decide (q.run = t)) then (k64 (IntKind.i64.wrap (n42 + 1))) else (k64 n42))) fun k43 =>
  (f27_l1 q t k43 n 0 0)) = some (((flat q.ready 32 0).count t + (if q.run = t then 1 else 0) : Nat) : Int) := by
  unfold letk
  dsimp only
  rw [f27_l1_eq q t _ hl n 0 0 0 0 rfl rfl (by omega) (by omega) (by omega), Nat.zero_add]
  have hb : (flat q.ready 32 0).count t ≤ 32 * 32 := by
    refine Nat.le_trans List.count_le_length ?_
    have : ∀ m j, j + m ≤ 32 → (flat q.ready m j).length ≤ 32 * m := fun m => by
      induction m with
      | zero => intro j _; simp [flat]
      | succ m ih =>
        intro j hj
        rw [flat, List.length_append]
        have := ih (j + 1) (by omega)
        have := hl j (by omega)
        omega
    exact this 32 0 (by omega)
  show (bif decide (q.run = t) then some (IntKind.i64.wrap ((((flat q.ready 32 0).count t : Nat) : Int) + 1)) else some (((flat q.ready 32 0).count t : Nat) : Int)) = _
  by_cases e : q.run = t
  · rw [decide_eq_true e, cond_true, if_pos e, w64 (by omega) (by omega)]
    rfl
  · rw [decide_eq_false e, cond_false, if_neg e]
    rfl
/-- A task is there. -/
def Occ (q : Queues) (t : Int) : Prop := q.run = t ∨ ∃ j, j < 32 ∧ t ∈ q.ready j
theorem f27_eq {q : Queues} (h : Ok q) (t : Int) [Decidable (Occ q t)] : f27 q t = some (if Occ q t then 1 else 0) := by
  rw [f27]
  rw [f27_gen q t (fun j hj => h.r.len hj) 9223372036854775808 (by decide)]
  congr 1
  have hr := (Rdy_iff q).2 h.r
  have hm : t ∈ flat q.ready 32 0 ↔ ∃ j, j < 32 ∧ t ∈ q.ready j := by
    rw [mem_flat]
    exact ⟨fun ⟨j, _, b, c⟩ => ⟨j, by omega, c⟩, fun ⟨j, b, c⟩ => ⟨j, by omega, by omega, c⟩⟩
  by_cases e : q.run = t
  · have hn : t ∉ flat q.ready 32 0 := by rw [← e]; exact hr.out
    rw [List.count_eq_zero_of_not_mem hn, if_pos e, if_pos (.inl e)]
    rfl
  · rw [if_neg e]
    by_cases hx : t ∈ flat q.ready 32 0
    · have h1 : (flat q.ready 32 0).count t = 1 := by
        have := List.nodup_iff_count.1 hr.nd t
        have := List.count_pos_iff.2 hx
        omega
      rw [h1, if_pos (.inr (hm.1 hx))]
      rfl
    · rw [List.count_eq_zero_of_not_mem hx, if_neg (fun a => a.elim e (fun b => hx (hm.2 b)))]
      rfl
end Go.Proofs.Ytpionlekbfoccaa
set_option maxRecDepth 10000
namespace Go.Proofs.Ytpionlekbfoccaa
open Go Go.Sk

abbrev zQ : Queues := Queues.mk (fun _ => ([] : List Int)) [] 0
theorem occ_free {q : Queues} {x : Int} : Free q x ↔ ¬ Occ q x := by
  unfold Free Occ
  constructor
  · rintro ⟨h1, h2⟩ (h | ⟨j, h3, h4⟩)
    · exact h1 h
    · exact h2 j h3 h4
  · intro h
    exact ⟨fun a => h (.inl a), fun j hj a => h (.inr ⟨j, hj, a⟩)⟩
/-- What a call does to where the tasks are. -/
def Res (q : Queues) (o : Option (Queues × Int)) (P : Int → Prop) : Prop :=
  ∃ r e, o = some (r, e) ∧ ((e ≠ 0 ∧ r = zQ) ∨ (e = 0 ∧ Ok r ∧ r.delays = q.delays ∧ ∀ t, 0 ≤ t → (Occ r t ↔ P t)))
theorem put_occ {q : Queues} {p : Nat} {x : Int} {L : List Int} (hp : p < 32) (hL : ∀ y, y ∈ L ↔ y = x ∨ y ∈ q.ready p) (t : Int) : Occ ⟨vset q.ready p L, q.delays, q.run⟩ t ↔ (t = x ∨ Occ q t) := by
  unfold Occ
  dsimp only
  constructor
  · rintro (h | ⟨j, h1, h2⟩)
    · exact .inr (.inl h)
    · by_cases e : j = p
      · rw [e, vs_eq] at h2
        rcases (hL t).1 h2 with a | a
        · exact .inl a
        · exact .inr (.inr ⟨p, hp, a⟩)
      · rw [vs_ne _ _ e] at h2; exact .inr (.inr ⟨j, h1, h2⟩)
  · rintro (h | h | ⟨j, h1, h2⟩)
    · exact .inr ⟨p, hp, by rw [vs_eq]; exact (hL t).2 (.inl h)⟩
    · exact .inl h
    · by_cases e : j = p
      · exact .inr ⟨p, hp, by rw [vs_eq]; exact (hL t).2 (.inr (by rw [← e]; exact h2))⟩
      · exact .inr ⟨j, h1, by rw [vs_ne _ _ e]; exact h2⟩

theorem find_in {q : Queues} (h : Ok q) {x : Int} {p : Nat} (hp : p < 32) (hm : x ∈ q.ready p) : f43 q x = some ((p : Int), true) := by
  rw [f43_eq q x h.b, findF_some hp hm (fun j hj hj2 => h.r.ap' hj hp hj2 hm)]
theorem find_out {q : Queues} (h : Ok q) {x : Int} (hn : ∀ j, j < 32 → x ∉ q.ready j) : f43 q x = some (0, false) := by
  rw [f43_eq q x h.b, findF_none hn]

theorem head_eq {q : Queues} (h : Ok q) {prio x : Int} (hp : 0 ≤ prio ∧ prio < 32) (hx : 0 ≤ x ∧ x < 32) (hf : Free q x) :
    f28 q prio x = some (⟨vset q.ready (Int.toNat prio) (x :: q.ready (Int.toNat prio)), q.delays, q.run⟩, 0) := by
  have hp2 : Int.toNat prio < 32 := by omega
  have e5 : vecOk 32 prio = true := by simp [vecOk]; omega
  have e6 : O.insOk (q.ready (Int.toNat prio)) = true := by
    have := h.r.len hp2
    simp [O.insOk]; omega
  unfold f28 letk
  dsimp only
  rw [h.may, Option.bind_some, (f30_iff prio).2 hp, (f30_iff x).2 hx, find_out h (fun j hj => hf.2 j hj)]
  dsimp only [Option.bind_some]
  rw [decide_eq_false hf.1, guardB_t _ e5, guardB_t _ h.own, guardB_t _ e5, guardB_t _ e5, guardB_t _ e6]
  rfl
/-- what Tail and Head refuse -/
theorem put_err {q : Queues} (h : Ok q) {prio x : Int} (hx : 0 ≤ x ∧ x < 32) (hn : ¬ ((0 ≤ prio ∧ prio < 32) ∧ Free q x)) : ∃ e, e ≠ 0 ∧ f21 q prio x = some (zQ, e) ∧ f28 q prio x = some (zQ, e) := by
  by_cases hp : 0 ≤ prio ∧ prio < 32
  · refine ⟨7, by decide, ?_⟩
    have ho : Occ q x := Classical.byContradiction fun a => hn ⟨hp, occ_free.2 a⟩
    have key : ∃ a b, f43 q x = some (a, b) ∧ (b || decide (q.run = x)) = true := by
      rcases ho with ho | ⟨j, h1, h2⟩
      · exact ⟨_, _, f43_eq q x h.b, by rw [decide_eq_true ho]; simp⟩
      · exact ⟨_, _, find_in h h1 h2, rfl⟩
    obtain ⟨a, b, k1, k2⟩ := key
    constructor
    · unfold f21 letk
      dsimp only
      rw [h.may, Option.bind_some, (f30_iff prio).2 hp, (f30_iff x).2 hx, k1]
      dsimp only [Option.bind_some]
      rw [k2]; rfl
    · unfold f28 letk
      dsimp only
      rw [h.may, Option.bind_some, (f30_iff prio).2 hp, (f30_iff x).2 hx, k1]
      dsimp only [Option.bind_some]
      rw [k2]; rfl
  · refine ⟨2, by decide, ?_⟩
    have hf : f30 prio = false := by
      cases hh : f30 prio with
      | false => rfl
      | true => exact absurd ((f30_iff prio).1 hh) hp
    constructor
    · unfold f21 letk
      dsimp only
      rw [h.may, Option.bind_some, hf]; rfl
    · unfold f28 letk
      dsimp only
      rw [h.may, Option.bind_some, hf]; rfl
theorem tail_res {q : Queues} (h : Ok q) (prio : Int) {x : Int} (hx : 0 ≤ x ∧ x < 32) : Res q (f21 q prio x) (fun t => t = x ∨ Occ q t) := by
  by_cases hn : (0 ≤ prio ∧ prio < 32) ∧ Free q x
  · obtain ⟨hp, hf⟩ := hn
    exact ⟨_, _, tail_eq h hp hx hf, .inr ⟨rfl, tail_ok h hp hx hf, rfl, fun t _ => put_occ (by omega) (fun y => by simp [or_comm]) t⟩⟩
  · obtain ⟨e, h1, h2, _⟩ := put_err h hx hn
    exact ⟨_, _, h2, .inl ⟨h1, rfl⟩⟩
theorem head_res {q : Queues} (h : Ok q) (prio : Int) {x : Int} (hx : 0 ≤ x ∧ x < 32) : Res q (f28 q prio x) (fun t => t = x ∨ Occ q t) := by
  by_cases hn : (0 ≤ prio ∧ prio < 32) ∧ Free q x
  · obtain ⟨hp, hf⟩ := hn
    refine ⟨_, _, head_eq h hp hx hf, .inr ⟨rfl, put_ok h (by omega) hx hf (fun y => by simp) ?_, rfl, fun t _ => put_occ (by omega) (fun y => by simp) t⟩⟩
    exact List.nodup_cons.2 ⟨hf.2 _ (by omega), h.r.nd _ (by omega)⟩
  · obtain ⟨e, h1, _, h2⟩ := put_err h hx hn
    exact ⟨_, _, h2, .inl ⟨h1, rfl⟩⟩
theorem drop_res {q : Queues} (h : Ok q) {x : Int} (hx : 0 ≤ x ∧ x < 32) : Res q (f22 q x) (fun t => t ≠ x ∧ Occ q t) := by
  by_cases hj : ∃ j, j < 32 ∧ x ∈ q.ready j
  · obtain ⟨p, hp, hm⟩ := hj
    have key : ∀ j y, j < 32 → (y ∈ vset q.ready p (strike x (q.ready p)) j ↔ y ∈ q.ready j ∧ y ≠ x) := fun j y hj => by
      by_cases e : j = p
      · rw [e, vs_eq]; simp [strike]
      · rw [vs_ne _ _ e]
        exact ⟨fun a => ⟨a, fun b => e (h.r.ap' hj hp (by rw [← b]; exact a) hm)⟩, fun a => a.1⟩
    refine ⟨_, _, drop_in h hx hp hm, .inr ⟨rfl, Ok.mk2 ⟨h.r.run, fun j y hj hy => h.r.num j y hj ((key j y hj).1 hy).1, fun j hj => ?_, fun j k y hjk hk a b => h.r.ap j k y hjk hk ((key j y (by omega)).1 a).1 ((key k y hk).1 b).1, fun j hj hy => h.r.out j hj ((key j _ hj).1 hy).1⟩ h.b.d h.d, rfl, fun t ht => ?_⟩⟩
    · show (vset q.ready p _ j).Nodup
      by_cases e : j = p
      · rw [e, vs_eq]; exact (h.r.nd p hp).filter _
      · rw [vs_ne _ _ e]; exact h.r.nd j hj
    · have hxr : q.run ≠ x := fun a => h.r.out p hp (by rw [a]; exact hm)
      unfold Occ
      dsimp only
      constructor
      · rintro (a | ⟨j, a, b⟩)
        · exact ⟨fun c => hxr (by rw [a, c]), .inl a⟩
        · exact ⟨((key j t a).1 b).2, .inr ⟨j, a, ((key j t a).1 b).1⟩⟩
      · rintro ⟨a, b | ⟨j, b, c⟩⟩
        · exact .inl b
        · exact .inr ⟨j, b, (key j t b).2 ⟨c, a⟩⟩
  · by_cases hr : q.run = x
    · have hd := drop_run h (by rw [hr]; exact hx)
      rw [hr] at hd
      refine ⟨_, _, hd, .inr ⟨rfl, Ok.mk2 ⟨.inl rfl, h.r.num, h.r.nd, h.r.ap, fun j hj hy => by have := h.r.num j _ hj hy; simp at this⟩ h.b.d h.d, rfl, fun t ht => ?_⟩⟩
      unfold Occ
      dsimp only
      constructor
      · rintro (a | ⟨j, a, b⟩)
        · omega
        · exact ⟨fun c => hj ⟨j, a, by rw [← c]; exact b⟩, .inr ⟨j, a, b⟩⟩
      · rintro ⟨a, b | ⟨j, b, c⟩⟩
        · exact absurd (b.symm.trans hr) a
        · exact .inr ⟨j, b, c⟩
    · refine ⟨zQ, 6, ?_, .inl ⟨by decide, rfl⟩⟩
      unfold f22
      rw [h.may, Option.bind_some, (f30_iff x).2 hx, find_out h (fun j a b => hj ⟨j, a, b⟩)]
      have e0 : O.f32 q = some q := by unfold O.f32; rw [guardB_t _ h.own]
      unfold letk
      dsimp only [Option.bind_some]
      rw [e0, Bool.not_true, Bool.or_false, cond_false]
      dsimp only [Option.bind_some]
      rw [cond_false, decide_eq_false hr, cond_false]
end Go.Proofs.Ytpionlekbfoccaa
set_option maxRecDepth 10000
namespace Go.Proofs.Ytpionlekbfoccaa
open Go Go.Sk

noncomputable def occI (q : Queues) (t : Int) : Int := @ite _ (Occ q t) (Classical.propDecidable _) 1 0
theorem f27_occ {q : Queues} (h : Ok q) (t : Int) : f27 q t = some (occI q t) := @f27_eq q h t (Classical.propDecidable _)
theorem occI_pos {q : Queues} {t : Int} (h : Occ q t) : occI q t = 1 := by unfold occI; rw [if_pos h]
theorem occI_neg {q : Queues} {t : Int} (h : ¬ Occ q t) : occI q t = 0 := by unfold occI; rw [if_neg h]
theorem occI_congr {q r : Queues} {t : Int} (h : Occ r t ↔ Occ q t) : occI r t = occI q t := by
  rcases Classical.em (Occ q t) with o | o
  · rw [occI_pos o, occI_pos (h.2 o)]
  · rw [occI_neg o, occI_neg (fun a => o (h.1 a))]
theorem move_res {q : Queues} (h : Ok q) (prio : Int) {x : Int} (hx : 0 ≤ x ∧ x < 32) : Res q (f29 q prio x) (fun t => Occ q t) := by
  by_cases hp : 0 ≤ prio ∧ prio < 32
  · by_cases hj : ∃ j, j < 32 ∧ x ∈ q.ready j
    · obtain ⟨p, hp2, hm⟩ := hj
      have e1 := drop_in h hx hp2 hm
      obtain ⟨r, e, h1, h2⟩ := drop_res h hx
      rw [e1] at h1
      simp only [Option.some.injEq, Prod.mk.injEq] at h1
      obtain ⟨hr, rfl⟩ := h1
      rcases h2 with ⟨h2, _⟩ | ⟨_, h3, h4, h5⟩
      · exact absurd rfl h2
      · obtain ⟨r', e', g1, g2⟩ := tail_res h3 prio hx
        refine ⟨r', e', ?_, ?_⟩
        · unfold f29
          rw [h.may, Option.bind_some, (f30_iff prio).2 hp, (f30_iff x).2 hx, find_in h hp2 hm]
          dsimp only [Option.bind_some]
          rw [e1]
          dsimp only [Option.bind_some]
          rw [hr, g1]
          rfl
        · rcases g2 with g2 | ⟨g2, g3, g4, g5⟩
          · exact .inl g2
          · refine .inr ⟨g2, g3, g4.trans h4, fun t ht => (g5 t ht).trans ?_⟩
            show (t = x ∨ Occ r t) ↔ Occ q t
            rw [h5 t ht]
            constructor
            · rintro (a | a)
              · rw [a]; exact .inr ⟨p, hp2, hm⟩
              · exact a.2
            · intro a
              by_cases e : t = x
              · exact .inl e
              · exact .inr ⟨e, a⟩
    · refine ⟨zQ, 6, ?_, .inl ⟨by decide, rfl⟩⟩
      unfold f29
      rw [h.may, Option.bind_some, (f30_iff prio).2 hp, (f30_iff x).2 hx, find_out h (fun j a b => hj ⟨j, a, b⟩)]
      rfl
  · refine ⟨zQ, 2, ?_, .inl ⟨by decide, rfl⟩⟩
    have hf : f30 prio = false := by
      cases hh : f30 prio with
      | false => rfl
      | true => exact absurd ((f30_iff prio).1 hh) hp
    unfold f29
    rw [h.may, Option.bind_some, hf]; rfl

theorem disp_res {q : Queues} (h : Ok q) (prio : Int) : Res q (f12 q prio) (fun t => Occ q t) := by
  by_cases hp : q.run ≥ 0 → 0 ≤ prio ∧ prio < 32
  · by_cases hk : (topF q.ready 32).2.2 = false ∨ (q.run ≥ 0 ∧ (topF q.ready 32).2.1 ≤ prio)
    · exact ⟨_, _, disp_keep h hp hk, .inr ⟨rfl, h, rfl, fun _ _ => Iff.rfl⟩⟩
    · have hc : (topF q.ready 32).2.2 = true := by
        cases hh : (topF q.ready 32).2.2 with
        | true => rfl
        | false => exact absurd (.inl hh) hk
      have hc2 : q.run ≥ 0 → prio < (topF q.ready 32).2.1 := fun hr => by
        by_cases a : (topF q.ready 32).2.1 ≤ prio
        · exact absurd (.inr ⟨hr, a⟩) hk
        · omega
      obtain ⟨p, L, h1, h2, h3, h4, h5⟩ := disp_go h hp hc hc2
      generalize (topF q.ready 32).1 = x at h2 h5
      have hpp : q.run ≥ 0 → prio < (p : Int) := fun hr => by have := hc2 hr; omega
      refine ⟨_, _, h5, .inr ⟨rfl, next_ok h hp h1 h2 hpp, rfl, fun t ht => ?_⟩⟩
      have base : ∀ j y, y ∈ vset q.ready p L j → y ∈ q.ready j := fun j y hy => by
        by_cases e : j = p
        · rw [e, vs_eq] at hy; rw [e, h2]; exact List.mem_cons_of_mem _ hy
        · rw [vs_ne _ _ e] at hy; exact hy
      unfold Occ
      dsimp only
      constructor
      · rintro (a | ⟨j, a, b⟩)
        · exact .inr ⟨p, h1, by rw [h2, a]; exact List.mem_cons_self⟩
        · unfold nextR at b
          by_cases hr : q.run ≥ 0
          · rw [if_pos hr] at b
            have hne : Int.toNat prio ≠ p := by have := hpp hr; have := hp hr; omega
            by_cases e : j = Int.toNat prio
            · rw [e, vs_eq, List.mem_cons] at b
              rcases b with b | b
              · exact .inl b.symm
              · exact .inr ⟨j, a, by rw [e]; exact b⟩
            · rw [vs_ne _ _ e] at b; exact .inr ⟨j, a, base j t b⟩
          · rw [if_neg hr] at b; exact .inr ⟨j, a, base j t b⟩
      · have inV : ∀ j, t ∈ q.ready j → t = x ∨ t ∈ vset q.ready p L j := fun j hy => by
          by_cases e : j = p
          · rw [e, h2, List.mem_cons] at hy
            rcases hy with a | a
            · exact .inl a
            · exact .inr (by rw [e, vs_eq]; exact a)
          · exact .inr (by rw [vs_ne _ _ e]; exact hy)
        rintro (a | ⟨j, a, b⟩)
        · have hr : q.run ≥ 0 := by omega
          refine .inr ⟨Int.toNat prio, by have := hp hr; omega, ?_⟩
          unfold nextR
          rw [if_pos hr, vs_eq, a]
          exact List.mem_cons_self
        · rcases inV j b with c | c
          · exact .inl c.symm
          · refine .inr ⟨j, a, ?_⟩
            unfold nextR
            by_cases hr : q.run ≥ 0
            · rw [if_pos hr]
              have hne : Int.toNat prio ≠ p := by have := hpp hr; have := hp hr; omega
              by_cases e : j = Int.toNat prio
              · rw [e, vs_eq]
                rw [e] at b
                exact List.mem_cons_of_mem _ b
              · rw [vs_ne _ _ e]; exact c
            · rw [if_neg hr]; exact c
  · have hr : q.run ≥ 0 := Classical.byContradiction fun a => hp (fun b => absurd b a)
    have hf : f30 prio = false := by
      cases hh : f30 prio with
      | false => rfl
      | true => exact absurd (fun _ => (f30_iff prio).1 hh) hp
    refine ⟨zQ, 2, ?_, .inl ⟨by decide, rfl⟩⟩
    unfold f12
    rw [h.may, Option.bind_some, hf, decide_eq_true hr]; rfl

/-- the task that a number names -/
def tk (x : Int) : Int := IntKind.i64.wrap (BitVec.ofInt IntKind.i64.bits x &&& BitVec.ofInt IntKind.i64.bits 31).toNat
theorem tk_rng (x : Int) : 0 ≤ tk x ∧ tk x < 32 := by
  unfold tk
  have h1 : (BitVec.ofInt IntKind.i64.bits x &&& BitVec.ofInt IntKind.i64.bits 31).toNat < 32 := by
    rw [BitVec.toNat_and]
    have e : (BitVec.ofInt IntKind.i64.bits 31).toNat = 31 := by decide
    rw [e]
    exact Nat.lt_succ_of_le Nat.and_le_right
  generalize (BitVec.ofInt IntKind.i64.bits x &&& BitVec.ofInt IntKind.i64.bits 31).toNat = m at h1
  rw [w64 (by omega) (by omega)]
  omega

theorem f8_l1_eq {q r : Queues} (hq : Ok q) (hr : Ok r) (x : Step) (k : Unit → Option Bool) (h : ∀ t, 0 ≤ t → t ≠ tk x.task → (Occ r t ↔ Occ q t)) : ∀ (n i : Nat) (z : Int), z = (i : Int) → i ≤ 32 → 32 - i < n → f8_l1 q x r.ready r.delays r.run k n z = k ()
  | 0, i, z, _, _, hh => by omega
  | n + 1, i, z, hz, hi, hh => by
    subst hz
    rw [f8_l1]
    have hre : (⟨r.ready, r.delays, r.run⟩ : Queues) = r := rfl
    by_cases c : i < 32
    · rw [decide_eq_true (by omega : (i : Int) < 32), cond_true, hre]
      have e0 : IntKind.i64.wrap (BitVec.ofInt IntKind.i64.bits x.task &&& BitVec.ofInt IntKind.i64.bits 31).toNat = tk x.task := rfl
      rw [e0, w64 (by omega) (by omega)]
      have e1 : (Option.bind (bif (!decide ((i : Int) = tk x.task)) then (Option.bind (f27 r (i : Int)) fun r146 => Option.bind (f27 q (i : Int)) fun r147 => some (!decide (r146 = r147))) else some false) fun b145 => (bif b145 then some false else (f8_l1 q x r.ready r.delays r.run k n ((i : Int) + 1)))) = f8_l1 q x r.ready r.delays r.run k n ((i : Int) + 1) := by
        by_cases e : (i : Int) = tk x.task
        · rw [decide_eq_true e]; rfl
        · rw [decide_eq_false e, Bool.not_false, cond_true, f27_occ hr, f27_occ hq, Option.bind_some, Option.bind_some, occI_congr (h _ (by omega) e), decide_eq_true rfl]
          rfl
      rw [e1]
      exact f8_l1_eq hq hr x k h n (i + 1) _ (by push_cast; rfl) (by omega) (by omega)
    · rw [decide_eq_false (by omega : ¬ (i : Int) < 32), cond_false]

/-- what is looked at behind the call -/
def keepK (q : Queues) (x : Step) (m : Nat) (want124 e125 : Int) (c00126 : Nat → List Int) (c032127 : List Due) (c033128 : Int) : Option Bool :=
  (bif (!decide (e125 = 0)) then Option.bind (f15 (Queues.mk c00126 c032127 c033128) (Queues.mk (fun _ => ([] : List Int)) [] 0)) fun r135 =>
   Option.bind (bif r135 then (Option.bind (f11) fun r137 => some r137) else some false) fun b136 =>
   some b136 else Option.bind (f10 (Queues.mk c00126 c032127 c033128)) fun r138 =>
   Option.bind (bif (!r138) then some true else (Option.bind (f27 (Queues.mk c00126 c032127 c033128) (IntKind.i64.wrap (BitVec.ofInt IntKind.i64.bits x.task &&& BitVec.ofInt IntKind.i64.bits 31).toNat)) fun r140 => some (!decide (r140 = want124)))) fun b139 =>
   (bif (b139 || (!decide ((List.length c032127 : Int) = (List.length q.delays : Int)))) then some false else letk (fun (_ : Unit) =>
   Option.bind (f11) fun r148 =>
   some r148) fun k141 =>
   (f8_l1 q x c00126 c032127 c033128 k141 m 0)))
theorem keepK_eq {q : Queues} (hq : Ok q) (x : Step) {m : Nat} (hm : 32 < m) {o : Option (Queues × Int)} {P : Int → Prop} (hres : Res q o P) (want : Int) (hw : (P (tk x.task) → want = 1) ∧ (¬ P (tk x.task) → want = 0)) (hP : ∀ t, 0 ≤ t → t ≠ tk x.task → (P t ↔ Occ q t)) :
    (Option.bind o fun r => keepK q x m want r.2 r.1.ready r.1.delays r.1.run) = some true := by
  obtain ⟨r, e, rfl, hre⟩ := hres
  rw [Option.bind_some]
  dsimp only
  have hrr : (⟨r.ready, r.delays, r.run⟩ : Queues) = r := rfl
  unfold keepK
  rw [hrr]
  rcases hre with ⟨h1, rfl⟩ | ⟨h1, h2, h3, h4⟩
  · rw [decide_eq_false h1, Bool.not_false, cond_true, f15_refl zQ ⟨(fun j _ => by simp), by simp⟩, f11_true]
    rfl
  · have htk := tk_rng x.task
    rw [decide_eq_true h1, Bool.not_true, cond_false, h2.may, Option.bind_some, Bool.not_true, cond_false]
    have e0 : IntKind.i64.wrap (BitVec.ofInt IntKind.i64.bits x.task &&& BitVec.ofInt IntKind.i64.bits 31).toNat = tk x.task := rfl
    rw [e0, f27_occ h2, Option.bind_some]
    have e1 : occI r (tk x.task) = want := by
      rcases Classical.em (P (tk x.task)) with o | o
      · rw [hw.1 o, occI_pos ((h4 _ htk.1).2 o)]
      · rw [hw.2 o, occI_neg (fun a => o ((h4 _ htk.1).1 a))]
    rw [e1, decide_eq_true rfl, Option.bind_some, h3, decide_eq_true rfl]
    unfold letk
    dsimp only
    rw [Bool.not_true, Bool.or_false, cond_false, ← h3]
    rw [f8_l1_eq hq h2 x _ (fun t ht hne => (h4 t ht).trans (hP t ht hne)) m 0 0 rfl (by omega) (by omega), f11_true]
    rfl

theorem law8 (q : Queues) (x : Step) (hb : Bnd q) : f8 q x = some true := by
  have key : ∀ m, 32 < m → (Option.bind (f9 q) fun r119 =>
  Option.bind (bif r119 then some true else (Option.bind (f10 q) fun r121 => some (!r121))) fun b120 =>
  (bif b120 then Option.bind (f11) fun r122 =>
  some r122 else Option.bind (f27 q (tk x.task)) fun r123 =>
  letk (keepK q x m) fun k129 =>
  (bif (decide ((Int.tmod x.what 5) = 0)) then Option.bind (f21 q x.prio (tk x.task)) fun r130 =>
  (k129 1 r130.2 r130.1.ready r130.1.delays r130.1.run) else (bif (decide ((Int.tmod x.what 5) = 1)) then Option.bind (f28 q x.prio (tk x.task)) fun r131 =>
  (k129 1 r131.2 r131.1.ready r131.1.delays r131.1.run) else (bif (decide ((Int.tmod x.what 5) = 2)) then Option.bind (f22 q (tk x.task)) fun r132 =>
  (k129 0 r132.2 r132.1.ready r132.1.delays r132.1.run) else (bif (decide ((Int.tmod x.what 5) = 3)) then Option.bind (f29 q x.prio (tk x.task)) fun r133 =>
  (k129 r123 r133.2 r133.1.ready r133.1.delays r133.1.run) else Option.bind (f12 q x.prio) fun r134 =>
  (k129 r123 r134.2 r134.1.ready r134.1.delays r134.1.run))))))) = some true := by
    intro m hm
    obtain ⟨b9, e9⟩ := f9_tot q
    obtain ⟨b10, e10⟩ := f10_tot q hb
    rw [e9, Option.bind_some, e10]
    have eh : (Option.bind f11 fun r126 => some r126) = some true := by rw [f11_true]; rfl
    cases b9 with
    | true => simp only [cond_true, Option.bind_some]; exact eh
    | false =>
      simp only [cond_false, Option.bind_some]
      cases b10 with
      | false => simp only [Bool.not_false, cond_true]; exact eh
      | true =>
        have ho := Ok.of hb e10
        have htk := tk_rng x.task
        rw [Bool.not_true, cond_false, f27_occ ho, Option.bind_some]
        unfold letk
        dsimp only
        by_cases c0 : Int.tmod x.what 5 = 0
        · rw [decide_eq_true c0, cond_true]
          exact keepK_eq ho x hm (tail_res ho x.prio htk) 1 ⟨fun _ => rfl, fun a => absurd (.inl rfl) a⟩ (fun t _ hne => ⟨fun a => a.resolve_left hne, .inr⟩)
        · rw [decide_eq_false c0, cond_false]
          by_cases c1 : Int.tmod x.what 5 = 1
          · rw [decide_eq_true c1, cond_true]
            exact keepK_eq ho x hm (head_res ho x.prio htk) 1 ⟨fun _ => rfl, fun a => absurd (.inl rfl) a⟩ (fun t _ hne => ⟨fun a => a.resolve_left hne, .inr⟩)
          · rw [decide_eq_false c1, cond_false]
            by_cases c2 : Int.tmod x.what 5 = 2
            · rw [decide_eq_true c2, cond_true]
              exact keepK_eq ho x hm (drop_res ho htk) 0 ⟨fun a => absurd rfl a.1, fun _ => rfl⟩ (fun t _ hne => ⟨fun a => a.2, fun a => ⟨hne, a⟩⟩)
            · rw [decide_eq_false c2, cond_false]
              by_cases c3 : Int.tmod x.what 5 = 3
              · rw [decide_eq_true c3, cond_true]
                exact keepK_eq ho x hm (move_res ho x.prio htk) _ ⟨occI_pos, occI_neg⟩ (fun t _ _ => Iff.rfl)
              · rw [decide_eq_false c3, cond_false]
                exact keepK_eq ho x hm (disp_res ho x.prio) _ ⟨occI_pos, occI_neg⟩ (fun t _ _ => Iff.rfl)
  rw [f8]
  exact key 9223372036854775808 (by decide)
end Go.Proofs.Ytpionlekbfoccaa
set_option maxRecDepth 10000
namespace Go.Proofs.Ytpionlekbfoccaa
open Go Go.Sk

theorem f37_lt (a b : Due) : decide (f37 a b < 0) = decide (a.time < b.time) := by
  unfold f37 f38 f69
  simp only [decide_true, Bool.not_true, cond_false]
  by_cases h : a.time < b.time
  · rw [decide_eq_true h]; rfl
  · rw [decide_eq_false h, cond_false]
    by_cases h2 : a.time > b.time
    · rw [decide_eq_true h2]; rfl
    · rw [decide_eq_false h2]; rfl

theorem idx_mid {α : Type} (A : List α) (x : α) (B : List α) {i : Int} (h : i = (A.length : Int)) : idx (A ++ x :: B) i = some x := by
  subst h
  rw [idx_in (by simp)]
  simp
theorem set_mid {α : Type} (A : List α) (x y : α) (B : List α) {i : Int} (h : i = (A.length : Int)) : List.set (A ++ x :: B) (Int.toNat i) y = A ++ y :: B := by
  subst h
  simp

/-- y goes down behind the last one that does not come later; the list is given from its end. -/
def downR (y : Due) : List Due → List Due
  | [] => [y]
  | z :: T => if y.time < z.time then downR y T ++ [z] else (z :: T).reverse ++ [y]
theorem f78_l2_eq (a : Nat) (k : List Due → Option (List Due)) (P : List Due) (hP : P.length = a) (y : Due) : ∀ (T : List Due) (n : Nat) (j : Int) (R : List Due), j = ((a + T.length : Nat) : Int) → T.length < n → a + T.length < 9223372036854775807 →
    f78_l2 (a : Int) k n j (P ++ (T.reverse ++ y :: R)) = k (P ++ (downR y T ++ R))
  | [], n, j, R, hj, hn, hl => by
    obtain ⟨n, rfl⟩ : ∃ m, n = m + 1 := ⟨n - 1, by simp at hn; omega⟩
    subst hj
    rw [f78_l2, decide_eq_false (by simp)]
    rfl
  | z :: T, n, j, R, hj, hn, hl => by
    obtain ⟨n, rfl⟩ : ∃ m, n = m + 1 := ⟨n - 1, by simp at hn; omega⟩
    subst hj
    simp only [List.length_cons] at hn hl ⊢
    have e1 : P ++ ((z :: T).reverse ++ y :: R) = (P ++ T.reverse) ++ z :: y :: R := by simp
    have e2 : P ++ ((z :: T).reverse ++ y :: R) = (P ++ (T.reverse ++ [z])) ++ y :: R := by simp
    have w1 : IntKind.i64.wrap (((a + (T.length + 1) : Nat) : Int) - 1) = ((a + T.length : Nat) : Int) := by rw [w64 (by omega) (by omega)]; omega
    have i1 : idx (P ++ ((z :: T).reverse ++ y :: R)) ((a + (T.length + 1) : Nat) : Int) = some y := by
      rw [e2]; exact idx_mid _ _ _ (by simp [hP])
    have i2 : idx (P ++ ((z :: T).reverse ++ y :: R)) ((a + T.length : Nat) : Int) = some z := by
      rw [e1]; exact idx_mid _ _ _ (by simp [hP])
    rw [f78_l2, w1, decide_eq_true (by omega), cond_true, i1, i2, Option.bind_some, Option.bind_some, f37_lt]
    dsimp only [Option.bind_some]
    by_cases h : y.time < z.time
    · have s1 : List.set (P ++ ((z :: T).reverse ++ y :: R)) (Int.toNat ((a + (T.length + 1) : Nat) : Int)) z = (P ++ T.reverse) ++ z :: z :: R := by
        rw [e2, set_mid _ _ _ _ (by simp [hP])]; simp
      have i3 : idx ((P ++ T.reverse) ++ z :: z :: R) ((a + T.length : Nat) : Int) = some z := idx_mid _ _ _ (by simp [hP])
      have s2 : List.set ((P ++ T.reverse) ++ z :: z :: R) (Int.toNat ((a + T.length : Nat) : Int)) y = P ++ (T.reverse ++ y :: (z :: R)) := by
        rw [set_mid _ _ _ _ (by simp [hP])]; simp
      rw [decide_eq_true h, cond_true]
      rw [s1, i3, Option.bind_some, s2, f78_l2_eq a k P hP y T n _ (z :: R) rfl (by omega) (by omega), downR, if_pos h]
      simp
    · rw [decide_eq_false h, cond_false, downR, if_neg h]
      simp
end Go.Proofs.Ytpionlekbfoccaa
set_option maxRecDepth 100000
namespace Go.Proofs.Ytpionlekbfoccaa
open Go Go.Sk

/-- The stable merge: the right one's head only if it is strictly earlier. -/
def mrg : List Due → List Due → List Due
  | [], R => R
  | l :: L, R => mrgR l (mrg L) R
where
  mrgR (l : Due) (f : List Due → List Due) : List Due → List Due
    | [] => l :: f []
    | r :: R => if r.time < l.time then r :: mrgR l f R else l :: f (r :: R)
theorem mrg_nil (R : List Due) : mrg [] R = R := rfl
theorem mrg_cc (l r : Due) (L R : List Due) : mrg (l :: L) (r :: R) = if r.time < l.time then r :: mrg (l :: L) R else l :: mrg L (r :: R) := rfl
theorem mrg_cn (l : Due) (L : List Due) : mrg (l :: L) [] = l :: mrg L [] := rfl
theorem mrg_nr : ∀ L : List Due, mrg L [] = L
  | [] => rfl
  | l :: L => by rw [mrg_cn, mrg_nr L]
theorem mrg_split : ∀ (L1 R1 L2 R2 : List Due), (∀ l ∈ L1, ∀ r ∈ R2, ¬ r.time < l.time) → (∀ r ∈ R1, ∀ l ∈ L2, r.time < l.time) → mrg (L1 ++ L2) (R1 ++ R2) = mrg L1 R1 ++ mrg L2 R2
  | [], [], L2, R2, _, _ => rfl
  | [], r :: R1, L2, R2, h1, h2 => by
    have ih := mrg_split [] R1 L2 R2 h1 (fun r hr => h2 r (List.mem_cons_of_mem _ hr))
    rw [mrg_nil] at ih ⊢
    rw [List.nil_append] at ih ⊢
    cases L2 with
    | nil => rfl
    | cons l L2 =>
      rw [List.cons_append, mrg_cc, if_pos (h2 r List.mem_cons_self l List.mem_cons_self), ih]
      rfl
  | l :: L1, [], L2, R2, h1, h2 => by
    have ih := mrg_split L1 [] L2 R2 (fun l hl => h1 l (List.mem_cons_of_mem _ hl)) h2
    rw [mrg_nr] at ih ⊢
    rw [List.nil_append] at ih ⊢
    cases R2 with
    | nil => rw [mrg_nr, mrg_nr]
    | cons r R2 =>
      rw [List.cons_append, mrg_cc, if_neg (h1 l List.mem_cons_self r List.mem_cons_self), ih]
      rfl
  | l :: L1, r :: R1, L2, R2, h1, h2 => by
    rw [List.cons_append, List.cons_append, mrg_cc, mrg_cc]
    by_cases h : r.time < l.time
    · rw [if_pos h, if_pos h]
      have ih := mrg_split (l :: L1) R1 L2 R2 h1 (fun r hr => h2 r (List.mem_cons_of_mem _ hr))
      rw [List.cons_append] at ih
      rw [ih]; rfl
    · rw [if_neg h, if_neg h]
      have ih := mrg_split L1 (r :: R1) L2 R2 (fun l hl => h1 l (List.mem_cons_of_mem _ hl)) h2
      rw [List.cons_append] at ih
      rw [ih]; rfl
termination_by L1 R1 => L1.length + R1.length

theorem f84_l1_eq (a b n : Int) (X : List Due) : ∀ (Y P Q R : List Due) (m : Nat) (i : Int), X.length = Y.length → 0 ≤ i → a + i = (P.length : Int) → b + i = ((P.length + X.length + Q.length : Nat) : Int) → n = i + (X.length : Int) → X.length < m → (P.length + X.length + Q.length + Y.length : Int) < 9223372036854775807 → 0 ≤ a →
    f84_l1 a b n m i (P ++ (X ++ (Q ++ (Y ++ R)))) = some (P ++ (Y ++ (Q ++ (X ++ R)))) := by
  induction X with
  | nil =>
    intro Y P Q R m i hl h0 ha hb hn hm hb2 ha0
    have hY : Y = [] := List.eq_nil_of_length_eq_zero hl.symm
    subst hY
    obtain ⟨m, rfl⟩ : ∃ k, m = k + 1 := ⟨m - 1, by simp at hm; omega⟩
    rw [f84_l1, decide_eq_false (by simp at hn; omega)]
    rfl
  | cons x X ih =>
    intro Y P Q R m i hl h0 ha hb hn hm hb2 ha0
    cases Y with
    | nil => simp at hl
    | cons y Y =>
      obtain ⟨m, rfl⟩ : ∃ k, m = k + 1 := ⟨m - 1, by simp at hm; omega⟩
      simp only [List.length_cons] at hl hb hn hm hb2
      have w1 : IntKind.i64.wrap (b + i) = ((P.length + (X.length + 1) + Q.length : Nat) : Int) := by rw [hb, w64 (by omega) (by omega)]
      have w2 : IntKind.i64.wrap (a + i) = (P.length : Int) := by rw [ha, w64 (by omega) (by omega)]
      have e1 : P ++ ((x :: X) ++ (Q ++ ((y :: Y) ++ R))) = (P ++ ((x :: X) ++ Q)) ++ y :: (Y ++ R) := by simp
      have e2 : P ++ ((x :: X) ++ (Q ++ ((y :: Y) ++ R))) = P ++ x :: (X ++ (Q ++ ((y :: Y) ++ R))) := by simp
      have e3 : P ++ y :: (X ++ (Q ++ ((y :: Y) ++ R))) = (P ++ (y :: (X ++ Q))) ++ y :: (Y ++ R) := by simp
      have i1 : idx (P ++ ((x :: X) ++ (Q ++ ((y :: Y) ++ R)))) ((P.length + (X.length + 1) + Q.length : Nat) : Int) = some y := by
        rw [e1]; exact idx_mid _ _ _ (by simp; omega)
      have i2 : idx (P ++ ((x :: X) ++ (Q ++ ((y :: Y) ++ R)))) (P.length : Int) = some x := by
        rw [e2]; exact idx_mid _ _ _ rfl
      have s1 : List.set (P ++ ((x :: X) ++ (Q ++ ((y :: Y) ++ R)))) (Int.toNat (P.length : Int)) y = P ++ y :: (X ++ (Q ++ ((y :: Y) ++ R))) := by
        rw [e2]; exact set_mid _ _ _ _ rfl
      have i3 : idx (P ++ y :: (X ++ (Q ++ ((y :: Y) ++ R)))) ((P.length + (X.length + 1) + Q.length : Nat) : Int) = some y := by
        rw [e3]; exact idx_mid _ _ _ (by simp; omega)
      have s2 : List.set (P ++ y :: (X ++ (Q ++ ((y :: Y) ++ R)))) (Int.toNat ((P.length + (X.length + 1) + Q.length : Nat) : Int)) x = (P ++ [y]) ++ (X ++ ((Q ++ [x]) ++ (Y ++ R))) := by
        rw [e3, set_mid _ _ _ _ (by simp; omega)]; simp
      rw [f84_l1, decide_eq_true (by omega), cond_true, w1, w2, i1, i2]
      simp only [Option.bind_some]
      rw [s1, i3]
      simp only [Option.bind_some]
      rw [s2, w64 (x := i + 1) (by omega) (by omega)]
      rw [ih Y (P ++ [y]) (Q ++ [x]) R m (i + 1) (by omega) (by omega) (by simp; omega) (by simp; omega) (by omega) (by omega) (by simp; omega) ha0]
      simp
end Go.Proofs.Ytpionlekbfoccaa
set_option maxRecDepth 10000
namespace Go.Proofs.Ytpionlekbfoccaa
open Go Go.Sk

theorem f84_eq (l : List Due) (a b n : Int) (X Y P Q R : List Due) (hl : l = P ++ (X ++ (Q ++ (Y ++ R)))) (h1 : X.length = Y.length) (ha : a = (P.length : Int)) (hb : b = ((P.length + X.length + Q.length : Nat) : Int)) (hn : n = (X.length : Int)) (hm : (P.length + X.length + Q.length + Y.length : Int) < 9223372036854775807) :
    f84 l a b n = some (P ++ (Y ++ (Q ++ (X ++ R)))) := by
  subst hl
  unfold f84
  exact f84_l1_eq a b n X Y P Q R 9223372036854775808 0 h1 (by omega) (by omega) (by omega) (by omega) (by omega) hm (by omega)

theorem f83_l1_eq (m2 : Int) (k : Int → List Due → Option (List Due)) (hk : ∀ P A B R : List Due, A.length = B.length → m2 = ((P.length + A.length : Nat) : Int) → (P.length + A.length + B.length : Int) < 9223372036854775807 → k (A.length : Int) (P ++ (A ++ (B ++ R))) = some (P ++ (B ++ (A ++ R)))) :
    ∀ (s : Nat) (A B P R : List Due) (n : Nat) (i j : Int), A.length + B.length ≤ s → 0 < A.length → 0 < B.length → i = (A.length : Int) → j = (B.length : Int) → m2 = ((P.length + A.length : Nat) : Int) → s < n → (P.length + A.length + B.length : Int) < 9223372036854775807 →
      f83_l1 m2 k n i j (P ++ (A ++ (B ++ R))) = some (P ++ (B ++ (A ++ R))) := by
  intro s
  induction s with
  | zero => intro A B P R n i j h; omega
  | succ s ih =>
    intro A B P R n i j hs hA hB hi hj hm hn hb
    obtain ⟨n, rfl⟩ : ∃ k, n = k + 1 := ⟨n - 1, by omega⟩
    subst hi; subst hj
    rw [f83_l1]
    by_cases e : A.length = B.length
    · rw [decide_eq_true (by omega : (A.length : Int) = (B.length : Int)), Bool.not_true, cond_false]
      exact hk P A B R e hm hb
    · rw [decide_eq_false (by omega : ¬ (A.length : Int) = (B.length : Int)), Bool.not_false, cond_true]
      by_cases g : A.length > B.length
      · rw [decide_eq_true (by omega : (A.length : Int) > (B.length : Int)), cond_true]
        have hsp : A = A.take B.length ++ A.drop B.length := (List.take_append_drop _ _).symm
        have l1 : (A.take B.length).length = B.length := by rw [List.length_take]; omega
        have l2 : (A.drop B.length).length = A.length - B.length := List.length_drop
        generalize hX : A.take B.length = X at hsp l1
        generalize hA2 : A.drop B.length = A2 at hsp l2
        have hAl : A.length = X.length + A2.length := by rw [hsp, List.length_append]
        rw [w64 (x := m2 - (A.length : Int)) (by omega) (by omega), w64 (x := (A.length : Int) - (B.length : Int)) (by omega) (by omega)]
        rw [f84_eq _ _ _ _ X B P A2 R (by rw [hsp]; simp) l1 (by omega) (by omega) (by omega) (by omega), Option.bind_some]
        have := ih A2 X (P ++ B) R n ((A.length : Int) - (B.length : Int)) (B.length : Int) (by omega) (by omega) (by omega) (by omega) (by omega) (by rw [List.length_append]; omega) (by omega) (by rw [List.length_append]; omega)
        rw [show P ++ (B ++ (A2 ++ (X ++ R))) = (P ++ B) ++ (A2 ++ (X ++ R)) by simp, this, hsp]
        simp
      · rw [decide_eq_false (by omega : ¬ (A.length : Int) > (B.length : Int)), cond_false]
        have hsp : B = B.take (B.length - A.length) ++ B.drop (B.length - A.length) := (List.take_append_drop _ _).symm
        have l1 : (B.take (B.length - A.length)).length = B.length - A.length := by rw [List.length_take]; omega
        have l2 : (B.drop (B.length - A.length)).length = A.length := by rw [List.length_drop]; omega
        generalize hX : B.take (B.length - A.length) = B1 at hsp l1
        generalize hA2 : B.drop (B.length - A.length) = Y at hsp l2
        have hBl : B.length = B1.length + Y.length := by rw [hsp, List.length_append]
        rw [w64 (x := m2 - (A.length : Int)) (by omega) (by omega), w64 (x := m2 + (B.length : Int)) (by omega) (by omega), w64 (x := m2 + (B.length : Int) - (A.length : Int)) (by omega) (by omega), w64 (x := (B.length : Int) - (A.length : Int)) (by omega) (by omega)]
        rw [f84_eq _ _ _ _ A Y P B1 R (by rw [hsp]; simp) (by omega) (by omega) (by omega) (by omega) (by omega), Option.bind_some]
        have := ih Y B1 P (A ++ R) n (A.length : Int) ((B.length : Int) - (A.length : Int)) (by omega) (by omega) (by omega) (by omega) (by omega) (by omega) (by omega) (by omega)
        rw [this, hsp]
        simp
theorem f83_eq (l : List Due) (a m b : Int) (P A B R : List Due) (hl : l = P ++ (A ++ (B ++ R))) (hA : 0 < A.length) (hB : 0 < B.length) (ha : a = (P.length : Int)) (hm : m = ((P.length + A.length : Nat) : Int)) (hb : b = ((P.length + A.length + B.length : Nat) : Int)) (hlt : (P.length + A.length + B.length : Int) < 4611686018427387904) :
    f83 l a m b = some (P ++ (B ++ (A ++ R))) := by
  subst hl
  unfold f83 letk
  dsimp only
  rw [w64 (x := m - a) (by omega) (by omega), w64 (x := b - m) (by omega) (by omega)]
  refine f83_l1_eq m _ (fun P A B R h1 h2 h3 => ?_) (A.length + B.length) A B P R 9223372036854775808 _ _ (Nat.le_refl _) hA hB (by omega) (by omega) hm (by omega) (by omega)
  rw [w64 (x := m - (A.length : Int)) (by omega) (by omega)]
  rw [f84_eq _ _ _ _ A B P [] R (by simp) h1 (by omega) (by simp; omega) (by omega) (by simp; omega)]
  simp
end Go.Proofs.Ytpionlekbfoccaa
set_option maxRecDepth 10000
namespace Go.Proofs.Ytpionlekbfoccaa
open Go Go.Sk

theorem mid_eq (x y : Nat) (h : x + y < 4611686018427387904) : IntKind.i64.wrap (Int.fdiv (IntKind.u64.wrap (IntKind.i64.wrap ((x : Int) + (y : Int)))) (2 ^ min (Int.toNat 1) IntKind.u64.bits)) = (((x + y) / 2 : Nat) : Int) := by
  have e1 : (2 : Int) ^ min (Int.toNat 1) IntKind.u64.bits = 2 := by decide
  rw [e1, w64 (x := (x : Int) + (y : Int)) (by omega) (by omega)]
  have e2 : IntKind.u64.wrap ((x : Int) + (y : Int)) = (x : Int) + (y : Int) := by
    have : IntKind.u64.wrap ((x : Int) + (y : Int)) = ((x : Int) + (y : Int)) % 18446744073709551616 := rfl
    rw [this]; omega
  rw [e2, Int.fdiv_eq_ediv_of_nonneg _ (by omega), w64 (by omega) (by omega)]
  omega
end Go.Proofs.Ytpionlekbfoccaa
set_option maxRecDepth 10000
namespace Go.Proofs.Ytpionlekbfoccaa
open Go Go.Sk

/-- the right part's places before the one left element: p h = it is strictly earlier -/
theorem f79s_l1_eq (l : List Due) (z : Due) (a : Int) (ha : idx l a = some z) (k : Int → Option (List Due)) (hl : l.length < 1000000000) : ∀ (s : Nat) (i j n : Nat) (iz jz : Int), j - i ≤ s → s < n → iz = (i : Int) → jz = (j : Int) → i ≤ j → j ≤ l.length →
    (∀ h g (_ : h < l.length) (_ : g < l.length), i ≤ h → h ≤ g → g < j → l[g].time < z.time → l[h].time < z.time) →
    ∃ c, i ≤ c ∧ c ≤ j ∧ f79s_l1 l a k n iz jz = k (c : Int) ∧ (∀ h (_ : h < l.length), i ≤ h → h < c → l[h].time < z.time) ∧ ∀ h (_ : h < l.length), c ≤ h → h < j → ¬ l[h].time < z.time := by
  intro s
  induction s with
  | zero =>
    intro i j n iz jz hs hn hi hj hij hjl _
    obtain ⟨n, rfl⟩ : ∃ m, n = m + 1 := ⟨n - 1, by omega⟩
    subst hi; subst hj
    refine ⟨i, by omega, by omega, ?_, fun h _ a b => by omega, fun h _ a b => by omega⟩
    rw [f79s_l1, decide_eq_false (by omega), cond_false]
  | succ s ih =>
    intro i j n iz jz hs hn hi hj hij hjl hm
    obtain ⟨n, rfl⟩ : ∃ m, n = m + 1 := ⟨n - 1, by omega⟩
    subst hi; subst hj
    by_cases e : i < j
    · have hh : (i + j) / 2 < l.length := by omega
      rw [f79s_l1, decide_eq_true (by omega), cond_true, mid_eq i j (by omega), idx_in hh, Option.bind_some, ha, Option.bind_some, f37_lt]
      by_cases c : l[(i + j) / 2].time < z.time
      · rw [decide_eq_true c, cond_true, w64 (by omega) (by omega)]
        obtain ⟨c', h1, h2, h3, h4, h5⟩ := ih ((i + j) / 2 + 1) j n ((((i + j) / 2 : Nat) : Int) + 1) (j : Int) (by omega) (by omega) (by push_cast; rfl) rfl (by omega) hjl (fun h g a b x y w => hm h g a b (by omega) y w)
        refine ⟨c', by omega, h2, h3, fun h a b d => ?_, h5⟩
        by_cases f : (i + j) / 2 + 1 ≤ h
        · exact h4 h a f d
        · exact hm h ((i + j) / 2) a hh b (by omega) (by omega) c
      · rw [decide_eq_false c, cond_false]
        obtain ⟨c', h1, h2, h3, h4, h5⟩ := ih i ((i + j) / 2) n (i : Int) (((i + j) / 2 : Nat) : Int) (by omega) (by omega) rfl rfl (by omega) (by omega) (fun h g a b x y w => hm h g a b x y (by omega))
        refine ⟨c', h1, by omega, h3, h4, fun h a b d => ?_⟩
        by_cases f : h < (i + j) / 2
        · exact h5 h a b f
        · exact fun q => c (hm ((i + j) / 2) h hh a (by omega) (by omega) d q)
    · refine ⟨i, by omega, by omega, ?_, fun h _ a b => by omega, fun h _ a b => by omega⟩
      rw [f79s_l1, decide_eq_false (by omega), cond_false]
/-- the left part's places up to the one right element: p h = the right one is not strictly earlier -/
theorem f79s_l3_eq (l : List Due) (z : Due) (a : Int) (ha : idx l a = some z) (k : Int → Option (List Due)) (hl : l.length < 1000000000) : ∀ (s : Nat) (i j n : Nat) (iz jz : Int), j - i ≤ s → s < n → iz = (i : Int) → jz = (j : Int) → i ≤ j → j ≤ l.length →
    (∀ h g (_ : h < l.length) (_ : g < l.length), i ≤ h → h ≤ g → g < j → ¬ z.time < l[g].time → ¬ z.time < l[h].time) →
    ∃ c, i ≤ c ∧ c ≤ j ∧ f79s_l3 l a k n iz jz = k (c : Int) ∧ (∀ h (_ : h < l.length), i ≤ h → h < c → ¬ z.time < l[h].time) ∧ ∀ h (_ : h < l.length), c ≤ h → h < j → z.time < l[h].time := by
  intro s
  induction s with
  | zero =>
    intro i j n iz jz hs hn hi hj hij hjl _
    obtain ⟨n, rfl⟩ : ∃ m, n = m + 1 := ⟨n - 1, by omega⟩
    subst hi; subst hj
    refine ⟨i, by omega, by omega, ?_, fun h _ a b => by omega, fun h _ a b => by omega⟩
    rw [f79s_l3, decide_eq_false (by omega), cond_false]
  | succ s ih =>
    intro i j n iz jz hs hn hi hj hij hjl hm
    obtain ⟨n, rfl⟩ : ∃ m, n = m + 1 := ⟨n - 1, by omega⟩
    subst hi; subst hj
    by_cases e : i < j
    · have hh : (i + j) / 2 < l.length := by omega
      rw [f79s_l3, decide_eq_true (by omega), cond_true, ha, Option.bind_some, mid_eq i j (by omega), idx_in hh, Option.bind_some, f37_lt]
      by_cases c : ¬ z.time < l[(i + j) / 2].time
      · rw [decide_eq_false c, Bool.not_false, cond_true, w64 (by omega) (by omega)]
        obtain ⟨c', h1, h2, h3, h4, h5⟩ := ih ((i + j) / 2 + 1) j n ((((i + j) / 2 : Nat) : Int) + 1) (j : Int) (by omega) (by omega) (by push_cast; rfl) rfl (by omega) hjl (fun h g a b x y w => hm h g a b (by omega) y w)
        refine ⟨c', by omega, h2, h3, fun h a b d => ?_, h5⟩
        by_cases f : (i + j) / 2 + 1 ≤ h
        · exact h4 h a f d
        · exact hm h ((i + j) / 2) a hh b (by omega) (by omega) c
      · rw [decide_eq_true (Decidable.not_not.1 c), Bool.not_true, cond_false]
        obtain ⟨c', h1, h2, h3, h4, h5⟩ := ih i ((i + j) / 2) n (i : Int) (((i + j) / 2 : Nat) : Int) (by omega) (by omega) rfl rfl (by omega) (by omega) (fun h g a b x y w => hm h g a b x y (by omega))
        refine ⟨c', h1, by omega, h3, h4, fun h a b d => ?_⟩
        by_cases f : h < (i + j) / 2
        · exact h5 h a b f
        · exact Decidable.not_not.1 fun q => c (hm ((i + j) / 2) h hh a (by omega) (by omega) d q)
    · refine ⟨i, by omega, by omega, ?_, fun h _ a b => by omega, fun h _ a b => by omega⟩
      rw [f79s_l3, decide_eq_false (by omega), cond_false]
end Go.Proofs.Ytpionlekbfoccaa
set_option maxRecDepth 10000
namespace Go.Proofs.Ytpionlekbfoccaa
open Go Go.Sk

/-- Q c: the right one at p - c is not strictly earlier than the left one at c. -/
def symQ (l : List Due) (p c : Nat) : Prop := ∃ (h1 : p - c < l.length) (h2 : c < l.length), ¬ l[p - c].time < l[c].time
theorem f79s_l5_eq (l : List Due) (a m b : Nat) (k : Int → Option (List Due)) (hl : l.length < 1000000000) (hab : a + b < 1000000000) (hmb : m < 1000000000) (hp : 1 ≤ (a + b) / 2 + m) : ∀ (s : Nat) (i j n : Nat) (iz jz : Int), j - i ≤ s → s < n → iz = (i : Int) → jz = (j : Int) → i ≤ j →
    (∀ c, i ≤ c → c < j → c < l.length ∧ c ≤ (a + b) / 2 + m - 1 ∧ (a + b) / 2 + m - 1 - c < l.length) →
    (∀ h g, i ≤ h → h ≤ g → g < j → symQ l ((a + b) / 2 + m - 1) g → symQ l ((a + b) / 2 + m - 1) h) →
    ∃ c, i ≤ c ∧ c ≤ j ∧ f79s_l5 l (a : Int) (m : Int) (b : Int) k n iz jz = k (c : Int) ∧ (∀ h, i ≤ h → h < c → symQ l ((a + b) / 2 + m - 1) h) ∧ ∀ h, c ≤ h → h < j → ¬ symQ l ((a + b) / 2 + m - 1) h := by
  intro s
  induction s with
  | zero =>
    intro i j n iz jz hs hn hi hj hij hr _
    obtain ⟨n, rfl⟩ : ∃ m, n = m + 1 := ⟨n - 1, by omega⟩
    subst hi; subst hj
    refine ⟨i, by omega, by omega, ?_, fun h a b => by omega, fun h a b => by omega⟩
    rw [f79s_l5, decide_eq_false (by omega), cond_false]
  | succ s ih =>
    intro i j n iz jz hs hn hi hj hij hr hm
    obtain ⟨n, rfl⟩ : ∃ m, n = m + 1 := ⟨n - 1, by omega⟩
    subst hi; subst hj
    by_cases e : i < j
    · obtain ⟨r1, r2, r3⟩ := hr ((i + j) / 2) (by omega) (by omega)
      have w : IntKind.i64.wrap ((IntKind.i64.wrap ((IntKind.i64.wrap ((((a + b) / 2 : Nat) : Int) + (m : Int))) - 1)) - (((i + j) / 2 : Nat) : Int)) = (((a + b) / 2 + m - 1 - (i + j) / 2 : Nat) : Int) := by
        rw [w64 (x := (((a + b) / 2 : Nat) : Int) + (m : Int)) (by omega) (by omega), w64 (x := (((a + b) / 2 : Nat) : Int) + (m : Int) - 1) (by omega) (by omega), w64 (by omega) (by omega)]
        omega
      rw [f79s_l5, decide_eq_true (by omega), cond_true, mid_eq i j (by omega), mid_eq a b (by omega), w, idx_in r3, Option.bind_some, idx_in r1, Option.bind_some, f37_lt]
      by_cases c : l[(a + b) / 2 + m - 1 - (i + j) / 2].time < l[(i + j) / 2].time
      · have nq : ¬ symQ l ((a + b) / 2 + m - 1) ((i + j) / 2) := fun ⟨_, _, q⟩ => q c
        rw [decide_eq_true c, Bool.not_true, cond_false]
        obtain ⟨c', h1, h2, h3, h4, h5⟩ := ih i ((i + j) / 2) n (i : Int) (((i + j) / 2 : Nat) : Int) (by omega) (by omega) rfl rfl (by omega) (fun c x y => hr c x (by omega)) (fun h g x y w => hm h g x y (by omega))
        refine ⟨c', h1, by omega, h3, h4, fun h b d => ?_⟩
        by_cases f : h < (i + j) / 2
        · exact h5 h b f
        · exact fun q => nq (hm ((i + j) / 2) h (by omega) (by omega) d q)
      · have q : symQ l ((a + b) / 2 + m - 1) ((i + j) / 2) := ⟨r3, r1, c⟩
        rw [decide_eq_false c, Bool.not_false, cond_true, w64 (by omega) (by omega)]
        obtain ⟨c', h1, h2, h3, h4, h5⟩ := ih ((i + j) / 2 + 1) j n ((((i + j) / 2 : Nat) : Int) + 1) (j : Int) (by omega) (by omega) (by push_cast; rfl) rfl (by omega) (fun c x y => hr c (by omega) y) (fun h g x y w => hm h g (by omega) y w)
        refine ⟨c', by omega, h2, h3, fun h b d => ?_, h5⟩
        by_cases f : (i + j) / 2 + 1 ≤ h
        · exact h4 h f d
        · exact hm h ((i + j) / 2) b (by omega) (by omega) q
    · refine ⟨i, by omega, by omega, ?_, fun h a b => by omega, fun h a b => by omega⟩
      rw [f79s_l5, decide_eq_false (by omega), cond_false]
end Go.Proofs.Ytpionlekbfoccaa
set_option maxRecDepth 10000
namespace Go.Proofs.Ytpionlekbfoccaa
open Go Go.Sk

theorem f79s_l2_eq (q : Int) (k : List Due → Option (List Due)) (z : Due) : ∀ (S P R : List Due) (n : Nat) (i : Int), i = (P.length : Int) → q = ((P.length + S.length + 1 : Nat) : Int) → S.length < n → P.length + S.length < 1000000000 →
    f79s_l2 q k n i (P ++ z :: (S ++ R)) = k (P ++ (S ++ z :: R)) := by
  intro S
  induction S with
  | nil =>
    intro P R n i hi hq hn hl
    obtain ⟨n, rfl⟩ : ∃ m, n = m + 1 := ⟨n - 1, by simp at hn; omega⟩
    subst hi
    simp only [List.length_nil] at hq
    rw [f79s_l2, w64 (x := q - 1) (by omega) (by omega), decide_eq_false (by omega), cond_false]
    rfl
  | cons s S ih =>
    intro P R n i hi hq hn hl
    simp only [List.length_cons] at hq hn hl
    obtain ⟨n, rfl⟩ : ∃ m, n = m + 1 := ⟨n - 1, by omega⟩
    subst hi
    have e1 : P ++ z :: ((s :: S) ++ R) = (P ++ [z]) ++ s :: (S ++ R) := by simp
    have w1 : IntKind.i64.wrap ((P.length : Int) + 1) = ((P.length + 1 : Nat) : Int) := by rw [w64 (by omega) (by omega)]; omega
    have i1 : idx (P ++ z :: ((s :: S) ++ R)) ((P.length + 1 : Nat) : Int) = some s := by rw [e1]; exact idx_mid _ _ _ (by simp)
    have i2 : idx (P ++ z :: ((s :: S) ++ R)) (P.length : Int) = some z := idx_mid _ _ _ rfl
    have s1 : List.set (P ++ z :: ((s :: S) ++ R)) (Int.toNat (P.length : Int)) s = P ++ s :: ((s :: S) ++ R) := set_mid _ _ _ _ rfl
    have e2 : P ++ s :: ((s :: S) ++ R) = (P ++ [s]) ++ s :: (S ++ R) := by simp
    have i3 : idx (P ++ s :: ((s :: S) ++ R)) ((P.length + 1 : Nat) : Int) = some s := by rw [e2]; exact idx_mid _ _ _ (by simp)
    have s2 : List.set (P ++ s :: ((s :: S) ++ R)) (Int.toNat ((P.length + 1 : Nat) : Int)) z = (P ++ [s]) ++ z :: (S ++ R) := by rw [e2]; exact set_mid _ _ _ _ (by simp)
    rw [f79s_l2, w64 (x := q - 1) (by omega) (by omega), decide_eq_true (by omega), cond_true, w1, i1, i2]
    simp only [Option.bind_some]
    rw [s1, i3]
    simp only [Option.bind_some]
    rw [s2, ih (P ++ [s]) R n _ (by simp) (by simp; omega) (by omega) (by simp; omega)]
    simp

theorem f79s_l4_eq (q : Int) (k : List Due → Option (List Due)) (z : Due) (P : List Due) (hq : q = (P.length : Int)) : ∀ (T R : List Due) (n : Nat) (i : Int), i = ((P.length + T.length : Nat) : Int) → T.length < n → P.length + T.length < 1000000000 →
    f79s_l4 q k n i (P ++ (T.reverse ++ z :: R)) = k (P ++ z :: (T.reverse ++ R)) := by
  intro T
  induction T with
  | nil =>
    intro R n i hi hn hl
    obtain ⟨n, rfl⟩ : ∃ m, n = m + 1 := ⟨n - 1, by simp at hn; omega⟩
    subst hi
    simp only [List.length_nil] at hl
    rw [f79s_l4, decide_eq_false (by simp; omega), cond_false]
    rfl
  | cons t T ih =>
    intro R n i hi hn hl
    simp only [List.length_cons] at hi hn hl
    obtain ⟨n, rfl⟩ : ∃ m, n = m + 1 := ⟨n - 1, by omega⟩
    subst hi
    have e1 : P ++ ((t :: T).reverse ++ z :: R) = (P ++ T.reverse) ++ t :: z :: R := by simp
    have e2 : P ++ ((t :: T).reverse ++ z :: R) = (P ++ (T.reverse ++ [t])) ++ z :: R := by simp
    have w1 : IntKind.i64.wrap (((P.length + (T.length + 1) : Nat) : Int) - 1) = ((P.length + T.length : Nat) : Int) := by rw [w64 (by omega) (by omega)]; omega
    have i1 : idx (P ++ ((t :: T).reverse ++ z :: R)) ((P.length + T.length : Nat) : Int) = some t := by rw [e1]; exact idx_mid _ _ _ (by simp)
    have i2 : idx (P ++ ((t :: T).reverse ++ z :: R)) ((P.length + (T.length + 1) : Nat) : Int) = some z := by rw [e2]; exact idx_mid _ _ _ (by simp)
    have s1 : List.set (P ++ ((t :: T).reverse ++ z :: R)) (Int.toNat ((P.length + (T.length + 1) : Nat) : Int)) t = (P ++ T.reverse) ++ t :: t :: R := by
      rw [e2, set_mid _ _ _ _ (by simp)]; simp
    have i3 : idx ((P ++ T.reverse) ++ t :: t :: R) ((P.length + T.length : Nat) : Int) = some t := idx_mid _ _ _ (by simp)
    have s2 : List.set ((P ++ T.reverse) ++ t :: t :: R) (Int.toNat ((P.length + T.length : Nat) : Int)) z = P ++ (T.reverse ++ z :: (t :: R)) := by
      rw [set_mid _ _ _ _ (by simp)]; simp
    rw [f79s_l4, decide_eq_true (by omega), cond_true, w1, i1, i2]
    simp only [Option.bind_some]
    rw [s1, i3]
    simp only [Option.bind_some]
    rw [s2, ih (t :: R) n _ rfl (by omega) (by omega)]
    simp
end Go.Proofs.Ytpionlekbfoccaa
set_option maxRecDepth 10000
namespace Go.Proofs.Ytpionlekbfoccaa
open Go Go.Sk

def Asc (L : List Due) : Prop := L.Pairwise (fun a b => a.time ≤ b.time)
theorem asc_le {L : List Due} (h : Asc L) {i j : Nat} (hj : j < L.length) (hij : i ≤ j) : (L[i]'(Nat.lt_of_le_of_lt hij hj)).time ≤ L[j].time := by
  rcases Nat.lt_or_eq_of_le hij with h1 | h1
  · exact List.pairwise_iff_getElem.1 h i j (by omega) hj h1
  · subst h1; exact Int.le_refl _
theorem asc_app {A B : List Due} (h : Asc (A ++ B)) : Asc A ∧ Asc B := by
  have := List.pairwise_append.1 h
  exact ⟨this.1, this.2.1⟩
theorem get_mid {α : Type} (P L R : List α) (i : Nat) (h1 : P.length ≤ i) (h2 : i < P.length + L.length) (h3 : i < (P ++ (L ++ R)).length) :
    (P ++ (L ++ R))[i] = L[i - P.length]'(by omega) := by
  rw [List.getElem_append_right h1, List.getElem_append_left]

theorem mrg_one_l (z : Due) (R1 R2 : List Due) (h1 : ∀ r ∈ R1, r.time < z.time) (h2 : ∀ r ∈ R2, ¬ r.time < z.time) : mrg [z] (R1 ++ R2) = R1 ++ z :: R2 := by
  have a := mrg_split [] R1 [z] R2 (fun l hl => by simp at hl) (fun r hr l hl => by rw [List.mem_singleton.1 hl]; exact h1 r hr)
  have b := mrg_split [z] [] [] R2 (fun l hl r hr => by rw [List.mem_singleton.1 hl]; exact h2 r hr) (fun r hr => by simp at hr)
  simp only [List.nil_append, List.append_nil, mrg_nil, mrg_nr] at a b
  rw [a, b]; rfl
theorem mrg_one_r (z : Due) (L1 L2 : List Due) (h1 : ∀ l ∈ L1, ¬ z.time < l.time) (h2 : ∀ l ∈ L2, z.time < l.time) : mrg (L1 ++ L2) [z] = L1 ++ z :: L2 := by
  have a := mrg_split L1 [] L2 [z] (fun l hl r hr => by rw [List.mem_singleton.1 hr]; exact h1 l hl) (fun r hr => by simp at hr)
  have b := mrg_split [] [z] L2 [] (fun l hl => by simp at hl) (fun r hr l hl => by rw [List.mem_singleton.1 hr]; exact h2 l hl)
  simp only [List.nil_append, List.append_nil, mrg_nil, mrg_nr] at a b
  rw [a, b]; rfl
theorem mrg_length : ∀ (L R : List Due), (mrg L R).length = L.length + R.length
  | [], R => by simp [mrg_nil]
  | l :: L, [] => by simp [mrg_nr]
  | l :: L, r :: R => by
    rw [mrg_cc]
    split
    · rw [List.length_cons, mrg_length (l :: L) R]; simp only [List.length_cons]; omega
    · rw [List.length_cons, mrg_length L (r :: R)]; simp only [List.length_cons]; omega
termination_by L R => L.length + R.length

theorem len_one {α : Type} {L : List α} (h : L.length = 1) : ∃ z, L = [z] := by
  cases L with
  | nil => simp at h
  | cons a L => cases L with
    | nil => exact ⟨a, rfl⟩
    | cons b L => simp at h

def f79sF (F : Nat) (rec79 : (List Due) → Int → Int → Int → Option (List Due)) (l0 : List Due) (a1 : Int) (m2 : Int) (b3 : Int) : Option (List Due) :=
  letk (fun (_ : Unit) =>
  letk (fun (_ : Unit) =>
  letk (fun (start272 : Int) (r273 : Int) =>
  letk (fun (start275 : Int) =>
  letk (fun (l285 : List Due) =>
  letk (fun (l288 : List Due) =>
  (bif ((decide ((IntKind.i64.wrap (Int.fdiv (IntKind.u64.wrap (IntKind.i64.wrap (a1 + b3))) (2 ^ min (Int.toNat 1) IntKind.u64.bits))) < (IntKind.i64.wrap ((IntKind.i64.wrap ((IntKind.i64.wrap (Int.fdiv (IntKind.u64.wrap (IntKind.i64.wrap (a1 + b3))) (2 ^ min (Int.toNat 1) IntKind.u64.bits))) + m2)) - start275)))) && (decide ((IntKind.i64.wrap ((IntKind.i64.wrap ((IntKind.i64.wrap (Int.fdiv (IntKind.u64.wrap (IntKind.i64.wrap (a1 + b3))) (2 ^ min (Int.toNat 1) IntKind.u64.bits))) + m2)) - start275)) < b3))) then Option.bind (rec79 l288 (IntKind.i64.wrap (Int.fdiv (IntKind.u64.wrap (IntKind.i64.wrap (a1 + b3))) (2 ^ min (Int.toNat 1) IntKind.u64.bits))) (IntKind.i64.wrap ((IntKind.i64.wrap ((IntKind.i64.wrap (Int.fdiv (IntKind.u64.wrap (IntKind.i64.wrap (a1 + b3))) (2 ^ min (Int.toNat 1) IntKind.u64.bits))) + m2)) - start275)) b3) fun r291 =>
  some r291 else some l288)) fun k289 =>
  (bif ((decide (a1 < start275)) && (decide (start275 < (IntKind.i64.wrap (Int.fdiv (IntKind.u64.wrap (IntKind.i64.wrap (a1 + b3))) (2 ^ min (Int.toNat 1) IntKind.u64.bits)))))) then Option.bind (rec79 l285 a1 start275 (IntKind.i64.wrap (Int.fdiv (IntKind.u64.wrap (IntKind.i64.wrap (a1 + b3))) (2 ^ min (Int.toNat 1) IntKind.u64.bits)))) fun r290 =>
  (k289 r290) else (k289 l285))) fun k286 =>
  (bif ((decide (start275 < m2)) && (decide (m2 < (IntKind.i64.wrap ((IntKind.i64.wrap ((IntKind.i64.wrap (Int.fdiv (IntKind.u64.wrap (IntKind.i64.wrap (a1 + b3))) (2 ^ min (Int.toNat 1) IntKind.u64.bits))) + m2)) - start275))))) then Option.bind (f83 l0 start275 m2 (IntKind.i64.wrap ((IntKind.i64.wrap ((IntKind.i64.wrap (Int.fdiv (IntKind.u64.wrap (IntKind.i64.wrap (a1 + b3))) (2 ^ min (Int.toNat 1) IntKind.u64.bits))) + m2)) - start275))) fun r287 =>
  (k286 r287) else (k286 l0))) fun k276 =>
  (f79s_l5 l0 a1 m2 b3 k276 F start272 r273)) fun k274 =>
  (bif (decide (m2 > (IntKind.i64.wrap (Int.fdiv (IntKind.u64.wrap (IntKind.i64.wrap (a1 + b3))) (2 ^ min (Int.toNat 1) IntKind.u64.bits))))) then (k274 (IntKind.i64.wrap ((IntKind.i64.wrap ((IntKind.i64.wrap (Int.fdiv (IntKind.u64.wrap (IntKind.i64.wrap (a1 + b3))) (2 ^ min (Int.toNat 1) IntKind.u64.bits))) + m2)) - b3)) (IntKind.i64.wrap (Int.fdiv (IntKind.u64.wrap (IntKind.i64.wrap (a1 + b3))) (2 ^ min (Int.toNat 1) IntKind.u64.bits)))) else (k274 a1 m2))) fun k249 =>
  (bif (decide ((IntKind.i64.wrap (b3 - m2)) = 1)) then letk (fun (iq250 : Int) =>
  letk (fun (l260 : List Due) =>
  some l260) fun k261 =>
  (f79s_l4 iq250 k261 F m2 l0)) fun k251 =>
  (f79s_l3 l0 m2 k251 F a1 m2) else (k249 ()))) fun k226 =>
  (bif (decide ((IntKind.i64.wrap (m2 - a1)) = 1)) then letk (fun (iq227 : Int) =>
  letk (fun (l237 : List Due) =>
  some l237) fun k238 =>
  (f79s_l2 iq227 k238 F a1 l0)) fun k228 =>
  (f79s_l1 l0 a1 k228 F m2 b3) else (k226 ()))
theorem f79s_F : f79s = f79sF 9223372036854775808 := rfl

theorem f79_l (rec : List Due → Int → Int → Int → Option (List Due)) (P R Q : List Due) (z : Due) (hR : Asc R) (hr : 0 < R.length) (hl : P.length + R.length + Q.length + 1 < 1000000) :
    f79s rec (P ++ ([z] ++ (R ++ Q))) (P.length : Int) ((P.length + 1 : Nat) : Int) ((P.length + 1 + R.length : Nat) : Int) = some (P ++ (mrg [z] R ++ Q)) := by
  obtain ⟨F, hF⟩ : ∃ F : Nat, F = 9223372036854775808 := ⟨_, rfl⟩
  rw [f79s_F, ← hF]
  unfold f79sF letk
  dsimp only
  rw [w64 (x := ((P.length + 1 : Nat) : Int) - (P.length : Int)) (by omega) (by omega), decide_eq_true (by omega : ((P.length + 1 : Nat) : Int) - (P.length : Int) = 1), cond_true]
  have hs : P ++ ([z] ++ (R ++ Q)) = (P ++ [z]) ++ (R ++ Q) := by simp
  have hpl : (P ++ [z]).length = P.length + 1 := by simp
  have hll : (P ++ ([z] ++ (R ++ Q))).length = P.length + 1 + R.length + Q.length := by simp; omega
  have hget : ∀ h (hh : h < (P ++ ([z] ++ (R ++ Q))).length), P.length + 1 ≤ h → (hb : h < P.length + 1 + R.length) → (P ++ ([z] ++ (R ++ Q)))[h] = R[h - (P.length + 1)]'(by omega) := by
    intro h hh ha hb
    have := get_mid (P ++ [z]) R Q h (by omega) (by omega) (by rw [← hs]; exact hh)
    simp only [hpl] at this
    rw [← this]
    congr 1
  obtain ⟨c, h1, h2, h3, h4, h5⟩ := f79s_l1_eq (P ++ ([z] ++ (R ++ Q))) z (P.length : Int) (idx_mid _ _ _ rfl)
    (fun iq227 => f79s_l2 iq227 (fun l => some l) F (P.length : Int) (P ++ ([z] ++ (R ++ Q)))) (by omega) R.length (P.length + 1) (P.length + 1 + R.length) F _ _ (by omega) (by omega) rfl rfl (by omega) (by omega) (by
      intro h g ha hb hi hhg hg hlt
      rw [hget g hb (by omega) hg] at hlt
      rw [hget h ha (by omega) (by omega)]
      have := asc_le hR (i := h - (P.length + 1)) (j := g - (P.length + 1)) (by omega) (by omega)
      omega)
  rw [h3]
  have hsp : R = R.take (c - (P.length + 1)) ++ R.drop (c - (P.length + 1)) := (List.take_append_drop _ _).symm
  have l1 : (R.take (c - (P.length + 1))).length = c - (P.length + 1) := by rw [List.length_take]; omega
  have m1 : ∀ r ∈ R.take (c - (P.length + 1)), r.time < z.time := by
    intro r hr
    obtain ⟨i, hi, rfl⟩ := List.mem_take_iff_getElem.1 hr
    have := h4 (i + (P.length + 1)) (by omega) (by omega) (by omega)
    rw [hget _ _ (by omega) (by omega)] at this
    simp only [Nat.add_sub_cancel] at this
    exact this
  have m2 : ∀ r ∈ R.drop (c - (P.length + 1)), ¬ r.time < z.time := by
    intro r hr
    obtain ⟨i, hi, rfl⟩ := List.mem_drop_iff_getElem.1 hr
    have := h5 (i + c) (by omega) (by omega) (by omega)
    rw [hget _ _ (by omega) (by omega)] at this
    have e : i + c - (P.length + 1) = c - (P.length + 1) + i := by omega
    simp only [e] at this
    exact this
  generalize R.take (c - (P.length + 1)) = R1 at hsp l1 m1
  generalize R.drop (c - (P.length + 1)) = R2 at hsp m2
  subst hsp
  rw [mrg_one_l z R1 R2 m1 m2]
  have := f79s_l2_eq (c : Int) (fun l => some l) z R1 P (R2 ++ Q) F (P.length : Int) rfl (by omega) (by omega) (by omega)
  simp only [List.append_assoc, List.cons_append, List.nil_append] at this ⊢
  exact this
end Go.Proofs.Ytpionlekbfoccaa
set_option maxRecDepth 10000
namespace Go.Proofs.Ytpionlekbfoccaa
open Go Go.Sk

theorem f79_r (rec : List Due → Int → Int → Int → Option (List Due)) (P L Q : List Due) (z : Due) (hL : Asc L) (hr : 1 < L.length) (hl : P.length + L.length + Q.length + 1 < 1000000) :
    f79s rec (P ++ (L ++ ([z] ++ Q))) (P.length : Int) ((P.length + L.length : Nat) : Int) ((P.length + L.length + 1 : Nat) : Int) = some (P ++ (mrg L [z] ++ Q)) := by
  obtain ⟨F, hF⟩ : ∃ F : Nat, F = 9223372036854775808 := ⟨_, rfl⟩
  rw [f79s_F, ← hF]
  unfold f79sF letk
  dsimp only
  rw [w64 (x := ((P.length + L.length : Nat) : Int) - (P.length : Int)) (by omega) (by omega), decide_eq_false (by omega : ¬ ((P.length + L.length : Nat) : Int) - (P.length : Int) = 1), cond_false]
  rw [w64 (x := ((P.length + L.length + 1 : Nat) : Int) - ((P.length + L.length : Nat) : Int)) (by omega) (by omega), decide_eq_true (by omega : ((P.length + L.length + 1 : Nat) : Int) - ((P.length + L.length : Nat) : Int) = 1), cond_true]
  have hll : (P ++ (L ++ ([z] ++ Q))).length = P.length + L.length + Q.length + 1 := by simp; omega
  have hget : ∀ h (hh : h < (P ++ (L ++ ([z] ++ Q))).length), P.length ≤ h → (hb : h < P.length + L.length) → (P ++ (L ++ ([z] ++ Q)))[h] = L[h - P.length]'(by omega) := fun h hh ha hb => get_mid P L ([z] ++ Q) h ha hb hh
  have hz : idx (P ++ (L ++ ([z] ++ Q))) ((P.length + L.length : Nat) : Int) = some z := by
    rw [show P ++ (L ++ ([z] ++ Q)) = (P ++ L) ++ z :: Q by simp]
    exact idx_mid _ _ _ (by simp)
  obtain ⟨c, h1, h2, h3, h4, h5⟩ := f79s_l3_eq (P ++ (L ++ ([z] ++ Q))) z ((P.length + L.length : Nat) : Int) hz
    (fun iq250 => f79s_l4 iq250 (fun l => some l) F ((P.length + L.length : Nat) : Int) (P ++ (L ++ ([z] ++ Q)))) (by omega) L.length P.length (P.length + L.length) F _ _ (by omega) (by omega) rfl rfl (by omega) (by omega) (by
      intro h g ha hb hi hhg hg hlt
      rw [hget g hb (by omega) hg] at hlt
      rw [hget h ha (by omega) (by omega)]
      have := asc_le hL (i := h - P.length) (j := g - P.length) (by omega) (by omega)
      omega)
  rw [h3]
  have hsp : L = L.take (c - P.length) ++ L.drop (c - P.length) := (List.take_append_drop _ _).symm
  have l1 : (L.take (c - P.length)).length = c - P.length := by rw [List.length_take]; omega
  have m1 : ∀ r ∈ L.take (c - P.length), ¬ z.time < r.time := by
    intro r hr
    obtain ⟨i, hi, rfl⟩ := List.mem_take_iff_getElem.1 hr
    have := h4 (i + P.length) (by omega) (by omega) (by omega)
    rw [hget _ _ (by omega) (by omega)] at this
    simp only [Nat.add_sub_cancel] at this
    exact this
  have m2 : ∀ r ∈ L.drop (c - P.length), z.time < r.time := by
    intro r hr
    obtain ⟨i, hi, rfl⟩ := List.mem_drop_iff_getElem.1 hr
    have := h5 (i + c) (by omega) (by omega) (by omega)
    rw [hget _ _ (by omega) (by omega)] at this
    have e : i + c - P.length = c - P.length + i := by omega
    simp only [e] at this
    exact this
  generalize L.take (c - P.length) = L1 at hsp l1 m1
  generalize L.drop (c - P.length) = L2 at hsp m2
  subst hsp
  rw [mrg_one_r z L1 L2 m1 m2]
  have := f79s_l4_eq (c : Int) (fun l => some l) z (P ++ L1) (by rw [List.length_append]; omega) L2.reverse Q F ((P.length + (L1 ++ L2).length : Nat) : Int) (by simp only [List.length_append, List.length_reverse]; omega) (by rw [List.length_reverse]; rw [List.length_append] at hl; omega) (by simp only [List.length_append, List.length_reverse] at *; omega)
  rw [List.reverse_reverse] at this
  simp only [List.append_assoc, List.cons_append, List.nil_append] at this ⊢
  exact this

theorem cond_and {α : Type} (a b : Bool) (x y : α) : (bif (a && b) then x else y) = bif a then (bif b then x else y) else y := by cases a <;> rfl
theorem symQ_at {l : List Due} {p c i : Nat} (h1 : i < l.length) (h2 : c < l.length) (e : p - c = i) : symQ l p c ↔ ¬ l[i].time < l[c].time := by
  subst e
  exact ⟨fun ⟨_, _, q⟩ => q, fun q => ⟨h1, h2, q⟩⟩

/-- What the search finds: the cut of both parts. -/
theorem sym_cut (P L R Q : List Due) (hL : Asc L) (hR : Asc R) (a m b mid : Nat) (ha : a = P.length) (hm : m = P.length + L.length) (hb : b = P.length + L.length + R.length) (hmid : mid = (a + b) / 2) (h1L : 1 < L.length) (h1R : 1 < R.length) (hl : P.length + L.length + R.length + Q.length < 1000000) (F : Nat) (hF : F = 9223372036854775808) (k : Int → Option (List Due)) :
    ∃ c, a ≤ c ∧ c ≤ m ∧ c ≤ mid ∧ mid + m ≤ b + c ∧ f79s_l5 (P ++ (L ++ (R ++ Q))) (a : Int) (m : Int) (b : Int) k F (if mid < m then ((mid + m - b : Nat) : Int) else (a : Int)) (if mid < m then (mid : Int) else (m : Int)) = k (c : Int) ∧
      (∀ l ∈ L.take (c - a), ∀ r ∈ R.drop (mid - c), ¬ r.time < l.time) ∧ (∀ r ∈ R.take (mid - c), ∀ l ∈ L.drop (c - a), r.time < l.time) := by
  obtain ⟨X, hX⟩ : ∃ X, X = P ++ (L ++ (R ++ Q)) := ⟨_, rfl⟩
  rw [← hX]
  have hll : X.length = P.length + L.length + R.length + Q.length := by rw [hX]; simp; omega
  have hgL : ∀ h (hh : h < X.length), P.length ≤ h → (hb : h < P.length + L.length) → X[h] = L[h - P.length]'(by omega) := by
    intro h hh ha hb
    subst hX
    exact get_mid P L (R ++ Q) h ha hb hh
  have hpl : (P ++ L).length = P.length + L.length := by simp
  have hgR : ∀ h (hh : h < X.length), P.length + L.length ≤ h → (hb : h < P.length + L.length + R.length) → X[h] = R[h - (P.length + L.length)]'(by omega) := by
    intro h hh ha hb
    subst hX
    have e : P ++ (L ++ (R ++ Q)) = (P ++ L) ++ (R ++ Q) := by simp
    have := get_mid (P ++ L) R Q h (by omega) (by omega) (by rw [← e]; exact hh)
    simp only [hpl] at this
    rw [← this]
    congr 1
  obtain ⟨s0, hs0⟩ : ∃ s, s = if mid < m then mid + m - b else a := ⟨_, rfl⟩
  obtain ⟨r0, hr0⟩ : ∃ s, s = if mid < m then mid else m := ⟨_, rfl⟩
  have e1 : (if mid < m then ((mid + m - b : Nat) : Int) else (a : Int)) = (s0 : Int) := by rw [hs0]; split <;> rfl
  have e2 : (if mid < m then (mid : Int) else (m : Int)) = (r0 : Int) := by rw [hr0]; split <;> rfl
  rw [e1, e2]
  have hs : a ≤ s0 ∧ s0 ≤ r0 ∧ r0 ≤ m ∧ r0 ≤ mid ∧ mid + m ≤ b + s0 := by
    rw [hs0, hr0]; split <;> omega
  obtain ⟨c, h1, h2, h3, h4, h5⟩ := f79s_l5_eq X a m b k (by omega) (by omega) (by omega) (by omega) (r0 - s0) s0 r0 F _ _ (by omega) (by omega) rfl rfl (by omega)
    (fun c x y => ⟨by omega, by omega, by omega⟩)
    (fun h g x y w => by
      rw [symQ_at (i := (a + b) / 2 + m - 1 - g) (by omega) (by omega) rfl, symQ_at (i := (a + b) / 2 + m - 1 - h) (by omega) (by omega) rfl]
      rw [hgL g (by omega) (by omega) (by omega), hgL h (by omega) (by omega) (by omega), hgR _ (by omega) (by omega) (by omega), hgR _ (by omega) (by omega) (by omega)]
      have q1 := asc_le hL (i := h - P.length) (j := g - P.length) (by omega) (by omega)
      have q2 := asc_le hR (i := (a + b) / 2 + m - 1 - g - (P.length + L.length)) (j := (a + b) / 2 + m - 1 - h - (P.length + L.length)) (by omega) (by omega)
      omega)
  refine ⟨c, by omega, by omega, by omega, by omega, h3, ?_, ?_⟩
  · intro l hl' r hr'
    obtain ⟨i, hi, rfl⟩ := List.mem_take_iff_getElem.1 hl'
    obtain ⟨j, hj, rfl⟩ := List.mem_drop_iff_getElem.1 hr'
    have hc : s0 < c := by
      by_cases g : s0 < c
      · exact g
      · exfalso
        have : c = s0 := by omega
        revert hs0; split <;> intro hs0 <;> omega
    have q := h4 (c - 1) (by omega) (by omega)
    rw [symQ_at (i := mid + m - c) (by omega) (by omega) (by omega), hgL (c - 1) (by omega) (by omega) (by omega), hgR (mid + m - c) (by omega) (by omega) (by omega)] at q
    have q1 := asc_le hL (i := i) (j := c - 1 - P.length) (by omega) (by omega)
    have q2 := asc_le hR (i := mid + m - c - (P.length + L.length)) (j := mid - c + j) (by omega) (by omega)
    omega
  · intro r hr' l hl'
    obtain ⟨j, hj, rfl⟩ := List.mem_take_iff_getElem.1 hr'
    obtain ⟨i, hi, rfl⟩ := List.mem_drop_iff_getElem.1 hl'
    have hc : c < r0 := by
      by_cases g : c < r0
      · exact g
      · exfalso
        have : c = r0 := by omega
        revert hr0; split <;> intro hr0 <;> omega
    have q := h5 c (by omega) (by omega)
    rw [symQ_at (i := mid + m - 1 - c) (by omega) (by omega) (by omega), hgL c (by omega) (by omega) (by omega), hgR (mid + m - 1 - c) (by omega) (by omega) (by omega)] at q
    have q1 := asc_le hL (i := c - P.length) (j := c - a + i) (by omega) (by omega)
    have q2 := asc_le hR (i := j) (j := mid + m - 1 - c - (P.length + L.length)) (by omega) (by omega)
    omega
end Go.Proofs.Ytpionlekbfoccaa
set_option maxRecDepth 10000
namespace Go.Proofs.Ytpionlekbfoccaa
open Go Go.Sk

theorem sym_cutk (P L R Q : List Due) (hL : Asc L) (hR : Asc R) (a m b mid : Nat) (ha : a = P.length) (hm : m = P.length + L.length) (hb : b = P.length + L.length + R.length) (hmid : mid = (a + b) / 2) (h1L : 1 < L.length) (h1R : 1 < R.length) (hl : P.length + L.length + R.length + Q.length < 1000000) (F : Nat) (hF : F = 9223372036854775808) (k : Int → Option (List Due)) (v : Option (List Due)) (s r : Int)
    (hs : s = if mid < m then ((mid + m - b : Nat) : Int) else (a : Int)) (hr : r = if mid < m then (mid : Int) else (m : Int))
    (h : ∀ c : Nat, a ≤ c → c ≤ m → c ≤ mid → mid + m ≤ b + c → (∀ l ∈ L.take (c - a), ∀ r ∈ R.drop (mid - c), ¬ r.time < l.time) → (∀ r ∈ R.take (mid - c), ∀ l ∈ L.drop (c - a), r.time < l.time) → k (c : Int) = v) :
    f79s_l5 (P ++ (L ++ (R ++ Q))) (a : Int) (m : Int) (b : Int) k F s r = v := by
  subst hs; subst hr
  obtain ⟨c, h1, h2, h3, h4, h5, h6, h7⟩ := sym_cut P L R Q hL hR a m b mid ha hm hb hmid h1L h1R hl F hF k
  rw [h5]
  exact h c h1 h2 h3 h4 h6 h7
theorem rot_stage (P L1 L2 R1 R2 Q : List Due) (k : List Due → Option (List Due)) (c m e : Int) (hc : c = ((P.length + L1.length : Nat) : Int)) (hm : m = ((P.length + L1.length + L2.length : Nat) : Int)) (he : e = ((P.length + L1.length + L2.length + R1.length : Nat) : Int)) (hl : P.length + L1.length + L2.length + R1.length < 1000000) :
    (bif (decide (c < m) && decide (m < e)) then Option.bind (f83 (P ++ ((L1 ++ L2) ++ ((R1 ++ R2) ++ Q))) c m e) (fun r => k r) else k (P ++ ((L1 ++ L2) ++ ((R1 ++ R2) ++ Q)))) = k (P ++ (L1 ++ (R1 ++ (L2 ++ (R2 ++ Q))))) := by
  by_cases h2 : L2.length = 0
  · have := List.eq_nil_of_length_eq_zero h2
    subst this
    rw [decide_eq_false (by simp only [List.length_nil] at hm; omega : ¬ c < m)]
    simp
  · by_cases h3 : R1.length = 0
    · have := List.eq_nil_of_length_eq_zero h3
      subst this
      rw [decide_eq_false (by simp only [List.length_nil] at he; omega : ¬ m < e), Bool.and_false]
      simp
    · rw [decide_eq_true (by omega), decide_eq_true (by omega), Bool.and_true, cond_true]
      rw [f83_eq (P ++ ((L1 ++ L2) ++ ((R1 ++ R2) ++ Q))) c m e (P ++ L1) L2 R1 (R2 ++ Q) (by simp) (by omega) (by omega) (by rw [List.length_append]; exact hc) (by rw [List.length_append]; exact hm) (by rw [List.length_append]; exact he) (by rw [List.length_append]; omega), Option.bind_some]
      simp
theorem rec_stage (rec : List Due → Int → Int → Int → Option (List Due)) (P A B Q : List Due) (k : List Due → Option (List Due)) (a m b : Int) (X : List Due) (hX : X = P ++ (A ++ (B ++ Q))) (ha : a = (P.length : Int)) (hm : m = ((P.length + A.length : Nat) : Int)) (hb : b = ((P.length + A.length + B.length : Nat) : Int))
    (hrec : 0 < A.length → 0 < B.length → rec (P ++ (A ++ (B ++ Q))) (P.length : Int) ((P.length + A.length : Nat) : Int) ((P.length + A.length + B.length : Nat) : Int) = some (P ++ (mrg A B ++ Q))) :
    (bif (decide (a < m) && decide (m < b)) then Option.bind (rec X a m b) (fun r => k r) else k X) = k (P ++ (mrg A B ++ Q)) := by
  subst hX
  by_cases h2 : A.length = 0
  · have := List.eq_nil_of_length_eq_zero h2
    subst this
    rw [decide_eq_false (by simp only [List.length_nil] at hm; omega : ¬ a < m)]
    simp [mrg_nil]
  · by_cases h3 : B.length = 0
    · have := List.eq_nil_of_length_eq_zero h3
      subst this
      rw [decide_eq_false (by simp only [List.length_nil] at hb; omega : ¬ m < b), Bool.and_false, mrg_nr]
      simp
    · rw [decide_eq_true (by omega), decide_eq_true (by omega), Bool.and_true, cond_true, ha, hm, hb, hrec (by omega) (by omega)]
      rfl

theorem f79_m (rec : List Due → Int → Int → Int → Option (List Due)) (n : Nat)
    (hrec : ∀ (P L R Q : List Due), Asc L → Asc R → 0 < L.length → 0 < R.length → L.length + R.length ≤ n → P.length + L.length + R.length + Q.length < 1000000 →
      rec (P ++ (L ++ (R ++ Q))) (P.length : Int) ((P.length + L.length : Nat) : Int) ((P.length + L.length + R.length : Nat) : Int) = some (P ++ (mrg L R ++ Q)))
    (P L R Q : List Due) (hL : Asc L) (hR : Asc R) (h1L : 1 < L.length) (h1R : 1 < R.length) (hn : L.length + R.length ≤ n + 1) (hl : P.length + L.length + R.length + Q.length < 1000000) :
    f79s rec (P ++ (L ++ (R ++ Q))) (P.length : Int) ((P.length + L.length : Nat) : Int) ((P.length + L.length + R.length : Nat) : Int) = some (P ++ (mrg L R ++ Q)) := by
  obtain ⟨a, ha⟩ : ∃ a, a = P.length := ⟨_, rfl⟩
  obtain ⟨m, hm⟩ : ∃ a, a = P.length + L.length := ⟨_, rfl⟩
  obtain ⟨b, hb⟩ : ∃ a, a = P.length + L.length + R.length := ⟨_, rfl⟩
  obtain ⟨mid, hmid⟩ : ∃ x, x = (a + b) / 2 := ⟨_, rfl⟩
  rw [← hb, ← hm, ← ha]
  obtain ⟨F, hF⟩ : ∃ F : Nat, F = 9223372036854775808 := ⟨_, rfl⟩
  rw [f79s_F, ← hF]
  unfold f79sF letk
  dsimp only
  rw [w64 (x := (m : Int) - (a : Int)) (by omega) (by omega), decide_eq_false (by omega : ¬ (m : Int) - (a : Int) = 1), cond_false]
  rw [w64 (x := (b : Int) - (m : Int)) (by omega) (by omega), decide_eq_false (by omega : ¬ (b : Int) - (m : Int) = 1), cond_false]
  rw [mid_eq a b (by omega), ← hmid, w64 (x := (mid : Int) + (m : Int)) (by omega) (by omega)]
  have key := sym_cutk P L R Q hL hR a m b mid ha hm hb hmid h1L h1R hl F hF
  have main : ∀ c : Nat, a ≤ c → c ≤ m → c ≤ mid → mid + m ≤ b + c → (∀ l ∈ L.take (c - a), ∀ r ∈ R.drop (mid - c), ¬ r.time < l.time) → (∀ r ∈ R.take (mid - c), ∀ l ∈ L.drop (c - a), r.time < l.time) →
    ∀ e : Int, IntKind.i64.wrap ((mid : Int) + (m : Int) - (c : Int)) = e →
    (bif (decide ((c : Int) < (m : Int)) && decide ((m : Int) < e)) then Option.bind (f83 (P ++ (L ++ (R ++ Q))) (c : Int) (m : Int) e) (fun r287 =>
      (bif (decide ((a : Int) < (c : Int)) && decide ((c : Int) < (mid : Int))) then Option.bind (rec r287 (a : Int) (c : Int) (mid : Int)) (fun r290 =>
        (bif (decide ((mid : Int) < e) && decide (e < (b : Int))) then Option.bind (rec r290 (mid : Int) e (b : Int)) (fun r291 => some r291) else some r290))
      else (bif (decide ((mid : Int) < e) && decide (e < (b : Int))) then Option.bind (rec r287 (mid : Int) e (b : Int)) (fun r291 => some r291) else some r287)))
    else (bif (decide ((a : Int) < (c : Int)) && decide ((c : Int) < (mid : Int))) then Option.bind (rec (P ++ (L ++ (R ++ Q))) (a : Int) (c : Int) (mid : Int)) (fun r290 =>
        (bif (decide ((mid : Int) < e) && decide (e < (b : Int))) then Option.bind (rec r290 (mid : Int) e (b : Int)) (fun r291 => some r291) else some r290))
      else (bif (decide ((mid : Int) < e) && decide (e < (b : Int))) then Option.bind (rec (P ++ (L ++ (R ++ Q))) (mid : Int) e (b : Int)) (fun r291 => some r291) else some (P ++ (L ++ (R ++ Q)))))) = some (P ++ (mrg L R ++ Q)) := by
    intro c c1 c2 c3 c4 s1 s2 e he
    rw [w64 (by omega) (by omega)] at he
    have l1 : (L.take (c - a)).length = c - a := by rw [List.length_take]; omega
    have l2 : (L.drop (c - a)).length = m - c := by rw [List.length_drop]; omega
    have r1 : (R.take (mid - c)).length = mid - c := by rw [List.length_take]; omega
    have r2 : (R.drop (mid - c)).length = R.length - (mid - c) := by rw [List.length_drop]
    have aL : L = L.take (c - a) ++ L.drop (c - a) := (List.take_append_drop _ _).symm
    have aR : R = R.take (mid - c) ++ R.drop (mid - c) := (List.take_append_drop _ _).symm
    generalize L.take (c - a) = L1 at l1 aL s1 s2
    generalize L.drop (c - a) = L2 at l2 aL s1 s2
    generalize R.take (mid - c) = R1 at r1 aR s1 s2
    generalize R.drop (mid - c) = R2 at r2 aR s1 s2
    subst aL; subst aR
    simp only [List.length_append] at hm hb hl h1L h1R hn r2
    have ascL := asc_app hL
    have ascR := asc_app hR
    refine (rot_stage P L1 L2 R1 R2 Q _ _ _ _ (by omega) (by omega) (by omega) (by omega)).trans ?_
    refine (rec_stage rec P L1 R1 (L2 ++ (R2 ++ Q)) _ _ _ _ _ rfl (by omega) (by omega) (by omega) (fun x y => hrec P L1 R1 (L2 ++ (R2 ++ Q)) ascL.1 ascR.1 x y (by omega) (by simp only [List.length_append]; omega))).trans ?_
    have ml := mrg_length L1 R1
    refine (rec_stage rec (P ++ mrg L1 R1) L2 R2 Q _ _ _ _ _ (by simp) (by rw [List.length_append]; omega) (by rw [List.length_append]; omega) (by rw [List.length_append]; omega) (fun x y => hrec (P ++ mrg L1 R1) L2 R2 Q ascL.2 ascR.2 x y (by omega) (by simp only [List.length_append]; omega))).trans ?_
    rw [mrg_split L1 R1 L2 R2 s1 s2]
    simp
  by_cases hc : mid < m
  · rw [decide_eq_true (by omega : (m : Int) > (mid : Int)), cond_true, w64 (x := (mid : Int) + (m : Int) - (b : Int)) (by omega) (by omega)]
    refine key _ _ _ _ (by rw [if_pos hc]; omega) (by rw [if_pos hc]) (fun c c1 c2 c3 c4 s1 s2 => ?_)
    exact main c c1 c2 c3 c4 s1 s2 _ rfl
  · rw [decide_eq_false (by omega : ¬ (m : Int) > (mid : Int)), cond_false]
    refine key _ _ _ _ (by rw [if_neg hc]) (by rw [if_neg hc]) (fun c c1 c2 c3 c4 s1 s2 => ?_)
    exact main c c1 c2 c3 c4 s1 s2 _ rfl

theorem f79_eq : ∀ (n : Nat) (P L R Q : List Due), Asc L → Asc R → 0 < L.length → 0 < R.length → L.length + R.length ≤ n → P.length + L.length + R.length + Q.length < 1000000 →
      f79 n (P ++ (L ++ (R ++ Q))) (P.length : Int) ((P.length + L.length : Nat) : Int) ((P.length + L.length + R.length : Nat) : Int) = some (P ++ (mrg L R ++ Q)) := by
  intro n
  induction n with
  | zero => intro P L R Q _ _ h1 h2 h; omega
  | succ n ih =>
    intro P L R Q hL hR h1 h2 hn hl
    show f79s (f79 n) _ _ _ _ = _
    by_cases e1 : L.length = 1
    · obtain ⟨z, rfl⟩ := len_one e1
      exact f79_l (f79 n) P R Q z hR h2 (by simp only [List.length_singleton] at hl; omega)
    · by_cases e2 : R.length = 1
      · obtain ⟨z, rfl⟩ := len_one e2
        exact f79_r (f79 n) P L Q z hL (by omega) (by simp only [List.length_singleton] at hl; omega)
      · exact f79_m (f79 n) n ih P L R Q hL hR (by omega) (by omega) hn hl
end Go.Proofs.Ytpionlekbfoccaa
set_option maxRecDepth 10000
namespace Go.Proofs.Ytpionlekbfoccaa
open Go Go.Sk

theorem letk_eq {α β : Sort _} (k : α) (f : α → β) : letk k f = f k := rfl
/-- x comes in before the first one that is later. -/
def insU (x : Due) : List Due → List Due
  | [] => [x]
  | z :: L => if x.time < z.time then x :: z :: L else z :: insU x L
theorem insU_append_le (x : Due) : ∀ (A B : List Due), (∀ a ∈ A, ¬ x.time < a.time) → insU x (A ++ B) = A ++ insU x B
  | [], B, _ => rfl
  | a :: A, B, h => by
    rw [List.cons_append, insU, if_neg (h a List.mem_cons_self), insU_append_le x A B (fun a ha => h a (List.mem_cons_of_mem _ ha))]
    rfl
theorem insU_gt (x : Due) : ∀ (B : List Due), (∀ b ∈ B, x.time < b.time) → insU x B = x :: B
  | [], _ => rfl
  | b :: B, h => by rw [insU, if_pos (h b List.mem_cons_self)]
/-- an ascending list's cut by a time -/
theorem asc_cut (t : Int) : ∀ (L : List Due), Asc L → ∃ A B, L = A ++ B ∧ (∀ a ∈ A, ¬ t < a.time) ∧ (∀ b ∈ B, t < b.time)
  | [], _ => ⟨[], [], rfl, fun a h => by simp at h, fun a h => by simp at h⟩
  | z :: L, h => by
    have hp := List.pairwise_cons.1 h
    by_cases c : t < z.time
    · refine ⟨[], z :: L, rfl, fun a h => by simp at h, fun b hb => ?_⟩
      rcases List.mem_cons.1 hb with e | e
      · rw [e]; exact c
      · exact Int.lt_of_lt_of_le c (hp.1 b e)
    · obtain ⟨A, B, h1, h2, h3⟩ := asc_cut t L hp.2
      refine ⟨z :: A, B, by rw [h1]; rfl, fun a ha => ?_, h3⟩
      rcases List.mem_cons.1 ha with e | e
      · rw [e]; exact c
      · exact h2 a e
theorem insU_cut (x : Due) (A B : List Due) (h1 : ∀ a ∈ A, ¬ x.time < a.time) (h2 : ∀ b ∈ B, x.time < b.time) : insU x (A ++ B) = A ++ x :: B := by
  rw [insU_append_le x A B h1, insU_gt x B h2]
theorem downR_app (y : Due) : ∀ (B A : List Due), (∀ b ∈ B, y.time < b.time) → downR y (B ++ A) = downR y A ++ B.reverse
  | [], A, _ => by simp
  | b :: B, A, h => by
    rw [List.cons_append, downR, if_pos (h b List.mem_cons_self), downR_app y B A (fun b hb => h b (List.mem_cons_of_mem _ hb))]
    simp
theorem downR_le (y : Due) : ∀ (A : List Due), (∀ a ∈ A, ¬ y.time < a.time) → downR y A = A.reverse ++ [y]
  | [], _ => rfl
  | a :: A, h => by rw [downR, if_neg (h a List.mem_cons_self)]
theorem downR_insU (x : Due) (L : List Due) (h : Asc L) : downR x L.reverse = insU x L := by
  obtain ⟨A, B, rfl, h1, h2⟩ := asc_cut x.time L h
  rw [insU_cut x A B h1 h2, List.reverse_append, downR_app x _ _ (fun b hb => h2 b (List.mem_reverse.1 hb)), downR_le x _ (fun a ha => h1 a (List.mem_reverse.1 ha))]
  simp
theorem insU_asc (x : Due) (L : List Due) (h : Asc L) : Asc (insU x L) := by
  obtain ⟨A, B, rfl, h1, h2⟩ := asc_cut x.time L h
  rw [insU_cut x A B h1 h2]
  have hp := List.pairwise_append.1 h
  refine List.pairwise_append.2 ⟨hp.1, List.pairwise_cons.2 ⟨fun b hb => Int.le_of_lt (h2 b hb), hp.2.1⟩, fun a ha b hb => ?_⟩
  rcases List.mem_cons.1 hb with e | e
  · rw [e]; exact Int.not_lt.1 (h1 a ha)
  · exact hp.2.2 a ha b e
/-- the merge of the two halves -/
theorem mrg_insU (A B : List Due) (x : Due) (h : Asc (A ++ B)) : mrg A (insU x B) = insU x (A ++ B) := by
  have hp := List.pairwise_append.1 h
  have m0 : ∀ (X Y : List Due), (∀ a ∈ X, ∀ b ∈ Y, ¬ b.time < a.time) → mrg X Y = X ++ Y := fun X Y hh => by
    have := mrg_split X [] [] Y hh (fun r hr => by simp at hr)
    simpa [mrg_nil, mrg_nr] using this
  obtain ⟨A1, A2, rfl, h1, h2⟩ := asc_cut x.time A hp.1
  by_cases e : A2 = []
  · subst e
    rw [List.append_nil] at *
    rw [insU_append_le x A1 B h1]
    refine m0 _ _ (fun a ha b hb => ?_)
    obtain ⟨B1, B2, rfl, g1, g2⟩ := asc_cut x.time B hp.2.1
    rw [insU_cut x B1 B2 g1 g2] at hb
    rcases List.mem_append.1 hb with hb | hb
    · exact Int.not_lt.2 (hp.2.2 a ha b (List.mem_append_left _ hb))
    · rcases List.mem_cons.1 hb with hb | hb
      · rw [hb]; exact h1 a ha
      · exact Int.not_lt.2 (hp.2.2 a ha b (List.mem_append_right _ hb))
  · obtain ⟨y, hy⟩ : ∃ y, y ∈ A2 := by
      cases A2 with
      | nil => exact absurd rfl e
      | cons y A2 => exact ⟨y, List.mem_cons_self⟩
    have hB : ∀ b ∈ B, x.time < b.time := fun b hb => Int.lt_of_lt_of_le (h2 y hy) (hp.2.2 y (List.mem_append_right _ hy) b hb)
    rw [insU_gt x B hB, List.append_assoc, insU_append_le x A1 _ h1, insU_gt x (A2 ++ B) (fun b hb => by
      rcases List.mem_append.1 hb with hb | hb
      · exact h2 b hb
      · exact hB b hb)]
    have s1 := mrg_split A1 [] A2 (x :: B) (fun l hl r hr => by
      rcases List.mem_cons.1 hr with hr | hr
      · rw [hr]; exact h1 l hl
      · have := hp.2.2 l (List.mem_append_left _ hl) r hr; omega) (fun r hr => by simp at hr)
    have s2 := mrg_split [] [x] A2 B (fun l hl => by simp at hl) (fun r hr l hl => by rw [List.mem_singleton.1 hr]; exact h2 l hl)
    rw [List.nil_append, mrg_nr] at s1
    simp only [List.nil_append, mrg_nil, List.cons_append] at s2
    rw [s1, s2, m0 A2 B (fun a ha b hb => Int.not_lt.2 (hp.2.2 a (List.mem_append_right _ ha) b hb))]

theorem f78_l1_asc (a b : Nat) (P R : List Due) (hP : P.length = a) : ∀ (S T : List Due) (n : Nat) (i : Int), Asc (T ++ S) → i = ((a + T.length : Nat) : Int) → 0 < T.length → b = a + T.length + S.length → S.length < n → a + T.length + S.length < 1000000 →
    f78_l1 (a : Int) (b : Int) n i (P ++ ((T ++ S) ++ R)) = some (P ++ ((T ++ S) ++ R)) := by
  intro S
  induction S with
  | nil =>
    intro T n i hA hi h0 hb hn hl
    obtain ⟨n, rfl⟩ : ∃ m, n = m + 1 := ⟨n - 1, by simp at hn; omega⟩
    subst hi
    rw [List.length_nil] at hb
    rw [f78_l1, decide_eq_false (by omega), cond_false]
  | cons s S ih =>
    intro T n i hA hi h0 hb hn hl
    simp only [List.length_cons] at hb hn hl
    obtain ⟨n, rfl⟩ : ∃ m, n = m + 1 := ⟨n - 1, by omega⟩
    subst hi
    have hT : ∀ t ∈ T.reverse, ¬ s.time < t.time := fun t ht => Int.not_lt.2 ((List.pairwise_append.1 hA).2.2 t (List.mem_reverse.1 ht) s List.mem_cons_self)
    rw [f78_l1, decide_eq_true (by omega), cond_true]
    unfold letk
    have e : P ++ ((T ++ s :: S) ++ R) = P ++ ((T.reverse).reverse ++ s :: (S ++ R)) := by simp
    obtain ⟨F, hF⟩ : ∃ F : Nat, F = 9223372036854775808 := ⟨_, rfl⟩
    rw [← hF, e]
    dsimp only
    rw [f78_l2_eq a _ P hP s T.reverse F _ (S ++ R) (by rw [List.length_reverse]) (by rw [List.length_reverse]; omega) (by rw [List.length_reverse]; omega)]
    rw [downR_le s _ hT, List.reverse_reverse, w64 (by omega) (by omega)]
    have := ih (T ++ [s]) n (((a + T.length : Nat) : Int) + 1) (by simpa using hA) (by simp; omega) (by simp) (by simp; omega) (by omega) (by simp; omega)
    simpa using this
/-- an ascending block with one more at its end -/
theorem f78_l1_one (a b : Nat) (P R : List Due) (x : Due) (hP : P.length = a) : ∀ (S T : List Due) (n : Nat) (i : Int), Asc (T ++ S) → i = ((a + T.length : Nat) : Int) → 0 < T.length → b = a + T.length + S.length + 1 → S.length + 1 < n → a + T.length + S.length < 1000000 →
    f78_l1 (a : Int) (b : Int) n i (P ++ ((T ++ S) ++ (x :: R))) = some (P ++ (insU x (T ++ S) ++ R)) := by
  intro S
  induction S with
  | nil =>
    intro T n i hA hi h0 hb hn hl
    obtain ⟨n, rfl⟩ : ∃ m, n = m + 2 := ⟨n - 2, by simp at hn; omega⟩
    subst hi
    rw [List.length_nil] at hb
    rw [f78_l1, decide_eq_true (by omega), cond_true]
    unfold letk
    have e : P ++ ((T ++ []) ++ x :: R) = P ++ ((T.reverse).reverse ++ x :: R) := by simp
    obtain ⟨F, hF⟩ : ∃ F : Nat, F = 9223372036854775808 := ⟨_, rfl⟩
    rw [← hF, e]
    dsimp only
    rw [f78_l2_eq a _ P hP x T.reverse F _ R (by rw [List.length_reverse]) (by rw [List.length_reverse]; omega) (by rw [List.length_reverse]; omega)]
    rw [downR_insU x T (asc_app hA).1, w64 (by omega) (by omega)]
    rw [f78_l1, decide_eq_false (by omega), cond_false, List.append_nil]
  | cons s S ih =>
    intro T n i hA hi h0 hb hn hl
    simp only [List.length_cons] at hb hn hl
    obtain ⟨n, rfl⟩ : ∃ m, n = m + 1 := ⟨n - 1, by omega⟩
    subst hi
    have hT : ∀ t ∈ T.reverse, ¬ s.time < t.time := fun t ht => Int.not_lt.2 ((List.pairwise_append.1 hA).2.2 t (List.mem_reverse.1 ht) s List.mem_cons_self)
    rw [f78_l1, decide_eq_true (by omega), cond_true]
    unfold letk
    have e : P ++ ((T ++ s :: S) ++ x :: R) = P ++ ((T.reverse).reverse ++ s :: (S ++ x :: R)) := by simp
    obtain ⟨F, hF⟩ : ∃ F : Nat, F = 9223372036854775808 := ⟨_, rfl⟩
    rw [← hF, e]
    dsimp only
    rw [f78_l2_eq a _ P hP s T.reverse F _ (S ++ x :: R) (by rw [List.length_reverse]) (by rw [List.length_reverse]; omega) (by rw [List.length_reverse]; omega)]
    rw [downR_le s _ hT, List.reverse_reverse, w64 (by omega) (by omega)]
    have := ih (T ++ [s]) n (((a + T.length : Nat) : Int) + 1) (by simpa using hA) (by simp; omega) (by simp) (by simp; omega) (by omega) (by simp; omega)
    simpa using this
theorem f78_end (a b : Nat) (X : List Due) (h : b ≤ a + 1) (hl : a < 1000000) : f78 X (a : Int) (b : Int) = some X := by
  unfold f78
  obtain ⟨F, hF⟩ : ∃ F : Nat, 9223372036854775808 = F + 1 := ⟨_, rfl⟩
  rw [hF, w64 (by omega) (by omega), f78_l1, decide_eq_false (by omega), cond_false]
theorem f78_asc (a b : Nat) (P L R : List Due) (hP : P.length = a) (hA : Asc L) (hb : b = a + L.length) (hl : b < 1000000) : f78 (P ++ (L ++ R)) (a : Int) (b : Int) = some (P ++ (L ++ R)) := by
  cases L with
  | nil => exact f78_end a b _ (by rw [List.length_nil] at hb; omega) (by omega)
  | cons l L =>
    unfold f78
    rw [List.length_cons] at hb
    obtain ⟨F, hF⟩ : ∃ F : Nat, F = 9223372036854775808 := ⟨_, rfl⟩
    rw [← hF, w64 (by omega) (by omega)]
    exact f78_l1_asc a b P R hP L [l] F _ hA (by simp) (by simp) (by simp; omega) (by omega) (by simp; omega)
theorem f78_one (a b : Nat) (P L R : List Due) (x : Due) (hP : P.length = a) (hA : Asc L) (hb : b = a + L.length + 1) (hl : b < 1000000) : f78 (P ++ (L ++ x :: R)) (a : Int) (b : Int) = some (P ++ (insU x L ++ R)) := by
  cases L with
  | nil =>
    rw [f78_end a b _ (by rw [List.length_nil] at hb; omega) (by omega)]
    rfl
  | cons l L =>
    unfold f78
    rw [List.length_cons] at hb
    obtain ⟨F, hF⟩ : ∃ F : Nat, F = 9223372036854775808 := ⟨_, rfl⟩
    rw [← hF, w64 (by omega) (by omega)]
    exact f78_l1_one a b P R x hP L [l] F _ hA (by simp) (by simp) (by simp; omega) (by omega) (by simp; omega)
theorem insU_length (x : Due) : ∀ L : List Due, (insU x L).length = L.length + 1
  | [] => rfl
  | z :: L => by
    rw [insU]; split
    · rfl
    · rw [List.length_cons, insU_length x L]; rfl
theorem f36_eq (L : List Due) (x : Due) (h : Asc L) (hl : L.length ≤ 32) : f36 (L ++ [x]) = some (insU x L) := by
  have hlen : (L ++ [x]).length = L.length + 1 := by simp
  unfold f36 f68 letk
  rw [hlen]
  obtain ⟨F, hF⟩ : ∃ F : Nat, 9223372036854775808 = F + 3 := ⟨_, rfl⟩
  rw [hF]
  dsimp only
  by_cases c : L.length < 19
  · rw [f68_l1, decide_eq_false (by omega), cond_false]
    have := f78_one 0 (L.length + 1) [] L [] x rfl h (by omega) (by omega)
    simp only [List.nil_append, List.append_nil] at this
    rw [show ((0 : Nat) : Int) = 0 from rfl] at this
    rw [this, Option.bind_some, f68_l2, decide_eq_false (by omega), cond_false, Option.bind_some]
  · by_cases c2 : L.length = 19
    · rw [f68_l1, decide_eq_true (by omega), cond_true]
      have := f78_one 0 20 [] L [] x rfl h (by omega) (by omega)
      simp only [List.nil_append, List.append_nil] at this
      rw [show ((0 : Nat) : Int) = 0 from rfl, show ((20 : Nat) : Int) = 20 from rfl] at this
      rw [this, Option.bind_some, w64 (by omega) (by omega), f68_l1, decide_eq_false (by omega), cond_false]
      have := f78_end 20 (L.length + 1) (insU x L) (by omega) (by omega)
      rw [show ((20 : Nat) : Int) = 20 from rfl] at this
      rw [this, Option.bind_some, f68_l2, decide_eq_false (by omega), cond_false, Option.bind_some]
    · have aL : L = L.take 20 ++ L.drop 20 := (List.take_append_drop _ _).symm
      have l1 : (L.take 20).length = 20 := by rw [List.length_take]; omega
      have l2 : (L.drop 20).length = L.length - 20 := List.length_drop
      generalize L.take 20 = A at aL l1
      generalize L.drop 20 = B at aL l2
      subst aL
      have hAB := asc_app h
      rw [List.length_append] at *
      rw [f68_l1, decide_eq_true (by omega), cond_true]
      have e1 := f78_asc 0 20 [] A (B ++ [x]) rfl hAB.1 (by omega) (by omega)
      rw [show ((0 : Nat) : Int) = 0 from rfl, show ((20 : Nat) : Int) = 20 from rfl, List.nil_append, ← List.append_assoc] at e1
      rw [e1, Option.bind_some, w64 (by omega) (by omega), f68_l1, decide_eq_false (by omega), cond_false]
      have e2 := f78_one 20 (A.length + B.length + 1) A B [] x l1 hAB.2 (by omega) (by omega)
      rw [show ((20 : Nat) : Int) = 20 from rfl, List.append_nil, ← List.append_assoc] at e2
      rw [e2, Option.bind_some, f68_l2, decide_eq_true (by omega), cond_true]
      obtain ⟨F2, hF2⟩ : ∃ F2 : Nat, 9223372036854775808 = F2 + 1 := ⟨_, rfl⟩
      rw [hF2, w64 (x := 2 * 20) (by omega) (by omega)]
      rw [letk_eq, f68_l3]
      rw [decide_eq_false (by omega), cond_false, letk_eq, w64 (x := 0 + 20) (by omega) (by omega), decide_eq_true (by omega), cond_true]
      have e3 := f79_eq 64 [] A (insU x B) [] hAB.1 (insU_asc x B hAB.2) (by omega) (by rw [insU_length]; omega) (by rw [insU_length]; omega) (by rw [insU_length]; simp; omega)
      simp only [List.nil_append, List.append_nil, List.length_nil, Nat.zero_add, insU_length] at e3
      have e4 : ∀ x1 x2 x3 : Int, x1 = 0 → x2 = (A.length : Int) → x3 = ((A.length + (B.length + 1) : Nat) : Int) → f79 64 (A ++ insU x B) x1 x2 x3 = some (mrg A (insU x B)) := fun x1 x2 x3 h1 h2 h3 => by
        rw [h1, h2, h3]; exact e3
      rw [e4 _ _ _ rfl (by omega) (by omega), Option.bind_some, w64 (by omega) (by omega)]
      show (f68_l2 _ (F + 2) _ _).bind _ = _
      rw [f68_l2, decide_eq_false (by omega), cond_false, Option.bind_some, mrg_insU A B x h]
end Go.Proofs.Ytpionlekbfoccaa
set_option maxRecDepth 10000
namespace Go.Proofs.Ytpionlekbfoccaa
open Go Go.Sk

def okD : List Due → Int → List (Int × Bool) → Bool
  | [], _, _ => true
  | x :: d, a, m => f30 x.task && (!(inM m x.task)) && decide (a ≤ x.time) && decide (x.time ≤ 9007199254740992) && okD d x.time (mpPut m x.task true)
theorem f10_l3_eq (q : Queues) (hl : q.delays.length < 9223372036854775808) : ∀ (n i : Nat) (z a : Int) (m : List (Int × Bool)), z = (i : Int) → q.delays.length < n + i → i ≤ q.delays.length →
    f10_l3 q (fun _ => some true) n a z m = some (okD (q.delays.drop i) a m)
  | 0, i, z, a, m, hz, hn, hi => by omega
  | n + 1, i, z, a, m, hz, hn, hi => by
    subst hz
    rw [f10_l3]
    by_cases hh : i < q.delays.length
    · rw [decide_eq_true (by omega : (i : Int) < (q.delays.length : Int)), cond_true, idx_in hh, Option.bind_some, w64 (by omega) (by omega), drop_cons hh, okD]
      rw [f10_l3_eq q hl n (i + 1) ((i : Int) + 1) _ _ (by push_cast; rfl) (by omega) (by omega)]
      show (bif (((!(f30 _)) || inM m _) || _) || _ then _ else _) = _
      cases h1 : f30 (q.delays[i]).task
      · rfl
      · cases h2 : inM m (q.delays[i]).task
        · by_cases h3 : a ≤ (q.delays[i]).time
          · rw [decide_eq_false (by omega : ¬ (q.delays[i]).time < a), decide_eq_true h3]
            by_cases h4 : (q.delays[i]).time ≤ 9007199254740992
            · rw [decide_eq_false (by omega : ¬ (q.delays[i]).time > 9007199254740992), decide_eq_true h4]
              simp
            · rw [decide_eq_true (by omega : (q.delays[i]).time > 9007199254740992), decide_eq_false h4]
              simp
          · rw [decide_eq_true (by omega : (q.delays[i]).time < a), decide_eq_false h3]
            simp
        · rfl
    · rw [decide_eq_false (by omega : ¬ (i : Int) < (q.delays.length : Int)), cond_false, List.drop_eq_nil_of_le (by omega)]
      rfl

/-- The delay queue is valid. -/
structure DOk (d : List Due) : Prop where
  num : ∀ x ∈ d, 0 ≤ x.task ∧ x.task < 32
  nd : (d.map Due.task).Nodup
  asc : Asc d
  tm : ∀ x ∈ d, 0 ≤ x.time ∧ x.time ≤ 9007199254740992
theorem okD_iff : ∀ (d : List Due) (a : Int) (m : List (Int × Bool)), okD d a m = true ↔ (∀ x ∈ d, 0 ≤ x.task ∧ x.task < 32) ∧ (d.map Due.task).Nodup ∧ Asc d ∧ (∀ x ∈ d, a ≤ x.time ∧ x.time ≤ 9007199254740992) ∧ ∀ x ∈ d, inM m x.task = false
  | [], a, m => by simp [okD, Asc]
  | x :: d, a, m => by
    rw [okD]
    simp only [Bool.and_eq_true, okD_iff d, f30_iff, inM_put, List.mem_cons, List.map_cons, List.nodup_cons, Bool.or_eq_false_iff, decide_eq_false_iff_not, Bool.not_eq_true', forall_eq_or_imp, decide_eq_true_eq, Asc, List.pairwise_cons, List.mem_map, not_exists, not_and]
    constructor
    · rintro ⟨⟨⟨⟨h1, h2⟩, h3⟩, h4⟩, h5, h6, h7, h8, h9⟩
      exact ⟨⟨h1, h5⟩, ⟨fun y hy e => (h9 y hy).1 e.symm, h6⟩, ⟨fun y hy => (h8 y hy).1, h7⟩, ⟨⟨h3, h4⟩, fun y hy => ⟨Int.le_trans h3 (h8 y hy).1, (h8 y hy).2⟩⟩, h2, fun y hy => (h9 y hy).2⟩
    · rintro ⟨⟨h1, h5⟩, ⟨h9, h6⟩, ⟨h10, h7⟩, ⟨⟨h3, h4⟩, h8⟩, h2, h11⟩
      exact ⟨⟨⟨⟨h1, h2⟩, h3⟩, h4⟩, h5, h6, h7, fun y hy => ⟨h10 y hy, (h8 y hy).2⟩, fun y hy => ⟨fun e => h9 y hy e.symm, h11 y hy⟩⟩
theorem DQ_eq (d : List Due) (hl : d.length < 9223372036854775808) : DQ d = some (okD d 0 []) :=
  f10_l3_eq ⟨fun _ => [], d, 0⟩ hl _ 0 _ _ _ rfl (by simp) (by simp)
theorem DQ_iff (d : List Due) (hl : d.length < 9223372036854775808) : DQ d = some true ↔ DOk d := by
  rw [DQ_eq d hl, Option.some.injEq, okD_iff]
  exact ⟨fun ⟨a, b, c, e, _⟩ => ⟨a, b, c, e⟩, fun ⟨a, b, c, e⟩ => ⟨a, b, c, e, fun _ _ => rfl⟩⟩
theorem Ok.dok {q : Queues} (h : Ok q) : DOk q.delays := (DQ_iff _ h.b.d).1 h.d
theorem DOk.len {d : List Due} (h : DOk d) : d.length ≤ 32 := by
  have := nodup_len 32 _ h.nd (fun x hx => by
    obtain ⟨y, hy, rfl⟩ := List.mem_map.1 hx
    exact h.num y hy)
  simpa using this
theorem Ok.set_d {q : Queues} (h : Ok q) {d : List Due} (hd : DOk d) : Ok ⟨q.ready, d, q.run⟩ := by
  have hl := hd.len
  exact Ok.mk2 ⟨h.r.run, h.r.num, h.r.nd, h.r.ap, h.r.out⟩ (show d.length < _ by omega) ((DQ_iff d (by omega)).2 hd)

/-! ### Put -/
theorem f77_eq (L : List Due) (x : Int) (hl : L.length < 9223372036854775808) : ∀ (n i : Nat) (z : Int), z = (i : Int) → i ≤ L.length → L.length < n + i → ∃ r, f77_l1 L (fun z0 => some (f67 z0 x)) (fun _ => some (-1)) n z = some r ∧ (0 ≤ r ↔ ∃ d ∈ L.drop i, d.task = x)
  | 0, i, z, _, _, h => by omega
  | n + 1, i, z, hz, hi, h => by
    subst hz
    rw [f77_l1]
    by_cases hh : i < L.length
    · rw [decide_eq_true (by omega : (i : Int) < (L.length : Int)), cond_true, idx_in hh, Option.bind_some, w64 (by omega) (by omega), drop_cons hh, Option.bind_some]
      unfold f67
      by_cases e : (L[i]).task = x
      · rw [decide_eq_true e, cond_true]
        exact ⟨_, rfl, ⟨fun _ => ⟨_, List.mem_cons_self, e⟩, fun _ => by omega⟩⟩
      · rw [decide_eq_false e, cond_false]
        obtain ⟨r, h1, h2⟩ := f77_eq L x hl n (i + 1) ((i : Int) + 1) (by push_cast; rfl) (by omega) (by omega)
        refine ⟨r, h1, h2.trans ?_⟩
        constructor
        · rintro ⟨d, a, b⟩; exact ⟨d, List.mem_cons_of_mem _ a, b⟩
        · rintro ⟨d, a, b⟩
          rcases List.mem_cons.1 a with a | a
          · exact absurd (by rw [← a]; exact b) e
          · exact ⟨d, a, b⟩
    · have hd : L.drop i = [] := List.drop_eq_nil_of_le (by omega)
      rw [decide_eq_false (by omega : ¬ (i : Int) < (L.length : Int)), cond_false, hd]
      exact ⟨_, rfl, by simp⟩
def waits (d : List Due) (x : Int) : Bool := d.any (fun y => decide (y.task = x))
theorem waits_iff (d : List Due) (x : Int) : waits d x = true ↔ ∃ y ∈ d, y.task = x := by simp [waits]
theorem f35_eq (q : Queues) (x : Int) (hl : q.delays.length < 9223372036854775808) : f35 q x = some (waits q.delays x) := by
  unfold f35 f66 f77 letk
  dsimp only
  obtain ⟨r, h1, h2⟩ := f77_eq q.delays x hl (Int.toNat ((List.length q.delays : Int) - 0) + 1) 0 0 rfl (by omega) (by simp)
  rw [h1, Option.bind_some, Option.bind_some]
  rw [List.drop_zero] at h2
  congr 1
  by_cases e : 0 ≤ r
  · rw [decide_eq_true e]; exact ((waits_iff _ _).2 (h2.1 e)).symm
  · rw [decide_eq_false e]
    cases hw : waits q.delays x with
    | false => rfl
    | true => exact absurd (h2.2 ((waits_iff _ _).1 hw)) e
theorem insU_mem (x : Due) : ∀ (L : List Due) (y : Due), y ∈ insU x L ↔ y = x ∨ y ∈ L
  | [], y => by simp [insU]
  | z :: L, y => by
    rw [insU]
    split
    · simp
    · rw [List.mem_cons, insU_mem x L y, List.mem_cons]
      constructor <;> rintro (h | h | h) <;> simp [h]
theorem insU_perm (x : Due) : ∀ (L : List Due), (insU x L).Perm (x :: L)
  | [] => List.Perm.refl _
  | z :: L => by
    rw [insU]
    split
    · exact List.Perm.refl _
    · exact ((insU_perm x L).cons z).trans (List.Perm.swap x z L)
theorem put_dok {d : List Due} (h : DOk d) {x : Due} (h1 : 0 ≤ x.task ∧ x.task < 32) (h2 : 0 ≤ x.time ∧ x.time ≤ 9007199254740992) (h3 : waits d x.task = false) : DOk (insU x d) := by
  have hn : x.task ∉ d.map Due.task := fun hm => by
    obtain ⟨y, hy, e⟩ := List.mem_map.1 hm
    have : waits d x.task = true := (waits_iff _ _).2 ⟨y, hy, e⟩
    rw [h3] at this; cases this
  refine ⟨fun y hy => ?_, ?_, insU_asc x d h.asc, fun y hy => ?_⟩
  · rcases (insU_mem x d y).1 hy with e | e
    · rw [e]; exact h1
    · exact h.num y e
  · exact (((insU_perm x d).map Due.task).nodup_iff).2 (by rw [List.map_cons, List.nodup_cons]; exact ⟨hn, h.nd⟩)
  · rcases (insU_mem x d y).1 hy with e | e
    · rw [e]; exact h2
    · exact h.tm y e
/-- Put on valid queues. -/
theorem putq_eq {q : Queues} (h : Ok q) (time task : Int) : f17 q time task = some (
    if (0 ≤ task ∧ task < 32) ∧ 0 ≤ time ∧ time ≤ 9007199254740992 then (if waits q.delays task then (⟨fun _ => [], [], 0⟩, 7) else (⟨q.ready, insU ⟨time, task⟩ q.delays, q.run⟩, 0)) else (⟨fun _ => [], [], 0⟩, 2)) := by
  unfold f17
  rw [h.may, Option.bind_some, Bool.not_true, Bool.false_or]
  by_cases h1 : 0 ≤ task ∧ task < 32
  · rw [(f30_iff task).2 h1, Bool.not_true, Bool.false_or]
    by_cases h2 : 0 ≤ time ∧ time ≤ 9007199254740992
    · rw [decide_eq_false (by omega : ¬ time < 0), decide_eq_false (by omega : ¬ time > 9007199254740992), Bool.or_false, cond_false, f35_eq q task h.b.d, Option.bind_some, if_pos ⟨h1, h2⟩]
      cases hw : waits q.delays task with
      | true => rfl
      | false =>
        have hl := h.dok.len
        rw [cond_false, guardB_t _ h.own, guardB_t _ (by simp [appOk, maxLen]; omega), f36_eq q.delays ⟨time, task⟩ h.dok.asc hl, Option.bind_some]
        rfl
    · rw [if_neg (fun a => h2 a.2)]
      by_cases h3 : time < 0
      · rw [decide_eq_true h3]; rfl
      · rw [decide_eq_true (by omega : time > 9007199254740992), Bool.or_true]; rfl
  · rw [if_neg (fun a => h1 a.1)]
    have : f30 task = false := by
      cases hf : f30 task with
      | false => rfl
      | true => exact absurd ((f30_iff _).1 hf) h1
    rw [this]; rfl
end Go.Proofs.Ytpionlekbfoccaa
set_option maxRecDepth 10000
namespace Go.Proofs.Ytpionlekbfoccaa
open Go Go.Sk

def strikeD (x : Int) (L : List Due) : List Due := L.filter (fun y => !decide (y.task = x))
theorem f18_l2_eq (x : Int) (k : Int → List Due → Option (Queues × Int)) : ∀ (n i j : Nat) (a b : Int) (l : List Due), a = (i : Int) → b = (j : Int) → i < j → j ≤ l.length → l.length < n + j → l.length < 9223372036854775808 →
    ∃ (i' : Nat) (l' : List Due), f18_l2 x k n a b l = k (i' : Int) l' ∧ i' ≤ l'.length ∧ l'.length = l.length ∧ l'.take i' = l.take i ++ strikeD x (l.drop j)
  | 0, i, j, a, b, l, _, _, _, _, h, _ => by omega
  | n + 1, i, j, a, b, l, ha, hb, hij, hj, h, hl => by
    subst ha; subst hb
    rw [f18_l2]
    by_cases hh : j < l.length
    · rw [decide_eq_true (by omega : (j : Int) < (l.length : Int)), cond_true]
      unfold letk
      dsimp only
      rw [idx_in hh, Option.bind_some, idx_in (show i < l.length by omega), Option.bind_some, w64 (x := (j : Int) + 1) (by omega) (by omega), w64 (x := (i : Int) + 1) (by omega) (by omega), Int.toNat_natCast, drop_cons hh]
      by_cases e : (l[j]).task = x
      · rw [decide_eq_true e, Bool.not_true, cond_false]
        obtain ⟨i', l', h1, h2, h3, h4⟩ := f18_l2_eq x k n i (j + 1) _ ((j : Int) + 1) l rfl (by push_cast; rfl) (by omega) (by omega) (by omega) hl
        refine ⟨i', l', h1, h2, h3, h4.trans ?_⟩
        unfold strikeD
        rw [List.filter_cons, if_neg (by simp [e])]
      · rw [decide_eq_false e, Bool.not_false, cond_true]
        obtain ⟨i', l', h1, h2, h3, h4⟩ := f18_l2_eq x k n (i + 1) (j + 1) ((i : Int) + 1) ((j : Int) + 1) (l.set i l[j]) (by push_cast; rfl) (by push_cast; rfl) (by omega) (by simp; omega) (by simp; omega) (by simpa using hl)
        refine ⟨i', l', h1, h2, by simpa using h3, h4.trans ?_⟩
        have e1 : (l.set i l[j]).take (i + 1) = l.take i ++ [l[j]] := by
          apply List.ext_getElem?
          intro m
          rw [List.getElem?_take]
          by_cases hm : m < i
          · rw [if_pos (by omega), List.getElem?_set_ne (by omega), List.getElem?_append_left (by simp; omega), List.getElem?_take, if_pos hm]
          · by_cases hm2 : m = i
            · subst hm2
              rw [if_pos (by omega), List.getElem?_set_self (by omega), List.getElem?_append_right (by simp; omega), List.length_take, Nat.min_eq_left (by omega), Nat.sub_self]
              rfl
            · rw [if_neg (by omega), List.getElem?_append_right (by simp; omega), List.length_take]
              exact (List.getElem?_eq_none (by simp; omega)).symm
        have e2 : (l.set i l[j]).drop (j + 1) = l.drop (j + 1) := by
          apply List.ext_getElem?
          intro m
          rw [List.getElem?_drop, List.getElem?_drop, List.getElem?_set_ne (by omega)]
        rw [e1, e2, List.append_assoc]
        unfold strikeD
        rw [List.filter_cons, if_pos (by simp [e])]
        rfl
    · have hd : l.drop j = [] := List.drop_eq_nil_of_le (by omega)
      rw [decide_eq_false (by omega : ¬ (j : Int) < (l.length : Int)), cond_false, hd]
      exact ⟨i, l, rfl, by omega, rfl, by simp [strikeD]⟩

theorem f18_l1_eq (x : Int) (L : List Due) (k64 : Int → Option (Queues × Int)) (k65 : Unit → Option (Queues × Int)) (hl : L.length < 9223372036854775808) : ∀ (n i : Nat) (z : Int), z = (i : Int) → i ≤ L.length → L.length < n + i → (∃ y ∈ L.drop i, y.task = x) →
    ∃ m, i ≤ m ∧ ∃ hm : m < L.length, (L[m]).task = x ∧ (∀ y ∈ (L.take m).drop i, y.task ≠ x) ∧ f18_l1 x L k64 k65 n z = k64 (m : Int)
  | 0, i, z, _, _, h, _ => by omega
  | n + 1, i, z, hz, hi, h, hx => by
    subst hz
    by_cases hh : i < L.length
    · rw [f18_l1, decide_eq_true (by omega : (i : Int) < (L.length : Int)), cond_true, idx_in hh, Option.bind_some]
      unfold letk
      dsimp only
      by_cases e : (L[i]).task = x
      · rw [decide_eq_true e, cond_true]
        exact ⟨i, Nat.le_refl i, hh, e, (fun y hy => by rw [List.drop_eq_nil_of_le (by simp; omega)] at hy; cases hy), rfl⟩
      · rw [decide_eq_false e, cond_false, w64 (by omega) (by omega)]
        rw [drop_cons hh] at hx
        obtain ⟨y, hy, ey⟩ := hx
        have hx2 : ∃ y ∈ L.drop (i + 1), y.task = x := by
          rcases List.mem_cons.1 hy with hy | hy
          · exact absurd (by rw [← hy]; exact ey) e
          · exact ⟨y, hy, ey⟩
        obtain ⟨m, h1, h2, h3, h4, h5⟩ := f18_l1_eq x L k64 k65 hl n (i + 1) ((i : Int) + 1) (by push_cast; rfl) (by omega) (by omega) hx2
        refine ⟨m, by omega, h2, h3, fun y hy => ?_, h5⟩
        have hlt : i < (L.take m).length := by simp; omega
        rw [drop_cons hlt, List.mem_cons] at hy
        rcases hy with hy | hy
        · rw [hy]; simpa using e
        · exact h4 y hy
    · rw [List.drop_eq_nil_of_le (by omega)] at hx
      obtain ⟨y, hy, _⟩ := hx
      cases hy

theorem strikeD_id {x : Int} {L : List Due} (h : ∀ y ∈ L, y.task ≠ x) : strikeD x L = L := by
  unfold strikeD
  rw [List.filter_eq_self]
  intro y hy
  simp [h y hy]
theorem strikeD_at {x : Int} {L : List Due} {m : Nat} (hm : m < L.length) (e : (L[m]).task = x) (h : ∀ y ∈ L.take m, y.task ≠ x) : L.take m ++ strikeD x (L.drop (m + 1)) = strikeD x L := by
  conv => rhs; rw [← List.take_append_drop m L]
  rw [drop_cons hm]
  have h1 := strikeD_id h
  unfold strikeD at h1 ⊢
  rw [List.filter_append, h1, List.filter_cons, if_neg (by simp [e])]
theorem strikeD_dok {d : List Due} (h : DOk d) (x : Int) : DOk (strikeD x d) where
  num y hy := h.num y (List.mem_filter.1 hy).1
  nd := by
    have : ((strikeD x d).map Due.task).Sublist (d.map Due.task) := (List.filter_sublist).map _
    exact this.nodup h.nd
  asc := h.asc.filter _
  tm y hy := h.tm y (List.mem_filter.1 hy).1

/-- Cancel on valid queues. -/
theorem cancel_eq {q : Queues} (h : Ok q) (x : Int) : f18 q x = some (
    if 0 ≤ x ∧ x < 32 then (if waits q.delays x then (⟨q.ready, strikeD x q.delays, q.run⟩, 0) else (⟨fun _ => [], [], 0⟩, 6)) else (⟨fun _ => [], [], 0⟩, 2)) := by
  have hl : q.delays.length < 9223372036854775808 := h.b.d
  unfold f18
  rw [h.may, Option.bind_some, Bool.not_true, Bool.false_or]
  by_cases h1 : 0 ≤ x ∧ x < 32
  · rw [(f30_iff x).2 h1, Bool.not_true, cond_false, f35_eq q x hl, Option.bind_some, if_pos h1]
    cases hw : waits q.delays x with
    | false => rfl
    | true =>
      have e0 : O.f32 q = some q := by unfold O.f32; rw [guardB_t _ h.own]
      have e1 : O.f61o q.delays = some q.delays := by
        unfold O.f61o
        rw [guardB_t]
        have := h.dok.len
        simp [appOk, maxLen] <;> omega
      rw [Bool.not_true, cond_false, e0, Option.bind_some]
      unfold letk
      dsimp only
      rw [e1, Option.bind_some]
      obtain ⟨m, _, h2, h3, h4, h5⟩ := f18_l1_eq x q.delays _ (fun _ => _) hl (Int.toNat ((List.length q.delays : Int) - 0) + 1) 0 0 rfl (by omega) (by simp) (by simpa using (waits_iff _ _).1 hw)
      rw [h5]
      rw [List.drop_zero] at h4
      rw [decide_eq_false (show ¬ (m : Int) = -1 by omega), cond_false, w64 (by omega) (by omega)]
      obtain ⟨i', l', g1, g2, g3, g4⟩ := f18_l2_eq x (fun iq52 l53 => guardB (sliceOk l53 iq52 (List.length l53 : Int)) <|
  guardB (pieceOk l53 (Int.toNat iq52) (Int.toNat (List.length l53 : Int) - Int.toNat iq52)) <|
  guardB (sliceOk (clearF l53 (Int.toNat iq52) (Int.toNat (List.length l53 : Int) - Int.toNat iq52) ((Due.mk 0 0) : Due)) 0 iq52) <|
  some ((Queues.mk q.ready (sliceF (clearF l53 (Int.toNat iq52) (Int.toNat (List.length l53 : Int) - Int.toNat iq52) ((Due.mk 0 0) : Due)) 0 iq52) q.run), 0)) 9223372036854775808 m (m + 1) (m : Int) ((m : Int) + 1) q.delays rfl (by push_cast; rfl) (by omega) (by omega) (by omega) hl
      refine Eq.trans g1 ?_
      rw [strikeD_at h2 h3 h4] at g4
      have hcl : (clearF l' i' (l'.length - i') ((Due.mk 0 0) : Due)).length = l'.length := by simp [clearF]; omega
      have t1 : sliceOk l' (i' : Int) (List.length l' : Int) = true := by simp [sliceOk]; omega
      have t2 : pieceOk l' i' (l'.length - i') = true := by simp [pieceOk]; omega
      have t3 : sliceOk (clearF l' i' (l'.length - i') ((Due.mk 0 0) : Due)) 0 (i' : Int) = true := by simp [sliceOk, hcl]; omega
      have t4 : sliceF (clearF l' i' (l'.length - i') ((Due.mk 0 0) : Due)) 0 (i' : Int) = strikeD x q.delays := by
        rw [← g4]
        show ((l'.take i' ++ (List.replicate (l'.length - i') _ ++ l'.drop (i' + (l'.length - i')))).drop 0).take (i' - 0) = _
        rw [Nat.sub_zero, List.drop_zero, List.take_append_of_le_length (by simp; omega), List.take_take, Nat.min_self]
      rw [guardB_t _ t1]
      simp only [Int.toNat_natCast]
      rw [guardB_t _ t2, guardB_t _ t3, t4]
      rfl
  · rw [if_neg h1]
    have : f30 x = false := by
      cases hf : f30 x with
      | false => rfl
      | true => exact absurd ((f30_iff _).1 hf) h1
    rw [this]; rfl

/-! ### Expire -/
def due (now : Int) (y : Due) : Bool := decide (y.time ≤ now)
theorem f19_l1_eq (now : Int) (q : Queues) (k : Int → List Int → Option (Queues × List Int × Int)) (hl : q.delays.length ≤ 32) : ∀ (n i : Nat) (z : Int) (l : List Int), z = (i : Int) → i ≤ q.delays.length → q.delays.length < n + i → l.length ≤ i →
    f19_l1 now q k n z l = k ((i + ((q.delays.drop i).takeWhile (due now)).length : Nat) : Int) (l ++ ((q.delays.drop i).takeWhile (due now)).map Due.task)
  | 0, i, z, l, _, _, h, _ => by omega
  | n + 1, i, z, l, hz, hi, h, hll => by
    subst hz
    rw [f19_l1]
    by_cases hh : i < q.delays.length
    · rw [decide_eq_true (by omega : (i : Int) < (q.delays.length : Int)), cond_true, idx_in hh, Option.bind_some, Option.bind_some, drop_cons hh, List.takeWhile_cons]
      unfold due
      by_cases e : (q.delays[i]).time ≤ now
      · rw [decide_eq_true e, cond_true, Option.bind_some, guardB_t _ (by simp [appOk, maxLen]; omega), w64 (by omega) (by omega)]
        rw [f19_l1_eq now q k hl n (i + 1) ((i : Int) + 1) _ (by push_cast; rfl) (by omega) (by omega) (by simp; omega)]
        unfold due
        simp only [if_true, List.length_cons, List.map_cons, List.append_assoc, List.cons_append, List.nil_append]
        congr 1
        omega
      · rw [decide_eq_false e, cond_false]
        simp
    · rw [decide_eq_false (by omega : ¬ (i : Int) < (q.delays.length : Int)), cond_false, Option.bind_some, cond_false, List.drop_eq_nil_of_le (by omega)]
      simp
theorem drop_tw {α : Type} (p : α → Bool) : ∀ L : List α, L.drop (L.takeWhile p).length = L.dropWhile p
  | [] => rfl
  | x :: L => by
    rw [List.takeWhile_cons, List.dropWhile_cons]
    split
    · rw [List.length_cons, List.drop_succ_cons, drop_tw p L]
    · rfl
theorem expire_eq {q : Queues} (h : Ok q) (now : Int) : f19 q now = some (⟨q.ready, q.delays.dropWhile (due now), q.run⟩, (q.delays.takeWhile (due now)).map Due.task, 0) := by
  have hl := h.dok.len
  have e0 : O.f32 q = some q := by unfold O.f32; rw [guardB_t _ h.own]
  have htw : (q.delays.takeWhile (due now)).length ≤ q.delays.length := (List.takeWhile_sublist _).length_le
  unfold f19
  rw [h.may, Option.bind_some, Bool.not_true, cond_false, e0, Option.bind_some]
  obtain ⟨F, hF⟩ : ∃ F : Nat, F = 9223372036854775808 := ⟨_, rfl⟩
  rw [← hF, letk_eq, f19_l1_eq now q _ hl F 0 0 [] rfl (by omega) (by omega) (by simp)]
  rw [List.drop_zero, Nat.zero_add, guardB_t _ (by simp [sliceOk]; omega)]
  have : sliceF q.delays ((q.delays.takeWhile (due now)).length : Int) (q.delays.length : Int) = q.delays.dropWhile (due now) := by
    unfold sliceF
    rw [Int.toNat_natCast, Int.toNat_natCast, List.take_of_length_le (by simp), drop_tw]
  rw [this]
  rfl
theorem first_eq {q : Queues} (h : Ok q) : f20 q = some (match q.delays with | [] => (0, false) | x :: _ => (x.time, true)) := by
  unfold f20
  rw [h.may, Option.bind_some, Bool.not_true, Bool.false_or]
  cases hd : q.delays with
  | nil => rfl
  | cons x L =>
    rw [decide_eq_false (by simp only [List.length_cons]; omega), cond_false]
    have := idx_in (L := x :: L) (i := 0) (by simp)
    rw [show ((0 : Nat) : Int) = 0 from rfl] at this
    rw [this, Option.bind_some]
    rfl
end Go.Proofs.Ytpionlekbfoccaa
set_option maxRecDepth 10000
namespace Go.Proofs.Ytpionlekbfoccaa
open Go Go.Sk

def LE2 (a b : Due) : Prop := a.time < b.time ∨ (a.time = b.time ∧ a.task < b.task)
def Lx (d : List Due) : Prop := d.Pairwise LE2
def lt2 (b s : Int) (y : Due) : Prop := b < y.time ∨ (b = y.time ∧ s < y.task)
def can (c i : Int) : Bool := decide ((IntKind.u32.wrap (BitVec.ofInt IntKind.u32.bits (Int.fdiv c (2 ^ min (Int.toNat (IntKind.u64.wrap i)) IntKind.u32.bits)) &&& BitVec.ofInt IntKind.u32.bits 1).toNat) = 1)
theorem shc_u64 (i : Int) : shc (IntKind.u64.wrap i) = true := by
  have : IntKind.u64.wrap i = i % 18446744073709551616 := rfl
  unfold shc
  rw [this]
  exact decide_eq_true (by omega)
/-- an entry of the list of times -/
def Ent (ts : List Int) (y : Due) : Prop := ∃ j, ∃ h : j < ts.length, y = ⟨ts[j], (j : Int)⟩
theorem lx_ins {d : List Due} (h : Lx d) (ha : Asc d) (x : Due) (hx : ∀ y ∈ d, y.task < x.task) : Lx (insU x d) := by
  obtain ⟨A, B, rfl, h1, h2⟩ := asc_cut x.time d ha
  rw [insU_cut x A B h1 h2]
  have hp := List.pairwise_append.1 h
  refine List.pairwise_append.2 ⟨hp.1, List.pairwise_cons.2 ⟨fun b hb => .inl (h2 b hb), hp.2.1⟩, fun a ha b hb => ?_⟩
  rcases List.mem_cons.1 hb with e | e
  · rw [e]
    have g1 := h1 a ha
    have g2 := hx a (List.mem_append_left _ ha)
    unfold LE2; omega
  · exact hp.2.2 a ha b e
theorem strikeD_len {x : Int} : ∀ {d : List Due}, (d.map Due.task).Nodup → waits d x = true → (strikeD x d).length + 1 = d.length
  | [], _, h => by simp [waits] at h
  | y :: d, hn, hw => by
    rw [List.map_cons, List.nodup_cons] at hn
    unfold strikeD
    rw [List.filter_cons]
    by_cases e : y.task = x
    · rw [if_neg (by simp [e])]
      have : strikeD x d = d := strikeD_id (fun z hz ez => hn.1 (List.mem_map.2 ⟨z, hz, by rw [ez, e]⟩))
      unfold strikeD at this
      rw [this]; rfl
    · rw [if_pos (by simp [e])]
      have hw2 : waits d x = true := by
        obtain ⟨z, hz, ez⟩ := (waits_iff _ _).1 hw
        rcases List.mem_cons.1 hz with a | a
        · exact absurd (by rw [← a]; exact ez) e
        · exact (waits_iff _ _).2 ⟨z, a, ez⟩
      have := strikeD_len hn.2 hw2
      unfold strikeD at this
      simp only [List.length_cons]; omega

theorem f4_l1_eq (ts : List Int) (hN : ts.length ≤ 32) (ht : ∀ t ∈ ts, 0 ≤ t ∧ t ≤ 65535) (k : (Nat → List Int) → List Due → Int → Option Bool) (v : Option Bool)
    (hk : ∀ q, Ok q → Lx q.delays → q.delays.length = ts.length → (∀ y, y ∈ q.delays ↔ Ent ts y) → k q.ready q.delays q.run = v) :
    ∀ (n i : Nat) (z : Int) (q : Queues), z = (i : Int) → i ≤ ts.length → ts.length < n + i → Ok q → Lx q.delays → q.delays.length = i → (∀ y, y ∈ q.delays ↔ ∃ j, j < i ∧ ∃ h : j < ts.length, y = ⟨ts[j], (j : Int)⟩) →
      f4_l1 ts k n z q.ready q.delays q.run = v
  | 0, i, z, q, _, _, h, _, _, _, _ => by omega
  | n + 1, i, z, q, hz, hi, h, ho, hx, hlen, hm => by
    subst hz
    rw [f4_l1]
    by_cases hh : i < ts.length
    · have htt := ht ts[i] (List.getElem_mem hh)
      rw [decide_eq_true (by omega : (i : Int) < (ts.length : Int)), cond_true, idx_in hh, Option.bind_some, w64 (by omega) (by omega)]
      have hw : waits q.delays (i : Int) = false := by
        cases hw : waits q.delays (i : Int) with
        | false => rfl
        | true =>
          obtain ⟨y, hy, e⟩ := (waits_iff _ _).1 hw
          obtain ⟨j, hj, h2, rfl⟩ := (hm y).1 hy
          simp only at e
          omega
      have hp := putq_eq ho ts[i] (i : Int)
      rw [if_pos ⟨⟨by omega, by omega⟩, by omega, by omega⟩, hw] at hp
      have e1 : Queues.mk q.ready q.delays q.run = q := rfl
      rw [e1, hp]
      simp only [Option.bind_some, Bool.false_eq_true, if_false]
      rw [decide_eq_true trivial, Bool.not_true, cond_false, w64 (by omega) (by omega)]
      have hd := put_dok ho.dok (x := ⟨ts[i], (i : Int)⟩) ⟨by simp only; omega, by simp only; omega⟩ ⟨by simp only; omega, by simp only; omega⟩ hw
      refine f4_l1_eq ts hN ht k v hk n (i + 1) _ ⟨q.ready, insU ⟨ts[i], (i : Int)⟩ q.delays, q.run⟩ (by push_cast; rfl) (by omega) (by omega) (ho.set_d hd) (lx_ins hx ho.dok.asc _ (fun y hy => ?_)) ?_ (fun y => ?_)
      · obtain ⟨j, hj, h2, rfl⟩ := (hm y).1 hy
        simp only; omega
      · show (insU _ q.delays).length = _
        rw [insU_length, hlen]
      · show y ∈ insU _ q.delays ↔ _
        rw [insU_mem, hm y]
        constructor
        · rintro (rfl | ⟨j, h1, h2, rfl⟩)
          · exact ⟨i, by omega, hh, rfl⟩
          · exact ⟨j, by omega, h2, rfl⟩
        · rintro ⟨j, h1, h2, rfl⟩
          by_cases e : j = i
          · subst e; exact .inl rfl
          · exact .inr ⟨j, by omega, h2, rfl⟩
    · rw [decide_eq_false (by omega : ¬ (i : Int) < (ts.length : Int)), cond_false]
      refine hk q ho hx (by omega) (fun y => (hm y).trans ?_)
      constructor
      · rintro ⟨j, _, h2, e⟩; exact ⟨j, h2, e⟩
      · rintro ⟨j, h2, e⟩; exact ⟨j, by omega, h2, e⟩

theorem f4_l2_eq (ts : List Int) (c : Int) (hN : ts.length ≤ 32) (k : Int → (Nat → List Int) → List Due → Int → Option Bool) (v : Option Bool)
    (hk : ∀ q, Ok q → Lx q.delays → (∀ y ∈ q.delays, Ent ts y ∧ can c y.task = false) → k (q.delays.length : Int) q.ready q.delays q.run = v) :
    ∀ (n i : Nat) (z left : Int) (q : Queues), z = (i : Int) → i ≤ ts.length → ts.length < n + i → Ok q → Lx q.delays → left = (q.delays.length : Int) → (∀ y, y ∈ q.delays ↔ ∃ j, ∃ h : j < ts.length, y = ⟨ts[j], (j : Int)⟩ ∧ ¬ (j < i ∧ can c (j : Int) = true)) →
      f4_l2 ts c k n left z q.ready q.delays q.run = v
  | 0, i, z, left, q, _, _, h, _, _, _, _ => by omega
  | n + 1, i, z, left, q, hz, hi, h, ho, hx, hlen, hm => by
    subst hz
    rw [f4_l2]
    by_cases hh : i < ts.length
    · rw [decide_eq_true (by omega : (i : Int) < (ts.length : Int)), cond_true, letk_eq, guardB_t _ (shc_u64 _)]
      change (bif can c (i : Int) then _ else _) = v
      cases hc : can c (i : Int) with
      | false =>
        rw [cond_false, w64 (by omega) (by omega)]
        refine f4_l2_eq ts c hN k v hk n (i + 1) _ left q (by push_cast; rfl) (by omega) (by omega) ho hx hlen (fun y => (hm y).trans ?_)
        constructor
        · rintro ⟨j, h1, e, g⟩
          refine ⟨j, h1, e, fun a => ?_⟩
          by_cases ej : j = i
          · subst ej; rw [hc] at a; exact absurd a.2 (by decide)
          · exact g ⟨by omega, a.2⟩
        · rintro ⟨j, h1, e, g⟩
          exact ⟨j, h1, e, fun a => g ⟨by omega, a.2⟩⟩
      | true =>
        have hw : waits q.delays (i : Int) = true := (waits_iff _ _).2 ⟨⟨ts[i], (i : Int)⟩, (hm _).2 ⟨i, hh, rfl, fun a => by omega⟩, rfl⟩
        have hp := cancel_eq ho (i : Int)
        rw [if_pos ⟨by omega, by omega⟩, hw] at hp
        have e1 : Queues.mk q.ready q.delays q.run = q := rfl
        have hsl := strikeD_len ho.dok.nd hw
        rw [cond_true, e1, hp]
        simp only [Option.bind_some, if_true]
        have hll := ho.dok.len
        rw [decide_eq_true trivial, Bool.not_true, cond_false, w64 (x := left - 1) (by omega) (by omega), w64 (x := (i : Int) + 1) (by omega) (by omega)]
        refine f4_l2_eq ts c hN k v hk n (i + 1) _ _ ⟨q.ready, strikeD (i : Int) q.delays, q.run⟩ (by push_cast; rfl) (by omega) (by omega) (ho.set_d (strikeD_dok ho.dok _)) (hx.filter _) (by show left - 1 = ((strikeD _ _).length : Int); omega) (fun y => ?_)
        show y ∈ strikeD _ _ ↔ _
        unfold strikeD
        rw [List.mem_filter, hm y]
        constructor
        · rintro ⟨⟨j, h1, rfl, g⟩, f⟩
          refine ⟨j, h1, rfl, fun a => ?_⟩
          by_cases ej : j = i
          · subst ej; simp at f
          · exact g ⟨by omega, a.2⟩
        · rintro ⟨j, h1, rfl, g⟩
          refine ⟨⟨j, h1, rfl, fun a => g ⟨by omega, a.2⟩⟩, ?_⟩
          have : ¬ (j : Int) = (i : Int) := fun e => g ⟨by omega, by rw [e]; exact hc⟩
          simp only [decide_eq_false this, Bool.not_false]
    · rw [decide_eq_false (by omega : ¬ (i : Int) < (ts.length : Int)), cond_false, hlen]
      refine hk q ho hx (fun y hy => ?_)
      obtain ⟨j, h1, rfl, g⟩ := (hm y).1 hy
      refine ⟨⟨j, h1, rfl⟩, ?_⟩
      cases hc : can c (j : Int) with
      | false => rfl
      | true => exact absurd ⟨by omega, hc⟩ g

theorem f4_l4_eq (ts : List Int) (c now iq now2 : Int) (r : Queues × List Int × Int) (k : Int → Int → Option Bool) (W : List Due) (hW : r.2.1 = W.map Due.task) (hl : W.length ≤ 32) (ht : ∀ t ∈ ts, 0 ≤ t ∧ t ≤ 65535)
    (he : ∀ y ∈ W, Ent ts y ∧ can c y.task = false) (h1 : ∀ y ∈ W, y.time ≤ now2) (h2 : iq > 0 → ∀ y ∈ W, now < y.time) (hx : Lx W) :
    ∀ (n i : Nat) (z b s : Int), z = (i : Int) → i ≤ W.length → W.length < n + i → (∀ y ∈ W.drop i, lt2 b s y) →
      ∃ b' s', f4_l4 ts c now iq now2 r k n b s z = k b' s' ∧ ∀ y, (∀ x ∈ W.drop i, LE2 x y) → lt2 b s y → lt2 b' s' y
  | 0, i, z, b, s, _, _, h, _ => by omega
  | n + 1, i, z, b, s, hz, hi, h, hb => by
    subst hz
    have hlW : r.2.1.length = W.length := by rw [hW, List.length_map]
    rw [f4_l4]
    by_cases hh : i < W.length
    · have hy := List.getElem_mem hh
      obtain ⟨⟨j, hj, ey⟩, hcan⟩ := he _ hy
      have hix : idx r.2.1 (i : Int) = some (j : Int) := by
        rw [hW, idx_in (by rw [List.length_map]; exact hh), List.getElem_map, ey]
      have htime : (W[i]).time = ts[j] := by rw [ey]
      have htask : (W[i]).task = (j : Int) := by rw [ey]
      rw [htask] at hcan
      have htt := ht ts[j] (List.getElem_mem hj)
      have g1 := h1 _ hy
      rw [htime] at g1
      have hd : W.drop i = W[i] :: W.drop (i + 1) := drop_cons hh
      have g3 := hb W[i] (by rw [hd]; exact List.mem_cons_self)
      unfold lt2 at g3
      rw [htime, htask] at g3
      rw [decide_eq_true (by omega : (i : Int) < (r.2.1.length : Int)), cond_true, hix]
      simp only [Option.bind_some]
      rw [decide_eq_false (by omega : ¬ (j : Int) < 0), cond_false, Option.bind_some, decide_eq_false (by omega : ¬ (j : Int) ≥ (ts.length : Int)), cond_false, guardB_t _ (shc_u64 _), Option.bind_some]
      change ∃ b' s', (bif can c (j : Int) then _ else _) = _ ∧ _
      rw [hcan, cond_false, idx_in hj, Option.bind_some, w64 (x := ts[j]) (by omega) (by omega)]
      have c1 : ((decide (ts[j] > now2) || (decide (iq > 0) && decide (ts[j] ≤ now))) || decide (ts[j] < b)) = false := by
        rw [decide_eq_false (by omega : ¬ ts[j] > now2), decide_eq_false (by omega : ¬ ts[j] < b)]
        by_cases hq : iq > 0
        · have := h2 hq _ hy
          rw [htime] at this
          rw [decide_eq_false (by omega : ¬ ts[j] ≤ now)]; simp
        · rw [decide_eq_false hq]; rfl
      have c2 : ∀ kk : Bool → Option Bool, Option.bind (bif decide (ts[j] = b) then some (decide ((j : Int) < s)) else some false) kk = kk false := by
        intro kk
        by_cases e : ts[j] = b
        · rw [decide_eq_true e, cond_true, decide_eq_false (by omega : ¬ (j : Int) < s)]; rfl
        · rw [decide_eq_false e]; rfl
      rw [c1, cond_false, c2, Option.bind_some, cond_false, w64 (by omega) (by omega)]
      have hp := List.pairwise_cons.1 (show (W[i] :: W.drop (i + 1)).Pairwise LE2 by rw [← hd]; exact hx.drop)
      obtain ⟨b', s', e1, e2⟩ := f4_l4_eq ts c now iq now2 r k W hW hl ht he h1 h2 hx n (i + 1) ((i : Int) + 1) ts[j] (j : Int) (by push_cast; rfl) (by omega) (by omega) (fun y hy => by
        have := hp.1 y hy
        unfold LE2 at this
        rw [htime, htask] at this
        exact this)
      refine ⟨b', s', e1, fun y hyy hb2 => e2 y (fun x hx => hyy x (by rw [hd]; exact List.mem_cons_of_mem _ hx)) ?_⟩
      have := hyy W[i] (by rw [hd]; exact List.mem_cons_self)
      unfold LE2 at this
      rw [htime, htask] at this
      exact this
    · rw [decide_eq_false (by omega : ¬ (i : Int) < (r.2.1.length : Int)), cond_false]
      exact ⟨b, s, rfl, fun y _ a => a⟩
end Go.Proofs.Ytpionlekbfoccaa
set_option maxRecDepth 10000
namespace Go.Proofs.Ytpionlekbfoccaa
open Go Go.Sk

theorem tw_le {now : Int} : ∀ {d : List Due}, ∀ y ∈ d.takeWhile (due now), y.time ≤ now
  | [], y, h => by simp at h
  | x :: d, y, h => by
    rw [List.takeWhile_cons] at h
    split at h
    · rename_i hx
      rcases List.mem_cons.1 h with e | e
      · rw [e]; simpa [due] using hx
      · exact tw_le y e
    · simp at h
theorem dw_gt {now : Int} : ∀ {d : List Due}, Asc d → ∀ y ∈ d.dropWhile (due now), now < y.time
  | [], _, y, h => by simp at h
  | x :: d, ha, y, h => by
    rw [List.dropWhile_cons] at h
    have hp := List.pairwise_cons.1 ha
    split at h
    · exact dw_gt hp.2 y h
    · rename_i hx
      have hx : ¬ x.time ≤ now := by simpa [due] using hx
      rcases List.mem_cons.1 h with e | e
      · rw [e]; omega
      · have := hp.1 y e; omega
theorem dw_dok {d : List Due} (h : DOk d) (now : Int) : DOk (d.dropWhile (due now)) where
  num y hy := h.num y ((List.dropWhile_suffix _).subset hy)
  nd := (((List.dropWhile_sublist (due now) (l := d))).map Due.task).nodup h.nd
  asc := List.Pairwise.sublist (List.dropWhile_sublist _) h.asc
  tm y hy := h.tm y ((List.dropWhile_suffix _).subset hy)

theorem f4_l3_eq (ts steps : List Int) (c : Int) (hN : ts.length ≤ 32) (hS : steps.length ≤ 100) (ht : ∀ t ∈ ts, 0 ≤ t ∧ t ≤ 65535) (hs : ∀ t ∈ steps, 0 ≤ t ∧ t ≤ 65535) (k : Int → (Nat → List Int) → List Due → Int → Option Bool) (v : Option Bool)
    (hk : ∀ F d r, k 0 F d r = v) :
    ∀ (n i : Nat) (z left now b s : Int) (q : Queues), z = (i : Int) → i ≤ steps.length + 1 → steps.length + 1 < n + i → Ok q → Lx q.delays → left = (q.delays.length : Int) → (∀ y ∈ q.delays, Ent ts y ∧ can c y.task = false) →
      (i > 0 → ∀ y ∈ q.delays, now < y.time) → (∀ y ∈ q.delays, lt2 b s y) → 0 ≤ now → now ≤ 1048576 + 65535 * i → (i = steps.length + 1 → q.delays = []) →
      f4_l3 ts c steps k n left now b s z q.ready q.delays q.run = v
  | 0, i, z, left, now, b, s, q, _, _, h, _, _, _, _, _, _, _, _, _ => by omega
  | n + 1, i, z, left, now, b, s, q, hz, hi, h, ho, hx, hlen, he, hn, hb, h0, h1, hend => by
    subst hz
    rw [f4_l3]
    by_cases hh : i ≤ steps.length
    · rw [decide_eq_true (by omega : (i : Int) ≤ (steps.length : Int)), cond_true]
      have body : ∀ now2 : Int, 0 ≤ now2 → now2 ≤ 1048576 + 65535 * (i + 1 : Nat) → (i = steps.length → now2 = 1048576) →
          (Option.bind (f19 (Queues.mk q.ready q.delays q.run) now2) fun r307 =>
            (bif ((!decide (r307.2.2 = 0)) || (!decide ((IntKind.i64.wrap ((List.length r307.1.delays : Int) + (List.length r307.2.1 : Int))) = left))) then some false else letk (fun (before308 : Int) (seen309 : Int) =>
            Option.bind (f20 r307.1) fun r332 =>
            (bif ((!(r332.2 == (decide ((List.length r307.1.delays : Int) > 0)))) || (r332.2 && (decide (r332.1 ≤ now2)))) then some false else (f4_l3 ts c steps k n (List.length r307.1.delays : Int) now2 before308 seen309 (IntKind.i64.wrap ((i : Int) + 1)) r307.1.ready r307.1.delays r307.1.run))) fun k310 =>
            (f4_l4 ts c now (i : Int) now2 r307 k310 9223372036854775808 b s 0))) = v := by
        intro now2 g0 g1 g2
        have hll := ho.dok.len
        have hsplit : (q.delays.dropWhile (due now2)).length + (q.delays.takeWhile (due now2)).length = q.delays.length := by
          conv => rhs; rw [← List.takeWhile_append_dropWhile (p := due now2) (l := q.delays)]
          rw [List.length_append]; omega
        have e1 : Queues.mk q.ready q.delays q.run = q := rfl
        rw [e1, expire_eq ho now2, Option.bind_some]
        generalize hr : ((⟨q.ready, q.delays.dropWhile (due now2), q.run⟩, (q.delays.takeWhile (due now2)).map Due.task, 0) : Queues × List Int × Int) = r
        have r1 : r.1 = ⟨q.ready, q.delays.dropWhile (due now2), q.run⟩ := by rw [← hr]
        have r2 : r.2.1 = (q.delays.takeWhile (due now2)).map Due.task := by rw [← hr]
        have r3 : r.2.2 = 0 := by rw [← hr]
        have hq2 : Ok r.1 := by rw [r1]; exact ho.set_d (dw_dok ho.dok now2)
        have rd : r.1.delays = q.delays.dropWhile (due now2) := by rw [r1]
        have htw : ∀ y ∈ q.delays.takeWhile (due now2), y ∈ q.delays := fun y hy => (List.takeWhile_prefix _).subset hy
        have hdw : ∀ y ∈ q.delays.dropWhile (due now2), y ∈ q.delays := fun y hy => (List.dropWhile_suffix _).subset hy
        have hgt := dw_gt (now := now2) ho.dok.asc
        rw [r3, decide_eq_true rfl, Bool.not_true, Bool.false_or, r2, rd, List.length_map, w64 (by omega) (by omega), decide_eq_true (by omega), Bool.not_true, cond_false, letk_eq]
        obtain ⟨b', s', e2, e3⟩ := f4_l4_eq ts c now (i : Int) now2 r (fun (before308 : Int) (seen309 : Int) =>
            Option.bind (f20 r.1) fun r332 =>
            (bif ((!(r332.2 == (decide ((List.length (q.delays.dropWhile (due now2)) : Int) > 0)))) || (r332.2 && (decide (r332.1 ≤ now2)))) then some false else (f4_l3 ts c steps k n (List.length (q.delays.dropWhile (due now2)) : Int) now2 before308 seen309 (IntKind.i64.wrap ((i : Int) + 1)) r.1.ready (q.delays.dropWhile (due now2)) r.1.run)))
          (q.delays.takeWhile (due now2)) r2 (by omega) ht (fun y hy => he y (htw y hy)) tw_le (fun hq y hy => hn (by omega) y (htw y hy)) (List.Pairwise.sublist (List.takeWhile_sublist _) hx) 9223372036854775808 0 0 b s rfl (by omega) (by omega) (fun y hy => hb y (htw y (by simpa using hy)))
        rw [e2]
        have hb' : ∀ y ∈ q.delays.dropWhile (due now2), lt2 b' s' y := fun y hy => e3 y (fun x hxx => by
          have hxx : x ∈ q.delays.takeWhile (due now2) := by simpa using hxx
          have hp := hx
          unfold Lx at hp
          rw [← List.takeWhile_append_dropWhile (p := due now2) (l := q.delays)] at hp
          exact (List.pairwise_append.1 hp).2.2 x hxx y hy) (hb y (hdw y hy))
        have hcond : ∃ t o, f20 r.1 = some (t, o) ∧ ((!(o == (decide ((List.length (q.delays.dropWhile (due now2)) : Int) > 0)))) || (o && (decide (t ≤ now2)))) = false := by
          have hf := first_eq hq2
          rw [rd] at hf
          cases hdd : q.delays.dropWhile (due now2) with
          | nil => rw [hdd] at hf; exact ⟨_, _, hf, by rfl⟩
          | cons y L =>
            rw [hdd] at hf
            refine ⟨_, _, hf, ?_⟩
            have := hgt y (by rw [hdd]; exact List.mem_cons_self)
            rw [decide_eq_false (by omega : ¬ y.time ≤ now2), decide_eq_true (by rw [List.length_cons]; omega)]
            rfl
        obtain ⟨t, o, e4, e5⟩ := hcond
        rw [e4, Option.bind_some]
        dsimp only
        rw [e5, cond_false, w64 (by omega) (by omega)]
        have := f4_l3_eq ts steps c hN hS ht hs k v hk n (i + 1) ((i : Int) + 1) (List.length (q.delays.dropWhile (due now2)) : Int) now2 b' s' r.1 (by push_cast; rfl) (by omega) (by omega) hq2 (by rw [rd]; exact List.Pairwise.sublist (List.dropWhile_sublist _) hx) (by rw [rd]) (fun y hy => he y (hdw y (by rw [← rd]; exact hy))) (fun _ y hy => hgt y (by rw [← rd]; exact hy)) (fun y hy => hb' y (by rw [← rd]; exact hy)) g0 g1 (fun hi2 => by
          rw [rd]
          have hnow := g2 (by omega)
          cases hdd : q.delays.dropWhile (due now2) with
          | nil => rfl
          | cons y L =>
            exfalso
            have hm : y ∈ q.delays.dropWhile (due now2) := by rw [hdd]; exact List.mem_cons_self
            have g3 := hgt y hm
            obtain ⟨⟨j, hj, rfl⟩, _⟩ := he y (hdw y hm)
            have g4 := ht ts[j] (List.getElem_mem hj)
            simp only at g3
            omega)
        rw [rd] at this
        exact this
      by_cases hlt : i < steps.length
      · have hst := hs steps[i] (List.getElem_mem hlt)
        rw [letk_eq, letk_eq, decide_eq_true (by omega : (i : Int) < (steps.length : Int)), cond_true, idx_in hlt, Option.bind_some, w64 (x := steps[i]) (by omega) (by omega), w64 (x := now + steps[i]) (by omega) (by omega)]
        exact body _ (by omega) (by push_cast; omega) (fun e => by omega)
      · rw [letk_eq, letk_eq, decide_eq_false (by omega : ¬ (i : Int) < (steps.length : Int)), cond_false]
        exact body _ (by omega) (by omega) (fun _ => rfl)
    · rw [decide_eq_false (by omega : ¬ (i : Int) ≤ (steps.length : Int)), cond_false, hlen, hend (by omega)]
      exact hk _ _ _

theorem law4 (ts : List Int) (c : Int) (steps : List Int) (hts : (∀ t ∈ ts, 0 ≤ t ∧ t ≤ 65535) ∧ ts.length < 9223372036854775808) (hsts : (∀ t ∈ steps, 0 ≤ t ∧ t ≤ 65535) ∧ steps.length < 9223372036854775808) : f4 ts c steps = some true := by
  obtain ⟨ht, hl⟩ := hts
  obtain ⟨hs, hl2⟩ := hsts
  rw [f4, f11_true]
  by_cases h1 : ts.length ≤ 32
  · by_cases h2 : steps.length ≤ 100
    · rw [decide_eq_false (by omega : ¬ (ts.length : Int) > 32), decide_eq_false (by omega : ¬ (steps.length : Int) > 100), Bool.or_false, cond_false]
      have hok0 : Ok f16 := Ok.mk2 ⟨.inl rfl, (fun j x _ h => by cases h), (fun j _ => List.nodup_nil), (fun j k x _ _ h => by cases h), (fun j _ h => by cases h)⟩ (by decide) (by decide)
      rw [letk_eq]
      refine f4_l1_eq ts h1 ht _ _ (fun q g1 g2 g3 g4 => ?_) 9223372036854775808 0 0 f16 rfl (by omega) (by omega) hok0 List.Pairwise.nil rfl (fun y => by
        constructor
        · intro h; cases h
        · rintro ⟨j, a, _⟩; omega)
      refine (letk_eq _ _).trans ?_
      refine f4_l2_eq ts c h1 _ _ (fun q g1 g2 g3 => ?_) 9223372036854775808 0 0 _ q rfl (by omega) (by omega) g1 g2 (by rw [g3]) (fun y => (g4 y).trans ?_)
      · refine (letk_eq _ _).trans ?_
        refine f4_l3_eq ts steps c h1 h2 ht hs _ _ (fun F d r => ?_) 9223372036854775808 0 0 _ 0 (-1) (-1) q rfl (by omega) (by omega) g1 g2 rfl g3 (fun h => by omega) (fun y hy => ?_) (by omega) (by omega) (fun h => by omega)
        · rfl
        · have := (g1.dok.tm y hy).1
          left; omega
      · unfold Ent
        constructor
        · rintro ⟨j, hj, e⟩; exact ⟨j, hj, e, fun a => by omega⟩
        · rintro ⟨j, hj, e, _⟩; exact ⟨j, hj, e⟩
    · rw [decide_eq_true (by omega : (steps.length : Int) > 100), Bool.or_true]; rfl
  · rw [decide_eq_true (by omega : (ts.length : Int) > 32)]; rfl
end Go.Proofs.Ytpionlekbfoccaa
