/- Layer 29: QueueTop. -/
import Derived.Test.YtpionlekbfoccaaL
set_option maxRecDepth 10000
namespace Go.Proofs.Ytpionlekbfoccaa
open Go Go.Sk

theorem f9_l1_tot (q : Queues) (k : Int → Option Bool) (hk : ∀ a, ∃ b, k a = some b) : ∀ (n i : Nat) (z a : Int), z = (i : Int) → i ≤ 32 → 32 - i < n → ∃ b, f9_l1 q k n a z = some b
  | 0, i, z, a, _, _, h => by omega
  | n + 1, i, z, a, hz, hi, h => by
    subst hz
    rw [f9_l1]
    by_cases hh : i < 32
    · rw [decide_eq_true (by omega : (i : Int) < 32), cond_true, guardB_t _ (vecOk_nat hh), w64 (x := (i : Int) + 1) (by omega) (by omega)]
      exact f9_l1_tot q k hk n (i + 1) _ _ (by push_cast; rfl) (by omega) (by omega)
    · rw [decide_eq_false (by omega : ¬ (i : Int) < 32), cond_false]
      exact hk a
theorem f9_tot (q : Queues) : ∃ b, f9 q = some b := by
  unfold f9 letk
  dsimp only
  exact f9_l1_tot q _ (fun _ => ⟨_, rfl⟩) _ 0 0 _ rfl (by decide) (by decide)

theorem f13_l2_eq (q : Queues) (x : Int) (p : Nat) (hp : p < 32) (k : Unit → Option Int) (hl : (q.ready p).length < 9223372036854775808) : ∀ (n i : Nat) (z : Int), z = (i : Int) → i ≤ (q.ready p).length → (q.ready p).length < n + i →
    f13_l2 q x (p : Int) k n z = if x ∈ (q.ready p).drop i then some (p : Int) else k ()
  | 0, i, z, _, _, h => by omega
  | n + 1, i, z, hz, hi, h => by
    subst hz
    rw [f13_l2, guardB_t _ (vecOk_nat hp), Int.toNat_natCast]
    by_cases hh : i < (q.ready p).length
    · rw [decide_eq_true (by omega : (i : Int) < ((q.ready p).length : Int)), cond_true, guardB_t _ (vecOk_nat hp), idx_in hh, Option.bind_some, w64 (by omega) (by omega), drop_cons hh]
      rw [f13_l2_eq q x p hp k hl n (i + 1) _ (by push_cast; rfl) (by omega) (by omega)]
      by_cases e : (q.ready p)[i] = x
      · rw [decide_eq_true e, cond_true, if_pos (by rw [e]; exact List.mem_cons_self)]
      · rw [decide_eq_false e, cond_false]
        have : x ∈ (q.ready p)[i] :: (q.ready p).drop (i + 1) ↔ x ∈ (q.ready p).drop (i + 1) := by
          rw [List.mem_cons]
          exact ⟨fun h => h.resolve_left (fun a => e a.symm), .inr⟩
        simp only [this]
    · have hd : (q.ready p).drop i = [] := List.drop_eq_nil_of_le (by omega)
      rw [decide_eq_false (by omega : ¬ (i : Int) < ((q.ready p).length : Int)), cond_false, hd]
      simp
theorem f13_l1_eq (q : Queues) (x : Int) (hb : Bnd q) (k : Unit → Option Int) {p : Nat} (hp : p < 32) (hx : x ∈ q.ready p) (hu : ∀ j, j < 32 → x ∈ q.ready j → j = p) : ∀ (n i : Nat) (z : Int), z = (i : Int) → i ≤ p → p - i < n → f13_l1 q x k n z = some (p : Int)
  | 0, i, z, _, _, h => by omega
  | n + 1, i, z, hz, hi, h => by
    subst hz
    rw [f13_l1, decide_eq_true (by omega : (i : Int) < 32), cond_true]
    unfold letk
    dsimp only
    rw [f13_l2_eq q x i (by omega) _ (hb.r i (by omega)) _ 0 0 rfl (by omega) (by have := hb.r i (by omega); omega), List.drop_zero]
    by_cases e : i = p
    · subst e; rw [if_pos hx]
    · rw [if_neg (fun h => e (hu i (by omega) h)), w64 (by omega) (by omega)]
      exact f13_l1_eq q x hb k hp hx hu n (i + 1) _ (by push_cast; rfl) (by omega) (by omega)
theorem f13_eq (q : Queues) (x : Int) (hb : Bnd q) {p : Nat} (hp : p < 32) (hx : x ∈ q.ready p) (hu : ∀ j, j < 32 → x ∈ q.ready j → j = p) : f13 q x = some (p : Int) := by
  unfold f13 letk
  dsimp only
  exact f13_l1_eq q x hb _ hp hx hu _ 0 0 rfl (Nat.zero_le _) (by omega)

theorem f31_l1_refl (L : List Int) (k : Unit → Option Bool) (hl : L.length < 9223372036854775808) : ∀ (n i : Nat) (z : Int), z = (i : Int) → i ≤ L.length → L.length < n + i → f31_l1 L L k n z = k ()
  | 0, i, z, _, _, h => by omega
  | n + 1, i, z, hz, hi, h => by
    subst hz
    rw [f31_l1]
    by_cases hh : i < L.length
    · rw [decide_eq_true (by omega : (i : Int) < (L.length : Int)), cond_true, idx_in hh, Option.bind_some, Option.bind_some, decide_eq_true rfl, Bool.not_true, cond_false, w64 (by omega) (by omega)]
      exact f31_l1_refl L k hl n (i + 1) _ (by push_cast; rfl) (by omega) (by omega)
    · rw [decide_eq_false (by omega : ¬ (i : Int) < (L.length : Int)), cond_false]
theorem f31_refl (L : List Int) (hl : L.length < 9223372036854775808) : f31 L L = some true := by
  unfold f31 letk
  dsimp only
  rw [decide_eq_true rfl, Bool.not_true, cond_false]
  exact f31_l1_refl L _ hl _ 0 0 rfl (by omega) (by omega)
theorem f15_l1_refl (q : Queues) (k : Unit → Option Bool) (hl : q.delays.length < 9223372036854775808) : ∀ (n i : Nat) (z : Int), z = (i : Int) → i ≤ q.delays.length → q.delays.length < n + i → f15_l1 q q k n z = k ()
  | 0, i, z, _, _, h => by omega
  | n + 1, i, z, hz, hi, h => by
    subst hz
    rw [f15_l1]
    by_cases hh : i < q.delays.length
    · rw [decide_eq_true (by omega : (i : Int) < (q.delays.length : Int)), cond_true, idx_in hh, Option.bind_some, Option.bind_some, decide_eq_true rfl, decide_eq_true rfl, w64 (by omega) (by omega)]
      exact f15_l1_refl q k hl n (i + 1) _ (by push_cast; rfl) (by omega) (by omega)
    · rw [decide_eq_false (by omega : ¬ (i : Int) < (q.delays.length : Int)), cond_false]
theorem f15_l2_refl (q : Queues) (k : Unit → Option Bool) (hb : Bnd q) : ∀ (n i : Nat) (z : Int), z = (i : Int) → i ≤ 32 → 32 - i < n → f15_l2 q q k n z = k ()
  | 0, i, z, _, _, h => by omega
  | n + 1, i, z, hz, hi, h => by
    subst hz
    rw [f15_l2]
    by_cases hh : i < 32
    · rw [decide_eq_true (by omega : (i : Int) < 32), cond_true, guardB_t _ (vecOk_nat hh), guardB_t _ (vecOk_nat hh), Int.toNat_natCast, f31_refl _ (hb.r i hh), Option.bind_some, Bool.not_true, cond_false, w64 (by omega) (by omega)]
      exact f15_l2_refl q k hb n (i + 1) _ (by push_cast; rfl) (by omega) (by omega)
    · rw [decide_eq_false (by omega : ¬ (i : Int) < 32), cond_false]
theorem f15_gen (q : Queues) (hb : Bnd q) (n m : Nat) (hn : q.delays.length < n) (hm : 32 < m) : (bif ((!decide (q.run = q.run)) || (!decide ((List.length q.delays : Int) = (List.length q.delays : Int)))) then some false else letk (fun (_ : Unit) =>
  letk (fun (_ : Unit) =>
  some true) fun k62 =>
  (f15_l2 q q k62 m 0)) fun k56 =>
  (f15_l1 q q k56 n 0)) = some true := by
  unfold letk
  dsimp only
  rw [decide_eq_true rfl, decide_eq_true rfl, Bool.not_true, Bool.or_false, cond_false, f15_l1_refl q _ hb.d n 0 0 rfl (by omega) (by omega)]
  exact f15_l2_refl q _ hb m 0 0 rfl (by omega) (by omega)
theorem f15_refl (q : Queues) (hb : Bnd q) : f15 q q = some true := by
  rw [f15]
  exact f15_gen q hb 9223372036854775808 9223372036854775808 hb.d (by decide)

/-- behind a dispatch: the second one changes nothing. -/
theorem top_le {F : Nat → List Int} {p : Nat} (hp : p < 32) (h : ∀ j, p < j → j < 32 → F j = []) (hc : (topF F 32).2.2 = true) : (topF F 32).2.1 ≤ (p : Int) := by
  obtain ⟨p', L, h1, h2, h3, _⟩ := topF_some hc
  rw [h3]
  by_cases e : p < p'
  · rw [h p' e h1] at h2; cases h2
  · omega

theorem law3 (q : Queues) (prio : Int) (hb : Bnd q) : f3 q prio = some true := by
  unfold f3
  obtain ⟨b9, e9⟩ := f9_tot q
  obtain ⟨b10, e10⟩ := f10_tot q hb
  rw [e9, Option.bind_some, e10]
  have eh : (Option.bind f11 fun r126 => some r126) = some true := by rw [f11_true]; rfl
  cases b9 with
  | true => simp only [cond_true, Option.bind_some, Bool.true_or]; exact eh
  | false =>
    simp only [cond_false, Option.bind_some]
    cases b10 with
    | false => simp only [Bool.not_false, Bool.true_or, cond_true]; exact eh
    | true =>
      have ho := Ok.of hb e10
      by_cases hp : 0 ≤ prio ∧ prio < 32
      · have e1 : ((!true) || decide (prio < 0) || decide (prio > 31)) = false := by simp; omega
        rw [e1, cond_false]
        have hp' : q.run ≥ 0 → 0 ≤ prio ∧ prio < 32 := fun _ => hp
        by_cases hk : (topF q.ready 32).2.2 = false ∨ (q.run ≥ 0 ∧ (topF q.ready 32).2.1 ≤ prio)
        · -- nothing changes
          have hd := disp_keep ho hp' hk
          rw [hd]
          unfold letk
          dsimp only [Option.bind_some]
          rw [decide_eq_true rfl, decide_eq_true rfl, Bool.not_true, cond_false, cond_false, f14_eq ho, Option.bind_some]
          have e2 : ((topF q.ready 32).2.2 && ((decide (q.run < 0)) || (decide ((topF q.ready 32).2.1 > prio)))) = false := by
            rcases hk with hk | ⟨a, b⟩
            · rw [hk]; rfl
            · rw [decide_eq_false (by omega), decide_eq_false (by omega)]; simp
          rw [e2, cond_false]
          by_cases hr : q.run < 0
          · rw [decide_eq_true hr, cond_true, cond_true, f11_true]; rfl
          · rw [decide_eq_false hr, cond_false, hd]
            dsimp only [Option.bind_some]
            rw [decide_eq_true rfl, cond_true, f15_refl q hb, f11_true]; rfl
        · have hc : (topF q.ready 32).2.2 = true := by
            cases h : (topF q.ready 32).2.2 with
            | true => rfl
            | false => exact absurd (.inl h) hk
          have hc2 : q.run ≥ 0 → prio < (topF q.ready 32).2.1 := fun hr => by
            by_cases a : (topF q.ready 32).2.1 ≤ prio
            · exact absurd (.inr ⟨hr, a⟩) hk
            · omega
          obtain ⟨p, L, h1, h2, h3, h4, h5⟩ := disp_go ho hp' hc hc2
          rw [h5]
          generalize hx : (topF q.ready 32).1 = x at *
          have hpp : q.run ≥ 0 → prio < (p : Int) := fun hr => by have := hc2 hr; omega
          have hok := next_ok ho hp' h1 h2 hpp
          have hxp : x ∈ q.ready p := by rw [h2]; simp
          have hxn := ho.r.num p x h1 hxp
          have hne : x ≠ q.run := fun e => ho.r.out p h1 (by rw [← e]; exact hxp)
          -- the queue where it was
          have hat : f13 q x = some (p : Int) := f13_eq q x hb h1 hxp (fun j hj hj2 => ho.r.ap' hj h1 hj2 hxp)
          have hemp : ∀ j, p < j → j < 32 → nextR q prio p L j = [] := fun j a b => by
            unfold nextR
            by_cases hr : q.run ≥ 0
            · have := hpp hr
              rw [if_pos hr, vs_ne _ _ (by omega), vs_ne _ _ (by omega)]; exact h4 j a b
            · rw [if_neg hr, vs_ne _ _ (by omega)]; exact h4 j a b
          have hrx : x ≥ 0 := hxn.1
          have hkeep : f12 ⟨nextR q prio p L, q.delays, x⟩ (p : Int) = some (⟨nextR q prio p L, q.delays, x⟩, 0) := by
            refine disp_keep hok (fun _ => by omega) ?_
            cases h : (topF (nextR q prio p L) 32).2.2 with
            | false => exact .inl rfl
            | true => exact .inr ⟨hrx, top_le h1 hemp h⟩
          unfold letk
          dsimp only [Option.bind_some]
          rw [decide_eq_true rfl, Bool.not_true, cond_false, decide_eq_false hne, Bool.not_false, cond_true, hat]
          dsimp only [Option.bind_some]
          rw [decide_eq_false (show ¬ (p : Int) < 0 by omega), cond_false]
          have e3 : (Option.bind (bif (decide (q.run ≥ 0)) then (guardB (vecOk 32 prio) <| Option.bind (bif (decide ((List.length (nextR q prio p L (Int.toNat prio)) : Int) = 0)) then some true else (guardB (vecOk 32 prio) <| Option.bind (idx (nextR q prio p L (Int.toNat prio)) 0) fun x136 => some (!decide (x136 = q.run)))) fun b134 => some (b134 || (decide ((p : Int) ≤ prio)))) else some false) fun b132 => some b132) = some false := by
            by_cases hr : q.run ≥ 0
            · have hq := hpp hr
              have e5 : vecOk 32 prio = true := by simp [vecOk]; omega
              have e6 : nextR q prio p L (Int.toNat prio) = q.run :: q.ready (Int.toNat prio) := by
                unfold nextR; rw [if_pos hr, vs_eq]
              rw [decide_eq_true hr, cond_true, guardB_t _ e5, e6, decide_eq_false (by simp; omega), cond_false, guardB_t _ e5]
              have : idx (q.run :: q.ready (Int.toNat prio)) 0 = some q.run := rfl
              rw [this, Option.bind_some, decide_eq_true rfl, Option.bind_some, decide_eq_false (show ¬ (p : Int) ≤ prio by omega)]
              rfl
            · rw [decide_eq_false hr]; rfl
          rw [e3]
          dsimp only [Option.bind_some]
          rw [cond_false, f14_eq hok]
          dsimp only [Option.bind_some]
          have e4 : ((topF (nextR q prio p L) 32).2.2 && ((decide (x < 0)) || (decide ((topF (nextR q prio p L) 32).2.1 > (p : Int))))) = false := by
            cases h : (topF (nextR q prio p L) 32).2.2 with
            | false => rfl
            | true =>
              have := top_le h1 hemp h
              rw [decide_eq_false (by omega), decide_eq_false (by omega)]; rfl
          rw [e4, cond_false, decide_eq_false (show ¬ x < 0 by omega), cond_false, hkeep]
          dsimp only [Option.bind_some]
          rw [decide_eq_true rfl, cond_true, f15_refl _ hok.b, f11_true]; rfl
      · have e1 : ((!true) || decide (prio < 0) || decide (prio > 31)) = true := by
          simp; omega
        rw [e1, cond_true]; exact eh
end Go.Proofs.Ytpionlekbfoccaa
set_option maxRecDepth 10000
namespace Go.Proofs.Ytpionlekbfoccaa
open Go Go.Sk

theorem f80_l1_eq (L : List Int) (x : Int) (hl : L.length < 9223372036854775808) : ∀ (n i : Nat) (z : Int), z = (i : Int) → i ≤ L.length → L.length < n + i → ∃ r, f80_l1 L x (fun _ => some (-1)) n z = some r ∧ (0 ≤ r ↔ x ∈ L.drop i)
  | 0, i, z, _, _, h => by omega
  | n + 1, i, z, hz, hi, h => by
    subst hz
    rw [f80_l1]
    by_cases hh : i < L.length
    · rw [decide_eq_true (by omega : (i : Int) < (L.length : Int)), cond_true, idx_in hh, Option.bind_some, w64 (by omega) (by omega), drop_cons hh]
      by_cases e : x = L[i]
      · rw [decide_eq_true e, cond_true]
        exact ⟨_, rfl, ⟨fun _ => by rw [e]; exact List.mem_cons_self, fun _ => by omega⟩⟩
      · rw [decide_eq_false e, cond_false]
        obtain ⟨r, h1, h2⟩ := f80_l1_eq L x hl n (i + 1) ((i : Int) + 1) (by push_cast; rfl) (by omega) (by omega)
        refine ⟨r, h1, h2.trans ?_⟩
        rw [List.mem_cons]
        exact ⟨.inr, fun h => h.resolve_left e⟩
    · have hd : L.drop i = [] := List.drop_eq_nil_of_le (by omega)
      rw [decide_eq_false (by omega : ¬ (i : Int) < (L.length : Int)), cond_false, hd]
      exact ⟨_, rfl, by simp⟩
theorem f71_eq (L : List Int) (x : Int) (hl : L.length < 9223372036854775808) : f71 L x = some (decide (x ∈ L)) := by
  unfold f71 f80 letk
  dsimp only
  obtain ⟨r, h1, h2⟩ := f80_l1_eq L x hl (Int.toNat ((List.length L : Int) - 0) + 1) 0 0 rfl (by omega) (by simp)
  rw [h1, Option.bind_some]
  rw [List.drop_zero] at h2
  congr 1
  by_cases e : x ∈ L
  · rw [decide_eq_true e, decide_eq_true (h2.2 e)]
  · rw [decide_eq_false e, decide_eq_false (fun a => e (h2.1 a))]

/-- The highest queue that holds a task. -/
def findF (F : Nat → List Int) (x : Int) : Nat → Int × Bool
  | 0 => (0, false)
  | n + 1 => if x ∈ F n then ((n : Int), true) else findF F x n
theorem f43_l1_eq (q : Queues) (x : Int) (hl : ∀ j, j < 32 → (q.ready j).length < 9223372036854775808) : ∀ (n i : Nat) (z : Int), z = (i : Int) - 1 → i ≤ 32 → i < n → f43_l1 q x (fun a => some (a, true)) (fun _ => some (0, false)) n z = some (findF q.ready x i)
  | 0, i, z, _, _, h => by omega
  | n + 1, 0, z, hz, hi, h => by
    subst hz
    rw [f43_l1]
    rfl
  | n + 1, i + 1, z, hz, hi, h => by
    have hz' : z = (i : Int) := by rw [hz]; push_cast; omega
    subst hz'
    rw [f43_l1]
    have hlt : i < ((List.range 32).map q.ready).length := by simp; omega
    have e : (List.map q.ready (List.range 32))[i]'hlt = q.ready i := by simp
    rw [decide_eq_true (by omega : (i : Int) ≥ 0), cond_true, idx_in hlt, Option.bind_some, e]
    unfold letk
    dsimp only
    rw [w64 (x := (i : Int) - 1) (by omega) (by omega), f43_l1_eq q x hl n i _ rfl (by omega) (by omega)]
    unfold findF
    by_cases h0 : q.ready i = []
    · rw [h0, decide_eq_false (by simp), cond_false]
      simp
      cases i <;> rfl
    · have : 0 < (q.ready i).length := List.length_pos_iff.2 h0
      rw [decide_eq_true (by omega), cond_true, f71_eq _ _ (hl i (by omega)), Option.bind_some]
      by_cases e : x ∈ q.ready i
      · rw [decide_eq_true e, cond_true, if_pos e]
      · rw [decide_eq_false e, cond_false, if_neg e]
        cases i <;> rfl
theorem f43_eq (q : Queues) (x : Int) (hb : Bnd q) : f43 q x = some (findF q.ready x 32) := by
  unfold f43 letk
  dsimp only
  have e1 : ((List.length (List.map q.ready (List.range 32)) : Int) - 1) = 31 := by simp
  have e2 : IntKind.i64.wrap 31 = 31 := by decide
  rw [e1, e2]
  exact f43_l1_eq q x hb.r 33 32 31 (by decide) (by decide) (by decide)
theorem findF_none {F : Nat → List Int} {x : Int} : ∀ {n : Nat}, (∀ j, j < n → x ∉ F j) → findF F x n = (0, false)
  | 0, _ => rfl
  | n + 1, h => by
    unfold findF
    rw [if_neg (h n (by omega))]
    exact findF_none (fun j hj => h j (by omega))
theorem findF_some {F : Nat → List Int} {x : Int} {p : Nat} : ∀ {n : Nat}, p < n → x ∈ F p → (∀ j, j < n → x ∈ F j → j = p) → findF F x n = ((p : Int), true)
  | 0, h, _, _ => by omega
  | n + 1, h, hx, hu => by
    unfold findF
    by_cases e : x ∈ F n
    · rw [if_pos e, hu n (by omega) e]
    · rw [if_neg e]
      have : p ≠ n := fun a => e (by rw [← a]; exact hx)
      exact findF_some (by omega) hx (fun j hj => hu j (by omega))

/-- Nowhere. -/
def Free (q : Queues) (x : Int) : Prop := q.run ≠ x ∧ ∀ j, j < 32 → x ∉ q.ready j
theorem put_ok {q : Queues} (h : Ok q) {p : Nat} {x : Int} {L : List Int} (hp : p < 32) (hx : 0 ≤ x ∧ x < 32) (hf : Free q x) (hL : ∀ y, y ∈ L ↔ y = x ∨ y ∈ q.ready p) (hn : L.Nodup) : Ok ⟨vset q.ready p L, q.delays, q.run⟩ := by
  refine Ok.mk2 ?_ h.b.d h.d
  have key : ∀ j y, j < 32 → y ∈ vset q.ready p L j → y ∈ q.ready j ∨ (j = p ∧ y = x) := fun j y hj hy => by
    by_cases e : j = p
    · rw [e, vs_eq] at hy
      rcases (hL y).1 hy with a | a
      · exact .inr ⟨e, a⟩
      · exact .inl (by rw [e]; exact a)
    · rw [vs_ne _ _ e] at hy; exact .inl hy
  refine ⟨h.r.run, fun j y hj hy => ?_, fun j hj => ?_, fun j k y hjk hk hy hz => ?_, fun j hj hy => ?_⟩
  · rcases key j y hj hy with a | ⟨_, a⟩
    · exact h.r.num j y hj a
    · rw [a]; exact hx
  · by_cases e : j = p
    · show (vset q.ready p L j).Nodup
      rw [e, vs_eq]; exact hn
    · show (vset q.ready p L j).Nodup
      rw [vs_ne _ _ e]; exact h.r.nd j hj
  · rcases key j y (by omega) hy with a | ⟨a1, a2⟩ <;> rcases key k y hk hz with b | ⟨b1, b2⟩
    · exact h.r.ap j k y hjk hk a b
    · exact hf.2 j (by omega) (by rw [← b2]; exact a)
    · exact hf.2 k hk (by rw [← a2]; exact b)
    · omega
  · rcases key j _ hj hy with a | ⟨_, a⟩
    · exact h.r.out j hj a
    · exact hf.1 a

theorem tail_eq {q : Queues} (h : Ok q) {prio x : Int} (hp : 0 ≤ prio ∧ prio < 32) (hx : 0 ≤ x ∧ x < 32) (hf : Free q x) :
    f21 q prio x = some (⟨vset q.ready (Int.toNat prio) (q.ready (Int.toNat prio) ++ [x]), q.delays, q.run⟩, 0) := by
  have hp2 : Int.toNat prio < 32 := by omega
  have e5 : vecOk 32 prio = true := by simp [vecOk]; omega
  have e6 : appOk 8 (q.ready (Int.toNat prio)) [x] = true := by
    have := h.r.len hp2
    simp [appOk, maxLen] <;> omega
  unfold f21 letk
  dsimp only
  rw [h.may, Option.bind_some, (f30_iff prio).2 hp, (f30_iff x).2 hx, f43_eq q x h.b, findF_none (fun j hj => hf.2 j hj)]
  dsimp only [Option.bind_some]
  rw [decide_eq_false hf.1, guardB_t _ e5, guardB_t _ h.own, guardB_t _ e5, guardB_t _ e5, guardB_t _ e6]
  rfl
theorem tail_ok {q : Queues} (h : Ok q) {prio x : Int} (hp : 0 ≤ prio ∧ prio < 32) (hx : 0 ≤ x ∧ x < 32) (hf : Free q x) : Ok ⟨vset q.ready (Int.toNat prio) (q.ready (Int.toNat prio) ++ [x]), q.delays, q.run⟩ :=
  put_ok h (by omega) hx hf (fun y => by simp [or_comm]) (by
    rw [List.nodup_append]
    exact ⟨h.r.nd _ (by omega), by simp, fun a ha b hb e => by
      simp at hb
      exact hf.2 (Int.toNat prio) (by omega) (by rw [← hb, ← e]; exact ha)⟩)
end Go.Proofs.Ytpionlekbfoccaa
set_option maxRecDepth 10000
namespace Go.Proofs.Ytpionlekbfoccaa
open Go Go.Sk

def strike (x : Int) (L : List Int) : List Int := L.filter (fun y => !decide (y = x))
theorem f22_l2_eq (x : Int) (k : Int → List Int → Option (Queues × Int)) : ∀ (n i j : Nat) (a b : Int) (l : List Int), a = (i : Int) → b = (j : Int) → i < j → j ≤ l.length → l.length < n + j → l.length < 9223372036854775808 →
    ∃ (i' : Nat) (l' : List Int), f22_l2 x k n a b l = k (i' : Int) l' ∧ i' ≤ l'.length ∧ l'.length = l.length ∧ l'.take i' = l.take i ++ strike x (l.drop j)
  | 0, i, j, a, b, l, _, _, _, _, h, _ => by omega
  | n + 1, i, j, a, b, l, ha, hb, hij, hj, h, hl => by
    subst ha; subst hb
    rw [f22_l2]
    by_cases hh : j < l.length
    · rw [decide_eq_true (by omega : (j : Int) < (l.length : Int)), cond_true]
      unfold letk
      dsimp only
      rw [idx_in hh, Option.bind_some, idx_in (show i < l.length by omega), Option.bind_some, w64 (x := (j : Int) + 1) (by omega) (by omega), w64 (x := (i : Int) + 1) (by omega) (by omega), Int.toNat_natCast, drop_cons hh]
      by_cases e : l[j] = x
      · rw [decide_eq_true e, Bool.not_true, cond_false]
        obtain ⟨i', l', h1, h2, h3, h4⟩ := f22_l2_eq x k n i (j + 1) _ ((j : Int) + 1) l rfl (by push_cast; rfl) (by omega) (by omega) (by omega) hl
        refine ⟨i', l', h1, h2, h3, h4.trans ?_⟩
        simp [strike, e]
      · rw [decide_eq_false e, Bool.not_false, cond_true]
        obtain ⟨i', l', h1, h2, h3, h4⟩ := f22_l2_eq x k n (i + 1) (j + 1) ((i : Int) + 1) ((j : Int) + 1) (l.set i l[j]) (by push_cast; rfl) (by push_cast; rfl) (by omega) (by simp; omega) (by simp; omega) (by simpa using hl)
        refine ⟨i', l', h1, h2, by simpa using h3, h4.trans ?_⟩
        have e1 : (l.set i l[j]).take (i + 1) = l.take i ++ [l[j]] := by
          apply List.ext_getElem?
          intro m
          rw [List.getElem?_take]
          by_cases hm : m < i
          · rw [if_pos (by omega), List.getElem?_set_ne (by omega), List.getElem?_append_left (by simp; omega), List.getElem?_take, if_pos hm]
          · by_cases hm2 : m = i
            · subst hm2
              rw [if_pos (by omega), List.getElem?_set_self (by omega), List.getElem?_append_right (by simp; omega), List.length_take, Nat.min_eq_left (by omega), Nat.sub_self]
              rfl
            · rw [if_neg (by omega), List.getElem?_append_right (by simp; omega), List.length_take]
              exact (List.getElem?_eq_none (by simp; omega)).symm
        have e2 : (l.set i l[j]).drop (j + 1) = l.drop (j + 1) := by
          apply List.ext_getElem?
          intro m
          rw [List.getElem?_drop, List.getElem?_drop, List.getElem?_set_ne (by omega)]
        rw [e1, e2, List.append_assoc]
        unfold strike
        rw [List.filter_cons, if_pos (by simp [e])]
        rfl
    · have hd : l.drop j = [] := List.drop_eq_nil_of_le (by omega)
      rw [decide_eq_false (by omega : ¬ (j : Int) < (l.length : Int)), cond_false, hd]
      exact ⟨i, l, rfl, by omega, rfl, by simp [strike]⟩

theorem f22_l1_eq (x : Int) (L : List Int) (k64 : Int → Option (Queues × Int)) (k65 : Unit → Option (Queues × Int)) (hl : L.length < 9223372036854775808) : ∀ (n i : Nat) (z : Int), z = (i : Int) → i ≤ L.length → L.length < n + i → x ∈ L.drop i →
    ∃ m, i ≤ m ∧ ∃ hm : m < L.length, L[m] = x ∧ (∀ y ∈ (L.take m).drop i, y ≠ x) ∧ f22_l1 x L k64 k65 n z = k64 (m : Int)
  | 0, i, z, _, _, h, _ => by omega
  | n + 1, i, z, hz, hi, h, hx => by
    subst hz
    by_cases hh : i < L.length
    · rw [f22_l1, decide_eq_true (by omega : (i : Int) < (L.length : Int)), cond_true, idx_in hh, Option.bind_some]
      unfold letk
      dsimp only
      by_cases e : L[i] = x
      · rw [decide_eq_true e, cond_true]
        exact ⟨i, Nat.le_refl i, hh, e, (fun y hy => by rw [List.drop_eq_nil_of_le (by simp; omega)] at hy; cases hy), rfl⟩
      · rw [decide_eq_false e, cond_false, w64 (by omega) (by omega)]
        rw [drop_cons hh, List.mem_cons] at hx
        obtain ⟨m, h1, h2, h3, h4, h5⟩ := f22_l1_eq x L k64 k65 hl n (i + 1) ((i : Int) + 1) (by push_cast; rfl) (by omega) (by omega) (hx.resolve_left (fun a => e a.symm))
        refine ⟨m, by omega, h2, h3, fun y hy => ?_, h5⟩
        have hlt : i < (L.take m).length := by simp; omega
        rw [drop_cons hlt, List.mem_cons] at hy
        rcases hy with hy | hy
        · rw [hy]; simpa using e
        · exact h4 y hy
    · rw [List.drop_eq_nil_of_le (by omega)] at hx; cases hx

theorem strike_id {x : Int} {L : List Int} (h : ∀ y ∈ L, y ≠ x) : strike x L = L := by
  unfold strike
  rw [List.filter_eq_self]
  intro y hy
  simp [h y hy]
theorem strike_at {x : Int} {L : List Int} {m : Nat} (hm : m < L.length) (e : L[m] = x) (h : ∀ y ∈ L.take m, y ≠ x) : L.take m ++ strike x (L.drop (m + 1)) = strike x L := by
  conv => rhs; rw [← List.take_append_drop m L]
  rw [drop_cons hm]
  have h1 := strike_id h
  unfold strike at h1 ⊢
  rw [List.filter_append, h1, List.filter_cons, if_neg (by simp [e])]

theorem drop_in {q : Queues} (h : Ok q) {x : Int} (hx : 0 ≤ x ∧ x < 32) {p : Nat} (hp : p < 32) (hm : x ∈ q.ready p) : f22 q x = some (⟨vset q.ready p (strike x (q.ready p)), q.delays, q.run⟩, 0) := by
  have hl : (q.ready p).length < 9223372036854775808 := h.b.r p hp
  unfold f22
  rw [h.may, Option.bind_some, (f30_iff x).2 hx, f43_eq q x h.b, findF_some hp hm (fun j hj hj2 => h.r.ap' hj hp hj2 hm)]
  have e0 : O.f32 q = some q := by unfold O.f32; rw [guardB_t _ h.own]
  have e1 : O.f60o (q.ready p) = some (q.ready p) := by
    unfold O.f60o
    rw [guardB_t]
    have := h.r.len hp
    simp [appOk, maxLen] <;> omega
  unfold letk
  dsimp only [Option.bind_some]
  rw [e0, Bool.not_true, Bool.or_false, cond_false]
  dsimp only [Option.bind_some]
  rw [cond_true, guardB_t _ (vecOk_nat hp), Int.toNat_natCast, e1]
  dsimp only [Option.bind_some]
  obtain ⟨m, _, h2, h3, h4, h5⟩ := f22_l1_eq x (q.ready p) _ (fun _ => _) hl (Int.toNat ((List.length (q.ready p) : Int) - 0) + 1) 0 0 rfl (by omega) (by simp) (by simpa using hm)
  rw [h5]
  rw [List.drop_zero] at h4
  rw [decide_eq_false (show ¬ (m : Int) = -1 by omega), cond_false, w64 (by omega) (by omega)]
  obtain ⟨i', l', g1, g2, g3, g4⟩ := f22_l2_eq x (fun iq72 l73 => guardB (sliceOk l73 iq72 (List.length l73 : Int)) <|
  guardB (pieceOk l73 (Int.toNat iq72) (Int.toNat (List.length l73 : Int) - Int.toNat iq72)) <|
  guardB (sliceOk (clearF l73 (Int.toNat iq72) (Int.toNat (List.length l73 : Int) - Int.toNat iq72) (0 : Int)) 0 iq72) <|
  (guardB (vecOk 32 (p : Int)) <| some (Queues.mk (vset q.ready p (sliceF (clearF l73 (Int.toNat iq72) (Int.toNat (List.length l73 : Int) - Int.toNat iq72) (0 : Int)) 0 iq72)) q.delays q.run, 0))) 9223372036854775808 m (m + 1) (m : Int) ((m : Int) + 1) (q.ready p) rfl (by push_cast; rfl) (by omega) (by omega) (by omega) hl
  refine Eq.trans g1 ?_
  rw [strike_at h2 h3 h4] at g4
  have hcl : (clearF l' i' (l'.length - i') (0 : Int)).length = l'.length := by simp [clearF]; omega
  have t1 : sliceOk l' (i' : Int) (List.length l' : Int) = true := by simp [sliceOk]; omega
  have t2 : pieceOk l' i' (l'.length - i') = true := by simp [pieceOk]; omega
  have t3 : sliceOk (clearF l' i' (l'.length - i') (0 : Int)) 0 (i' : Int) = true := by simp [sliceOk, hcl]; omega
  have t4 : sliceF (clearF l' i' (l'.length - i') (0 : Int)) 0 (i' : Int) = strike x (q.ready p) := by
    rw [← g4]
    show ((l'.take i' ++ (List.replicate (l'.length - i') 0 ++ l'.drop (i' + (l'.length - i')))).drop 0).take (i' - 0) = _
    rw [Nat.sub_zero, List.drop_zero, List.take_append_of_le_length (by simp; omega), List.take_take, Nat.min_self]
  rw [guardB_t _ t1]
  simp only [Int.toNat_natCast]
  rw [guardB_t _ t2, guardB_t _ t3, guardB_t _ (vecOk_nat hp), t4]
end Go.Proofs.Ytpionlekbfoccaa
set_option maxRecDepth 10000
namespace Go.Proofs.Ytpionlekbfoccaa
open Go Go.Sk

theorem drop_run {q : Queues} (h : Ok q) (hx : 0 ≤ q.run ∧ q.run < 32) : f22 q q.run = some (⟨q.ready, q.delays, -1⟩, 0) := by
  unfold f22
  rw [h.may, Option.bind_some, (f30_iff _).2 hx, f43_eq q _ h.b, findF_none (fun j hj => h.r.out j hj)]
  have e0 : O.f32 q = some q := by unfold O.f32; rw [guardB_t _ h.own]
  unfold letk
  dsimp only [Option.bind_some]
  rw [e0, Bool.not_true, Bool.or_false, cond_false]
  dsimp only [Option.bind_some]
  rw [cond_false, decide_eq_true rfl, cond_true]

/-- the priority that a number gives -/
def pf (x : Int) : Int := IntKind.i64.wrap (IntKind.u8.wrap (BitVec.ofInt IntKind.u8.bits x &&& BitVec.ofInt IntKind.u8.bits 31).toNat)
theorem pf_rng (x : Int) : 0 ≤ pf x ∧ pf x < 32 := by
  unfold pf
  have h1 : (BitVec.ofInt IntKind.u8.bits x &&& BitVec.ofInt IntKind.u8.bits 31).toNat < 32 := by
    rw [BitVec.toNat_and]
    have e : (BitVec.ofInt IntKind.u8.bits 31).toNat = 31 := by decide
    rw [e]
    exact Nat.lt_succ_of_le Nat.and_le_right
  generalize (BitVec.ofInt IntKind.u8.bits x &&& BitVec.ofInt IntKind.u8.bits 31).toNat = m at h1
  have h2 : ∀ m : Nat, m < 32 → 0 ≤ IntKind.i64.wrap (IntKind.u8.wrap (m : Int)) ∧ IntKind.i64.wrap (IntKind.u8.wrap (m : Int)) < 32 := by decide
  exact h2 m h1

theorem tot_vset (F : Nat → List Int) (p : Nat) (L : List Int) : ∀ n i, i ≤ p → p < i + n → (flat (vset F p L) n i).length + (F p).length = (flat F n i).length + L.length
  | 0, i, h1, h2 => by omega
  | n + 1, i, h1, h2 => by
    rw [flat, flat, List.length_append, List.length_append]
    by_cases e : p = i
    · subst e
      rw [vs_eq]
      have : ∀ m j, p < j → flat (vset F p L) m j = flat F m j := fun m => by
        induction m with
        | zero => intro j _; rfl
        | succ m ih => intro j hj; rw [flat, flat, vs_ne _ _ (by omega), ih (j + 1) (by omega)]
      rw [this n (p + 1) (by omega)]
      omega
    · rw [vs_ne _ _ (Ne.symm e)]
      have := tot_vset F p L n (i + 1) (by omega) (by omega)
      omega
theorem flat_nil {F : Nat → List Int} (h : (flat F 32 0).length = 0) : ∀ j, j < 32 → F j = [] := fun j hj => by
  have := flat_len (F := F) (n := 32) (i := 0) (j := j) (by omega) (by omega)
  exact List.eq_nil_of_length_eq_zero (by omega)

/-- The tasks of a list of priorities that are still there. -/
structure Sv (ps : List Int) (q : Queues) : Prop where
  ok : Ok q
  run : q.run = -1
  srt : ∀ p, p < 32 → (q.ready p).Pairwise (· < ·)
  num : ∀ p t, p < 32 → t ∈ q.ready p → 0 ≤ t ∧ t < (ps.length : Int) ∧ ∃ x, ps[Int.toNat t]? = some x ∧ pf x = (p : Int)

theorem serve_loop (ps : List Int) (hn : ps.length ≤ 32) (k : (Nat → List Int) → List Due → Int → Option Bool) (hk : ∀ F d, Ok ⟨F, d, -1⟩ → (∀ j, j < 32 → F j = []) → k F d (-1) = some true) : ∀ (n i : Nat) (z last seen : Int) (q : Queues), z = (i : Int) → i ≤ ps.length → ps.length < n + i → Sv ps q → (flat q.ready 32 0).length = ps.length - i →
    (∀ p : Nat, p < 32 → last < (p : Int) → q.ready p = []) → (∀ (p : Nat) t, p < 32 → last = (p : Int) → t ∈ q.ready p → seen ≤ t) → f5_l2 ps k n last seen z q.ready q.delays q.run = some true
  | 0, i, z, last, seen, q, _, _, h, _, _, _, _ => by omega
  | n + 1, i, z, last, seen, q, hz, hi, h, hs, ht, hl1, hl2 => by
    subst hz
    rw [f5_l2]
    by_cases hh : i < ps.length
    · have hq : (⟨q.ready, q.delays, q.run⟩ : Queues) = q := rfl
      rw [decide_eq_true (by omega : (i : Int) < (ps.length : Int)), cond_true, hq]
      have hr0 : ¬ q.run ≥ 0 := by rw [hs.run]; decide
      have hc : (topF q.ready 32).2.2 = true := by
        cases hcc : (topF q.ready 32).2.2 with
        | true => rfl
        | false =>
          have hz := topF_none hcc
          have : ∀ m j, j + m ≤ 32 → flat q.ready m j = [] := fun m => by
            induction m with
            | zero => intro j _; rfl
            | succ m ih => intro j hj; rw [flat, hz j (by omega), ih (j + 1) (by omega)]; rfl
          rw [this 32 0 (by omega)] at ht
          simp at ht
          omega
      obtain ⟨p, L, h1, h2, h3, h4, h5⟩ := disp_go hs.ok (prio := 0) (fun hr => absurd hr hr0) hc (fun hr => absurd hr hr0)
      rw [h5, Option.bind_some]
      generalize (topF q.ready 32).1 = x at h2 h5 ⊢
      have hN : nextR q 0 p L = vset q.ready p L := by unfold nextR; rw [if_neg hr0]
      have hok := next_ok hs.ok (prio := 0) (fun hr => absurd hr hr0) h1 h2 (fun hr => absurd hr hr0)
      rw [hN] at hok ⊢
      obtain ⟨a1, a2, y, a3, a4⟩ := hs.num p x h1 (by rw [h2]; simp)
      have hxt : Int.toNat x < ps.length := by omega
      have hidx : idx ps x = some y := by
        have := idx_in hxt
        rw [Int.toNat_of_nonneg a1] at this
        rw [this]
        rw [List.getElem?_eq_getElem hxt] at a3
        exact a3
      dsimp only
      rw [decide_eq_true rfl, decide_eq_false (show ¬ x < 0 by omega), decide_eq_false (show ¬ x ≥ (ps.length : Int) by omega)]
      simp only [Bool.not_true, Bool.or_false, cond_false]
      rw [hidx, Option.bind_some]
      have e1 : IntKind.i64.wrap (IntKind.u8.wrap (BitVec.ofInt IntKind.u8.bits y &&& BitVec.ofInt IntKind.u8.bits 31).toNat) = (p : Int) := a4
      rw [e1]
      have hle : (p : Int) ≤ last := by
        by_cases c : last < (p : Int)
        · have := hl1 p h1 c
          rw [this] at h2; cases h2
        · omega
      have e2 : ((decide ((p : Int) > last)) || ((decide ((p : Int) = last)) && (decide (x < seen)))) = false := by
        rw [decide_eq_false (by omega)]
        by_cases c : (p : Int) = last
        · have := hl2 p x h1 c.symm (by rw [h2]; simp)
          rw [decide_eq_false (show ¬ x < seen by omega)]; simp
        · rw [decide_eq_false c]; rfl
      rw [e2, cond_false]
      have hd := drop_run hok ⟨a1, by show x < 32; omega⟩
      dsimp only at hd
      rw [hd, Option.bind_some]
      dsimp only
      rw [decide_eq_true rfl, Bool.not_true, cond_false, w64 (by omega) (by omega)]
      have hsr := hs.srt p h1
      rw [h2, List.pairwise_cons] at hsr
      have hok2 : Ok ⟨vset q.ready p L, q.delays, -1⟩ := Ok.mk2 ⟨.inl rfl, hok.r.num, hok.r.nd, hok.r.ap, fun j hj hy => by
        have := hok.r.num j _ hj hy
        simp at this⟩ hok.b.d hok.d
      refine serve_loop ps hn k hk n (i + 1) _ (p : Int) x ⟨vset q.ready p L, q.delays, -1⟩ (by push_cast; rfl) (by omega) (by omega) ⟨hok2, rfl, fun j hj => ?_, fun j t hj ht2 => ?_⟩ ?_ (fun j hj hlt => ?_) (fun j t hj hjl ht2 => ?_)
      · show (vset q.ready p L j).Pairwise _
        by_cases e : j = p
        · rw [e, vs_eq]; exact hsr.2
        · rw [vs_ne _ _ e]; exact hs.srt j hj
      · have ht3 : t ∈ vset q.ready p L j := ht2
        by_cases e : j = p
        · rw [e, vs_eq] at ht3
          rw [e]
          exact hs.num p t h1 (by rw [h2]; exact List.mem_cons_of_mem _ ht3)
        · rw [vs_ne _ _ e] at ht3; exact hs.num j t hj ht3
      · have := tot_vset q.ready p L 32 0 (by omega) (by omega)
        rw [h2] at this
        simp only [List.length_cons] at this
        show (flat (vset q.ready p L) 32 0).length = _
        omega
      · show vset q.ready p L j = []
        rw [vs_ne _ _ (by omega)]
        exact h4 j (by omega) hj
      · have e : j = p := by omega
        have ht3 : t ∈ vset q.ready p L j := ht2
        rw [e, vs_eq] at ht3
        have := hsr.1 t ht3
        omega
    · rw [decide_eq_false (by omega : ¬ (i : Int) < (ps.length : Int)), cond_false, hs.run]
      refine hk _ _ ?_ (flat_nil (by omega))
      have := hs.ok
      have e : q = ⟨q.ready, q.delays, -1⟩ := by rw [← hs.run]
      rw [e] at this
      exact this

theorem fill_loop (ps : List Int) (hn : ps.length ≤ 32) (k : (Nat → List Int) → List Due → Int → Option Bool) (hk : ∀ q, Sv ps q → (flat q.ready 32 0).length = ps.length → k q.ready q.delays q.run = some true) : ∀ (n i : Nat) (z : Int) (q : Queues), z = (i : Int) → i ≤ ps.length → ps.length < n + i → Sv ps q → (flat q.ready 32 0).length = i → (∀ p t, p < 32 → t ∈ q.ready p → t < (i : Int)) →
    f5_l1 ps k n z q.ready q.delays q.run = some true
  | 0, i, z, q, _, _, h, _, _, _ => by omega
  | n + 1, i, z, q, hz, hi, h, hs, ht, hlt => by
    subst hz
    rw [f5_l1]
    by_cases hh : i < ps.length
    · have hq : (⟨q.ready, q.delays, q.run⟩ : Queues) = q := rfl
      rw [decide_eq_true (by omega : (i : Int) < (ps.length : Int)), cond_true, hq, idx_in hh, Option.bind_some]
      have hp := pf_rng ps[i]
      have e1 : IntKind.i64.wrap (IntKind.u8.wrap (BitVec.ofInt IntKind.u8.bits ps[i] &&& BitVec.ofInt IntKind.u8.bits 31).toNat) = pf ps[i] := rfl
      rw [e1]
      generalize hpe : pf ps[i] = pr at hp
      have hx : 0 ≤ (i : Int) ∧ (i : Int) < 32 := by omega
      have hf : Free q (i : Int) := ⟨by rw [hs.run]; omega, fun j hj hm => by have := hlt j _ hj hm; omega⟩
      rw [tail_eq hs.ok hp hx hf, Option.bind_some]
      dsimp only
      rw [decide_eq_true rfl, Bool.not_true, cond_false, w64 (by omega) (by omega)]
      have hpn : Int.toNat pr < 32 := by omega
      refine fill_loop ps hn k hk n (i + 1) _ ⟨vset q.ready (Int.toNat pr) (q.ready (Int.toNat pr) ++ [(i : Int)]), q.delays, q.run⟩ (by push_cast; rfl) (by omega) (by omega) ⟨tail_ok hs.ok hp hx hf, hs.run, fun j hj => ?_, fun j t hj ht2 => ?_⟩ ?_ (fun j t hj ht2 => ?_)
      · show (vset q.ready (Int.toNat pr) _ j).Pairwise _
        by_cases e : j = Int.toNat pr
        · rw [e, vs_eq, List.pairwise_append]
          exact ⟨hs.srt _ hpn, by simp, fun a ha b hb => by
            simp at hb
            rw [hb]; exact hlt _ a hpn ha⟩
        · rw [vs_ne _ _ e]; exact hs.srt j hj
      · have ht3 : t ∈ vset q.ready (Int.toNat pr) (q.ready (Int.toNat pr) ++ [(i : Int)]) j := ht2
        by_cases e : j = Int.toNat pr
        · rw [e, vs_eq, List.mem_append] at ht3
          rcases ht3 with ht3 | ht3
          · rw [e]; exact hs.num _ t hpn ht3
          · simp at ht3
            rw [ht3]
            exact ⟨by omega, by omega, ps[i], by simp [hh], by rw [hpe, e]; omega⟩
        · rw [vs_ne _ _ e] at ht3; exact hs.num j t hj ht3
      · have := tot_vset q.ready (Int.toNat pr) (q.ready (Int.toNat pr) ++ [(i : Int)]) 32 0 (by omega) (by omega)
        simp only [List.length_append, List.length_cons, List.length_nil] at this
        show (flat (vset q.ready (Int.toNat pr) _) 32 0).length = _
        omega
      · have ht3 : t ∈ vset q.ready (Int.toNat pr) (q.ready (Int.toNat pr) ++ [(i : Int)]) j := ht2
        by_cases e : j = Int.toNat pr
        · rw [e, vs_eq, List.mem_append] at ht3
          rcases ht3 with ht3 | ht3
          · have := hlt _ t hpn ht3; push_cast; omega
          · simp at ht3; push_cast; omega
        · rw [vs_ne _ _ e] at ht3
          have := hlt j t hj ht3; push_cast; omega
    · rw [decide_eq_false (by omega : ¬ (i : Int) < (ps.length : Int)), cond_false]
      exact hk q hs (by omega)

theorem law5_gen (ps : List Int) (n m : Nat) (hn : ps.length < n) (hm : ps.length < m) : (bif (decide ((List.length ps : Int) > 32)) then Option.bind (f11) fun r113 =>
  some r113 else letk (fun (c00114 : Nat → (List Int)) (c032115 : List Due) (c033116 : Int) =>
  letk (fun (c00132 : Nat → (List Int)) (c032133 : List Due) (c033134 : Int) =>
  Option.bind (f14 (Queues.mk c00132 c032133 c033134)) fun r157 =>
  Option.bind (bif (!r157.2.2) then (Option.bind (f11) fun r159 => some r159) else some false) fun b158 =>
  some b158) fun k135 =>
  (f5_l2 ps k135 m 31 (-1) 0 c00114 c032115 c033116)) fun k117 =>
  (f5_l1 ps k117 n 0 f16.ready f16.delays f16.run)) = some true := by
  by_cases h32 : (ps.length : Int) > 32
  · rw [decide_eq_true h32, cond_true, f11_true]; rfl
  · rw [decide_eq_false h32, cond_false]
    unfold letk
    dsimp only
    have hok0 : Ok f16 := Ok.mk2 ⟨.inl rfl, (fun j x _ h => by cases h), (fun j _ => List.nodup_nil), (fun j k x _ _ h => by cases h), (fun j _ h => by cases h)⟩ (by decide) (by decide)
    refine fill_loop ps (by omega) _ (fun q hs ht => ?_) n 0 0 f16 rfl (by omega) (by omega) ⟨hok0, rfl, (fun p _ => List.Pairwise.nil), (fun p t _ h => by cases h)⟩ (by decide) (fun p t _ h => by cases h)
    refine serve_loop ps (by omega) _ (fun F d hok hF => ?_) m 0 0 31 (-1) q rfl (by omega) (by omega) hs (by omega) (fun p hp hlt => by omega) (fun p t hp _ ht => by have := hs.num p t hp ht; omega)
    rw [f14_eq hok, Option.bind_some]
    have : (topF F 32).2.2 = false := by
      cases h : (topF F 32).2.2 with
      | false => rfl
      | true =>
        obtain ⟨p, L, h1, h2, _⟩ := topF_some h
        rw [hF p h1] at h2; cases h2
    show Option.bind (bif (!(topF F 32).2.2) then _ else _) _ = _
    rw [this, f11_true]
    rfl
theorem law5 (ps : List Int) (hl : ps.length < 9223372036854775808) : f5 ps = some true := by
  rw [f5]
  exact law5_gen ps 9223372036854775808 9223372036854775808 hl hl
end Go.Proofs.Ytpionlekbfoccaa
set_option maxRecDepth 10000
namespace Go.Proofs.Ytpionlekbfoccaa
open Go Go.Sk

theorem f27_l2_eq (q : Queues) (t : Int) (p : Nat) (hp : p < 32) (k : Int → Option Int) (hl : (q.ready p).length ≤ 32) : ∀ (na i c : Nat) (z n : Int), z = (i : Int) → n = (c : Int) → c ≤ 10000 + i → i ≤ (q.ready p).length → (q.ready p).length < na + i →
    f27_l2 q t (p : Int) k na n z = k ((c + ((q.ready p).drop i).count t : Nat) : Int)
  | 0, i, c, z, n, _, _, _, _, h => by omega
  | na + 1, i, c, z, n, hz, hn, hc, hi, h => by
    subst hz; subst hn
    rw [f27_l2, guardB_t _ (vecOk_nat hp), Int.toNat_natCast]
    by_cases hh : i < (q.ready p).length
    · rw [decide_eq_true (by omega : (i : Int) < ((q.ready p).length : Int)), cond_true]
      unfold letk
      dsimp only
      rw [guardB_t _ (vecOk_nat hp), idx_in hh, Option.bind_some, w64 (x := (i : Int) + 1) (by omega) (by omega), w64 (x := (c : Int) + 1) (by omega) (by omega), drop_cons hh, List.count_cons]
      by_cases e : (q.ready p)[i] = t
      · rw [decide_eq_true e, cond_true, f27_l2_eq q t p hp k hl na (i + 1) (c + 1) _ _ (by push_cast; rfl) (by push_cast; rfl) (by omega) (by omega) (by omega)]
        rw [if_pos (by simp [e])]
        congr 2
        omega
      · rw [decide_eq_false e, cond_false, f27_l2_eq q t p hp k hl na (i + 1) c _ _ (by push_cast; rfl) rfl (by omega) (by omega) (by omega)]
        rw [if_neg (by simpa using e)]
        rfl
    · have hd : (q.ready p).drop i = [] := List.drop_eq_nil_of_le (by omega)
      rw [decide_eq_false (by omega : ¬ (i : Int) < ((q.ready p).length : Int)), cond_false, hd]
      rfl
theorem f27_l1_eq (q : Queues) (t : Int) (k : Int → Option Int) (hl : ∀ j, j < 32 → (q.ready j).length ≤ 32) : ∀ (n i c : Nat) (z a : Int), z = (i : Int) → a = (c : Int) → c ≤ 32 * i → i ≤ 32 → 32 - i < n →
    f27_l1 q t k n a z = k ((c + (flat q.ready (32 - i) i).count t : Nat) : Int)
  | 0, i, c, z, a, _, _, _, _, h => by omega
  | n + 1, i, c, z, a, hz, ha, hc, hi, h => by
    subst hz; subst ha
    rw [f27_l1]
    by_cases hh : i < 32
    · rw [decide_eq_true (by omega : (i : Int) < 32), cond_true]
      unfold letk
      dsimp only
      have hli := hl i hh
      rw [f27_l2_eq q t i hh _ hli _ 0 c 0 _ rfl rfl (by omega) (by omega) (by omega), List.drop_zero, w64 (by omega) (by omega)]
      have h2 : (q.ready i).count t ≤ 32 := Nat.le_trans List.count_le_length hli
      rw [f27_l1_eq q t k hl n (i + 1) (c + (q.ready i).count t) _ _ (by push_cast; rfl) rfl (by omega) (by omega) (by omega)]
      have e : 32 - i = (32 - (i + 1)) + 1 := by omega
      conv => rhs; rw [e, flat, List.count_append, ← Nat.add_assoc]
    · have : i = 32 := by omega
      subst this
      rfl
theorem f27_gen (q : Queues) (t : Int) (hl : ∀ j, j < 32 → (q.ready j).length ≤ 32) (n : Nat) (hn : 32 < n) : (letk (fun (n42 : Int) =>
  letk (fun (n63 : Int) =>
  some n63) fun k64 =>
  (bif (decide (q.run = t)) then (k64 (IntKind.i64.wrap (n42 + 1))) else (k64 n42))) fun k43 =>
  (f27_l1 q t k43 n 0 0)) = some (((flat q.ready 32 0).count t + (if q.run = t then 1 else 0) : Nat) : Int) := by
  unfold letk
  dsimp only
  rw [f27_l1_eq q t _ hl n 0 0 0 0 rfl rfl (by omega) (by omega) (by omega), Nat.zero_add]
  have hb : (flat q.ready 32 0).count t ≤ 32 * 32 := by
    refine Nat.le_trans List.count_le_length ?_
    have : ∀ m j, j + m ≤ 32 → (flat q.ready m j).length ≤ 32 * m := fun m => by
      induction m with
      | zero => intro j _; simp [flat]
      | succ m ih =>
        intro j hj
        rw [flat, List.length_append]
        have := ih (j + 1) (by omega)
        have := hl j (by omega)
        omega
    exact this 32 0 (by omega)
  show (bif decide (q.run = t) then some (IntKind.i64.wrap ((((flat q.ready 32 0).count t : Nat) : Int) + 1)) else some (((flat q.ready 32 0).count t : Nat) : Int)) = _
  by_cases e : q.run = t
  · rw [decide_eq_true e, cond_true, if_pos e, w64 (by omega) (by omega)]
    rfl
  · rw [decide_eq_false e, cond_false, if_neg e]
    rfl
/-- A task is there. -/
def Occ (q : Queues) (t : Int) : Prop := q.run = t ∨ ∃ j, j < 32 ∧ t ∈ q.ready j
theorem f27_eq {q : Queues} (h : Ok q) (t : Int) [Decidable (Occ q t)] : f27 q t = some (if Occ q t then 1 else 0) := by
  rw [f27]
  rw [f27_gen q t (fun j hj => h.r.len hj) 9223372036854775808 (by decide)]
  congr 1
  have hr := (Rdy_iff q).2 h.r
  have hm : t ∈ flat q.ready 32 0 ↔ ∃ j, j < 32 ∧ t ∈ q.ready j := by
    rw [mem_flat]
    exact ⟨fun ⟨j, _, b, c⟩ => ⟨j, by omega, c⟩, fun ⟨j, b, c⟩ => ⟨j, by omega, by omega, c⟩⟩
  by_cases e : q.run = t
  · have hn : t ∉ flat q.ready 32 0 := by rw [← e]; exact hr.out
    rw [List.count_eq_zero_of_not_mem hn, if_pos e, if_pos (.inl e)]
    rfl
  · rw [if_neg e]
    by_cases hx : t ∈ flat q.ready 32 0
    · have h1 : (flat q.ready 32 0).count t = 1 := by
        have := List.nodup_iff_count.1 hr.nd t
        have := List.count_pos_iff.2 hx
        omega
      rw [h1, if_pos (.inr (hm.1 hx))]
      rfl
    · rw [List.count_eq_zero_of_not_mem hx, if_neg (fun a => a.elim e (fun b => hx (hm.2 b)))]
      rfl
end Go.Proofs.Ytpionlekbfoccaa
set_option maxRecDepth 10000
namespace Go.Proofs.Ytpionlekbfoccaa
open Go Go.Sk

abbrev zQ : Queues := Queues.mk (fun _ => ([] : List Int)) [] 0
theorem occ_free {q : Queues} {x : Int} : Free q x ↔ ¬ Occ q x := by
  unfold Free Occ
  constructor
  · rintro ⟨h1, h2⟩ (h | ⟨j, h3, h4⟩)
    · exact h1 h
    · exact h2 j h3 h4
  · intro h
    exact ⟨fun a => h (.inl a), fun j hj a => h (.inr ⟨j, hj, a⟩)⟩
/-- What a call does to where the tasks are. -/
def Res (q : Queues) (o : Option (Queues × Int)) (P : Int → Prop) : Prop :=
  ∃ r e, o = some (r, e) ∧ ((e ≠ 0 ∧ r = zQ) ∨ (e = 0 ∧ Ok r ∧ r.delays = q.delays ∧ ∀ t, 0 ≤ t → (Occ r t ↔ P t)))
theorem put_occ {q : Queues} {p : Nat} {x : Int} {L : List Int} (hp : p < 32) (hL : ∀ y, y ∈ L ↔ y = x ∨ y ∈ q.ready p) (t : Int) : Occ ⟨vset q.ready p L, q.delays, q.run⟩ t ↔ (t = x ∨ Occ q t) := by
  unfold Occ
  dsimp only
  constructor
  · rintro (h | ⟨j, h1, h2⟩)
    · exact .inr (.inl h)
    · by_cases e : j = p
      · rw [e, vs_eq] at h2
        rcases (hL t).1 h2 with a | a
        · exact .inl a
        · exact .inr (.inr ⟨p, hp, a⟩)
      · rw [vs_ne _ _ e] at h2; exact .inr (.inr ⟨j, h1, h2⟩)
  · rintro (h | h | ⟨j, h1, h2⟩)
    · exact .inr ⟨p, hp, by rw [vs_eq]; exact (hL t).2 (.inl h)⟩
    · exact .inl h
    · by_cases e : j = p
      · exact .inr ⟨p, hp, by rw [vs_eq]; exact (hL t).2 (.inr (by rw [← e]; exact h2))⟩
      · exact .inr ⟨j, h1, by rw [vs_ne _ _ e]; exact h2⟩

theorem find_in {q : Queues} (h : Ok q) {x : Int} {p : Nat} (hp : p < 32) (hm : x ∈ q.ready p) : f43 q x = some ((p : Int), true) := by
  rw [f43_eq q x h.b, findF_some hp hm (fun j hj hj2 => h.r.ap' hj hp hj2 hm)]
theorem find_out {q : Queues} (h : Ok q) {x : Int} (hn : ∀ j, j < 32 → x ∉ q.ready j) : f43 q x = some (0, false) := by
  rw [f43_eq q x h.b, findF_none hn]

theorem head_eq {q : Queues} (h : Ok q) {prio x : Int} (hp : 0 ≤ prio ∧ prio < 32) (hx : 0 ≤ x ∧ x < 32) (hf : Free q x) :
    f28 q prio x = some (⟨vset q.ready (Int.toNat prio) (x :: q.ready (Int.toNat prio)), q.delays, q.run⟩, 0) := by
  have hp2 : Int.toNat prio < 32 := by omega
  have e5 : vecOk 32 prio = true := by simp [vecOk]; omega
  have e6 : O.insOk (q.ready (Int.toNat prio)) = true := by
    have := h.r.len hp2
    simp [O.insOk]; omega
  unfold f28 letk
  dsimp only
  rw [h.may, Option.bind_some, (f30_iff prio).2 hp, (f30_iff x).2 hx, find_out h (fun j hj => hf.2 j hj)]
  dsimp only [Option.bind_some]
  rw [decide_eq_false hf.1, guardB_t _ e5, guardB_t _ h.own, guardB_t _ e5, guardB_t _ e5, guardB_t _ e6]
  rfl
/-- what Tail and Head refuse -/
theorem put_err {q : Queues} (h : Ok q) {prio x : Int} (hx : 0 ≤ x ∧ x < 32) (hn : ¬ ((0 ≤ prio ∧ prio < 32) ∧ Free q x)) : ∃ e, e ≠ 0 ∧ f21 q prio x = some (zQ, e) ∧ f28 q prio x = some (zQ, e) := by
  by_cases hp : 0 ≤ prio ∧ prio < 32
  · refine ⟨7, by decide, ?_⟩
    have ho : Occ q x := Classical.byContradiction fun a => hn ⟨hp, occ_free.2 a⟩
    have key : ∃ a b, f43 q x = some (a, b) ∧ (b || decide (q.run = x)) = true := by
      rcases ho with ho | ⟨j, h1, h2⟩
      · exact ⟨_, _, f43_eq q x h.b, by rw [decide_eq_true ho]; simp⟩
      · exact ⟨_, _, find_in h h1 h2, rfl⟩
    obtain ⟨a, b, k1, k2⟩ := key
    constructor
    · unfold f21 letk
      dsimp only
      rw [h.may, Option.bind_some, (f30_iff prio).2 hp, (f30_iff x).2 hx, k1]
      dsimp only [Option.bind_some]
      rw [k2]; rfl
    · unfold f28 letk
      dsimp only
      rw [h.may, Option.bind_some, (f30_iff prio).2 hp, (f30_iff x).2 hx, k1]
      dsimp only [Option.bind_some]
      rw [k2]; rfl
  · refine ⟨2, by decide, ?_⟩
    have hf : f30 prio = false := by
      cases hh : f30 prio with
      | false => rfl
      | true => exact absurd ((f30_iff prio).1 hh) hp
    constructor
    · unfold f21 letk
      dsimp only
      rw [h.may, Option.bind_some, hf]; rfl
    · unfold f28 letk
      dsimp only
      rw [h.may, Option.bind_some, hf]; rfl
theorem tail_res {q : Queues} (h : Ok q) (prio : Int) {x : Int} (hx : 0 ≤ x ∧ x < 32) : Res q (f21 q prio x) (fun t => t = x ∨ Occ q t) := by
  by_cases hn : (0 ≤ prio ∧ prio < 32) ∧ Free q x
  · obtain ⟨hp, hf⟩ := hn
    exact ⟨_, _, tail_eq h hp hx hf, .inr ⟨rfl, tail_ok h hp hx hf, rfl, fun t _ => put_occ (by omega) (fun y => by simp [or_comm]) t⟩⟩
  · obtain ⟨e, h1, h2, _⟩ := put_err h hx hn
    exact ⟨_, _, h2, .inl ⟨h1, rfl⟩⟩
theorem head_res {q : Queues} (h : Ok q) (prio : Int) {x : Int} (hx : 0 ≤ x ∧ x < 32) : Res q (f28 q prio x) (fun t => t = x ∨ Occ q t) := by
  by_cases hn : (0 ≤ prio ∧ prio < 32) ∧ Free q x
  · obtain ⟨hp, hf⟩ := hn
    refine ⟨_, _, head_eq h hp hx hf, .inr ⟨rfl, put_ok h (by omega) hx hf (fun y => by simp) ?_, rfl, fun t _ => put_occ (by omega) (fun y => by simp) t⟩⟩
    exact List.nodup_cons.2 ⟨hf.2 _ (by omega), h.r.nd _ (by omega)⟩
  · obtain ⟨e, h1, _, h2⟩ := put_err h hx hn
    exact ⟨_, _, h2, .inl ⟨h1, rfl⟩⟩
theorem drop_res {q : Queues} (h : Ok q) {x : Int} (hx : 0 ≤ x ∧ x < 32) : Res q (f22 q x) (fun t => t ≠ x ∧ Occ q t) := by
  by_cases hj : ∃ j, j < 32 ∧ x ∈ q.ready j
  · obtain ⟨p, hp, hm⟩ := hj
    have key : ∀ j y, j < 32 → (y ∈ vset q.ready p (strike x (q.ready p)) j ↔ y ∈ q.ready j ∧ y ≠ x) := fun j y hj => by
      by_cases e : j = p
      · rw [e, vs_eq]; simp [strike]
      · rw [vs_ne _ _ e]
        exact ⟨fun a => ⟨a, fun b => e (h.r.ap' hj hp (by rw [← b]; exact a) hm)⟩, fun a => a.1⟩
    refine ⟨_, _, drop_in h hx hp hm, .inr ⟨rfl, Ok.mk2 ⟨h.r.run, fun j y hj hy => h.r.num j y hj ((key j y hj).1 hy).1, fun j hj => ?_, fun j k y hjk hk a b => h.r.ap j k y hjk hk ((key j y (by omega)).1 a).1 ((key k y hk).1 b).1, fun j hj hy => h.r.out j hj ((key j _ hj).1 hy).1⟩ h.b.d h.d, rfl, fun t ht => ?_⟩⟩
    · show (vset q.ready p _ j).Nodup
      by_cases e : j = p
      · rw [e, vs_eq]; exact (h.r.nd p hp).filter _
      · rw [vs_ne _ _ e]; exact h.r.nd j hj
    · have hxr : q.run ≠ x := fun a => h.r.out p hp (by rw [a]; exact hm)
      unfold Occ
      dsimp only
      constructor
      · rintro (a | ⟨j, a, b⟩)
        · exact ⟨fun c => hxr (by rw [a, c]), .inl a⟩
        · exact ⟨((key j t a).1 b).2, .inr ⟨j, a, ((key j t a).1 b).1⟩⟩
      · rintro ⟨a, b | ⟨j, b, c⟩⟩
        · exact .inl b
        · exact .inr ⟨j, b, (key j t b).2 ⟨c, a⟩⟩
  · by_cases hr : q.run = x
    · have hd := drop_run h (by rw [hr]; exact hx)
      rw [hr] at hd
      refine ⟨_, _, hd, .inr ⟨rfl, Ok.mk2 ⟨.inl rfl, h.r.num, h.r.nd, h.r.ap, fun j hj hy => by have := h.r.num j _ hj hy; simp at this⟩ h.b.d h.d, rfl, fun t ht => ?_⟩⟩
      unfold Occ
      dsimp only
      constructor
      · rintro (a | ⟨j, a, b⟩)
        · omega
        · exact ⟨fun c => hj ⟨j, a, by rw [← c]; exact b⟩, .inr ⟨j, a, b⟩⟩
      · rintro ⟨a, b | ⟨j, b, c⟩⟩
        · exact absurd (b.symm.trans hr) a
        · exact .inr ⟨j, b, c⟩
    · refine ⟨zQ, 6, ?_, .inl ⟨by decide, rfl⟩⟩
      unfold f22
      rw [h.may, Option.bind_some, (f30_iff x).2 hx, find_out h (fun j a b => hj ⟨j, a, b⟩)]
      have e0 : O.f32 q = some q := by unfold O.f32; rw [guardB_t _ h.own]
      unfold letk
      dsimp only [Option.bind_some]
      rw [e0, Bool.not_true, Bool.or_false, cond_false]
      dsimp only [Option.bind_some]
      rw [cond_false, decide_eq_false hr, cond_false]
end Go.Proofs.Ytpionlekbfoccaa
set_option maxRecDepth 10000
namespace Go.Proofs.Ytpionlekbfoccaa
open Go Go.Sk

noncomputable def occI (q : Queues) (t : Int) : Int := @ite _ (Occ q t) (Classical.propDecidable _) 1 0
theorem f27_occ {q : Queues} (h : Ok q) (t : Int) : f27 q t = some (occI q t) := @f27_eq q h t (Classical.propDecidable _)
theorem occI_pos {q : Queues} {t : Int} (h : Occ q t) : occI q t = 1 := by unfold occI; rw [if_pos h]
theorem occI_neg {q : Queues} {t : Int} (h : ¬ Occ q t) : occI q t = 0 := by unfold occI; rw [if_neg h]
theorem occI_congr {q r : Queues} {t : Int} (h : Occ r t ↔ Occ q t) : occI r t = occI q t := by
  rcases Classical.em (Occ q t) with o | o
  · rw [occI_pos o, occI_pos (h.2 o)]
  · rw [occI_neg o, occI_neg (fun a => o (h.1 a))]
theorem move_res {q : Queues} (h : Ok q) (prio : Int) {x : Int} (hx : 0 ≤ x ∧ x < 32) : Res q (f29 q prio x) (fun t => Occ q t) := by
  by_cases hp : 0 ≤ prio ∧ prio < 32
  · by_cases hj : ∃ j, j < 32 ∧ x ∈ q.ready j
    · obtain ⟨p, hp2, hm⟩ := hj
      have e1 := drop_in h hx hp2 hm
      obtain ⟨r, e, h1, h2⟩ := drop_res h hx
      rw [e1] at h1
      simp only [Option.some.injEq, Prod.mk.injEq] at h1
      obtain ⟨hr, rfl⟩ := h1
      rcases h2 with ⟨h2, _⟩ | ⟨_, h3, h4, h5⟩
      · exact absurd rfl h2
      · obtain ⟨r', e', g1, g2⟩ := tail_res h3 prio hx
        refine ⟨r', e', ?_, ?_⟩
        · unfold f29
          rw [h.may, Option.bind_some, (f30_iff prio).2 hp, (f30_iff x).2 hx, find_in h hp2 hm]
          dsimp only [Option.bind_some]
          rw [e1]
          dsimp only [Option.bind_some]
          rw [hr, g1]
          rfl
        · rcases g2 with g2 | ⟨g2, g3, g4, g5⟩
          · exact .inl g2
          · refine .inr ⟨g2, g3, g4.trans h4, fun t ht => (g5 t ht).trans ?_⟩
            show (t = x ∨ Occ r t) ↔ Occ q t
            rw [h5 t ht]
            constructor
            · rintro (a | a)
              · rw [a]; exact .inr ⟨p, hp2, hm⟩
              · exact a.2
            · intro a
              by_cases e : t = x
              · exact .inl e
              · exact .inr ⟨e, a⟩
    · refine ⟨zQ, 6, ?_, .inl ⟨by decide, rfl⟩⟩
      unfold f29
      rw [h.may, Option.bind_some, (f30_iff prio).2 hp, (f30_iff x).2 hx, find_out h (fun j a b => hj ⟨j, a, b⟩)]
      rfl
  · refine ⟨zQ, 2, ?_, .inl ⟨by decide, rfl⟩⟩
    have hf : f30 prio = false := by
      cases hh : f30 prio with
      | false => rfl
      | true => exact absurd ((f30_iff prio).1 hh) hp
    unfold f29
    rw [h.may, Option.bind_some, hf]; rfl

theorem disp_res {q : Queues} (h : Ok q) (prio : Int) : Res q (f12 q prio) (fun t => Occ q t) := by
  by_cases hp : q.run ≥ 0 → 0 ≤ prio ∧ prio < 32
  · by_cases hk : (topF q.ready 32).2.2 = false ∨ (q.run ≥ 0 ∧ (topF q.ready 32).2.1 ≤ prio)
    · exact ⟨_, _, disp_keep h hp hk, .inr ⟨rfl, h, rfl, fun _ _ => Iff.rfl⟩⟩
    · have hc : (topF q.ready 32).2.2 = true := by
        cases hh : (topF q.ready 32).2.2 with
        | true => rfl
        | false => exact absurd (.inl hh) hk
      have hc2 : q.run ≥ 0 → prio < (topF q.ready 32).2.1 := fun hr => by
        by_cases a : (topF q.ready 32).2.1 ≤ prio
        · exact absurd (.inr ⟨hr, a⟩) hk
        · omega
      obtain ⟨p, L, h1, h2, h3, h4, h5⟩ := disp_go h hp hc hc2
      generalize (topF q.ready 32).1 = x at h2 h5
      have hpp : q.run ≥ 0 → prio < (p : Int) := fun hr => by have := hc2 hr; omega
      refine ⟨_, _, h5, .inr ⟨rfl, next_ok h hp h1 h2 hpp, rfl, fun t ht => ?_⟩⟩
      have base : ∀ j y, y ∈ vset q.ready p L j → y ∈ q.ready j := fun j y hy => by
        by_cases e : j = p
        · rw [e, vs_eq] at hy; rw [e, h2]; exact List.mem_cons_of_mem _ hy
        · rw [vs_ne _ _ e] at hy; exact hy
      unfold Occ
      dsimp only
      constructor
      · rintro (a | ⟨j, a, b⟩)
        · exact .inr ⟨p, h1, by rw [h2, a]; exact List.mem_cons_self⟩
        · unfold nextR at b
          by_cases hr : q.run ≥ 0
          · rw [if_pos hr] at b
            have hne : Int.toNat prio ≠ p := by have := hpp hr; have := hp hr; omega
            by_cases e : j = Int.toNat prio
            · rw [e, vs_eq, List.mem_cons] at b
              rcases b with b | b
              · exact .inl b.symm
              · exact .inr ⟨j, a, by rw [e]; exact b⟩
            · rw [vs_ne _ _ e] at b; exact .inr ⟨j, a, base j t b⟩
          · rw [if_neg hr] at b; exact .inr ⟨j, a, base j t b⟩
      · have inV : ∀ j, t ∈ q.ready j → t = x ∨ t ∈ vset q.ready p L j := fun j hy => by
          by_cases e : j = p
          · rw [e, h2, List.mem_cons] at hy
            rcases hy with a | a
            · exact .inl a
            · exact .inr (by rw [e, vs_eq]; exact a)
          · exact .inr (by rw [vs_ne _ _ e]; exact hy)
        rintro (a | ⟨j, a, b⟩)
        · have hr : q.run ≥ 0 := by omega
          refine .inr ⟨Int.toNat prio, by have := hp hr; omega, ?_⟩
          unfold nextR
          rw [if_pos hr, vs_eq, a]
          exact List.mem_cons_self
        · rcases inV j b with c | c
          · exact .inl c.symm
          · refine .inr ⟨j, a, ?_⟩
            unfold nextR
            by_cases hr : q.run ≥ 0
            · rw [if_pos hr]
              have hne : Int.toNat prio ≠ p := by have := hpp hr; have := hp hr; omega
              by_cases e : j = Int.toNat prio
              · rw [e, vs_eq]
                rw [e] at b
                exact List.mem_cons_of_mem _ b
              · rw [vs_ne _ _ e]; exact c
            · rw [if_neg hr]; exact c
  · have hr : q.run ≥ 0 := Classical.byContradiction fun a => hp (fun b => absurd b a)
    have hf : f30 prio = false := by
      cases hh : f30 prio with
      | false => rfl
      | true => exact absurd (fun _ => (f30_iff prio).1 hh) hp
    refine ⟨zQ, 2, ?_, .inl ⟨by decide, rfl⟩⟩
    unfold f12
    rw [h.may, Option.bind_some, hf, decide_eq_true hr]; rfl

/-- the task that a number names -/
def tk (x : Int) : Int := IntKind.i64.wrap (BitVec.ofInt IntKind.i64.bits x &&& BitVec.ofInt IntKind.i64.bits 31).toNat
theorem tk_rng (x : Int) : 0 ≤ tk x ∧ tk x < 32 := by
  unfold tk
  have h1 : (BitVec.ofInt IntKind.i64.bits x &&& BitVec.ofInt IntKind.i64.bits 31).toNat < 32 := by
    rw [BitVec.toNat_and]
    have e : (BitVec.ofInt IntKind.i64.bits 31).toNat = 31 := by decide
    rw [e]
    exact Nat.lt_succ_of_le Nat.and_le_right
  generalize (BitVec.ofInt IntKind.i64.bits x &&& BitVec.ofInt IntKind.i64.bits 31).toNat = m at h1
  rw [w64 (by omega) (by omega)]
  omega

theorem f8_l1_eq {q r : Queues} (hq : Ok q) (hr : Ok r) (x : Step) (k : Unit → Option Bool) (h : ∀ t, 0 ≤ t → t ≠ tk x.task → (Occ r t ↔ Occ q t)) : ∀ (n i : Nat) (z : Int), z = (i : Int) → i ≤ 32 → 32 - i < n → f8_l1 q x r.ready r.delays r.run k n z = k ()
  | 0, i, z, _, _, hh => by omega
  | n + 1, i, z, hz, hi, hh => by
    subst hz
    rw [f8_l1]
    have hre : (⟨r.ready, r.delays, r.run⟩ : Queues) = r := rfl
    by_cases c : i < 32
    · rw [decide_eq_true (by omega : (i : Int) < 32), cond_true, hre]
      have e0 : IntKind.i64.wrap (BitVec.ofInt IntKind.i64.bits x.task &&& BitVec.ofInt IntKind.i64.bits 31).toNat = tk x.task := rfl
      rw [e0, w64 (by omega) (by omega)]
      have e1 : (Option.bind (bif (!decide ((i : Int) = tk x.task)) then (Option.bind (f27 r (i : Int)) fun r146 => Option.bind (f27 q (i : Int)) fun r147 => some (!decide (r146 = r147))) else some false) fun b145 => (bif b145 then some false else (f8_l1 q x r.ready r.delays r.run k n ((i : Int) + 1)))) = f8_l1 q x r.ready r.delays r.run k n ((i : Int) + 1) := by
        by_cases e : (i : Int) = tk x.task
        · rw [decide_eq_true e]; rfl
        · rw [decide_eq_false e, Bool.not_false, cond_true, f27_occ hr, f27_occ hq, Option.bind_some, Option.bind_some, occI_congr (h _ (by omega) e), decide_eq_true rfl]
          rfl
      rw [e1]
      exact f8_l1_eq hq hr x k h n (i + 1) _ (by push_cast; rfl) (by omega) (by omega)
    · rw [decide_eq_false (by omega : ¬ (i : Int) < 32), cond_false]

/-- what is looked at behind the call -/
def keepK (q : Queues) (x : Step) (m : Nat) (want124 e125 : Int) (c00126 : Nat → List Int) (c032127 : List Due) (c033128 : Int) : Option Bool :=
  (bif (!decide (e125 = 0)) then Option.bind (f15 (Queues.mk c00126 c032127 c033128) (Queues.mk (fun _ => ([] : List Int)) [] 0)) fun r135 =>
   Option.bind (bif r135 then (Option.bind (f11) fun r137 => some r137) else some false) fun b136 =>
   some b136 else Option.bind (f10 (Queues.mk c00126 c032127 c033128)) fun r138 =>
   Option.bind (bif (!r138) then some true else (Option.bind (f27 (Queues.mk c00126 c032127 c033128) (IntKind.i64.wrap (BitVec.ofInt IntKind.i64.bits x.task &&& BitVec.ofInt IntKind.i64.bits 31).toNat)) fun r140 => some (!decide (r140 = want124)))) fun b139 =>
   (bif (b139 || (!decide ((List.length c032127 : Int) = (List.length q.delays : Int)))) then some false else letk (fun (_ : Unit) =>
   Option.bind (f11) fun r148 =>
   some r148) fun k141 =>
   (f8_l1 q x c00126 c032127 c033128 k141 m 0)))
theorem keepK_eq {q : Queues} (hq : Ok q) (x : Step) {m : Nat} (hm : 32 < m) {o : Option (Queues × Int)} {P : Int → Prop} (hres : Res q o P) (want : Int) (hw : (P (tk x.task) → want = 1) ∧ (¬ P (tk x.task) → want = 0)) (hP : ∀ t, 0 ≤ t → t ≠ tk x.task → (P t ↔ Occ q t)) :
    (Option.bind o fun r => keepK q x m want r.2 r.1.ready r.1.delays r.1.run) = some true := by
  obtain ⟨r, e, rfl, hre⟩ := hres
  rw [Option.bind_some]
  dsimp only
  have hrr : (⟨r.ready, r.delays, r.run⟩ : Queues) = r := rfl
  unfold keepK
  rw [hrr]
  rcases hre with ⟨h1, rfl⟩ | ⟨h1, h2, h3, h4⟩
  · rw [decide_eq_false h1, Bool.not_false, cond_true, f15_refl zQ ⟨(fun j _ => by simp), by simp⟩, f11_true]
    rfl
  · have htk := tk_rng x.task
    rw [decide_eq_true h1, Bool.not_true, cond_false, h2.may, Option.bind_some, Bool.not_true, cond_false]
    have e0 : IntKind.i64.wrap (BitVec.ofInt IntKind.i64.bits x.task &&& BitVec.ofInt IntKind.i64.bits 31).toNat = tk x.task := rfl
    rw [e0, f27_occ h2, Option.bind_some]
    have e1 : occI r (tk x.task) = want := by
      rcases Classical.em (P (tk x.task)) with o | o
      · rw [hw.1 o, occI_pos ((h4 _ htk.1).2 o)]
      · rw [hw.2 o, occI_neg (fun a => o ((h4 _ htk.1).1 a))]
    rw [e1, decide_eq_true rfl, Option.bind_some, h3, decide_eq_true rfl]
    unfold letk
    dsimp only
    rw [Bool.not_true, Bool.or_false, cond_false, ← h3]
    rw [f8_l1_eq hq h2 x _ (fun t ht hne => (h4 t ht).trans (hP t ht hne)) m 0 0 rfl (by omega) (by omega), f11_true]
    rfl

theorem law8 (q : Queues) (x : Step) (hb : Bnd q) : f8 q x = some true := by
  have key : ∀ m, 32 < m → (Option.bind (f9 q) fun r119 =>
  Option.bind (bif r119 then some true else (Option.bind (f10 q) fun r121 => some (!r121))) fun b120 =>
  (bif b120 then Option.bind (f11) fun r122 =>
  some r122 else Option.bind (f27 q (tk x.task)) fun r123 =>
  letk (keepK q x m) fun k129 =>
  (bif (decide ((Int.tmod x.what 5) = 0)) then Option.bind (f21 q x.prio (tk x.task)) fun r130 =>
  (k129 1 r130.2 r130.1.ready r130.1.delays r130.1.run) else (bif (decide ((Int.tmod x.what 5) = 1)) then Option.bind (f28 q x.prio (tk x.task)) fun r131 =>
  (k129 1 r131.2 r131.1.ready r131.1.delays r131.1.run) else (bif (decide ((Int.tmod x.what 5) = 2)) then Option.bind (f22 q (tk x.task)) fun r132 =>
  (k129 0 r132.2 r132.1.ready r132.1.delays r132.1.run) else (bif (decide ((Int.tmod x.what 5) = 3)) then Option.bind (f29 q x.prio (tk x.task)) fun r133 =>
  (k129 r123 r133.2 r133.1.ready r133.1.delays r133.1.run) else Option.bind (f12 q x.prio) fun r134 =>
  (k129 r123 r134.2 r134.1.ready r134.1.delays r134.1.run))))))) = some true := by
    intro m hm
    obtain ⟨b9, e9⟩ := f9_tot q
    obtain ⟨b10, e10⟩ := f10_tot q hb
    rw [e9, Option.bind_some, e10]
    have eh : (Option.bind f11 fun r126 => some r126) = some true := by rw [f11_true]; rfl
    cases b9 with
    | true => simp only [cond_true, Option.bind_some]; exact eh
    | false =>
      simp only [cond_false, Option.bind_some]
      cases b10 with
      | false => simp only [Bool.not_false, cond_true]; exact eh
      | true =>
        have ho := Ok.of hb e10
        have htk := tk_rng x.task
        rw [Bool.not_true, cond_false, f27_occ ho, Option.bind_some]
        unfold letk
        dsimp only
        by_cases c0 : Int.tmod x.what 5 = 0
        · rw [decide_eq_true c0, cond_true]
          exact keepK_eq ho x hm (tail_res ho x.prio htk) 1 ⟨fun _ => rfl, fun a => absurd (.inl rfl) a⟩ (fun t _ hne => ⟨fun a => a.resolve_left hne, .inr⟩)
        · rw [decide_eq_false c0, cond_false]
          by_cases c1 : Int.tmod x.what 5 = 1
          · rw [decide_eq_true c1, cond_true]
            exact keepK_eq ho x hm (head_res ho x.prio htk) 1 ⟨fun _ => rfl, fun a => absurd (.inl rfl) a⟩ (fun t _ hne => ⟨fun a => a.resolve_left hne, .inr⟩)
          · rw [decide_eq_false c1, cond_false]
            by_cases c2 : Int.tmod x.what 5 = 2
            · rw [decide_eq_true c2, cond_true]
              exact keepK_eq ho x hm (drop_res ho htk) 0 ⟨fun a => absurd rfl a.1, fun _ => rfl⟩ (fun t _ hne => ⟨fun a => a.2, fun a => ⟨hne, a⟩⟩)
            · rw [decide_eq_false c2, cond_false]
              by_cases c3 : Int.tmod x.what 5 = 3
              · rw [decide_eq_true c3, cond_true]
                exact keepK_eq ho x hm (move_res ho x.prio htk) _ ⟨occI_pos, occI_neg⟩ (fun t _ _ => Iff.rfl)
              · rw [decide_eq_false c3, cond_false]
                exact keepK_eq ho x hm (disp_res ho x.prio) _ ⟨occI_pos, occI_neg⟩ (fun t _ _ => Iff.rfl)
  rw [f8]
  exact key 9223372036854775808 (by decide)
end Go.Proofs.Ytpionlekbfoccaa
