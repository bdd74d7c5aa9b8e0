/- Layer 29: QueueTop. -/
import Derived.Test.YtpionlekbfoccaaL
set_option maxRecDepth 10000
namespace Go.Proofs.Ytpionlekbfoccaa
open Go Go.Sk

theorem f9_l1_tot (q : Queues) (k : Int → Option Bool) (hk : ∀ a, ∃ b, k a = some b) : ∀ (n i : Nat) (z a : Int), z = (i : Int) → i ≤ 32 → 32 - i < n → ∃ b, f9_l1 q k n a z = some b
  | 0, i, z, a, _, _, h => by omega
  | n + 1, i, z, a, hz, hi, h => by
    subst hz
    rw [f9_l1]
    by_cases hh : i < 32
    · rw [decide_eq_true (by omega : (i : Int) < 32), cond_true, guardB_t _ (vecOk_nat hh), w64 (x := (i : Int) + 1) (by omega) (by omega)]
      exact f9_l1_tot q k hk n (i + 1) _ _ (by push_cast; rfl) (by omega) (by omega)
    · rw [decide_eq_false (by omega : ¬ (i : Int) < 32), cond_false]
      exact hk a
theorem f9_tot (q : Queues) : ∃ b, f9 q = some b := by
  unfold f9 letk
  dsimp only
  exact f9_l1_tot q _ (fun _ => ⟨_, rfl⟩) _ 0 0 _ rfl (by decide) (by decide)

theorem f13_l2_eq (q : Queues) (x : Int) (p : Nat) (hp : p < 32) (k : Unit → Option Int) (hl : (q.ready p).length < 9223372036854775808) : ∀ (n i : Nat) (z : Int), z = (i : Int) → i ≤ (q.ready p).length → (q.ready p).length < n + i →
    f13_l2 q x (p : Int) k n z = if x ∈ (q.ready p).drop i then some (p : Int) else k ()
  | 0, i, z, _, _, h => by omega
  | n + 1, i, z, hz, hi, h => by
    subst hz
    rw [f13_l2, guardB_t _ (vecOk_nat hp), Int.toNat_natCast]
    by_cases hh : i < (q.ready p).length
    · rw [decide_eq_true (by omega : (i : Int) < ((q.ready p).length : Int)), cond_true, guardB_t _ (vecOk_nat hp), idx_in hh, Option.bind_some, w64 (by omega) (by omega), drop_cons hh]
      rw [f13_l2_eq q x p hp k hl n (i + 1) _ (by push_cast; rfl) (by omega) (by omega)]
      by_cases e : (q.ready p)[i] = x
      · rw [decide_eq_true e, cond_true, if_pos (by rw [e]; exact List.mem_cons_self)]
      · rw [decide_eq_false e, cond_false]
        have : x ∈ (q.ready p)[i] :: (q.ready p).drop (i + 1) ↔ x ∈ (q.ready p).drop (i + 1) := by
          rw [List.mem_cons]
          exact ⟨fun h => h.resolve_left (fun a => e a.symm), .inr⟩
        simp only [this]
    · have hd : (q.ready p).drop i = [] := List.drop_eq_nil_of_le (by omega)
      rw [decide_eq_false (by omega : ¬ (i : Int) < ((q.ready p).length : Int)), cond_false, hd]
      simp
theorem f13_l1_eq (q : Queues) (x : Int) (hb : Bnd q) (k : Unit → Option Int) {p : Nat} (hp : p < 32) (hx : x ∈ q.ready p) (hu : ∀ j, j < 32 → x ∈ q.ready j → j = p) : ∀ (n i : Nat) (z : Int), z = (i : Int) → i ≤ p → p - i < n → f13_l1 q x k n z = some (p : Int)
  | 0, i, z, _, _, h => by omega
  | n + 1, i, z, hz, hi, h => by
    subst hz
    rw [f13_l1, decide_eq_true (by omega : (i : Int) < 32), cond_true]
    unfold letk
    dsimp only
    rw [f13_l2_eq q x i (by omega) _ (hb.r i (by omega)) _ 0 0 rfl (by omega) (by have := hb.r i (by omega); omega), List.drop_zero]
    by_cases e : i = p
    · subst e; rw [if_pos hx]
    · rw [if_neg (fun h => e (hu i (by omega) h)), w64 (by omega) (by omega)]
      exact f13_l1_eq q x hb k hp hx hu n (i + 1) _ (by push_cast; rfl) (by omega) (by omega)
theorem f13_eq (q : Queues) (x : Int) (hb : Bnd q) {p : Nat} (hp : p < 32) (hx : x ∈ q.ready p) (hu : ∀ j, j < 32 → x ∈ q.ready j → j = p) : f13 q x = some (p : Int) := by
  unfold f13 letk
  dsimp only
  exact f13_l1_eq q x hb _ hp hx hu _ 0 0 rfl (Nat.zero_le _) (by omega)

theorem f31_l1_refl (L : List Int) (k : Unit → Option Bool) (hl : L.length < 9223372036854775808) : ∀ (n i : Nat) (z : Int), z = (i : Int) → i ≤ L.length → L.length < n + i → f31_l1 L L k n z = k ()
  | 0, i, z, _, _, h => by omega
  | n + 1, i, z, hz, hi, h => by
    subst hz
    rw [f31_l1]
    by_cases hh : i < L.length
    · rw [decide_eq_true (by omega : (i : Int) < (L.length : Int)), cond_true, idx_in hh, Option.bind_some, Option.bind_some, decide_eq_true rfl, Bool.not_true, cond_false, w64 (by omega) (by omega)]
      exact f31_l1_refl L k hl n (i + 1) _ (by push_cast; rfl) (by omega) (by omega)
    · rw [decide_eq_false (by omega : ¬ (i : Int) < (L.length : Int)), cond_false]
theorem f31_refl (L : List Int) (hl : L.length < 9223372036854775808) : f31 L L = some true := by
  unfold f31 letk
  dsimp only
  rw [decide_eq_true rfl, Bool.not_true, cond_false]
  exact f31_l1_refl L _ hl _ 0 0 rfl (by omega) (by omega)
theorem f15_l1_refl (q : Queues) (k : Unit → Option Bool) (hl : q.delays.length < 9223372036854775808) : ∀ (n i : Nat) (z : Int), z = (i : Int) → i ≤ q.delays.length → q.delays.length < n + i → f15_l1 q q k n z = k ()
  | 0, i, z, _, _, h => by omega
  | n + 1, i, z, hz, hi, h => by
    subst hz
    rw [f15_l1]
    by_cases hh : i < q.delays.length
    · rw [decide_eq_true (by omega : (i : Int) < (q.delays.length : Int)), cond_true, idx_in hh, Option.bind_some, Option.bind_some, decide_eq_true rfl, decide_eq_true rfl, w64 (by omega) (by omega)]
      exact f15_l1_refl q k hl n (i + 1) _ (by push_cast; rfl) (by omega) (by omega)
    · rw [decide_eq_false (by omega : ¬ (i : Int) < (q.delays.length : Int)), cond_false]
theorem f15_l2_refl (q : Queues) (k : Unit → Option Bool) (hb : Bnd q) : ∀ (n i : Nat) (z : Int), z = (i : Int) → i ≤ 32 → 32 - i < n → f15_l2 q q k n z = k ()
  | 0, i, z, _, _, h => by omega
  | n + 1, i, z, hz, hi, h => by
    subst hz
    rw [f15_l2]
    by_cases hh : i < 32
    · rw [decide_eq_true (by omega : (i : Int) < 32), cond_true, guardB_t _ (vecOk_nat hh), guardB_t _ (vecOk_nat hh), Int.toNat_natCast, f31_refl _ (hb.r i hh), Option.bind_some, Bool.not_true, cond_false, w64 (by omega) (by omega)]
      exact f15_l2_refl q k hb n (i + 1) _ (by push_cast; rfl) (by omega) (by omega)
    · rw [decide_eq_false (by omega : ¬ (i : Int) < 32), cond_false]
theorem f15_gen (q : Queues) (hb : Bnd q) (n m : Nat) (hn : q.delays.length < n) (hm : 32 < m) : (bif ((!decide (q.run = q.run)) || (!decide ((List.length q.delays : Int) = (List.length q.delays : Int)))) then some false else letk (fun (_ : Unit) =>
  letk (fun (_ : Unit) =>
  some true) fun k62 =>
  (f15_l2 q q k62 m 0)) fun k56 =>
  (f15_l1 q q k56 n 0)) = some true := by
  unfold letk
  dsimp only
  rw [decide_eq_true rfl, decide_eq_true rfl, Bool.not_true, Bool.or_false, cond_false, f15_l1_refl q _ hb.d n 0 0 rfl (by omega) (by omega)]
  exact f15_l2_refl q _ hb m 0 0 rfl (by omega) (by omega)
theorem f15_refl (q : Queues) (hb : Bnd q) : f15 q q = some true := by
  rw [f15]
  exact f15_gen q hb 9223372036854775808 9223372036854775808 hb.d (by decide)

/-- behind a dispatch: the second one changes nothing. -/
theorem top_le {F : Nat → List Int} {p : Nat} (hp : p < 32) (h : ∀ j, p < j → j < 32 → F j = []) (hc : (topF F 32).2.2 = true) : (topF F 32).2.1 ≤ (p : Int) := by
  obtain ⟨p', L, h1, h2, h3, _⟩ := topF_some hc
  rw [h3]
  by_cases e : p < p'
  · rw [h p' e h1] at h2; cases h2
  · omega

theorem law3 (q : Queues) (prio : Int) (hb : Bnd q) : f3 q prio = some true := by
  unfold f3
  obtain ⟨b9, e9⟩ := f9_tot q
  obtain ⟨b10, e10⟩ := f10_tot q hb
  rw [e9, Option.bind_some, e10]
  have eh : (Option.bind f11 fun r126 => some r126) = some true := by rw [f11_true]; rfl
  cases b9 with
  | true => simp only [cond_true, Option.bind_some, Bool.true_or]; exact eh
  | false =>
    simp only [cond_false, Option.bind_some]
    cases b10 with
    | false => simp only [Bool.not_false, Bool.true_or, cond_true]; exact eh
    | true =>
      have ho := Ok.of hb e10
      by_cases hp : 0 ≤ prio ∧ prio < 32
      · have e1 : ((!true) || decide (prio < 0) || decide (prio > 31)) = false := by simp; omega
        rw [e1, cond_false]
        have hp' : q.run ≥ 0 → 0 ≤ prio ∧ prio < 32 := fun _ => hp
        by_cases hk : (topF q.ready 32).2.2 = false ∨ (q.run ≥ 0 ∧ (topF q.ready 32).2.1 ≤ prio)
        · -- nothing changes
          have hd := disp_keep ho hp' hk
          rw [hd]
          unfold letk
          dsimp only [Option.bind_some]
          rw [decide_eq_true rfl, decide_eq_true rfl, Bool.not_true, cond_false, cond_false, f14_eq ho, Option.bind_some]
          have e2 : ((topF q.ready 32).2.2 && ((decide (q.run < 0)) || (decide ((topF q.ready 32).2.1 > prio)))) = false := by
            rcases hk with hk | ⟨a, b⟩
            · rw [hk]; rfl
            · rw [decide_eq_false (by omega), decide_eq_false (by omega)]; simp
          rw [e2, cond_false]
          by_cases hr : q.run < 0
          · rw [decide_eq_true hr, cond_true, cond_true, f11_true]; rfl
          · rw [decide_eq_false hr, cond_false, hd]
            dsimp only [Option.bind_some]
            rw [decide_eq_true rfl, cond_true, f15_refl q hb, f11_true]; rfl
        · have hc : (topF q.ready 32).2.2 = true := by
            cases h : (topF q.ready 32).2.2 with
            | true => rfl
            | false => exact absurd (.inl h) hk
          have hc2 : q.run ≥ 0 → prio < (topF q.ready 32).2.1 := fun hr => by
            by_cases a : (topF q.ready 32).2.1 ≤ prio
            · exact absurd (.inr ⟨hr, a⟩) hk
            · omega
          obtain ⟨p, L, h1, h2, h3, h4, h5⟩ := disp_go ho hp' hc hc2
          rw [h5]
          generalize hx : (topF q.ready 32).1 = x at *
          have hpp : q.run ≥ 0 → prio < (p : Int) := fun hr => by have := hc2 hr; omega
          have hok := next_ok ho hp' h1 h2 hpp
          have hxp : x ∈ q.ready p := by rw [h2]; simp
          have hxn := ho.r.num p x h1 hxp
          have hne : x ≠ q.run := fun e => ho.r.out p h1 (by rw [← e]; exact hxp)
          -- the queue where it was
          have hat : f13 q x = some (p : Int) := f13_eq q x hb h1 hxp (fun j hj hj2 => ho.r.ap' hj h1 hj2 hxp)
          have hemp : ∀ j, p < j → j < 32 → nextR q prio p L j = [] := fun j a b => by
            unfold nextR
            by_cases hr : q.run ≥ 0
            · have := hpp hr
              rw [if_pos hr, vs_ne _ _ (by omega), vs_ne _ _ (by omega)]; exact h4 j a b
            · rw [if_neg hr, vs_ne _ _ (by omega)]; exact h4 j a b
          have hrx : x ≥ 0 := hxn.1
          have hkeep : f12 ⟨nextR q prio p L, q.delays, x⟩ (p : Int) = some (⟨nextR q prio p L, q.delays, x⟩, 0) := by
            refine disp_keep hok (fun _ => by omega) ?_
            cases h : (topF (nextR q prio p L) 32).2.2 with
            | false => exact .inl rfl
            | true => exact .inr ⟨hrx, top_le h1 hemp h⟩
          unfold letk
          dsimp only [Option.bind_some]
          rw [decide_eq_true rfl, Bool.not_true, cond_false, decide_eq_false hne, Bool.not_false, cond_true, hat]
          dsimp only [Option.bind_some]
          rw [decide_eq_false (show ¬ (p : Int) < 0 by omega), cond_false]
          have e3 : (Option.bind (bif (decide (q.run ≥ 0)) then (guardB (vecOk 32 prio) <| Option.bind (bif (decide ((List.length (nextR q prio p L (Int.toNat prio)) : Int) = 0)) then some true else (guardB (vecOk 32 prio) <| Option.bind (idx (nextR q prio p L (Int.toNat prio)) 0) fun x136 => some (!decide (x136 = q.run)))) fun b134 => some (b134 || (decide ((p : Int) ≤ prio)))) else some false) fun b132 => some b132) = some false := by
            by_cases hr : q.run ≥ 0
            · have hq := hpp hr
              have e5 : vecOk 32 prio = true := by simp [vecOk]; omega
              have e6 : nextR q prio p L (Int.toNat prio) = q.run :: q.ready (Int.toNat prio) := by
                unfold nextR; rw [if_pos hr, vs_eq]
              rw [decide_eq_true hr, cond_true, guardB_t _ e5, e6, decide_eq_false (by simp; omega), cond_false, guardB_t _ e5]
              have : idx (q.run :: q.ready (Int.toNat prio)) 0 = some q.run := rfl
              rw [this, Option.bind_some, decide_eq_true rfl, Option.bind_some, decide_eq_false (show ¬ (p : Int) ≤ prio by omega)]
              rfl
            · rw [decide_eq_false hr]; rfl
          rw [e3]
          dsimp only [Option.bind_some]
          rw [cond_false, f14_eq hok]
          dsimp only [Option.bind_some]
          have e4 : ((topF (nextR q prio p L) 32).2.2 && ((decide (x < 0)) || (decide ((topF (nextR q prio p L) 32).2.1 > (p : Int))))) = false := by
            cases h : (topF (nextR q prio p L) 32).2.2 with
            | false => rfl
            | true =>
              have := top_le h1 hemp h
              rw [decide_eq_false (by omega), decide_eq_false (by omega)]; rfl
          rw [e4, cond_false, decide_eq_false (show ¬ x < 0 by omega), cond_false, hkeep]
          dsimp only [Option.bind_some]
          rw [decide_eq_true rfl, cond_true, f15_refl _ hok.b, f11_true]; rfl
      · have e1 : ((!true) || decide (prio < 0) || decide (prio > 31)) = true := by
          simp; omega
        rw [e1, cond_true]; exact eh
end Go.Proofs.Ytpionlekbfoccaa
set_option maxRecDepth 10000
namespace Go.Proofs.Ytpionlekbfoccaa
open Go Go.Sk

theorem f80_l1_eq (L : List Int) (x : Int) (hl : L.length < 9223372036854775808) : ∀ (n i : Nat) (z : Int), z = (i : Int) → i ≤ L.length → L.length < n + i → ∃ r, f80_l1 L x (fun _ => some (-1)) n z = some r ∧ (0 ≤ r ↔ x ∈ L.drop i)
  | 0, i, z, _, _, h => by omega
  | n + 1, i, z, hz, hi, h => by
    subst hz
    rw [f80_l1]
    by_cases hh : i < L.length
    · rw [decide_eq_true (by omega : (i : Int) < (L.length : Int)), cond_true, idx_in hh, Option.bind_some, w64 (by omega) (by omega), drop_cons hh]
      by_cases e : x = L[i]
      · rw [decide_eq_true e, cond_true]
        exact ⟨_, rfl, ⟨fun _ => by rw [e]; exact List.mem_cons_self, fun _ => by omega⟩⟩
      · rw [decide_eq_false e, cond_false]
        obtain ⟨r, h1, h2⟩ := f80_l1_eq L x hl n (i + 1) ((i : Int) + 1) (by push_cast; rfl) (by omega) (by omega)
        refine ⟨r, h1, h2.trans ?_⟩
        rw [List.mem_cons]
        exact ⟨.inr, fun h => h.resolve_left e⟩
    · have hd : L.drop i = [] := List.drop_eq_nil_of_le (by omega)
      rw [decide_eq_false (by omega : ¬ (i : Int) < (L.length : Int)), cond_false, hd]
      exact ⟨_, rfl, by simp⟩
theorem f71_eq (L : List Int) (x : Int) (hl : L.length < 9223372036854775808) : f71 L x = some (decide (x ∈ L)) := by
  unfold f71 f80 letk
  dsimp only
  obtain ⟨r, h1, h2⟩ := f80_l1_eq L x hl (Int.toNat ((List.length L : Int) - 0) + 1) 0 0 rfl (by omega) (by simp)
  rw [h1, Option.bind_some]
  rw [List.drop_zero] at h2
  congr 1
  by_cases e : x ∈ L
  · rw [decide_eq_true e, decide_eq_true (h2.2 e)]
  · rw [decide_eq_false e, decide_eq_false (fun a => e (h2.1 a))]

/-- The highest queue that holds a task. -/
def findF (F : Nat → List Int) (x : Int) : Nat → Int × Bool
  | 0 => (0, false)
  | n + 1 => if x ∈ F n then ((n : Int), true) else findF F x n
theorem f43_l1_eq (q : Queues) (x : Int) (hl : ∀ j, j < 32 → (q.ready j).length < 9223372036854775808) : ∀ (n i : Nat) (z : Int), z = (i : Int) - 1 → i ≤ 32 → i < n → f43_l1 q x (fun a => some (a, true)) (fun _ => some (0, false)) n z = some (findF q.ready x i)
  | 0, i, z, _, _, h => by omega
  | n + 1, 0, z, hz, hi, h => by
    subst hz
    rw [f43_l1]
    rfl
  | n + 1, i + 1, z, hz, hi, h => by
    have hz' : z = (i : Int) := by rw [hz]; push_cast; omega
    subst hz'
    rw [f43_l1]
    have hlt : i < ((List.range 32).map q.ready).length := by simp; omega
    have e : (List.map q.ready (List.range 32))[i]'hlt = q.ready i := by simp
    rw [decide_eq_true (by omega : (i : Int) ≥ 0), cond_true, idx_in hlt, Option.bind_some, e]
    unfold letk
    dsimp only
    rw [w64 (x := (i : Int) - 1) (by omega) (by omega), f43_l1_eq q x hl n i _ rfl (by omega) (by omega)]
    unfold findF
    by_cases h0 : q.ready i = []
    · rw [h0, decide_eq_false (by simp), cond_false]
      simp
      cases i <;> rfl
    · have : 0 < (q.ready i).length := List.length_pos_iff.2 h0
      rw [decide_eq_true (by omega), cond_true, f71_eq _ _ (hl i (by omega)), Option.bind_some]
      by_cases e : x ∈ q.ready i
      · rw [decide_eq_true e, cond_true, if_pos e]
      · rw [decide_eq_false e, cond_false, if_neg e]
        cases i <;> rfl
theorem f43_eq (q : Queues) (x : Int) (hb : Bnd q) : f43 q x = some (findF q.ready x 32) := by
  unfold f43 letk
  dsimp only
  have e1 : ((List.length (List.map q.ready (List.range 32)) : Int) - 1) = 31 := by simp
  have e2 : IntKind.i64.wrap 31 = 31 := by decide
  rw [e1, e2]
  exact f43_l1_eq q x hb.r 33 32 31 (by decide) (by decide) (by decide)
theorem findF_none {F : Nat → List Int} {x : Int} : ∀ {n : Nat}, (∀ j, j < n → x ∉ F j) → findF F x n = (0, false)
  | 0, _ => rfl
  | n + 1, h => by
    unfold findF
    rw [if_neg (h n (by omega))]
    exact findF_none (fun j hj => h j (by omega))
theorem findF_some {F : Nat → List Int} {x : Int} {p : Nat} : ∀ {n : Nat}, p < n → x ∈ F p → (∀ j, j < n → x ∈ F j → j = p) → findF F x n = ((p : Int), true)
  | 0, h, _, _ => by omega
  | n + 1, h, hx, hu => by
    unfold findF
    by_cases e : x ∈ F n
    · rw [if_pos e, hu n (by omega) e]
    · rw [if_neg e]
      have : p ≠ n := fun a => e (by rw [← a]; exact hx)
      exact findF_some (by omega) hx (fun j hj => hu j (by omega))

/-- Nowhere. -/
def Free (q : Queues) (x : Int) : Prop := q.run ≠ x ∧ ∀ j, j < 32 → x ∉ q.ready j
theorem put_ok {q : Queues} (h : Ok q) {p : Nat} {x : Int} {L : List Int} (hp : p < 32) (hx : 0 ≤ x ∧ x < 32) (hf : Free q x) (hL : ∀ y, y ∈ L ↔ y = x ∨ y ∈ q.ready p) (hn : L.Nodup) : Ok ⟨vset q.ready p L, q.delays, q.run⟩ := by
  refine Ok.mk2 ?_ h.b.d h.d
  have key : ∀ j y, j < 32 → y ∈ vset q.ready p L j → y ∈ q.ready j ∨ (j = p ∧ y = x) := fun j y hj hy => by
    by_cases e : j = p
    · rw [e, vs_eq] at hy
      rcases (hL y).1 hy with a | a
      · exact .inr ⟨e, a⟩
      · exact .inl (by rw [e]; exact a)
    · rw [vs_ne _ _ e] at hy; exact .inl hy
  refine ⟨h.r.run, fun j y hj hy => ?_, fun j hj => ?_, fun j k y hjk hk hy hz => ?_, fun j hj hy => ?_⟩
  · rcases key j y hj hy with a | ⟨_, a⟩
    · exact h.r.num j y hj a
    · rw [a]; exact hx
  · by_cases e : j = p
    · show (vset q.ready p L j).Nodup
      rw [e, vs_eq]; exact hn
    · show (vset q.ready p L j).Nodup
      rw [vs_ne _ _ e]; exact h.r.nd j hj
  · rcases key j y (by omega) hy with a | ⟨a1, a2⟩ <;> rcases key k y hk hz with b | ⟨b1, b2⟩
    · exact h.r.ap j k y hjk hk a b
    · exact hf.2 j (by omega) (by rw [← b2]; exact a)
    · exact hf.2 k hk (by rw [← a2]; exact b)
    · omega
  · rcases key j _ hj hy with a | ⟨_, a⟩
    · exact h.r.out j hj a
    · exact hf.1 a

theorem tail_eq {q : Queues} (h : Ok q) {prio x : Int} (hp : 0 ≤ prio ∧ prio < 32) (hx : 0 ≤ x ∧ x < 32) (hf : Free q x) :
    f21 q prio x = some (⟨vset q.ready (Int.toNat prio) (q.ready (Int.toNat prio) ++ [x]), q.delays, q.run⟩, 0) := by
  have hp2 : Int.toNat prio < 32 := by omega
  have e5 : vecOk 32 prio = true := by simp [vecOk]; omega
  have e6 : appOk 8 (q.ready (Int.toNat prio)) [x] = true := by
    have := h.r.len hp2
    simp [appOk, maxLen] <;> omega
  unfold f21 letk
  dsimp only
  rw [h.may, Option.bind_some, (f30_iff prio).2 hp, (f30_iff x).2 hx, f43_eq q x h.b, findF_none (fun j hj => hf.2 j hj)]
  dsimp only [Option.bind_some]
  rw [decide_eq_false hf.1, guardB_t _ e5, guardB_t _ h.own, guardB_t _ e5, guardB_t _ e5, guardB_t _ e6]
  rfl
theorem tail_ok {q : Queues} (h : Ok q) {prio x : Int} (hp : 0 ≤ prio ∧ prio < 32) (hx : 0 ≤ x ∧ x < 32) (hf : Free q x) : Ok ⟨vset q.ready (Int.toNat prio) (q.ready (Int.toNat prio) ++ [x]), q.delays, q.run⟩ :=
  put_ok h (by omega) hx hf (fun y => by simp [or_comm]) (by
    rw [List.nodup_append]
    exact ⟨h.r.nd _ (by omega), by simp, fun a ha b hb e => by
      simp at hb
      exact hf.2 (Int.toNat prio) (by omega) (by rw [← hb, ← e]; exact ha)⟩)
end Go.Proofs.Ytpionlekbfoccaa
set_option maxRecDepth 10000
namespace Go.Proofs.Ytpionlekbfoccaa
open Go Go.Sk

def strike (x : Int) (L : List Int) : List Int := L.filter (fun y => !decide (y = x))
theorem f22_l2_eq (x : Int) (k : Int → List Int → Option (Queues × Int)) : ∀ (n i j : Nat) (a b : Int) (l : List Int), a = (i : Int) → b = (j : Int) → i < j → j ≤ l.length → l.length < n + j → l.length < 9223372036854775808 →
    ∃ (i' : Nat) (l' : List Int), f22_l2 x k n a b l = k (i' : Int) l' ∧ i' ≤ l'.length ∧ l'.length = l.length ∧ l'.take i' = l.take i ++ strike x (l.drop j)
  | 0, i, j, a, b, l, _, _, _, _, h, _ => by omega
  | n + 1, i, j, a, b, l, ha, hb, hij, hj, h, hl => by
    subst ha; subst hb
    rw [f22_l2]
    by_cases hh : j < l.length
    · rw [decide_eq_true (by omega : (j : Int) < (l.length : Int)), cond_true]
      unfold letk
      dsimp only
      rw [idx_in hh, Option.bind_some, idx_in (show i < l.length by omega), Option.bind_some, w64 (x := (j : Int) + 1) (by omega) (by omega), w64 (x := (i : Int) + 1) (by omega) (by omega), Int.toNat_natCast, drop_cons hh]
      by_cases e : l[j] = x
      · rw [decide_eq_true e, Bool.not_true, cond_false]
        obtain ⟨i', l', h1, h2, h3, h4⟩ := f22_l2_eq x k n i (j + 1) _ ((j : Int) + 1) l rfl (by push_cast; rfl) (by omega) (by omega) (by omega) hl
        refine ⟨i', l', h1, h2, h3, h4.trans ?_⟩
        simp [strike, e]
      · rw [decide_eq_false e, Bool.not_false, cond_true]
        obtain ⟨i', l', h1, h2, h3, h4⟩ := f22_l2_eq x k n (i + 1) (j + 1) ((i : Int) + 1) ((j : Int) + 1) (l.set i l[j]) (by push_cast; rfl) (by push_cast; rfl) (by omega) (by simp; omega) (by simp; omega) (by simpa using hl)
        refine ⟨i', l', h1, h2, by simpa using h3, h4.trans ?_⟩
        have e1 : (l.set i l[j]).take (i + 1) = l.take i ++ [l[j]] := by
          apply List.ext_getElem?
          intro m
          rw [List.getElem?_take]
          by_cases hm : m < i
          · rw [if_pos (by omega), List.getElem?_set_ne (by omega), List.getElem?_append_left (by simp; omega), List.getElem?_take, if_pos hm]
          · by_cases hm2 : m = i
            · subst hm2
              rw [if_pos (by omega), List.getElem?_set_self (by omega), List.getElem?_append_right (by simp; omega), List.length_take, Nat.min_eq_left (by omega), Nat.sub_self]
              rfl
            · rw [if_neg (by omega), List.getElem?_append_right (by simp; omega), List.length_take]
              exact (List.getElem?_eq_none (by simp; omega)).symm
        have e2 : (l.set i l[j]).drop (j + 1) = l.drop (j + 1) := by
          apply List.ext_getElem?
          intro m
          rw [List.getElem?_drop, List.getElem?_drop, List.getElem?_set_ne (by omega)]
        rw [e1, e2, List.append_assoc]
        unfold strike
        rw [List.filter_cons, if_pos (by simp [e])]
        rfl
    · have hd : l.drop j = [] := List.drop_eq_nil_of_le (by omega)
      rw [decide_eq_false (by omega : ¬ (j : Int) < (l.length : Int)), cond_false, hd]
      exact ⟨i, l, rfl, by omega, rfl, by simp [strike]⟩

theorem f22_l1_eq (x : Int) (L : List Int) (k64 : Int → Option (Queues × Int)) (k65 : Unit → Option (Queues × Int)) (hl : L.length < 9223372036854775808) : ∀ (n i : Nat) (z : Int), z = (i : Int) → i ≤ L.length → L.length < n + i → x ∈ L.drop i →
    ∃ m, i ≤ m ∧ ∃ hm : m < L.length, L[m] = x ∧ (∀ y ∈ (L.take m).drop i, y ≠ x) ∧ f22_l1 x L k64 k65 n z = k64 (m : Int)
  | 0, i, z, _, _, h, _ => by omega
  | n + 1, i, z, hz, hi, h, hx => by
    subst hz
    by_cases hh : i < L.length
    · rw [f22_l1, decide_eq_true (by omega : (i : Int) < (L.length : Int)), cond_true, idx_in hh, Option.bind_some]
      unfold letk
      dsimp only
      by_cases e : L[i] = x
      · rw [decide_eq_true e, cond_true]
        exact ⟨i, Nat.le_refl i, hh, e, (fun y hy => by rw [List.drop_eq_nil_of_le (by simp; omega)] at hy; cases hy), rfl⟩
      · rw [decide_eq_false e, cond_false, w64 (by omega) (by omega)]
        rw [drop_cons hh, List.mem_cons] at hx
        obtain ⟨m, h1, h2, h3, h4, h5⟩ := f22_l1_eq x L k64 k65 hl n (i + 1) ((i : Int) + 1) (by push_cast; rfl) (by omega) (by omega) (hx.resolve_left (fun a => e a.symm))
        refine ⟨m, by omega, h2, h3, fun y hy => ?_, h5⟩
        have hlt : i < (L.take m).length := by simp; omega
        rw [drop_cons hlt, List.mem_cons] at hy
        rcases hy with hy | hy
        · rw [hy]; simpa using e
        · exact h4 y hy
    · rw [List.drop_eq_nil_of_le (by omega)] at hx; cases hx

theorem strike_id {x : Int} {L : List Int} (h : ∀ y ∈ L, y ≠ x) : strike x L = L := by
  unfold strike
  rw [List.filter_eq_self]
  intro y hy
  simp [h y hy]
theorem strike_at {x : Int} {L : List Int} {m : Nat} (hm : m < L.length) (e : L[m] = x) (h : ∀ y ∈ L.take m, y ≠ x) : L.take m ++ strike x (L.drop (m + 1)) = strike x L := by
  conv => rhs; rw [← List.take_append_drop m L]
  rw [drop_cons hm]
  have h1 := strike_id h
  unfold strike at h1 ⊢
  rw [List.filter_append, h1, List.filter_cons, if_neg (by simp [e])]

theorem drop_in {q : Queues} (h : Ok q) {x : Int} (hx : 0 ≤ x ∧ x < 32) {p : Nat} (hp : p < 32) (hm : x ∈ q.ready p) : f22 q x = some (⟨vset q.ready p (strike x (q.ready p)), q.delays, q.run⟩, 0) := by
  have hl : (q.ready p).length < 9223372036854775808 := h.b.r p hp
  unfold f22
  rw [h.may, Option.bind_some, (f30_iff x).2 hx, f43_eq q x h.b, findF_some hp hm (fun j hj hj2 => h.r.ap' hj hp hj2 hm)]
  have e0 : O.f32 q = some q := by unfold O.f32; rw [guardB_t _ h.own]
  have e1 : O.f60o (q.ready p) = some (q.ready p) := by
    unfold O.f60o
    rw [guardB_t]
    have := h.r.len hp
    simp [appOk, maxLen] <;> omega
  unfold letk
  dsimp only [Option.bind_some]
  rw [e0, Bool.not_true, Bool.or_false, cond_false]
  dsimp only [Option.bind_some]
  rw [cond_true, guardB_t _ (vecOk_nat hp), Int.toNat_natCast, e1]
  dsimp only [Option.bind_some]
  obtain ⟨m, _, h2, h3, h4, h5⟩ := f22_l1_eq x (q.ready p) _ (fun _ => _) hl (Int.toNat ((List.length (q.ready p) : Int) - 0) + 1) 0 0 rfl (by omega) (by simp) (by simpa using hm)
  rw [h5]
  rw [List.drop_zero] at h4
  rw [decide_eq_false (show ¬ (m : Int) = -1 by omega), cond_false, w64 (by omega) (by omega)]
  obtain ⟨i', l', g1, g2, g3, g4⟩ := f22_l2_eq x (fun iq72 l73 => guardB (sliceOk l73 iq72 (List.length l73 : Int)) <|
  guardB (pieceOk l73 (Int.toNat iq72) (Int.toNat (List.length l73 : Int) - Int.toNat iq72)) <|
  guardB (sliceOk (clearF l73 (Int.toNat iq72) (Int.toNat (List.length l73 : Int) - Int.toNat iq72) (0 : Int)) 0 iq72) <|
  (guardB (vecOk 32 (p : Int)) <| some (Queues.mk (vset q.ready p (sliceF (clearF l73 (Int.toNat iq72) (Int.toNat (List.length l73 : Int) - Int.toNat iq72) (0 : Int)) 0 iq72)) q.delays q.run, 0))) 9223372036854775808 m (m + 1) (m : Int) ((m : Int) + 1) (q.ready p) rfl (by push_cast; rfl) (by omega) (by omega) (by omega) hl
  refine Eq.trans g1 ?_
  rw [strike_at h2 h3 h4] at g4
  have hcl : (clearF l' i' (l'.length - i') (0 : Int)).length = l'.length := by simp [clearF]; omega
  have t1 : sliceOk l' (i' : Int) (List.length l' : Int) = true := by simp [sliceOk]; omega
  have t2 : pieceOk l' i' (l'.length - i') = true := by simp [pieceOk]; omega
  have t3 : sliceOk (clearF l' i' (l'.length - i') (0 : Int)) 0 (i' : Int) = true := by simp [sliceOk, hcl]; omega
  have t4 : sliceF (clearF l' i' (l'.length - i') (0 : Int)) 0 (i' : Int) = strike x (q.ready p) := by
    rw [← g4]
    show ((l'.take i' ++ (List.replicate (l'.length - i') 0 ++ l'.drop (i' + (l'.length - i')))).drop 0).take (i' - 0) = _
    rw [Nat.sub_zero, List.drop_zero, List.take_append_of_le_length (by simp; omega), List.take_take, Nat.min_self]
  rw [guardB_t _ t1]
  simp only [Int.toNat_natCast]
  rw [guardB_t _ t2, guardB_t _ t3, guardB_t _ (vecOk_nat hp), t4]
end Go.Proofs.Ytpionlekbfoccaa
set_option maxRecDepth 10000
namespace Go.Proofs.Ytpionlekbfoccaa
open Go Go.Sk

theorem drop_run {q : Queues} (h : Ok q) (hx : 0 ≤ q.run ∧ q.run < 32) : f22 q q.run = some (⟨q.ready, q.delays, -1⟩, 0) := by
  unfold f22
  rw [h.may, Option.bind_some, (f30_iff _).2 hx, f43_eq q _ h.b, findF_none (fun j hj => h.r.out j hj)]
  have e0 : O.f32 q = some q := by unfold O.f32; rw [guardB_t _ h.own]
  unfold letk
  dsimp only [Option.bind_some]
  rw [e0, Bool.not_true, Bool.or_false, cond_false]
  dsimp only [Option.bind_some]
  rw [cond_false, decide_eq_true rfl, cond_true]

/-- the priority that a number gives -/
def pf (x : Int) : Int := IntKind.i64.wrap (IntKind.u8.wrap (BitVec.ofInt IntKind.u8.bits x &&& BitVec.ofInt IntKind.u8.bits 31).toNat)
theorem pf_rng (x : Int) : 0 ≤ pf x ∧ pf x < 32 := by
  unfold pf
  have h1 : (BitVec.ofInt IntKind.u8.bits x &&& BitVec.ofInt IntKind.u8.bits 31).toNat < 32 := by
    rw [BitVec.toNat_and]
    have e : (BitVec.ofInt IntKind.u8.bits 31).toNat = 31 := by decide
    rw [e]
    exact Nat.lt_succ_of_le Nat.and_le_right
  generalize (BitVec.ofInt IntKind.u8.bits x &&& BitVec.ofInt IntKind.u8.bits 31).toNat = m at h1
  have h2 : ∀ m : Nat, m < 32 → 0 ≤ IntKind.i64.wrap (IntKind.u8.wrap (m : Int)) ∧ IntKind.i64.wrap (IntKind.u8.wrap (m : Int)) < 32 := by decide
  exact h2 m h1

theorem tot_vset (F : Nat → List Int) (p : Nat) (L : List Int) : ∀ n i, i ≤ p → p < i + n → (flat (vset F p L) n i).length + (F p).length = (flat F n i).length + L.length
  | 0, i, h1, h2 => by omega
  | n + 1, i, h1, h2 => by
    rw [flat, flat, List.length_append, List.length_append]
    by_cases e : p = i
    · subst e
      rw [vs_eq]
      have : ∀ m j, p < j → flat (vset F p L) m j = flat F m j := fun m => by
        induction m with
        | zero => intro j _; rfl
        | succ m ih => intro j hj; rw [flat, flat, vs_ne _ _ (by omega), ih (j + 1) (by omega)]
      rw [this n (p + 1) (by omega)]
      omega
    · rw [vs_ne _ _ (Ne.symm e)]
      have := tot_vset F p L n (i + 1) (by omega) (by omega)
      omega
theorem flat_nil {F : Nat → List Int} (h : (flat F 32 0).length = 0) : ∀ j, j < 32 → F j = [] := fun j hj => by
  have := flat_len (F := F) (n := 32) (i := 0) (j := j) (by omega) (by omega)
  exact List.eq_nil_of_length_eq_zero (by omega)

/-- The tasks of a list of priorities that are still there. -/
structure Sv (ps : List Int) (q : Queues) : Prop where
  ok : Ok q
  run : q.run = -1
  srt : ∀ p, p < 32 → (q.ready p).Pairwise (· < ·)
  num : ∀ p t, p < 32 → t ∈ q.ready p → 0 ≤ t ∧ t < (ps.length : Int) ∧ ∃ x, ps[Int.toNat t]? = some x ∧ pf x = (p : Int)

theorem serve_loop (ps : List Int) (hn : ps.length ≤ 32) (k : (Nat → List Int) → List Due → Int → Option Bool) (hk : ∀ F d, Ok ⟨F, d, -1⟩ → (∀ j, j < 32 → F j = []) → k F d (-1) = some true) : ∀ (n i : Nat) (z last seen : Int) (q : Queues), z = (i : Int) → i ≤ ps.length → ps.length < n + i → Sv ps q → (flat q.ready 32 0).length = ps.length - i →
    (∀ p : Nat, p < 32 → last < (p : Int) → q.ready p = []) → (∀ (p : Nat) t, p < 32 → last = (p : Int) → t ∈ q.ready p → seen ≤ t) → f5_l2 ps k n last seen z q.ready q.delays q.run = some true
  | 0, i, z, last, seen, q, _, _, h, _, _, _, _ => by omega
  | n + 1, i, z, last, seen, q, hz, hi, h, hs, ht, hl1, hl2 => by
    subst hz
    rw [f5_l2]
    by_cases hh : i < ps.length
    · have hq : (⟨q.ready, q.delays, q.run⟩ : Queues) = q := rfl
      rw [decide_eq_true (by omega : (i : Int) < (ps.length : Int)), cond_true, hq]
      have hr0 : ¬ q.run ≥ 0 := by rw [hs.run]; decide
      have hc : (topF q.ready 32).2.2 = true := by
        cases hcc : (topF q.ready 32).2.2 with
        | true => rfl
        | false =>
          have hz := topF_none hcc
          have : ∀ m j, j + m ≤ 32 → flat q.ready m j = [] := fun m => by
            induction m with
            | zero => intro j _; rfl
            | succ m ih => intro j hj; rw [flat, hz j (by omega), ih (j + 1) (by omega)]; rfl
          rw [this 32 0 (by omega)] at ht
          simp at ht
          omega
      obtain ⟨p, L, h1, h2, h3, h4, h5⟩ := disp_go hs.ok (prio := 0) (fun hr => absurd hr hr0) hc (fun hr => absurd hr hr0)
      rw [h5, Option.bind_some]
      generalize (topF q.ready 32).1 = x at h2 h5 ⊢
      have hN : nextR q 0 p L = vset q.ready p L := by unfold nextR; rw [if_neg hr0]
      have hok := next_ok hs.ok (prio := 0) (fun hr => absurd hr hr0) h1 h2 (fun hr => absurd hr hr0)
      rw [hN] at hok ⊢
      obtain ⟨a1, a2, y, a3, a4⟩ := hs.num p x h1 (by rw [h2]; simp)
      have hxt : Int.toNat x < ps.length := by omega
      have hidx : idx ps x = some y := by
        have := idx_in hxt
        rw [Int.toNat_of_nonneg a1] at this
        rw [this]
        rw [List.getElem?_eq_getElem hxt] at a3
        exact a3
      dsimp only
      rw [decide_eq_true rfl, decide_eq_false (show ¬ x < 0 by omega), decide_eq_false (show ¬ x ≥ (ps.length : Int) by omega)]
      simp only [Bool.not_true, Bool.or_false, cond_false]
      rw [hidx, Option.bind_some]
      have e1 : IntKind.i64.wrap (IntKind.u8.wrap (BitVec.ofInt IntKind.u8.bits y &&& BitVec.ofInt IntKind.u8.bits 31).toNat) = (p : Int) := a4
      rw [e1]
      have hle : (p : Int) ≤ last := by
        by_cases c : last < (p : Int)
        · have := hl1 p h1 c
          rw [this] at h2; cases h2
        · omega
      have e2 : ((decide ((p : Int) > last)) || ((decide ((p : Int) = last)) && (decide (x < seen)))) = false := by
        rw [decide_eq_false (by omega)]
        by_cases c : (p : Int) = last
        · have := hl2 p x h1 c.symm (by rw [h2]; simp)
          rw [decide_eq_false (show ¬ x < seen by omega)]; simp
        · rw [decide_eq_false c]; rfl
      rw [e2, cond_false]
      have hd := drop_run hok ⟨a1, by show x < 32; omega⟩
      dsimp only at hd
      rw [hd, Option.bind_some]
      dsimp only
      rw [decide_eq_true rfl, Bool.not_true, cond_false, w64 (by omega) (by omega)]
      have hsr := hs.srt p h1
      rw [h2, List.pairwise_cons] at hsr
      have hok2 : Ok ⟨vset q.ready p L, q.delays, -1⟩ := Ok.mk2 ⟨.inl rfl, hok.r.num, hok.r.nd, hok.r.ap, fun j hj hy => by
        have := hok.r.num j _ hj hy
        simp at this⟩ hok.b.d hok.d
      refine serve_loop ps hn k hk n (i + 1) _ (p : Int) x ⟨vset q.ready p L, q.delays, -1⟩ (by push_cast; rfl) (by omega) (by omega) ⟨hok2, rfl, fun j hj => ?_, fun j t hj ht2 => ?_⟩ ?_ (fun j hj hlt => ?_) (fun j t hj hjl ht2 => ?_)
      · show (vset q.ready p L j).Pairwise _
        by_cases e : j = p
        · rw [e, vs_eq]; exact hsr.2
        · rw [vs_ne _ _ e]; exact hs.srt j hj
      · have ht3 : t ∈ vset q.ready p L j := ht2
        by_cases e : j = p
        · rw [e, vs_eq] at ht3
          rw [e]
          exact hs.num p t h1 (by rw [h2]; exact List.mem_cons_of_mem _ ht3)
        · rw [vs_ne _ _ e] at ht3; exact hs.num j t hj ht3
      · have := tot_vset q.ready p L 32 0 (by omega) (by omega)
        rw [h2] at this
        simp only [List.length_cons] at this
        show (flat (vset q.ready p L) 32 0).length = _
        omega
      · show vset q.ready p L j = []
        rw [vs_ne _ _ (by omega)]
        exact h4 j (by omega) hj
      · have e : j = p := by omega
        have ht3 : t ∈ vset q.ready p L j := ht2
        rw [e, vs_eq] at ht3
        have := hsr.1 t ht3
        omega
    · rw [decide_eq_false (by omega : ¬ (i : Int) < (ps.length : Int)), cond_false, hs.run]
      refine hk _ _ ?_ (flat_nil (by omega))
      have := hs.ok
      have e : q = ⟨q.ready, q.delays, -1⟩ := by rw [← hs.run]
      rw [e] at this
      exact this

theorem fill_loop (ps : List Int) (hn : ps.length ≤ 32) (k : (Nat → List Int) → List Due → Int → Option Bool) (hk : ∀ q, Sv ps q → (flat q.ready 32 0).length = ps.length → k q.ready q.delays q.run = some true) : ∀ (n i : Nat) (z : Int) (q : Queues), z = (i : Int) → i ≤ ps.length → ps.length < n + i → Sv ps q → (flat q.ready 32 0).length = i → (∀ p t, p < 32 → t ∈ q.ready p → t < (i : Int)) →
    f5_l1 ps k n z q.ready q.delays q.run = some true
  | 0, i, z, q, _, _, h, _, _, _ => by omega
  | n + 1, i, z, q, hz, hi, h, hs, ht, hlt => by
    subst hz
    rw [f5_l1]
    by_cases hh : i < ps.length
    · have hq : (⟨q.ready, q.delays, q.run⟩ : Queues) = q := rfl
      rw [decide_eq_true (by omega : (i : Int) < (ps.length : Int)), cond_true, hq, idx_in hh, Option.bind_some]
      have hp := pf_rng ps[i]
      have e1 : IntKind.i64.wrap (IntKind.u8.wrap (BitVec.ofInt IntKind.u8.bits ps[i] &&& BitVec.ofInt IntKind.u8.bits 31).toNat) = pf ps[i] := rfl
      rw [e1]
      generalize hpe : pf ps[i] = pr at hp
      have hx : 0 ≤ (i : Int) ∧ (i : Int) < 32 := by omega
      have hf : Free q (i : Int) := ⟨by rw [hs.run]; omega, fun j hj hm => by have := hlt j _ hj hm; omega⟩
      rw [tail_eq hs.ok hp hx hf, Option.bind_some]
      dsimp only
      rw [decide_eq_true rfl, Bool.not_true, cond_false, w64 (by omega) (by omega)]
      have hpn : Int.toNat pr < 32 := by omega
      refine fill_loop ps hn k hk n (i + 1) _ ⟨vset q.ready (Int.toNat pr) (q.ready (Int.toNat pr) ++ [(i : Int)]), q.delays, q.run⟩ (by push_cast; rfl) (by omega) (by omega) ⟨tail_ok hs.ok hp hx hf, hs.run, fun j hj => ?_, fun j t hj ht2 => ?_⟩ ?_ (fun j t hj ht2 => ?_)
      · show (vset q.ready (Int.toNat pr) _ j).Pairwise _
        by_cases e : j = Int.toNat pr
        · rw [e, vs_eq, List.pairwise_append]
          exact ⟨hs.srt _ hpn, by simp, fun a ha b hb => by
            simp at hb
            rw [hb]; exact hlt _ a hpn ha⟩
        · rw [vs_ne _ _ e]; exact hs.srt j hj
      · have ht3 : t ∈ vset q.ready (Int.toNat pr) (q.ready (Int.toNat pr) ++ [(i : Int)]) j := ht2
        by_cases e : j = Int.toNat pr
        · rw [e, vs_eq, List.mem_append] at ht3
          rcases ht3 with ht3 | ht3
          · rw [e]; exact hs.num _ t hpn ht3
          · simp at ht3
            rw [ht3]
            exact ⟨by omega, by omega, ps[i], by simp [hh], by rw [hpe, e]; omega⟩
        · rw [vs_ne _ _ e] at ht3; exact hs.num j t hj ht3
      · have := tot_vset q.ready (Int.toNat pr) (q.ready (Int.toNat pr) ++ [(i : Int)]) 32 0 (by omega) (by omega)
        simp only [List.length_append, List.length_cons, List.length_nil] at this
        show (flat (vset q.ready (Int.toNat pr) _) 32 0).length = _
        omega
      · have ht3 : t ∈ vset q.ready (Int.toNat pr) (q.ready (Int.toNat pr) ++ [(i : Int)]) j := ht2
        by_cases e : j = Int.toNat pr
        · rw [e, vs_eq, List.mem_append] at ht3
          rcases ht3 with ht3 | ht3
          · have := hlt _ t hpn ht3; push_cast; omega
          · simp at ht3; push_cast; omega
        · rw [vs_ne _ _ e] at ht3
          have := hlt j t hj ht3; push_cast; omega
    · rw [decide_eq_false (by omega : ¬ (i : Int) < (ps.length : Int)), cond_false]
      exact hk q hs (by omega)

theorem law5_gen (ps : List Int) (n m : Nat) (hn : ps.length < n) (hm : ps.length < m) : (bif (decide ((List.length ps : Int) > 32)) then Option.bind (f11) fun r113 =>
  some r113 else letk (fun (c00114 : Nat → (List Int)) (c032115 : List Due) (c033116 : Int) =>
  letk (fun (c00132 : Nat → (List Int)) (c032133 : List Due) (c033134 : Int) =>
  Option.bind (f14 (Queues.mk c00132 c032133 c033134)) fun r157 =>
  Option.bind (bif (!r157.2.2) then (Option.bind (f11) fun r159 => some r159) else some false) fun b158 =>
  some b158) fun k135 =>
  (f5_l2 ps k135 m 31 (-1) 0 c00114 c032115 c033116)) fun k117 =>
  (f5_l1 ps k117 n 0 f16.ready f16.delays f16.run)) = some true := by
  by_cases h32 : (ps.length : Int) > 32
  · rw [decide_eq_true h32, cond_true, f11_true]; rfl
  · rw [decide_eq_false h32, cond_false]
    unfold letk
    dsimp only
    have hok0 : Ok f16 := Ok.mk2 ⟨.inl rfl, (fun j x _ h => by cases h), (fun j _ => List.nodup_nil), (fun j k x _ _ h => by cases h), (fun j _ h => by cases h)⟩ (by decide) (by decide)
    refine fill_loop ps (by omega) _ (fun q hs ht => ?_) n 0 0 f16 rfl (by omega) (by omega) ⟨hok0, rfl, (fun p _ => List.Pairwise.nil), (fun p t _ h => by cases h)⟩ (by decide) (fun p t _ h => by cases h)
    refine serve_loop ps (by omega) _ (fun F d hok hF => ?_) m 0 0 31 (-1) q rfl (by omega) (by omega) hs (by omega) (fun p hp hlt => by omega) (fun p t hp _ ht => by have := hs.num p t hp ht; omega)
    rw [f14_eq hok, Option.bind_some]
    have : (topF F 32).2.2 = false := by
      cases h : (topF F 32).2.2 with
      | false => rfl
      | true =>
        obtain ⟨p, L, h1, h2, _⟩ := topF_some h
        rw [hF p h1] at h2; cases h2
    show Option.bind (bif (!(topF F 32).2.2) then _ else _) _ = _
    rw [this, f11_true]
    rfl
theorem law5 (ps : List Int) (hl : ps.length < 9223372036854775808) : f5 ps = some true := by
  rw [f5]
  exact law5_gen ps 9223372036854775808 9223372036854775808 hl hl
end Go.Proofs.Ytpionlekbfoccaa
