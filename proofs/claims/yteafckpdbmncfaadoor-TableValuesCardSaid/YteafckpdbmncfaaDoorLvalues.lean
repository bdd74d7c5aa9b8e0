/- Layer 6: the slots of a variable, by the program and by the reference. -/
import Derived.Test.YteafckpdbmncfaaDoorL
namespace Go.Proofs.YteafckpdbmncfaaDoor
open Go Go.Sk

theorem maxLen_ge : 1000 ≤ maxLen := by decide
theorem appOk_small {α : Type} {L L2 : List α} (h : L.length + L2.length ≤ 1000) : appOk 8 L L2 = true := by
  have := maxLen_ge
  simp only [appOk, Bool.and_eq_true, decide_eq_true_eq]; omega
theorem mkOk_small {n : Int} (h0 : 0 ≤ n) (h : n ≤ 1000) : mkOk 8 n = true := by
  have := maxLen_ge
  simp only [mkOk, Bool.and_eq_true, decide_eq_true_eq]; omega

def slotsM (t : Table) (s : Int) : List Int := match row t s with
  | none => []
  | some (y, _) =>
    if y.kind = 2 ∨ y.kind = 3 ∨ y.kind = 6 ∨ y.kind = 7 then [s]
    else if y.kind = 4 then List.replicate (countM t y.index 64).toNat y.elem
    else if y.kind = 5 then (if y.disc = -1 then [] else [y.disc]) ++ y.comps.map (·.sub)
    else []

theorem rep0 (e : Int) : f77 [e] 0 = some (List.replicate 0 e) := by kernel_rfl
theorem rep1 (e : Int) : f77 [e] 1 = some (List.replicate 1 e) := by kernel_rfl
theorem rep2 (e : Int) : f77 [e] 2 = some (List.replicate 2 e) := by kernel_rfl
theorem rep3 (e : Int) : f77 [e] 3 = some (List.replicate 3 e) := by kernel_rfl
theorem rep4 (e : Int) : f77 [e] 4 = some (List.replicate 4 e) := by kernel_rfl
theorem rep5 (e : Int) : f77 [e] 5 = some (List.replicate 5 e) := by kernel_rfl
theorem rep6 (e : Int) : f77 [e] 6 = some (List.replicate 6 e) := by kernel_rfl
theorem rep7 (e : Int) : f77 [e] 7 = some (List.replicate 7 e) := by kernel_rfl
theorem rep8 (e : Int) : f77 [e] 8 = some (List.replicate 8 e) := by kernel_rfl
theorem rep9 (e : Int) : f77 [e] 9 = some (List.replicate 9 e) := by kernel_rfl
theorem rep10 (e : Int) : f77 [e] 10 = some (List.replicate 10 e) := by kernel_rfl
theorem rep11 (e : Int) : f77 [e] 11 = some (List.replicate 11 e) := by kernel_rfl
theorem rep12 (e : Int) : f77 [e] 12 = some (List.replicate 12 e) := by kernel_rfl
theorem rep13 (e : Int) : f77 [e] 13 = some (List.replicate 13 e) := by kernel_rfl
theorem rep14 (e : Int) : f77 [e] 14 = some (List.replicate 14 e) := by kernel_rfl
theorem rep15 (e : Int) : f77 [e] 15 = some (List.replicate 15 e) := by kernel_rfl
theorem rep16 (e : Int) : f77 [e] 16 = some (List.replicate 16 e) := by kernel_rfl
theorem rep17 (e : Int) : f77 [e] 17 = some (List.replicate 17 e) := by kernel_rfl
theorem rep18 (e : Int) : f77 [e] 18 = some (List.replicate 18 e) := by kernel_rfl
theorem rep19 (e : Int) : f77 [e] 19 = some (List.replicate 19 e) := by kernel_rfl
theorem rep20 (e : Int) : f77 [e] 20 = some (List.replicate 20 e) := by kernel_rfl
theorem rep21 (e : Int) : f77 [e] 21 = some (List.replicate 21 e) := by kernel_rfl
theorem rep22 (e : Int) : f77 [e] 22 = some (List.replicate 22 e) := by kernel_rfl
theorem rep23 (e : Int) : f77 [e] 23 = some (List.replicate 23 e) := by kernel_rfl
theorem rep24 (e : Int) : f77 [e] 24 = some (List.replicate 24 e) := by kernel_rfl
theorem rep25 (e : Int) : f77 [e] 25 = some (List.replicate 25 e) := by kernel_rfl
theorem rep26 (e : Int) : f77 [e] 26 = some (List.replicate 26 e) := by kernel_rfl
theorem rep27 (e : Int) : f77 [e] 27 = some (List.replicate 27 e) := by kernel_rfl
theorem rep28 (e : Int) : f77 [e] 28 = some (List.replicate 28 e) := by kernel_rfl
theorem rep29 (e : Int) : f77 [e] 29 = some (List.replicate 29 e) := by kernel_rfl
theorem rep30 (e : Int) : f77 [e] 30 = some (List.replicate 30 e) := by kernel_rfl
theorem rep31 (e : Int) : f77 [e] 31 = some (List.replicate 31 e) := by kernel_rfl
theorem rep32 (e : Int) : f77 [e] 32 = some (List.replicate 32 e) := by kernel_rfl
theorem rep33 (e : Int) : f77 [e] 33 = some (List.replicate 33 e) := by kernel_rfl
theorem rep34 (e : Int) : f77 [e] 34 = some (List.replicate 34 e) := by kernel_rfl
theorem rep35 (e : Int) : f77 [e] 35 = some (List.replicate 35 e) := by kernel_rfl
theorem rep36 (e : Int) : f77 [e] 36 = some (List.replicate 36 e) := by kernel_rfl
theorem rep37 (e : Int) : f77 [e] 37 = some (List.replicate 37 e) := by kernel_rfl
theorem rep38 (e : Int) : f77 [e] 38 = some (List.replicate 38 e) := by kernel_rfl
theorem rep39 (e : Int) : f77 [e] 39 = some (List.replicate 39 e) := by kernel_rfl
theorem rep40 (e : Int) : f77 [e] 40 = some (List.replicate 40 e) := by kernel_rfl
theorem rep41 (e : Int) : f77 [e] 41 = some (List.replicate 41 e) := by kernel_rfl
theorem rep42 (e : Int) : f77 [e] 42 = some (List.replicate 42 e) := by kernel_rfl
theorem rep43 (e : Int) : f77 [e] 43 = some (List.replicate 43 e) := by kernel_rfl
theorem rep44 (e : Int) : f77 [e] 44 = some (List.replicate 44 e) := by kernel_rfl
theorem rep45 (e : Int) : f77 [e] 45 = some (List.replicate 45 e) := by kernel_rfl
theorem rep46 (e : Int) : f77 [e] 46 = some (List.replicate 46 e) := by kernel_rfl
theorem rep47 (e : Int) : f77 [e] 47 = some (List.replicate 47 e) := by kernel_rfl
theorem rep48 (e : Int) : f77 [e] 48 = some (List.replicate 48 e) := by kernel_rfl
theorem rep49 (e : Int) : f77 [e] 49 = some (List.replicate 49 e) := by kernel_rfl
theorem rep50 (e : Int) : f77 [e] 50 = some (List.replicate 50 e) := by kernel_rfl
theorem rep51 (e : Int) : f77 [e] 51 = some (List.replicate 51 e) := by kernel_rfl
theorem rep52 (e : Int) : f77 [e] 52 = some (List.replicate 52 e) := by kernel_rfl
theorem rep53 (e : Int) : f77 [e] 53 = some (List.replicate 53 e) := by kernel_rfl
theorem rep54 (e : Int) : f77 [e] 54 = some (List.replicate 54 e) := by kernel_rfl
theorem rep55 (e : Int) : f77 [e] 55 = some (List.replicate 55 e) := by kernel_rfl
theorem rep56 (e : Int) : f77 [e] 56 = some (List.replicate 56 e) := by kernel_rfl
theorem rep57 (e : Int) : f77 [e] 57 = some (List.replicate 57 e) := by kernel_rfl
theorem rep58 (e : Int) : f77 [e] 58 = some (List.replicate 58 e) := by kernel_rfl
theorem rep59 (e : Int) : f77 [e] 59 = some (List.replicate 59 e) := by kernel_rfl
theorem rep60 (e : Int) : f77 [e] 60 = some (List.replicate 60 e) := by kernel_rfl
theorem rep61 (e : Int) : f77 [e] 61 = some (List.replicate 61 e) := by kernel_rfl
theorem rep62 (e : Int) : f77 [e] 62 = some (List.replicate 62 e) := by kernel_rfl
theorem rep63 (e : Int) : f77 [e] 63 = some (List.replicate 63 e) := by kernel_rfl
theorem rep64 (e : Int) : f77 [e] 64 = some (List.replicate 64 e) := by kernel_rfl

theorem f77_eq (e : Int) {n : Int} (h0 : 0 ≤ n) (h1 : n ≤ 64) : f77 [e] n = some (List.replicate n.toNat e) := by
  obtain ⟨m, rfl⟩ := Int.eq_ofNat_of_zero_le h0
  have hm : m ≤ 64 := by omega
  rw [Int.toNat_natCast]
  clear h0 h1
  match m, hm with
  | 0, _ => exact rep0 e
  | 1, _ => exact rep1 e
  | 2, _ => exact rep2 e
  | 3, _ => exact rep3 e
  | 4, _ => exact rep4 e
  | 5, _ => exact rep5 e
  | 6, _ => exact rep6 e
  | 7, _ => exact rep7 e
  | 8, _ => exact rep8 e
  | 9, _ => exact rep9 e
  | 10, _ => exact rep10 e
  | 11, _ => exact rep11 e
  | 12, _ => exact rep12 e
  | 13, _ => exact rep13 e
  | 14, _ => exact rep14 e
  | 15, _ => exact rep15 e
  | 16, _ => exact rep16 e
  | 17, _ => exact rep17 e
  | 18, _ => exact rep18 e
  | 19, _ => exact rep19 e
  | 20, _ => exact rep20 e
  | 21, _ => exact rep21 e
  | 22, _ => exact rep22 e
  | 23, _ => exact rep23 e
  | 24, _ => exact rep24 e
  | 25, _ => exact rep25 e
  | 26, _ => exact rep26 e
  | 27, _ => exact rep27 e
  | 28, _ => exact rep28 e
  | 29, _ => exact rep29 e
  | 30, _ => exact rep30 e
  | 31, _ => exact rep31 e
  | 32, _ => exact rep32 e
  | 33, _ => exact rep33 e
  | 34, _ => exact rep34 e
  | 35, _ => exact rep35 e
  | 36, _ => exact rep36 e
  | 37, _ => exact rep37 e
  | 38, _ => exact rep38 e
  | 39, _ => exact rep39 e
  | 40, _ => exact rep40 e
  | 41, _ => exact rep41 e
  | 42, _ => exact rep42 e
  | 43, _ => exact rep43 e
  | 44, _ => exact rep44 e
  | 45, _ => exact rep45 e
  | 46, _ => exact rep46 e
  | 47, _ => exact rep47 e
  | 48, _ => exact rep48 e
  | 49, _ => exact rep49 e
  | 50, _ => exact rep50 e
  | 51, _ => exact rep51 e
  | 52, _ => exact rep52 e
  | 53, _ => exact rep53 e
  | 54, _ => exact rep54 e
  | 55, _ => exact rep55 e
  | 56, _ => exact rep56 e
  | 57, _ => exact rep57 e
  | 58, _ => exact rep58 e
  | 59, _ => exact rep59 e
  | 60, _ => exact rep60 e
  | 61, _ => exact rep61 e
  | 62, _ => exact rep62 e
  | 63, _ => exact rep63 e
  | 64, _ => exact rep64 e
  | m + 65, h => omega

theorem f58_l1_eq (r : Ty × Subt × Bool) (k : List Int → Option (List Int)) (hl : r.1.comps.length ≤ 100) : ∀ (n i : Nat) (acc : List Int) (z : Int), z = i → i ≤ r.1.comps.length → r.1.comps.length - i < n → acc.length ≤ i + 10 →
    f58_l1 r k n z acc = k (acc ++ (r.1.comps.drop i).map (·.sub))
  | 0, i, acc, z, _, _, h, _ => by omega
  | n + 1, i, acc, z, hz, hi, hn, ha => by
    subst hz
    unfold f58_l1
    by_cases hil : i < r.1.comps.length
    · rw [decide_eq_true (by omega), cond_true, idx_nat, List.getElem?_eq_getElem hil, obind, gB (appOk_small (by simp; omega)), w64 (by omega) (by omega)]
      have := f58_l1_eq r k hl n (i + 1) (acc ++ [r.1.comps[i].sub]) ((i : Int) + 1) (by omega) (by omega) (by omega) (by simp; omega)
      rw [this, List.drop_eq_getElem_cons hil]
      simp only [List.map_cons, List.append_assoc, List.cons_append, List.nil_append]
    · rw [decide_eq_false (by omega), cond_false, List.drop_of_length_le (by omega)]
      simp

theorem f58_eq {t : Table} (c : Cut t) (s : Int) : f58 ⟨t⟩ s = some (slotsM t s) := by
  unfold f58 slotsM
  cases h : row t s with
  | none => obtain ⟨b, e⟩ := f40_none h; simp [e, letk]
  | some p =>
    obtain ⟨y, b⟩ := p
    rw [f40_row h]
    have hy := (row_good c.toGTab h).1
    have hcl : y.comps.length ≤ 20 := c.comps _ (idx_mem (row_idx h).2)
    simp only [obind, letk]
    by_cases h2 : y.kind = 2
    · simp [h2]
    by_cases h3 : y.kind = 3
    · simp [h3]
    by_cases h6 : y.kind = 6
    · simp [h6]
    by_cases h7 : y.kind = 7
    · simp [h7]
    rw [decide_eq_false h2, decide_eq_false h3, decide_eq_false h6, decide_eq_false h7, if_neg (by omega)]
    simp only [cond_false]
    by_cases h4 : y.kind = 4
    · rw [decide_eq_true h4, cond_true, if_pos h4, f41_eq c.toGTab _ (by omega) (by omega), obind, f77_eq _ (countM_bd _ _ _).1 ((countM_bd _ _ _).2 (by omega)), obind]
    · rw [decide_eq_false h4, cond_false, if_neg h4]
      by_cases h5 : y.kind = 5
      · rw [decide_eq_true h5, cond_true, if_pos h5]
        by_cases hd : y.disc = -1
        · rw [decide_eq_true hd, Bool.not_true, cond_false, if_pos hd]
          have := f58_l1_eq (y, b, true) (fun l => some l) (by simp; omega) (Int.toNat ((List.length y.comps : Int) - 0) + 1) 0 [] 0 rfl (by omega) (by simp) (by simp)
          simpa using this
        · rw [decide_eq_false hd, Bool.not_false, cond_true, if_neg hd, gB (appOk_small (by simp))]
          have := f58_l1_eq (y, b, true) (fun l => some l) (by simp; omega) (Int.toNat ((List.length y.comps : Int) - 0) + 1) 0 ([] ++ [y.disc]) 0 rfl (by omega) (by simp) (by simp)
          simpa using this
      · rw [decide_eq_false h5, cond_false, if_neg h5]

theorem f59_l1_eq (k : List Int → Option (List Int)) (y : Ty) (r : Int × Int × Bool) (m : Nat) (hm : m < 64) (hr : IntKind.u64.wrap (IntKind.u64.wrap r.2.1 - IntKind.u64.wrap r.1) = m) : ∀ (n i : Nat) (acc : List Int) (z : Int), z = i → i ≤ m + 1 → m + 1 - i < n → acc.length = i →
    f59_l1 k y r n z acc = k (acc ++ List.replicate (m + 1 - i) y.elem)
  | 0, i, acc, z, _, _, h, _ => by omega
  | n + 1, i, acc, z, hz, hi, hn, ha => by
    subst hz
    unfold f59_l1
    rw [hr]
    by_cases him : i ≤ m
    · rw [decide_eq_true (by omega), cond_true, gB (appOk_small (by simp; omega)), wu64 (by omega) (by omega)]
      have := f59_l1_eq k y r m hm hr n (i + 1) (acc ++ [y.elem]) ((i : Int) + 1) (by omega) (by omega) (by omega) (by simp; omega)
      rw [this, show m + 1 - i = (m + 1 - (i + 1)) + 1 by omega, List.replicate_succ]
      simp
    · rw [decide_eq_false (by omega), cond_false, show m + 1 - i = 0 by omega]
      simp
theorem f59_l2_eq (k : List Int → Option (List Int)) (y : Ty) (hl : y.comps.length ≤ 100) : ∀ (n i : Nat) (acc : List Int) (z : Int), z = i → i ≤ y.comps.length → y.comps.length - i < n → acc.length ≤ i + 10 →
    f59_l2 k y n z acc = k (acc ++ (y.comps.drop i).map (·.sub))
  | 0, i, acc, z, _, _, h, _ => by omega
  | n + 1, i, acc, z, hz, hi, hn, ha => by
    subst hz
    unfold f59_l2
    by_cases hil : i < y.comps.length
    · rw [decide_eq_true (by omega), cond_true, idx_nat, List.getElem?_eq_getElem hil, obind, gB (appOk_small (by simp; omega)), w64 (by omega) (by omega)]
      have := f59_l2_eq k y hl n (i + 1) (acc ++ [y.comps[i].sub]) ((i : Int) + 1) (by omega) (by omega) (by omega) (by simp; omega)
      rw [this, List.drop_eq_getElem_cons hil]
      simp only [List.map_cons, List.append_assoc, List.cons_append, List.nil_append]
    · rw [decide_eq_false (by omega), cond_false, List.drop_of_length_le (by omega)]
      simp

theorem f59_eq {t : Table} (c : Cut t) (s : Int) : f59 t s = some (slotsM t s) := by
  unfold f59 slotsM
  rw [f44_eq, obind]
  unfold kindM
  cases h : row t s with
  | none => simp [letk]
  | some p =>
    obtain ⟨y, b⟩ := p
    obtain ⟨hi1, hi2⟩ := row_idx h
    have hcl : y.comps.length ≤ 20 := c.comps _ (idx_mem hi2)
    simp only [hi1, obind, hi2, letk]
    by_cases h2 : y.kind = 2
    · simp [h2]
    by_cases h3 : y.kind = 3
    · simp [h3]
    by_cases h6 : y.kind = 6
    · simp [h6]
    by_cases h7 : y.kind = 7
    · simp [h7]
    rw [decide_eq_false h2, decide_eq_false h3, decide_eq_false h6, decide_eq_false h7, if_neg (by omega)]
    simp only [cond_false, Bool.or_self]
    by_cases h4 : y.kind = 4
    · rw [decide_eq_true h4, cond_true, if_pos h4, f78_eq c.toGTab _ (by omega) (by omega), obind, f26_eq, obind]
      by_cases hc : 0 < countM t y.index 64
      · rw [decide_eq_true hc, Bool.not_true, cond_false]
        obtain ⟨g1, g2⟩ := range_good c.toGTab y.index
        unfold countM at hc
        simp only at hc
        split at hc
        · rename_i hq
          have hw := wsub g1 g2 hq.2.1
          obtain ⟨m, hm⟩ := Int.eq_ofNat_of_zero_le (show 0 ≤ (rangeM t y.index).2.1 - (rangeM t y.index).1 by omega)
          rw [hm] at hw
          have hcm : countM t y.index 64 = m + 1 := by unfold countM; simp only; rw [if_pos hq, hm]
          rw [f59_l1_eq _ y (rangeM t y.index) m (by omega) hw 9223372036854775808 0 [] 0 rfl (by omega) (by omega) rfl, hcm, decide_eq_false (show ¬ y.kind = 5 by omega), cond_false, List.nil_append]
          congr 2
        · omega
      · have : countM t y.index 64 = 0 := by have := (countM_bd t y.index 64).1; omega
        rw [this, decide_eq_false (by omega)]
        simp
    · rw [decide_eq_false h4, cond_false, if_neg h4]
      by_cases h5 : y.kind = 5
      · rw [decide_eq_true h5, cond_true, if_pos h5]
        by_cases hd : y.disc = -1
        · rw [decide_eq_true hd, Bool.not_true, cond_false, if_pos hd, f59_l2_eq _ y (by omega) 9223372036854775808 0 [] 0 rfl (by omega) (by omega) (by simp)]
          simp
        · rw [decide_eq_false hd, Bool.not_false, cond_true, if_neg hd, gB (appOk_small (by simp)), f59_l2_eq _ y (by omega) 9223372036854775808 0 ([] ++ [y.disc]) 0 rfl (by omega) (by omega) (by simp)]
          simp
      · rw [decide_eq_false h5, cond_false, if_neg h5]
end Go.Proofs.YteafckpdbmncfaaDoor
namespace Go.Proofs.YteafckpdbmncfaaDoor
open Go Go.Sk

theorem slots_len {t : Table} (c : Cut t) (s : Int) : (slotsM t s).length ≤ 64 := by
  unfold slotsM
  cases h : row t s with
  | none => simp
  | some p =>
    obtain ⟨y, b⟩ := p
    have hcl : y.comps.length ≤ 20 := c.comps _ (idx_mem (row_idx h).2)
    have h1 := countM_bd t y.index 64
    simp only
    split
    · simp
    · split
      · simp; omega
      · split
        · split <;> simp <;> omega
        · simp

theorem f29_eq {t : Table} (c : Cut t) (s : Int) : f29 t s = some ((slotsM t s).length : Int) := by rw [f29, f58_eq c, obind]
theorem f30_eq {t : Table} (c : Cut t) (s : Int) : f30 t s = some ((slotsM t s).length : Int) := by rw [f30, f59_eq c, obind]

def slotM (t : Table) (s i : Int) : Int × Bool := match idx (slotsM t s) i with | some x => (x, true) | none => (0, false)
theorem f57_eq (l : List Int) (i : Int) : f57 l i = some (match idx l i with | some x => (x, true) | none => (0, false)) := by
  unfold f57
  by_cases h : i < 0 ∨ (l.length : Int) ≤ i
  · rw [idx_none h]
    have : (decide (i < 0) || decide (i ≥ (l.length : Int))) = true := by simpa using h
    rw [this, cond_true]
  · have h' : 0 ≤ i ∧ i < (l.length : Int) := by omega
    obtain ⟨x, hx, _⟩ := idx_some h'.1 h'.2
    have : (decide (i < 0) || decide (i ≥ (l.length : Int))) = false := by simp; omega
    rw [this, hx, cond_false, obind]
theorem f27_eq {t : Table} (c : Cut t) (s i : Int) : f27 t s i = some (slotM t s i) := by
  unfold f27 slotM
  rw [f58_eq c, obind, f57_eq]
  rfl
theorem f28_eq {t : Table} (c : Cut t) (s i : Int) : f28 t s i = some (slotM t s i) := by
  unfold f28 slotM
  rw [f59_eq c, obind, idx_is]
  cases h : idx (slotsM t s) i with
  | none => simp
  | some x => simp

def canM (t : Table) (s v : Int) : Bool := if kindM t s = 2 ∨ kindM t s = 3 then hasM t s v else if kindM t s = 6 then decide (0 ≤ v) && decide (v ≤ 2048) else decide (kindM t s = 7)
theorem f60_eq (t : Table) (s v : Int) : f60 ⟨t⟩ s v = some (canM t s v) := by
  unfold f60 canM
  rw [f64_eq, obind]
  simp only [letk, f42_eq, obind]
  by_cases h2 : kindM t s = 2
  · simp [h2]
  by_cases h3 : kindM t s = 3
  · simp [h3]
  by_cases h6 : kindM t s = 6
  · simp [h6]
  by_cases h7 : kindM t s = 7
  · simp [h7]
  simp [h2, h3, h6, h7]
theorem f62_eq (t : Table) (s v : Int) : f62 t s v = some (canM t s v) := by
  unfold f62 canM
  rw [f44_eq, obind]
  simp only [letk, f45_eq, obind]
  by_cases h2 : kindM t s = 2
  · simp [h2]
  by_cases h3 : kindM t s = 3
  · simp [h3]
  by_cases h6 : kindM t s = 6
  · simp [h6]
  by_cases h7 : kindM t s = 7
  · simp [h7]
  simp [h2, h3, h6, h7]

def fixM (t : Table) (s : Int) : Bool := match row t s with
  | some (y, b) => decide (y.kind = 5) && decide (y.disc ≠ -1) && decide (b.lo = b.hi)
  | none => false
def loM (t : Table) (s : Int) : Int := match row t s with | some (_, b) => b.lo | none => 0
theorem f61_some {t : Table} {s : Int} {y : Ty} {b : Subt} (h : row t s = some (y, b)) : f61 ⟨t⟩ s = some (b.lo, fixM t s) := by
  unfold f61 fixM
  rw [f40_row h, obind, h]
  simp
theorem f61_none {t : Table} {s : Int} (h : row t s = none) : ∃ d, f61 ⟨t⟩ s = some (d, false) := by
  obtain ⟨b, e⟩ := f40_none h
  unfold f61
  rw [e, obind]
  exact ⟨b.lo, by simp⟩
theorem f63_eq (t : Table) (s : Int) : f63 t s = some (fixM t s) := by
  unfold f63 fixM
  rw [f44_eq, obind]
  unfold kindM
  cases h : row t s with
  | none => simp
  | some p =>
    obtain ⟨y, b⟩ := p
    obtain ⟨h1, h2⟩ := row_idx h
    simp only [h1, h2, obind]
    by_cases h5 : y.kind = 5
    · by_cases hd : y.disc = -1
      · simp [h5, hd]
      · simp [h5, hd]
    · simp [h5]

def fitsM (t : Table) (s : Int) (v : List Int) : Bool :=
  decide ((slotsM t s).length ≠ 0) && decide ((slotsM t s).length = v.length) && ((slotsM t s).zip v).all (fun p => canM t p.1 p.2) && (!fixM t s || decide (v.head? = some (loM t s)))

theorem f31_l1_eq (t : Table) (v l : List Int) (k : Unit → Option Bool) (hl : l.length = v.length) (hb : l.length ≤ 100) : ∀ (n i : Nat) (z : Int), z = i → i ≤ l.length → l.length - i < n →
    f31_l1 t v l k n z = bif ((l.drop i).zip (v.drop i)).all (fun p => canM t p.1 p.2) then k () else some false
  | 0, i, z, _, _, h => by omega
  | n + 1, i, z, hz, hi, hn => by
    subst hz
    unfold f31_l1
    by_cases hil : i < l.length
    · rw [decide_eq_true (by omega), cond_true, idx_nat, List.getElem?_eq_getElem hil, obind, idx_nat, List.getElem?_eq_getElem (by omega), obind, f60_eq, obind, w64 (by omega) (by omega),
        f31_l1_eq t v l k hl hb n (i + 1) ((i : Int) + 1) (by omega) (by omega) (by omega), List.drop_eq_getElem_cons hil, List.drop_eq_getElem_cons (show i < v.length by omega), List.zip_cons_cons, List.all_cons]
      cases canM t l[i] v[i] <;> rfl
    · rw [decide_eq_false (by omega), cond_false, List.drop_of_length_le (by omega)]
      rfl
theorem f31_eq {t : Table} (c : Cut t) (s : Int) (v : List Int) (hv : v.length ≤ 9223372036854775807) : f31 t s v = some (fitsM t s v) := by
  unfold f31 fitsM
  have hsl := slots_len c s
  rw [f58_eq c, obind]
  generalize hl : slotsM t s = l at *
  by_cases h0 : l.length = 0
  · simp [h0]
  by_cases h1 : l.length = v.length
  · have e : (decide ((l.length : Int) = 0) || !decide ((l.length : Int) = (v.length : Int))) = false := by
      rw [decide_eq_false (show ¬ (l.length : Int) = 0 by omega), decide_eq_true (show (l.length : Int) = (v.length : Int) by omega)]; rfl
    rw [e, cond_false]
    simp only [letkE]
    rw [f31_l1_eq t v l _ h1 (by omega) (Int.toNat ((List.length l : Int) - 0) + 1) 0 0 rfl (by omega) (by omega)]
    have hv0 : idx v 0 = v.head? := by
      cases v with
      | nil => exact absurd h1 h0
      | cons x v => rfl
    simp only [List.drop_zero]
    have e1 : decide (l.length ≠ 0) = true := decide_eq_true h0
    have e2 : decide (l.length = v.length) = true := decide_eq_true h1
    simp only [e1, e2, Bool.true_and]
    cases (l.zip v).all (fun p => canM t p.1 p.2) with
    | false => rfl
    | true =>
      simp only [cond_true, Bool.true_and]
      cases hr : row t s with
      | none =>
        obtain ⟨d, e⟩ := f61_none hr
        rw [e, obind]
        simp [fixM, hr]
      | some p =>
        obtain ⟨y, b⟩ := p
        rw [f61_some hr, obind]
        have hlo : loM t s = b.lo := by simp [loM, hr]
        cases fixM t s with
        | false => rfl
        | true =>
          rw [hlo, hv0]
          cases v with
          | nil => exact absurd h1 h0
          | cons x v => simp
  · have e : (decide ((l.length : Int) = 0) || !decide ((l.length : Int) = (v.length : Int))) = true := by simp; omega
    rw [e, cond_true, decide_eq_false h1]
    simp

theorem f32_l1_eq (t : Table) (v l : List Int) (k : Unit → Option Bool) (hl : l.length = v.length) (hb : l.length ≤ 100) : ∀ (n i : Nat) (z : Int), z = i → i ≤ l.length → l.length - i < n →
    f32_l1 t v l k n z = bif ((l.drop i).zip (v.drop i)).all (fun p => canM t p.1 p.2) then k () else some false
  | 0, i, z, _, _, h => by omega
  | n + 1, i, z, hz, hi, hn => by
    subst hz
    unfold f32_l1
    by_cases hil : i < l.length
    · rw [decide_eq_true (by omega), cond_true, idx_nat, List.getElem?_eq_getElem hil, obind, idx_nat, List.getElem?_eq_getElem (by omega), obind, f62_eq, obind, w64 (by omega) (by omega),
        f32_l1_eq t v l k hl hb n (i + 1) ((i : Int) + 1) (by omega) (by omega) (by omega), List.drop_eq_getElem_cons hil, List.drop_eq_getElem_cons (show i < v.length by omega), List.zip_cons_cons, List.all_cons]
      cases canM t l[i] v[i] <;> rfl
    · rw [decide_eq_false (by omega), cond_false, List.drop_of_length_le (by omega)]
      rfl
theorem f32_eq {t : Table} (c : Cut t) (s : Int) (v : List Int) (hv : v.length ≤ 9223372036854775807) : f32 t s v = some (fitsM t s v) := by
  unfold f32 fitsM
  have hsl := slots_len c s
  rw [f59_eq c, obind]
  generalize hl : slotsM t s = l at *
  by_cases h0 : l.length = 0
  · have e : (!decide ((l.length : Int) = (v.length : Int)) || decide ((l.length : Int) = 0)) = true := by
      rw [decide_eq_true (show (l.length : Int) = 0 by omega), Bool.or_true]
    rw [e, cond_true]; simp [h0]
  by_cases h1 : l.length = v.length
  · have e : (!decide ((l.length : Int) = (v.length : Int)) || decide ((l.length : Int) = 0)) = false := by
      rw [decide_eq_false (show ¬ (l.length : Int) = 0 by omega), decide_eq_true (show (l.length : Int) = (v.length : Int) by omega)]; rfl
    rw [e, cond_false]
    simp only [letkE]
    rw [f32_l1_eq t v l _ h1 (by omega) 9223372036854775808 0 0 rfl (by omega) (by omega)]
    simp only [List.drop_zero]
    have e1 : decide (l.length ≠ 0) = true := decide_eq_true h0
    have e2 : decide (l.length = v.length) = true := decide_eq_true h1
    simp only [e1, e2, Bool.true_and]
    cases (l.zip v).all (fun p => canM t p.1 p.2) with
    | false => rfl
    | true =>
      simp only [cond_true, Bool.true_and]
      rw [f63_eq, obind]
      cases hf : fixM t s with
      | false => rfl
      | true =>
        unfold fixM at hf
        cases hr : row t s with
        | none => rw [hr] at hf; cases hf
        | some p =>
          obtain ⟨y, b⟩ := p
          have hlo : loM t s = b.lo := by simp [loM, hr]
          rw [hlo, (row_idx hr).1]
          cases v with
          | nil => exact absurd h1 h0
          | cons x v => simp [idx]
  · have e : (!decide ((l.length : Int) = (v.length : Int)) || decide ((l.length : Int) = 0)) = true := by simp; omega
    rw [e, cond_true, decide_eq_false h1]
    simp

/-- The value that a slot has by itself. -/
def oneM (t : Table) (s : Int) : Option Int :=
  let r := rangeM t s
  if r.2.2 = true then (if r.1 > r.2.1 then none else if r.1 > 0 ∨ r.2.1 < 0 then some r.1 else some 0)
  else if kindM t s = 6 ∨ kindM t s = 7 then some 0 else none

theorem f65_eq (t : Table) (s : Int) : f65 t s = some (match oneM t s with | some v => (v, true) | none => (0, false)) := by
  unfold f65 oneM
  rw [f26_eq, obind]
  generalize rangeM t s = r
  obtain ⟨lo, hi, ok⟩ := r
  simp only
  cases ok with
  | false =>
    simp only [Bool.not_false, cond_true, f44_eq, obind, if_neg (by decide : ¬ false = true)]
    by_cases h6 : kindM t s = 6
    · simp [h6]
    · by_cases h7 : kindM t s = 7
      · simp [h7]
      · simp [h6, h7]
  | true =>
    simp only [Bool.not_true, cond_false, if_true]
    by_cases h : lo > hi
    · simp [h]
    · by_cases h1 : lo ≤ 0 ∧ hi ≥ 0
      · have e : ¬ (lo > 0 ∨ hi < 0) := by omega
        simp [h, h1, e]
      · have e : (lo > 0 ∨ hi < 0) := by omega
        have e2 : (decide (lo ≤ 0) && decide (hi ≥ 0)) = false := by simp; omega
        simp [h, e, e2]

def setC : List CompRow → Nat → List Int → List Int
  | [], _, v => v
  | c :: cs, j, v => setC cs (j + 1) (if c.has then v.set j c.default_ else v)
theorem setC_len : ∀ (cs : List CompRow) (j : Nat) (v : List Int), (setC cs j v).length = v.length
  | [], _, _ => rfl
  | c :: cs, j, v => by rw [setC, setC_len]; split <;> simp

def defaultM (t : Table) (s : Int) : List Int := match (slotsM t s).mapM (oneM t) with
  | none => []
  | some v => match row t s with
    | none => v
    | some (y, b) =>
      if y.kind = 5 then
        if y.disc = -1 then setC y.comps 0 v
        else setC y.comps 1 (if b.lo = b.hi then v.set 0 b.lo else if y.has then v.set 0 y.default_ else v)
      else v
end Go.Proofs.YteafckpdbmncfaaDoor
namespace Go.Proofs.YteafckpdbmncfaaDoor
open Go Go.Sk

theorem mapM_snoc {α β : Type} (f : α → Option β) (l : List α) (x : α) : (l ++ [x]).mapM f = (l.mapM f).bind fun v => (f x).map fun y => v ++ [y] := by
  rw [List.mapM_append]
  cases l.mapM f with
  | none => rfl
  | some v => cases h : f x <;> simp [List.mapM_cons, h]
theorem mapM_len {α β : Type} {f : α → Option β} : ∀ {l : List α} {v : List β}, l.mapM f = some v → v.length = l.length
  | [], v, h => by simp at h; subst h; rfl
  | x :: l, v, h => by
    simp only [List.mapM_cons, Option.bind_eq_bind, Option.bind_eq_some_iff] at h
    obtain ⟨b, _, rs, h2, h3⟩ := h
    simp only [Option.pure_def, Option.some.injEq] at h3
    subst h3
    simp [mapM_len h2]
theorem mapM_take_none {α β : Type} {f : α → Option β} {l : List α} {i : Nat} (h : (l.take i).mapM f = none) : l.mapM f = none := by
  conv => lhs; rw [← List.take_append_drop i l, List.mapM_append, h]
  rfl

/-- The reference's first loop. -/
theorem f35_l1_eq (t : Table) (l : List Int) (hb : l.length ≤ 64) (k : List Int → Option (List Int)) : ∀ (n i : Nat) (z : Int) (acc : List Int), z = i → i ≤ l.length → l.length - i < n → (l.take i).mapM (oneM t) = some acc →
    f35_l1 t l k n z acc = match l.mapM (oneM t) with | some v => k v | none => some []
  | 0, i, z, acc, _, _, h, _ => by omega
  | n + 1, i, z, acc, hz, hi, hn, ha => by
    subst hz
    have hal := mapM_len ha
    rw [List.length_take, Nat.min_eq_left hi] at hal
    unfold f35_l1
    by_cases hil : i < l.length
    · rw [decide_eq_true (by omega), cond_true, idx_nat, List.getElem?_eq_getElem hil, obind, f65_eq, obind]
      have hs : (l.take (i + 1)).mapM (oneM t) = (oneM t l[i]).map fun y => acc ++ [y] := by
        rw [List.take_succ_eq_append_getElem hil, mapM_snoc, ha]; rfl
      cases ho : oneM t l[i] with
      | none =>
        rw [ho] at hs
        rw [mapM_take_none hs]
        rfl
      | some v =>
        rw [ho] at hs
        simp only [Bool.not_true, cond_false]
        rw [gB (appOk_small (by simp; omega)), w64 (by omega) (by omega)]
        exact f35_l1_eq t l hb k n (i + 1) ((i : Int) + 1) (acc ++ [v]) (by omega) (by omega) (by omega) hs
    · rw [decide_eq_false (by omega), cond_false]
      have : i = l.length := by omega
      subst this
      rw [List.take_length] at ha
      rw [ha]

theorem f35_l2_eq (y : Ty) (hc : y.comps.length ≤ 20) (first : Nat) (hf : first ≤ 1) (k : List Int → Option (List Int)) : ∀ (n i : Nat) (z : Int) (acc : List Int), z = i → i ≤ y.comps.length → y.comps.length - i < n → acc.length = first + y.comps.length →
    f35_l2 y first k n z acc = k (setC (y.comps.drop i) (first + i) acc)
  | 0, i, z, acc, _, _, h, _ => by omega
  | n + 1, i, z, acc, hz, hi, hn, ha => by
    subst hz
    unfold f35_l2
    by_cases hil : i < y.comps.length
    · rw [decide_eq_true (by omega), cond_true]
      simp only [letkE]
      rw [idx_nat, List.getElem?_eq_getElem hil, obind, w64 (x := (first : Int) + i) (by omega) (by omega), w64 (x := (i : Int) + 1) (by omega) (by omega), List.drop_eq_getElem_cons hil, setC]
      cases hh : (y.comps[i]).has with
      | false =>
        rw [cond_false, f35_l2_eq y hc first hf k n (i + 1) ((i : Int) + 1) acc (by omega) (by omega) (by omega) ha]
        rfl
      | true =>
        have hx : ∃ x, idx acc ((first : Int) + i) = some x := by
          obtain ⟨x, hx, _⟩ := idx_some (l := acc) (i := (first : Int) + i) (by omega) (by omega)
          exact ⟨x, hx⟩
        obtain ⟨x, hx⟩ := hx
        rw [cond_true, obind, hx, obind, show Int.toNat ((first : Int) + i) = first + i by omega, f35_l2_eq y hc first hf k n (i + 1) ((i : Int) + 1) _ (by omega) (by omega) (by omega) (by simpa using ha)]
        rfl
    · rw [decide_eq_false (by omega), cond_false, List.drop_of_length_le (by omega), setC]

theorem slots5 {t : Table} {s : Int} {y : Ty} {b : Subt} (h : row t s = some (y, b)) (h5 : y.kind = 5) : (slotsM t s).length = (if y.disc = -1 then 0 else 1) + y.comps.length := by
  unfold slotsM
  rw [h]
  simp only [h5]
  simp
  split <;> simp

theorem f35_eq {t : Table} (c : Cut t) (s : Int) : f35 t s = some (defaultM t s) := by
  unfold f35 defaultM
  have hsl := slots_len c s
  rw [f59_eq c, obind]
  simp only [letkE]
  rw [f35_l1_eq t (slotsM t s) hsl _ 9223372036854775808 0 0 [] rfl (by omega) (by omega) rfl]
  cases hm : (slotsM t s).mapM (oneM t) with
  | none => rfl
  | some v =>
    have hvl := mapM_len hm
    simp only
    rw [f44_eq, obind]
    unfold kindM
    cases hr : row t s with
    | none => rfl
    | some p =>
      obtain ⟨y, b⟩ := p
      obtain ⟨h1, h2⟩ := row_idx hr
      have hcl : y.comps.length ≤ 20 := c.comps _ (idx_mem h2)
      simp only
      by_cases h5 : y.kind = 5
      · have h6 := slots5 hr h5
        rw [decide_eq_true h5, Bool.not_true, cond_false, h1, obind, h2, obind, if_pos h5]
        by_cases hd : y.disc = -1
        · rw [if_pos hd] at h6 ⊢
          rw [decide_eq_true hd, Bool.not_true, cond_false]
          exact f35_l2_eq y hcl 0 (by omega) _ 9223372036854775808 0 0 v rfl (by omega) (by omega) (by omega)
        · rw [if_neg hd] at h6 ⊢
          have hf : fixM t s = decide (b.lo = b.hi) := by unfold fixM; rw [hr]; simp [h5, hd]
          obtain ⟨x, hx, _⟩ := idx_some (l := v) (i := 0) (by omega) (by omega)
          rw [decide_eq_false hd, Bool.not_false, cond_true, f63_eq, obind, hf, hx]
          by_cases hlh : b.lo = b.hi
          · rw [decide_eq_true hlh, cond_true, obind, obind, if_pos hlh, show (1 : Int) = ((1 : Nat) : Int) from rfl, f35_l2_eq y hcl 1 (by omega) _ 9223372036854775808 0 0 (v.set (Int.toNat 0) b.lo) rfl (by omega) (by omega) (by rw [List.length_set]; omega)]
            rfl
          · rw [decide_eq_false hlh, cond_false, if_neg hlh]
            cases hh : y.has with
            | false =>
              rw [cond_false, show (1 : Int) = ((1 : Nat) : Int) from rfl, f35_l2_eq y hcl 1 (by omega) _ 9223372036854775808 0 0 v rfl (by omega) (by omega) (by omega)]
              rfl
            | true =>
              rw [cond_true, obind, show (1 : Int) = ((1 : Nat) : Int) from rfl, f35_l2_eq y hcl 1 (by omega) _ 9223372036854775808 0 0 (v.set (Int.toNat 0) y.default_) rfl (by omega) (by omega) (by rw [List.length_set]; omega)]
              rfl
      · rw [decide_eq_false h5, Bool.not_false, cond_true, if_neg h5]

theorem oneM_def (t : Table) (s : Int) : oneM t s = (if (rangeM t s).2.2 = true then (if (rangeM t s).1 > (rangeM t s).2.1 then none else if (rangeM t s).1 > 0 ∨ (rangeM t s).2.1 < 0 then some (rangeM t s).1 else some 0)
  else if kindM t s = 6 ∨ kindM t s = 7 then some 0 else none) := rfl
/-- The program's first loop. -/
theorem f34_l1_eq (t : Table) (l : List Int) (hb : l.length ≤ 64) (k : List Int → Option (List Int)) : ∀ (n i : Nat) (z : Int) (acc : List Int), z = i → i ≤ l.length → l.length - i < n → (l.take i).mapM (oneM t) = some acc →
    f34_l1 t l k n z (acc ++ List.replicate (l.length - i) 0) = match l.mapM (oneM t) with | some v => k v | none => some []
  | 0, i, z, acc, _, _, h, _ => by omega
  | n + 1, i, z, acc, hz, hi, hn, ha => by
    subst hz
    have hal := mapM_len ha
    rw [List.length_take, Nat.min_eq_left hi] at hal
    unfold f34_l1
    by_cases hil : i < l.length
    · rw [decide_eq_true (by omega), cond_true]
      simp only [letkE]
      rw [idx_nat, List.getElem?_eq_getElem hil, obind, f43_eq, obind, f64_eq, obind, w64 (by omega) (by omega)]
      have hs : (l.take (i + 1)).mapM (oneM t) = (oneM t l[i]).map fun y => acc ++ [y] := by
        rw [List.take_succ_eq_append_getElem hil, mapM_snoc, ha]; rfl
      have ih := fun v hv => f34_l1_eq t l hb k n (i + 1) ((i : Int) + 1) (acc ++ [v]) (by omega) (by omega) (by omega) hv
      have hrep : List.replicate (l.length - i) (0 : Int) = 0 :: List.replicate (l.length - (i + 1)) 0 := by
        rw [show l.length - i = (l.length - (i + 1)) + 1 by omega, List.replicate_succ]
      rw [oneM_def t l[i]] at hs
      generalize rangeM t l[i] = r at *
      obtain ⟨lo, hi', ok⟩ := r
      simp only at *
      cases ok with
      | false =>
        simp only [Bool.false_and, cond_false, Bool.not_false, Bool.true_and, if_neg (by decide : ¬ false = true)] at hs ⊢
        by_cases h67 : kindM t l[i] = 6 ∨ kindM t l[i] = 7
        · rw [if_pos h67] at hs
          have e : (!decide (kindM t l[i] = 6) && !decide (kindM t l[i] = 7)) = false := by
            rcases h67 with h | h <;> simp [h]
          rw [e, cond_false]
          have := ih 0 hs
          rw [hrep]
          simpa using this
        · rw [if_neg h67] at hs
          have e : (!decide (kindM t l[i] = 6) && !decide (kindM t l[i] = 7)) = true := by
            simp only [not_or] at h67
            simp [h67.1, h67.2]
          rw [e, cond_true, mapM_take_none hs]
      | true =>
        simp only [Bool.true_and, Bool.not_true, Bool.false_and, cond_false, if_true] at hs ⊢
        by_cases h : lo > hi'
        · rw [if_pos h] at hs
          rw [decide_eq_true h, cond_true, cond_true, mapM_take_none hs]
        · rw [if_neg h] at hs
          rw [decide_eq_false h, cond_false]
          by_cases h1 : lo > 0 ∨ hi' < 0
          · rw [if_pos h1] at hs
            have e : (decide (lo > 0) || decide (hi' < 0)) = true := by simpa using h1
            obtain ⟨x, hx, _⟩ := idx_some (l := acc ++ List.replicate (l.length - i) 0) (i := (i : Int)) (by omega) (by simp; omega)
            rw [e, cond_true, hx, obind, Int.toNat_natCast, hrep]
            have := ih lo hs
            rw [List.set_append_right _ _ (by omega), hal, Nat.sub_self, List.set_cons_zero]
            simpa using this
          · rw [if_neg h1] at hs
            have e : (decide (lo > 0) || decide (hi' < 0)) = false := by simp only [not_or] at h1; simp [h1.1, h1.2]
            rw [e, cond_false]
            have := ih 0 hs
            rw [hrep]
            simpa using this
    · rw [decide_eq_false (by omega), cond_false]
      have : i = l.length := by omega
      subst this
      rw [List.take_length] at ha
      rw [ha, Nat.sub_self]
      simp

theorem f34_l2_eq (r : Ty × Subt × Bool) (hc : r.1.comps.length ≤ 20) (first : Nat) (hf : first ≤ 1) (k : List Int → Option (List Int)) : ∀ (n i : Nat) (z : Int) (acc : List Int), z = i → i ≤ r.1.comps.length → r.1.comps.length - i < n → acc.length = first + r.1.comps.length →
    f34_l2 r k n z acc = k (setC (r.1.comps.drop i) (first + i) acc)
  | 0, i, z, acc, _, _, h, _ => by omega
  | n + 1, i, z, acc, hz, hi, hn, ha => by
    subst hz
    unfold f34_l2
    by_cases hil : i < r.1.comps.length
    · rw [decide_eq_true (by omega), cond_true]
      simp only [letkE]
      have e1 : IntKind.i64.wrap ((acc.length : Int) - (r.1.comps.length : Int)) = first := by rw [w64 (by omega) (by omega)]; omega
      rw [idx_nat, List.getElem?_eq_getElem hil, obind, e1, w64 (x := (first : Int) + i) (by omega) (by omega), w64 (x := (i : Int) + 1) (by omega) (by omega), List.drop_eq_getElem_cons hil, setC]
      cases hh : (r.1.comps[i]).has with
      | false =>
        rw [cond_false, f34_l2_eq r hc first hf k n (i + 1) ((i : Int) + 1) acc (by omega) (by omega) (by omega) ha]
        rfl
      | true =>
        obtain ⟨x, hx, _⟩ := idx_some (l := acc) (i := (first : Int) + i) (by omega) (by omega)
        rw [cond_true, hx, obind, show Int.toNat ((first : Int) + i) = first + i by omega, f34_l2_eq r hc first hf k n (i + 1) ((i : Int) + 1) _ (by omega) (by omega) (by omega) (by rw [List.length_set]; exact ha)]
        rfl
    · rw [decide_eq_false (by omega), cond_false, List.drop_of_length_le (by omega), setC]

theorem f34_eq {t : Table} (c : Cut t) (s : Int) : f34 t s = some (defaultM t s) := by
  unfold f34 defaultM
  have hsl := slots_len c s
  rw [f58_eq c, obind, gB (mkOk_small (by omega) (by omega))]
  simp only [letkE]
  have h0 := fun k => f34_l1_eq t (slotsM t s) hsl k (Int.toNat (((slotsM t s).length : Int) - 0) + 1) 0 0 [] rfl (by omega) (by omega) rfl
  simp only [List.nil_append, Nat.sub_zero] at h0
  rw [Int.toNat_natCast, h0]
  cases hm : (slotsM t s).mapM (oneM t) with
  | none => rfl
  | some v =>
    have hvl := mapM_len hm
    simp only
    cases hr : row t s with
    | none =>
      obtain ⟨b, e⟩ := f40_none hr
      rw [e, obind]
      rfl
    | some p =>
      obtain ⟨y, b⟩ := p
      obtain ⟨h1, h2⟩ := row_idx hr
      have hcl : y.comps.length ≤ 20 := c.comps _ (idx_mem h2)
      rw [f40_row hr, obind]
      simp only
      have loop : ∀ (first : Nat) (w : List Int), first ≤ 1 → w.length = first + y.comps.length → f34_l2 (y, b, true) (fun l => some l) (Int.toNat ((y.comps.length : Int) - 0) + 1) 0 w = some (setC y.comps first w) := fun first w hf hw => by
        have := f34_l2_eq (y, b, true) hcl first hf (fun l => some l) (Int.toNat ((y.comps.length : Int) - 0) + 1) 0 0 w rfl (by omega) (by simp) hw
        simpa using this
      by_cases h5 : y.kind = 5
      · have h6 := slots5 hr h5
        rw [decide_eq_true h5, Bool.not_true, cond_false, if_pos h5, f61_some hr, obind]
        by_cases hd : y.disc = -1
        · rw [if_pos hd] at h6 ⊢
          have hf : fixM t s = false := by unfold fixM; rw [hr]; simp [hd]
          rw [hf, cond_false, decide_eq_true hd, Bool.not_true, Bool.false_and, cond_false]
          exact loop 0 v (by omega) (by omega)
        · rw [if_neg hd] at h6 ⊢
          have hf : fixM t s = decide (b.lo = b.hi) := by unfold fixM; rw [hr]; simp [h5, hd]
          obtain ⟨x, hx, _⟩ := idx_some (l := v) (i := 0) (by omega) (by omega)
          rw [hf, hx, decide_eq_false hd, Bool.not_false, Bool.true_and]
          by_cases hlh : b.lo = b.hi
          · rw [decide_eq_true hlh, cond_true, obind, if_pos hlh]
            exact loop 1 _ (by omega) (by rw [List.length_set]; omega)
          · rw [decide_eq_false hlh, cond_false, if_neg hlh]
            cases hh : y.has with
            | false => exact loop 1 v (by omega) (by omega)
            | true => rw [cond_true, obind]; exact loop 1 _ (by omega) (by rw [List.length_set]; omega)
      · rw [decide_eq_false h5, Bool.not_false, cond_true, if_neg h5]
end Go.Proofs.YteafckpdbmncfaaDoor
namespace Go.Proofs.YteafckpdbmncfaaDoor
open Go Go.Sk
set_option maxRecDepth 100000
theorem works : f17 = some true := by kernel_rfl
set_option maxRecDepth 512

theorem sliceF_min {α : Type} (L : List α) (c : Nat) : sliceF L 0 (if (c : Int) < (L.length : Int) then (c : Int) else (L.length : Int)) = L.take c := by
  unfold sliceF
  split
  · simp
  · rename_i h
    simp
    rw [List.take_of_length_le (by omega)]
theorem sliceOk_min {α : Type} (L : List α) (c : Nat) : sliceOk L 0 (if (c : Int) < (L.length : Int) then (c : Int) else (L.length : Int)) = true := by
  unfold sliceOk
  simp only [Bool.and_eq_true, decide_eq_true_eq]
  split <;> omega

def cutTy (y : Ty) : Ty := Ty.mk y.kind y.name y.parent y.first (y.lits.take 70) y.index y.elem y.disc y.discName y.has y.default_ (y.comps.take 20) y.target y.formal y.limited y.priv y.full y.level
def cutM (t : Table) : Table := ⟨(t.types.take 40).map cutTy, t.subs.take 60, ⟨none, 0, 0⟩, ⟨none, 0, 0⟩, ⟨none, 0, 0⟩⟩

theorem f10_l1_eq (t : Table) (k : List Ty → Option Table) (L : List Ty) (hL : L = [] ++ sliceF t.types 0 (if 40 < (t.types.length : Int) then 40 else (t.types.length : Int))) (hb : L.length ≤ 40) : ∀ (n i : Nat) (z : Int), z = i → i ≤ L.length → L.length - i < n →
    f10_l1 t k n z ((L.take i).map cutTy ++ L.drop i) = k (L.map cutTy)
  | 0, i, z, _, _, h => by omega
  | n + 1, i, z, hz, hi, hn => by
    subst hz
    unfold f10_l1
    rw [← hL]
    by_cases hil : i < L.length
    · have hlen : ((L.take i).map cutTy).length = i := by rw [List.length_map, List.length_take]; omega
      have hd : L.drop i = L[i] :: L.drop (i + 1) := List.drop_eq_getElem_cons hil
      have hget : ∀ (y : Ty) (R : List Ty), idx ((L.take i).map cutTy ++ y :: R) (i : Int) = some y := fun y R => by
        rw [idx_nat, List.getElem?_append_right (by omega), hlen, Nat.sub_self]; rfl
      have hset : ∀ (y y' : Ty) (R : List Ty), ((L.take i).map cutTy ++ y :: R).set (Int.toNat (i : Int)) y' = (L.take i).map cutTy ++ y' :: R := fun y y' R => by
        rw [Int.toNat_natCast, List.set_append_right _ _ (by omega), hlen, Nat.sub_self, List.set_cons_zero]
      rw [decide_eq_true (by omega), cond_true, hd, hget, obind, obind]
      have e1 := sliceOk_min (L[i]).lits 70
      have e2 := sliceF_min (L[i]).lits 70
      have e3 := sliceOk_min (L[i]).comps 20
      have e4 := sliceF_min (L[i]).comps 20
      simp only [Int.cast_ofNat_Int] at e1 e2 e3 e4
      rw [gB e1, e2, obind, hset, hget, obind, obind, gB e3, e4, obind, hset, w64 (by omega) (by omega)]
      have := f10_l1_eq t k L hL hb n (i + 1) ((i : Int) + 1) (by omega) (by omega) (by omega)
      rw [← this, List.take_succ_eq_append_getElem hil, List.map_append, List.append_assoc]
      rfl
    · rw [decide_eq_false (by omega), cond_false, List.drop_of_length_le (by omega), List.take_of_length_le (by omega), List.append_nil]

theorem f10_eq (t : Table) : f10 t = some (cutM t) := by
  unfold f10
  have e1 := sliceOk_min t.types 40
  have e2 := sliceF_min t.types 40
  have e3 := sliceOk_min t.subs 60
  have e4 := sliceF_min t.subs 60
  simp only [Int.cast_ofNat_Int] at e1 e2 e3 e4
  have hl : (t.types.take 40).length ≤ 40 := by rw [List.length_take]; omega
  have e5 : appOk 184 ([] : List Ty) (t.types.take 40) = true := by
    have := maxLen_ge
    simp only [appOk, Bool.and_eq_true, decide_eq_true_eq, List.length_nil]; omega
  rw [gB e1, e2, gB e5, gB e3, e4]
  simp only [letkE]
  have := f10_l1_eq t (fun l75 => some (Table.mk l75 (t.subs.take 60) (SlV.mk none 0 0) (SlV.mk none 0 0) (SlV.mk none 0 0))) ([] ++ t.types.take 40) (by rw [e2]) (by simpa using hl) (Int.toNat ((([] ++ t.types.take 40 : List Ty).length : Int) - 0) + 1) 0 0 rfl (by omega) (by omega)
  simp only [List.take_zero, List.map_nil, List.nil_append, List.drop_zero] at this ⊢
  exact this

theorem cut_good {t : Table} (g : GTab t) : Cut (cutM t) := by
  refine ⟨⟨?_, ?_, ?_, ?_⟩, ?_, ?_, ?_, ?_⟩
  · intro y hy
    obtain ⟨x, hx, rfl⟩ := List.mem_map.1 hy
    have h := g.ty x (List.mem_of_mem_take hx)
    exact ⟨h.kind, by simp [cutTy]; have := h.lits; omega, by simp [cutTy]; have := h.comps; omega, fun c hc => h.comp c (List.mem_of_mem_take hc), h.parent, h.first, h.index, h.elem, h.disc, h.def_, h.target⟩
  · exact fun s hs => g.sub s (List.mem_of_mem_take hs)
  · simp [cutM]; omega
  · simp [cutM]; omega
  · simp [cutM]; omega
  · simp [cutM]; omega
  · intro y hy
    obtain ⟨x, hx, rfl⟩ := List.mem_map.1 hy
    simp [cutTy]; omega
  · intro y hy
    obtain ⟨x, hx, rfl⟩ := List.mem_map.1 hy
    simp [cutTy]; omega

theorem f25_eq (t : Table) (s : Int) : f25 t s = some (rangeM t s) := by
  simp only [f25, f43_eq, obind]
theorem f33_l1_eq (a : List Int) (hb : a.length ≤ 100) (k : Unit → Option Bool) : ∀ (n i : Nat) (z : Int), z = i → i ≤ a.length → a.length - i < n → f33_l1 a a k n z = k ()
  | 0, i, z, _, _, h => by omega
  | n + 1, i, z, hz, hi, hn => by
    subst hz
    unfold f33_l1
    by_cases hil : i < a.length
    · rw [decide_eq_true (by omega), cond_true, idx_nat, List.getElem?_eq_getElem hil, obind, obind, decide_eq_true rfl, Bool.not_true, cond_false, w64 (by omega) (by omega)]
      exact f33_l1_eq a hb k n (i + 1) ((i : Int) + 1) (by omega) (by omega) (by omega)
    · rw [decide_eq_false (by omega), cond_false]
theorem f33_self (a : List Int) (hb : a.length ≤ 100) : f33 a a = some true := by
  unfold f33
  rw [decide_eq_true rfl, Bool.not_true, cond_false]
  simp only [letkE]
  rw [f33_l1_eq a hb _ 9223372036854775808 0 0 rfl (by omega) (by omega)]

theorem default_len {t : Table} (c : Cut t) (s : Int) : (defaultM t s).length ≤ 64 := by
  unfold defaultM
  have hs := slots_len c s
  cases hm : (slotsM t s).mapM (oneM t) with
  | none => simp
  | some v =>
    have hv := mapM_len hm
    have hv' : v.length ≤ 64 := by omega
    simp only
    cases row t s with
    | none => exact hv'
    | some p =>
      obtain ⟨y, b⟩ := p
      simp only
      split
      · split
        · rw [setC_len]; exact hv'
        · rw [setC_len]
          split
          · simpa using hv'
          · split
            · simpa using hv'
            · exact hv'
      · exact hv'

theorem f6_l1_eq (sub slot : Int) (v : List Int) (hv : v.length ≤ 9223372036854775807) {t : Table} (c : Cut t) (k : Unit → Option Bool) : ∀ (n i : Nat) (z : Int), z = (i : Int) - 1 → i ≤ t.subs.length + 2 → t.subs.length + 2 - i < n → f6_l1 sub slot v t k n z = k ()
  | 0, i, z, _, _, h => by omega
  | n + 1, i, z, hz, hi, hn => by
    subst hz
    have hsn := c.subn
    have key : ∀ s : Int, (f25 t s).bind (fun r126 => (f26 t s).bind fun r127 => (f27 t s slot).bind fun r128 => (f28 t s slot).bind fun r129 =>
        Option.bind (bif (((((!decide (r126.1 = r127.1)) || (!decide (r126.2.1 = r127.2.1))) || (!(r126.2.2 == r127.2.2))) || (!decide (r128.1 = r129.1))) || (!(r128.2 == r129.2))) then some true else (Option.bind (f29 t s) fun r131 => Option.bind (f30 t s) fun r132 => some (!decide (r131 = r132)))) fun b130 =>
        (bif b130 then some false else Option.bind (f31 t s v) fun r135 => Option.bind (f32 t s v) fun r136 => (bif (!(r135 == r136)) then some false else Option.bind (f34 t s) fun r137 => Option.bind (f35 t s) fun r138 => Option.bind (f33 r137 r138) fun r139 => bif (!r139) then some false else k ()))) = k () := fun s => by
      rw [f25_eq, f26_eq, f27_eq c, f28_eq c]
      simp only [obind, decide_true, Bool.not_true, Bool.or_false, beq_self_eq_true, cond_false, f29_eq c, f30_eq c, f31_eq c s v hv, f32_eq c s v hv, f34_eq c, f35_eq c, f33_self _ (Nat.le_trans (default_len c s) (by omega))]
    unfold f6_l1
    by_cases hil : i ≤ t.subs.length + 1
    · have ih := f6_l1_eq sub slot v hv c k n (i + 1) ((i : Int) - 1 + 1) (by omega) (by omega) (by omega)
      rw [decide_eq_true (by omega), cond_true, w64 (by omega) (by omega), ih]
      simp only [letkE, cond_true]
      by_cases h0 : (i : Int) - 1 < 0
      · rw [decide_eq_true h0, cond_true]; exact key sub
      · rw [decide_eq_false h0, cond_false]; exact key _
    · rw [decide_eq_false (by omega), cond_false]

/-- TableValues -/
theorem law6 {t : Table} (g : GTab t) (sub slot : Int) (v : List Int) (hv : v.length ≤ 9223372036854775807) : f6 t sub slot v = some true := by
  unfold f6
  rw [f10_eq, obind]
  simp only [letkE]
  have c := cut_good g
  have := c.subn
  rw [f6_l1_eq sub slot v hv c _ 9223372036854775808 0 (-1) rfl (by omega) (by omega), works, obind]
end Go.Proofs.YteafckpdbmncfaaDoor
