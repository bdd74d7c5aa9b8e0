/- Layer 6: the slots of a variable, by the program and by the reference. -/
import Derived.Test.YteafckpdbmncfaaDoorL
namespace Go.Proofs.YteafckpdbmncfaaDoor
open Go Go.Sk

theorem maxLen_ge : 1000 ≤ maxLen := by decide
theorem appOk_small {α : Type} {L L2 : List α} (h : L.length + L2.length ≤ 1000) : appOk 8 L L2 = true := by
  have := maxLen_ge
  simp only [appOk, Bool.and_eq_true, decide_eq_true_eq]; omega
def slotsM (t : Table) (s : Int) : List Int := match row t s with
  | none => []
  | some (y, _) =>
    if y.kind = 2 ∨ y.kind = 3 ∨ y.kind = 6 ∨ y.kind = 7 then [s]
    else if y.kind = 4 then List.replicate (countM t y.index 64).toNat y.elem
    else if y.kind = 5 then (if y.disc = -1 then [] else [y.disc]) ++ y.comps.map (·.sub)
    else []

theorem rep0 (e : Int) : f77 [e] 0 = some (List.replicate 0 e) := by kernel_rfl
theorem rep1 (e : Int) : f77 [e] 1 = some (List.replicate 1 e) := by kernel_rfl
theorem rep2 (e : Int) : f77 [e] 2 = some (List.replicate 2 e) := by kernel_rfl
theorem rep3 (e : Int) : f77 [e] 3 = some (List.replicate 3 e) := by kernel_rfl
theorem rep4 (e : Int) : f77 [e] 4 = some (List.replicate 4 e) := by kernel_rfl
theorem rep5 (e : Int) : f77 [e] 5 = some (List.replicate 5 e) := by kernel_rfl
theorem rep6 (e : Int) : f77 [e] 6 = some (List.replicate 6 e) := by kernel_rfl
theorem rep7 (e : Int) : f77 [e] 7 = some (List.replicate 7 e) := by kernel_rfl
theorem rep8 (e : Int) : f77 [e] 8 = some (List.replicate 8 e) := by kernel_rfl
theorem rep9 (e : Int) : f77 [e] 9 = some (List.replicate 9 e) := by kernel_rfl
theorem rep10 (e : Int) : f77 [e] 10 = some (List.replicate 10 e) := by kernel_rfl
theorem rep11 (e : Int) : f77 [e] 11 = some (List.replicate 11 e) := by kernel_rfl
theorem rep12 (e : Int) : f77 [e] 12 = some (List.replicate 12 e) := by kernel_rfl
theorem rep13 (e : Int) : f77 [e] 13 = some (List.replicate 13 e) := by kernel_rfl
theorem rep14 (e : Int) : f77 [e] 14 = some (List.replicate 14 e) := by kernel_rfl
theorem rep15 (e : Int) : f77 [e] 15 = some (List.replicate 15 e) := by kernel_rfl
theorem rep16 (e : Int) : f77 [e] 16 = some (List.replicate 16 e) := by kernel_rfl
theorem rep17 (e : Int) : f77 [e] 17 = some (List.replicate 17 e) := by kernel_rfl
theorem rep18 (e : Int) : f77 [e] 18 = some (List.replicate 18 e) := by kernel_rfl
theorem rep19 (e : Int) : f77 [e] 19 = some (List.replicate 19 e) := by kernel_rfl
theorem rep20 (e : Int) : f77 [e] 20 = some (List.replicate 20 e) := by kernel_rfl
theorem rep21 (e : Int) : f77 [e] 21 = some (List.replicate 21 e) := by kernel_rfl
theorem rep22 (e : Int) : f77 [e] 22 = some (List.replicate 22 e) := by kernel_rfl
theorem rep23 (e : Int) : f77 [e] 23 = some (List.replicate 23 e) := by kernel_rfl
theorem rep24 (e : Int) : f77 [e] 24 = some (List.replicate 24 e) := by kernel_rfl
theorem rep25 (e : Int) : f77 [e] 25 = some (List.replicate 25 e) := by kernel_rfl
theorem rep26 (e : Int) : f77 [e] 26 = some (List.replicate 26 e) := by kernel_rfl
theorem rep27 (e : Int) : f77 [e] 27 = some (List.replicate 27 e) := by kernel_rfl
theorem rep28 (e : Int) : f77 [e] 28 = some (List.replicate 28 e) := by kernel_rfl
theorem rep29 (e : Int) : f77 [e] 29 = some (List.replicate 29 e) := by kernel_rfl
theorem rep30 (e : Int) : f77 [e] 30 = some (List.replicate 30 e) := by kernel_rfl
theorem rep31 (e : Int) : f77 [e] 31 = some (List.replicate 31 e) := by kernel_rfl
theorem rep32 (e : Int) : f77 [e] 32 = some (List.replicate 32 e) := by kernel_rfl
theorem rep33 (e : Int) : f77 [e] 33 = some (List.replicate 33 e) := by kernel_rfl
theorem rep34 (e : Int) : f77 [e] 34 = some (List.replicate 34 e) := by kernel_rfl
theorem rep35 (e : Int) : f77 [e] 35 = some (List.replicate 35 e) := by kernel_rfl
theorem rep36 (e : Int) : f77 [e] 36 = some (List.replicate 36 e) := by kernel_rfl
theorem rep37 (e : Int) : f77 [e] 37 = some (List.replicate 37 e) := by kernel_rfl
theorem rep38 (e : Int) : f77 [e] 38 = some (List.replicate 38 e) := by kernel_rfl
theorem rep39 (e : Int) : f77 [e] 39 = some (List.replicate 39 e) := by kernel_rfl
theorem rep40 (e : Int) : f77 [e] 40 = some (List.replicate 40 e) := by kernel_rfl
theorem rep41 (e : Int) : f77 [e] 41 = some (List.replicate 41 e) := by kernel_rfl
theorem rep42 (e : Int) : f77 [e] 42 = some (List.replicate 42 e) := by kernel_rfl
theorem rep43 (e : Int) : f77 [e] 43 = some (List.replicate 43 e) := by kernel_rfl
theorem rep44 (e : Int) : f77 [e] 44 = some (List.replicate 44 e) := by kernel_rfl
theorem rep45 (e : Int) : f77 [e] 45 = some (List.replicate 45 e) := by kernel_rfl
theorem rep46 (e : Int) : f77 [e] 46 = some (List.replicate 46 e) := by kernel_rfl
theorem rep47 (e : Int) : f77 [e] 47 = some (List.replicate 47 e) := by kernel_rfl
theorem rep48 (e : Int) : f77 [e] 48 = some (List.replicate 48 e) := by kernel_rfl
theorem rep49 (e : Int) : f77 [e] 49 = some (List.replicate 49 e) := by kernel_rfl
theorem rep50 (e : Int) : f77 [e] 50 = some (List.replicate 50 e) := by kernel_rfl
theorem rep51 (e : Int) : f77 [e] 51 = some (List.replicate 51 e) := by kernel_rfl
theorem rep52 (e : Int) : f77 [e] 52 = some (List.replicate 52 e) := by kernel_rfl
theorem rep53 (e : Int) : f77 [e] 53 = some (List.replicate 53 e) := by kernel_rfl
theorem rep54 (e : Int) : f77 [e] 54 = some (List.replicate 54 e) := by kernel_rfl
theorem rep55 (e : Int) : f77 [e] 55 = some (List.replicate 55 e) := by kernel_rfl
theorem rep56 (e : Int) : f77 [e] 56 = some (List.replicate 56 e) := by kernel_rfl
theorem rep57 (e : Int) : f77 [e] 57 = some (List.replicate 57 e) := by kernel_rfl
theorem rep58 (e : Int) : f77 [e] 58 = some (List.replicate 58 e) := by kernel_rfl
theorem rep59 (e : Int) : f77 [e] 59 = some (List.replicate 59 e) := by kernel_rfl
theorem rep60 (e : Int) : f77 [e] 60 = some (List.replicate 60 e) := by kernel_rfl
theorem rep61 (e : Int) : f77 [e] 61 = some (List.replicate 61 e) := by kernel_rfl
theorem rep62 (e : Int) : f77 [e] 62 = some (List.replicate 62 e) := by kernel_rfl
theorem rep63 (e : Int) : f77 [e] 63 = some (List.replicate 63 e) := by kernel_rfl
theorem rep64 (e : Int) : f77 [e] 64 = some (List.replicate 64 e) := by kernel_rfl

theorem f77_eq (e : Int) {n : Int} (h0 : 0 ≤ n) (h1 : n ≤ 64) : f77 [e] n = some (List.replicate n.toNat e) := by
  obtain ⟨m, rfl⟩ := Int.eq_ofNat_of_zero_le h0
  have hm : m ≤ 64 := by omega
  rw [Int.toNat_natCast]
  clear h0 h1
  match m, hm with
  | 0, _ => exact rep0 e
  | 1, _ => exact rep1 e
  | 2, _ => exact rep2 e
  | 3, _ => exact rep3 e
  | 4, _ => exact rep4 e
  | 5, _ => exact rep5 e
  | 6, _ => exact rep6 e
  | 7, _ => exact rep7 e
  | 8, _ => exact rep8 e
  | 9, _ => exact rep9 e
  | 10, _ => exact rep10 e
  | 11, _ => exact rep11 e
  | 12, _ => exact rep12 e
  | 13, _ => exact rep13 e
  | 14, _ => exact rep14 e
  | 15, _ => exact rep15 e
  | 16, _ => exact rep16 e
  | 17, _ => exact rep17 e
  | 18, _ => exact rep18 e
  | 19, _ => exact rep19 e
  | 20, _ => exact rep20 e
  | 21, _ => exact rep21 e
  | 22, _ => exact rep22 e
  | 23, _ => exact rep23 e
  | 24, _ => exact rep24 e
  | 25, _ => exact rep25 e
  | 26, _ => exact rep26 e
  | 27, _ => exact rep27 e
  | 28, _ => exact rep28 e
  | 29, _ => exact rep29 e
  | 30, _ => exact rep30 e
  | 31, _ => exact rep31 e
  | 32, _ => exact rep32 e
  | 33, _ => exact rep33 e
  | 34, _ => exact rep34 e
  | 35, _ => exact rep35 e
  | 36, _ => exact rep36 e
  | 37, _ => exact rep37 e
  | 38, _ => exact rep38 e
  | 39, _ => exact rep39 e
  | 40, _ => exact rep40 e
  | 41, _ => exact rep41 e
  | 42, _ => exact rep42 e
  | 43, _ => exact rep43 e
  | 44, _ => exact rep44 e
  | 45, _ => exact rep45 e
  | 46, _ => exact rep46 e
  | 47, _ => exact rep47 e
  | 48, _ => exact rep48 e
  | 49, _ => exact rep49 e
  | 50, _ => exact rep50 e
  | 51, _ => exact rep51 e
  | 52, _ => exact rep52 e
  | 53, _ => exact rep53 e
  | 54, _ => exact rep54 e
  | 55, _ => exact rep55 e
  | 56, _ => exact rep56 e
  | 57, _ => exact rep57 e
  | 58, _ => exact rep58 e
  | 59, _ => exact rep59 e
  | 60, _ => exact rep60 e
  | 61, _ => exact rep61 e
  | 62, _ => exact rep62 e
  | 63, _ => exact rep63 e
  | 64, _ => exact rep64 e
  | m + 65, h => omega

theorem f58_l1_eq (r : Ty × Subt × Bool) (k : List Int → Option (List Int)) (hl : r.1.comps.length ≤ 100) : ∀ (n i : Nat) (acc : List Int) (z : Int), z = i → i ≤ r.1.comps.length → r.1.comps.length - i < n → acc.length ≤ i + 10 →
    f58_l1 r k n z acc = k (acc ++ (r.1.comps.drop i).map (·.sub))
  | 0, i, acc, z, _, _, h, _ => by omega
  | n + 1, i, acc, z, hz, hi, hn, ha => by
    subst hz
    unfold f58_l1
    by_cases hil : i < r.1.comps.length
    · rw [decide_eq_true (by omega), cond_true, idx_nat, List.getElem?_eq_getElem hil, obind, gB (appOk_small (by simp; omega)), w64 (by omega) (by omega)]
      have := f58_l1_eq r k hl n (i + 1) (acc ++ [r.1.comps[i].sub]) ((i : Int) + 1) (by omega) (by omega) (by omega) (by simp; omega)
      rw [this, List.drop_eq_getElem_cons hil]
      simp only [List.map_cons, List.append_assoc, List.cons_append, List.nil_append]
    · rw [decide_eq_false (by omega), cond_false, List.drop_of_length_le (by omega)]
      simp

theorem f58_eq {t : Table} (c : Cut t) (s : Int) : f58 ⟨t⟩ s = some (slotsM t s) := by
  unfold f58 slotsM
  cases h : row t s with
  | none => obtain ⟨b, e⟩ := f40_none h; simp [e, letk]
  | some p =>
    obtain ⟨y, b⟩ := p
    rw [f40_row h]
    have hy := (row_good c.toGTab h).1
    have hcl : y.comps.length ≤ 20 := c.comps _ (idx_mem (row_idx h).2)
    simp only [obind, letk]
    by_cases h2 : y.kind = 2
    · simp [h2]
    by_cases h3 : y.kind = 3
    · simp [h3]
    by_cases h6 : y.kind = 6
    · simp [h6]
    by_cases h7 : y.kind = 7
    · simp [h7]
    rw [decide_eq_false h2, decide_eq_false h3, decide_eq_false h6, decide_eq_false h7, if_neg (by omega)]
    simp only [cond_false]
    by_cases h4 : y.kind = 4
    · rw [decide_eq_true h4, cond_true, if_pos h4, f41_eq c.toGTab _ (by omega) (by omega), obind, f77_eq _ (countM_bd _ _ _).1 ((countM_bd _ _ _).2 (by omega)), obind]
    · rw [decide_eq_false h4, cond_false, if_neg h4]
      by_cases h5 : y.kind = 5
      · rw [decide_eq_true h5, cond_true, if_pos h5]
        by_cases hd : y.disc = -1
        · rw [decide_eq_true hd, Bool.not_true, cond_false, if_pos hd]
          have := f58_l1_eq (y, b, true) (fun l => some l) (by simp; omega) (Int.toNat ((List.length y.comps : Int) - 0) + 1) 0 [] 0 rfl (by omega) (by simp) (by simp)
          simpa using this
        · rw [decide_eq_false hd, Bool.not_false, cond_true, if_neg hd, gB (appOk_small (by simp))]
          have := f58_l1_eq (y, b, true) (fun l => some l) (by simp; omega) (Int.toNat ((List.length y.comps : Int) - 0) + 1) 0 ([] ++ [y.disc]) 0 rfl (by omega) (by simp) (by simp)
          simpa using this
      · rw [decide_eq_false h5, cond_false, if_neg h5]

end Go.Proofs.YteafckpdbmncfaaDoor
namespace Go.Proofs.YteafckpdbmncfaaDoor
open Go Go.Sk

theorem f29_eq {t : Table} (c : Cut t) (s : Int) : f29 t s = some ((slotsM t s).length : Int) := by rw [f29, f58_eq c, obind]
def slotM (t : Table) (s i : Int) : Int × Bool := match idx (slotsM t s) i with | some x => (x, true) | none => (0, false)
theorem f57_eq (l : List Int) (i : Int) : f57 l i = some (match idx l i with | some x => (x, true) | none => (0, false)) := by
  unfold f57
  by_cases h : i < 0 ∨ (l.length : Int) ≤ i
  · rw [idx_none h]
    have : (decide (i < 0) || decide (i ≥ (l.length : Int))) = true := by simpa using h
    rw [this, cond_true]
  · have h' : 0 ≤ i ∧ i < (l.length : Int) := by omega
    obtain ⟨x, hx, _⟩ := idx_some h'.1 h'.2
    have : (decide (i < 0) || decide (i ≥ (l.length : Int))) = false := by simp; omega
    rw [this, hx, cond_false, obind]
theorem f27_eq {t : Table} (c : Cut t) (s i : Int) : f27 t s i = some (slotM t s i) := by
  unfold f27 slotM
  rw [f58_eq c, obind, f57_eq]
  rfl
def canM (t : Table) (s v : Int) : Bool := if kindM t s = 2 ∨ kindM t s = 3 then hasM t s v else if kindM t s = 6 then decide (0 ≤ v) && decide (v ≤ 2048) else decide (kindM t s = 7)
def fixM (t : Table) (s : Int) : Bool := match row t s with
  | some (y, b) => decide (y.kind = 5) && decide (y.disc ≠ -1) && decide (b.lo = b.hi)
  | none => false
def loM (t : Table) (s : Int) : Int := match row t s with | some (_, b) => b.lo | none => 0
def fitsM (t : Table) (s : Int) (v : List Int) : Bool :=
  decide ((slotsM t s).length ≠ 0) && decide ((slotsM t s).length = v.length) && ((slotsM t s).zip v).all (fun p => canM t p.1 p.2) && (!fixM t s || decide (v.head? = some (loM t s)))

/-- The value that a slot has by itself. -/
def oneM (t : Table) (s : Int) : Option Int :=
  let r := rangeM t s
  if r.2.2 = true then (if r.1 > r.2.1 then none else if r.1 > 0 ∨ r.2.1 < 0 then some r.1 else some 0)
  else if kindM t s = 6 ∨ kindM t s = 7 then some 0 else none

def setC : List CompRow → Nat → List Int → List Int
  | [], _, v => v
  | c :: cs, j, v => setC cs (j + 1) (if c.has then v.set j c.default_ else v)
def defaultM (t : Table) (s : Int) : List Int := match (slotsM t s).mapM (oneM t) with
  | none => []
  | some v => match row t s with
    | none => v
    | some (y, b) =>
      if y.kind = 5 then
        if y.disc = -1 then setC y.comps 0 v
        else setC y.comps 1 (if b.lo = b.hi then v.set 0 b.lo else if y.has then v.set 0 y.default_ else v)
      else v
end Go.Proofs.YteafckpdbmncfaaDoor
namespace Go.Proofs.YteafckpdbmncfaaDoor
open Go Go.Sk

theorem slots5 {t : Table} {s : Int} {y : Ty} {b : Subt} (h : row t s = some (y, b)) (h5 : y.kind = 5) : (slotsM t s).length = (if y.disc = -1 then 0 else 1) + y.comps.length := by
  unfold slotsM
  rw [h]
  simp only [h5]
  simp
  split <;> simp

end Go.Proofs.YteafckpdbmncfaaDoor
namespace Go.Proofs.YteafckpdbmncfaaDoor
open Go Go.Sk
set_option maxRecDepth 100000
theorem works : f17 = some true := by kernel_rfl
set_option maxRecDepth 512

theorem sliceF_min {α : Type} (L : List α) (c : Nat) : sliceF L 0 (if (c : Int) < (L.length : Int) then (c : Int) else (L.length : Int)) = L.take c := by
  unfold sliceF
  split
  · simp
  · rename_i h
    simp
    rw [List.take_of_length_le (by omega)]
theorem sliceOk_min {α : Type} (L : List α) (c : Nat) : sliceOk L 0 (if (c : Int) < (L.length : Int) then (c : Int) else (L.length : Int)) = true := by
  unfold sliceOk
  simp only [Bool.and_eq_true, decide_eq_true_eq]
  split <;> omega

def cutTy (y : Ty) : Ty := Ty.mk y.kind y.name y.parent y.first (y.lits.take 70) y.index y.elem y.disc y.discName y.has y.default_ (y.comps.take 20) y.target y.formal y.limited y.priv y.full y.level
def cutM (t : Table) : Table := ⟨(t.types.take 40).map cutTy, t.subs.take 60, ⟨none, 0, 0⟩, ⟨none, 0, 0⟩, ⟨none, 0, 0⟩⟩

theorem f10_l1_eq (t : Table) (k : List Ty → Option Table) (L : List Ty) (hL : L = [] ++ sliceF t.types 0 (if 40 < (t.types.length : Int) then 40 else (t.types.length : Int))) (hb : L.length ≤ 40) : ∀ (n i : Nat) (z : Int), z = i → i ≤ L.length → L.length - i < n →
    f10_l1 t k n z ((L.take i).map cutTy ++ L.drop i) = k (L.map cutTy)
  | 0, i, z, _, _, h => by omega
  | n + 1, i, z, hz, hi, hn => by
    subst hz
    unfold f10_l1
    rw [← hL]
    by_cases hil : i < L.length
    · have hlen : ((L.take i).map cutTy).length = i := by rw [List.length_map, List.length_take]; omega
      have hd : L.drop i = L[i] :: L.drop (i + 1) := List.drop_eq_getElem_cons hil
      have hget : ∀ (y : Ty) (R : List Ty), idx ((L.take i).map cutTy ++ y :: R) (i : Int) = some y := fun y R => by
        rw [idx_nat, List.getElem?_append_right (by omega), hlen, Nat.sub_self]; rfl
      have hset : ∀ (y y' : Ty) (R : List Ty), ((L.take i).map cutTy ++ y :: R).set (Int.toNat (i : Int)) y' = (L.take i).map cutTy ++ y' :: R := fun y y' R => by
        rw [Int.toNat_natCast, List.set_append_right _ _ (by omega), hlen, Nat.sub_self, List.set_cons_zero]
      rw [decide_eq_true (by omega), cond_true, hd, hget, obind, obind]
      have e1 := sliceOk_min (L[i]).lits 70
      have e2 := sliceF_min (L[i]).lits 70
      have e3 := sliceOk_min (L[i]).comps 20
      have e4 := sliceF_min (L[i]).comps 20
      simp only [Int.cast_ofNat_Int] at e1 e2 e3 e4
      rw [gB e1, e2, obind, hset, hget, obind, obind, gB e3, e4, obind, hset, w64 (by omega) (by omega)]
      have := f10_l1_eq t k L hL hb n (i + 1) ((i : Int) + 1) (by omega) (by omega) (by omega)
      rw [← this, List.take_succ_eq_append_getElem hil, List.map_append, List.append_assoc]
      rfl
    · rw [decide_eq_false (by omega), cond_false, List.drop_of_length_le (by omega), List.take_of_length_le (by omega), List.append_nil]

theorem f10_eq (t : Table) : f10 t = some (cutM t) := by
  unfold f10
  have e1 := sliceOk_min t.types 40
  have e2 := sliceF_min t.types 40
  have e3 := sliceOk_min t.subs 60
  have e4 := sliceF_min t.subs 60
  simp only [Int.cast_ofNat_Int] at e1 e2 e3 e4
  have hl : (t.types.take 40).length ≤ 40 := by rw [List.length_take]; omega
  have e5 : appOk 184 ([] : List Ty) (t.types.take 40) = true := by
    have := maxLen_ge
    simp only [appOk, Bool.and_eq_true, decide_eq_true_eq, List.length_nil]; omega
  rw [gB e1, e2, gB e5, gB e3, e4]
  simp only [letkE]
  have := f10_l1_eq t (fun l75 => some (Table.mk l75 (t.subs.take 60) (SlV.mk none 0 0) (SlV.mk none 0 0) (SlV.mk none 0 0))) ([] ++ t.types.take 40) (by rw [e2]) (by simpa using hl) (Int.toNat ((([] ++ t.types.take 40 : List Ty).length : Int) - 0) + 1) 0 0 rfl (by omega) (by omega)
  simp only [List.take_zero, List.map_nil, List.nil_append, List.drop_zero] at this ⊢
  exact this

theorem cut_good {t : Table} (g : GTab t) : Cut (cutM t) := by
  refine ⟨⟨?_, ?_, ?_, ?_⟩, ?_, ?_, ?_, ?_⟩
  · intro y hy
    obtain ⟨x, hx, rfl⟩ := List.mem_map.1 hy
    have h := g.ty x (List.mem_of_mem_take hx)
    exact ⟨h.kind, by simp [cutTy]; have := h.lits; omega, by simp [cutTy]; have := h.comps; omega, fun c hc => h.comp c (List.mem_of_mem_take hc), h.parent, h.first, h.index, h.elem, h.disc, h.def_, h.target⟩
  · exact fun s hs => g.sub s (List.mem_of_mem_take hs)
  · simp [cutM]; omega
  · simp [cutM]; omega
  · simp [cutM]; omega
  · simp [cutM]; omega
  · intro y hy
    obtain ⟨x, hx, rfl⟩ := List.mem_map.1 hy
    simp [cutTy]; omega
  · intro y hy
    obtain ⟨x, hx, rfl⟩ := List.mem_map.1 hy
    simp [cutTy]; omega

theorem f25_eq (t : Table) (s : Int) : f25 t s = some (rangeM t s) := by
  simp only [f25, f43_eq, obind]
end Go.Proofs.YteafckpdbmncfaaDoor
namespace Go.Proofs.YteafckpdbmncfaaDoor
open Go Go.Sk

def elemM (t : Table) (s ix : Int) : Int × Bool := match row t s with
  | some (y, _) => if y.kind = 4 ∧ countM t y.index 64 ≠ 0 ∧ hasM t y.index ix = true then (IntKind.i64.wrap (ix - (rangeM t y.index).1), true) else (0, false)
  | none => (0, false)

theorem f11_eq {t : Table} (c : Cut t) (s ix : Int) : f11 t s ix = some (elemM t s ix) := by
  unfold f11 elemM
  cases hr : row t s with
  | none => obtain ⟨b, e⟩ := f40_none hr; simp [e]
  | some p =>
    obtain ⟨y, b⟩ := p
    rw [f40_row hr, obind]
    simp only
    by_cases h4 : y.kind = 4
    · rw [decide_eq_true h4, Bool.not_true, cond_false, f41_eq c.toGTab _ (by omega) (by omega)]
      simp only [obind]
      by_cases hc : countM t y.index 64 = 0
      · simp [hc]
      · simp only [decide_eq_false hc, cond_false, f42_eq, obind, f43_eq]
        cases hh : hasM t y.index ix with
        | false => simp
        | true => simp [h4, hc]
    · simp [h4]

/-! ### Components -/
def firstC (name : ByteArray) : List CompRow → Nat → Option (Nat × CompRow)
  | [], _ => none
  | c :: cs, i => bif c.name.toList == name.toList then some (i, c) else firstC name cs (i + 1)
theorem firstC_bd {name : ByteArray} : ∀ {l : List CompRow} {i j : Nat} {c : CompRow}, firstC name l i = some (j, c) → i ≤ j ∧ j < i + l.length ∧ l[j - i]? = some c ∧ (c.name.toList == name.toList) = true
  | x :: l, i, j, c, h => by
    unfold firstC at h
    cases hb : (x.name.toList == name.toList) with
    | true =>
      rw [hb] at h
      simp only [cond_true, Option.some.injEq, Prod.mk.injEq] at h
      obtain ⟨rfl, rfl⟩ := h
      exact ⟨Nat.le_refl _, by simp, by simp, hb⟩
    | false =>
      rw [hb] at h
      obtain ⟨h1, h2, h3, h4⟩ := firstC_bd (by simpa using h)
      refine ⟨by omega, by simp; omega, ?_, h4⟩
      rw [show j - i = (j - (i + 1)) + 1 by omega]
      simpa using h3

theorem f69_l1_eq (name : ByteArray) (l : List CompRow) (hb : l.length ≤ 100) (k : Unit → Option Int) : ∀ (n i : Nat) (z : Int), z = i → i ≤ l.length → l.length - i < n →
    f69_l1 l (fun z0 => some (f70 z0 name)) k n z = match firstC name (l.drop i) i with | some (j, _) => some (j : Int) | none => k ()
  | 0, i, z, _, _, h => by omega
  | n + 1, i, z, hz, hi, hn => by
    subst hz
    unfold f69_l1
    by_cases hil : i < l.length
    · rw [decide_eq_true (by omega), cond_true, idx_nat, List.getElem?_eq_getElem hil, obind, obind, List.drop_eq_getElem_cons hil, firstC, w64 (by omega) (by omega)]
      unfold f70
      cases (l[i].name.toList == name.toList) with
      | true => rfl
      | false => exact f69_l1_eq name l hb k n (i + 1) ((i : Int) + 1) (by omega) (by omega) (by omega)
    · rw [decide_eq_false (by omega), cond_false, List.drop_of_length_le (by omega)]; rfl
theorem f69_eq (name : ByteArray) (l : List CompRow) (hb : l.length ≤ 100) : f69 l (fun z0 => some (f70 z0 name)) = some (match firstC name l 0 with | some (j, _) => (j : Int) | none => -1) := by
  unfold f69
  simp only [letkE]
  rw [f69_l1_eq name l hb _ (Int.toNat ((l.length : Int) - 0) + 1) 0 0 rfl (by omega) (by omega), List.drop_zero]
  cases firstC name l 0 <;> rfl

/-- The slot of a component, and the component; none: it is the discriminant. -/
def findM (t : Table) (s : Int) (name : ByteArray) : Int × Option CompRow × Bool := match row t s with
  | none => (0, none, false)
  | some (y, _) => if y.kind = 5 then
      if y.disc ≠ -1 ∧ (y.discName.toList == name.toList) = true then (0, none, true)
      else match firstC name y.comps 0 with
        | none => (0, none, false)
        | some (i, c) => ((if y.disc = -1 then 0 else 1) + (i : Int), some c, true)
    else (0, none, false)

theorem f46_eq {t : Table} (c : Cut t) (s : Int) (name : ByteArray) : f46 ⟨t⟩ s name = some (findM t s name) := by
  unfold f46 findM
  cases hr : row t s with
  | none => obtain ⟨b, e⟩ := f40_none hr; simp [e]
  | some p =>
    obtain ⟨y, b⟩ := p
    have hcl : y.comps.length ≤ 20 := c.comps _ (idx_mem (row_idx hr).2)
    rw [f40_row hr, obind]
    simp only [letkE]
    have hk : ∀ first : Int, (first = 0 ∨ first = 1) → (Option.bind (f69 y.comps (fun z0 => some (f70 z0 name))) fun r50 =>
        (bif (decide (r50 < 0)) then some (0, none, false) else Option.bind (idx y.comps r50) fun x51 => some ((IntKind.i64.wrap (first + r50)), (some x51), true))) =
        some (match firstC name y.comps 0 with | none => (0, none, false) | some (i, c) => (first + (i : Int), some c, true)) := fun first hf => by
      rw [f69_eq name y.comps (by omega), obind]
      cases hc : firstC name y.comps 0 with
      | none => simp
      | some q =>
        obtain ⟨i, c'⟩ := q
        obtain ⟨h1, h2, h3, _⟩ := firstC_bd hc
        simp only
        rw [decide_eq_false (by omega), cond_false, idx_nat, show y.comps[i]? = some c' from by simpa using h3, obind, w64 (by omega) (by omega)]
    by_cases h5 : y.kind = 5
    · rw [decide_eq_true h5, Bool.not_true, cond_false, if_pos h5]
      by_cases hd : y.disc = -1
      · rw [decide_eq_true hd, Bool.not_true, cond_false, if_neg (by simp [hd]), hk 0 (.inl rfl), if_pos hd]
      · rw [decide_eq_false hd, Bool.not_false, cond_true, if_neg hd]
        cases hn : (y.discName.toList == name.toList) with
        | true => rw [cond_true, if_pos ⟨hd, rfl⟩]
        | false => rw [cond_false, if_neg (by simp), hk 1 (.inr rfl)]
    · rw [decide_eq_false h5, Bool.not_false, cond_true, if_neg h5]
theorem f13_eq {t : Table} (c : Cut t) (s : Int) (name : ByteArray) : f13 t s name = some ((findM t s name).1, (findM t s name).2.2) := by
  rw [f13, f46_eq c, obind]

def existsM (t : Table) (s : Int) (name : ByteArray) (d : Int) : Bool := match findM t s name with
  | (_, _, false) => false
  | (_, none, true) => true
  | (_, some c, true) => !c.variant || decide (d ∈ c.when)
end Go.Proofs.YteafckpdbmncfaaDoor
namespace Go.Proofs.YteafckpdbmncfaaDoor
open Go Go.Sk

/-- The root, in at most n steps. -/
def rootM (t : Table) : Nat → Int → Int
  | 0, ty => ty
  | n + 1, ty => match idx t.types ty with
    | some y => if 0 ≤ y.parent ∧ y.parent < ty then rootM t n y.parent else ty
    | none => ty

def rootT (t : Table) (ty : Int) : Int := match idx t.types ty with | some _ => rootM t 100 ty | none => -1
def alikeM (t : Table) (a b : Int) : Bool := match idx t.subs a, idx t.subs b with
  | some x, some y => decide (x.t = y.t ∧ x.lo = y.lo ∧ x.hi = y.hi)
  | _, _ => false
def wholeM (k : Int) : Bool := decide (k = 1) || decide (k = 2)
def convM (t : Table) (a b : Int) : Bool := match idx t.types a, idx t.types b with
  | some x, some y => decide (a = b) || (decide (x.kind = 3) && decide (y.kind = 3) && decide (rootT t a = rootT t b)) || (decide (x.kind = 6) && decide (y.kind = 6) && alikeM t x.target y.target) || (wholeM x.kind && wholeM y.kind)
  | _, _ => false
end Go.Proofs.YteafckpdbmncfaaDoor
namespace Go.Proofs.YteafckpdbmncfaaDoor
open Go Go.Sk

theorem f33_l1_any (a b : List Int) (ha : a.length ≤ 9223372036854775807) (hab : a.length = b.length) (k : Unit → Option Bool) (hk : ∃ r, k () = some r) : ∀ (n i : Nat) (z : Int), z = i → i ≤ a.length → a.length - i < n → ∃ r, f33_l1 a b k n z = some r
  | 0, i, z, _, _, h => by omega
  | n + 1, i, z, hz, hi, hn => by
    subst hz
    unfold f33_l1
    by_cases hil : i < a.length
    · rw [decide_eq_true (by omega), cond_true, idx_nat, List.getElem?_eq_getElem hil, obind, idx_nat, List.getElem?_eq_getElem (by omega), obind, w64 (by omega) (by omega)]
      cases decide (a[i] = b[i]) with
      | false => exact ⟨false, rfl⟩
      | true => exact f33_l1_any a b ha hab k hk n (i + 1) ((i : Int) + 1) (by omega) (by omega) (by omega)
    · rw [decide_eq_false (by omega), cond_false]; exact hk
theorem f33_any (a b : List Int) (ha : a.length ≤ 9223372036854775807) : ∃ r, f33 a b = some r := by
  unfold f33
  by_cases hab : a.length = b.length
  · rw [decide_eq_true (by omega), Bool.not_true, cond_false]
    simp only [letkE]
    exact f33_l1_any a b ha hab _ ⟨true, rfl⟩ 9223372036854775808 0 0 rfl (by omega) (by omega)
  · rw [decide_eq_false (by omega)]; exact ⟨false, rfl⟩
theorem f72_l1_any (a b : List ByteArray) (ha : a.length ≤ 9223372036854775807) (hab : a.length = b.length) (k : Unit → Option Bool) (hk : ∃ r, k () = some r) : ∀ (n i : Nat) (z : Int), z = i → i ≤ a.length → a.length - i < n → ∃ r, f72_l1 a b k n z = some r
  | 0, i, z, _, _, h => by omega
  | n + 1, i, z, hz, hi, hn => by
    subst hz
    unfold f72_l1
    by_cases hil : i < a.length
    · rw [decide_eq_true (by omega), cond_true, idx_nat, List.getElem?_eq_getElem hil, obind, idx_nat, List.getElem?_eq_getElem (by omega), obind, w64 (by omega) (by omega)]
      cases (a[i].toList == b[i].toList) with
      | false => exact ⟨false, rfl⟩
      | true => exact f72_l1_any a b ha hab k hk n (i + 1) ((i : Int) + 1) (by omega) (by omega) (by omega)
    · rw [decide_eq_false (by omega), cond_false]; exact hk
theorem f72_any (a b : List ByteArray) (ha : a.length ≤ 9223372036854775807) : ∃ r, f72 a b = some r := by
  unfold f72
  by_cases hab : a.length = b.length
  · rw [decide_eq_true (by omega), Bool.not_true, cond_false]
    simp only [letkE]
    exact f72_l1_any a b ha hab _ ⟨true, rfl⟩ 9223372036854775808 0 0 rfl (by omega) (by omega)
  · rw [decide_eq_false (by omega)]; exact ⟨false, rfl⟩
theorem f73_l1_any (a b : List CompRow) (ha : a.length ≤ 9223372036854775807) (hw : ∀ c ∈ a, c.when.length ≤ 9223372036854775807) (hab : a.length = b.length) (k : Unit → Option Bool) (hk : ∃ r, k () = some r) : ∀ (n i : Nat) (z : Int), z = i → i ≤ a.length → a.length - i < n → ∃ r, f73_l1 a b k n z = some r
  | 0, i, z, _, _, h => by omega
  | n + 1, i, z, hz, hi, hn => by
    subst hz
    unfold f73_l1
    by_cases hil : i < a.length
    · rw [decide_eq_true (by omega), cond_true, idx_nat, List.getElem?_eq_getElem hil, obind, idx_nat, List.getElem?_eq_getElem (by omega), obind, w64 (by omega) (by omega)]
      obtain ⟨r, hr⟩ := f33_any a[i].when b[i].when (hw _ (List.getElem_mem hil))
      obtain ⟨r', hr'⟩ := f73_l1_any a b ha hw hab k hk n (i + 1) ((i : Int) + 1) (by omega) (by omega) (by omega)
      rw [hr, hr', obind]
      cases (((((!(a[i].name.toList == b[i].name.toList)) || (!decide (a[i].sub = b[i].sub))) || (!(a[i].has == b[i].has))) || (!decide (a[i].default_ = b[i].default_))) || (!(a[i].variant == b[i].variant))) <;> cases r <;> exact ⟨_, rfl⟩
    · rw [decide_eq_false (by omega), cond_false]; exact hk
theorem f73_any (a b : List CompRow) (ha : a.length ≤ 9223372036854775807) (hw : ∀ c ∈ a, c.when.length ≤ 9223372036854775807) : ∃ r, f73 a b = some r := by
  unfold f73
  by_cases hab : a.length = b.length
  · rw [decide_eq_true (by omega), Bool.not_true, cond_false]
    simp only [letkE]
    exact f73_l1_any a b ha hw hab _ ⟨true, rfl⟩ 9223372036854775808 0 0 rfl (by omega) (by omega)
  · rw [decide_eq_false (by omega)]; exact ⟨false, rfl⟩

theorem f53_any (a b : Ty) (ga : GTy a) : ∃ r, f53 a b = some r ∧ (r = true → a.parent = b.parent) := by
  unfold f53
  obtain ⟨r1, h1⟩ := f72_any a.lits b.lits ga.lits
  obtain ⟨r2, h2⟩ := f73_any a.comps b.comps ga.comps (fun c hc => (ga.comp c hc).when.1)
  rw [h1, h2]
  simp only [obind, bsome]
  refine ⟨_, rfl, fun h => ?_⟩
  simp only [Bool.and_eq_true, decide_eq_true_eq] at h
  exact h.1.1.1.1.1.1.1.1.1.1.2

theorem sIdx_some {s : ByteArray} {i : Nat} (h : i < s.size) : ∃ x, sIdx s (i : Int) = some x := by
  unfold sIdx
  rw [dif_pos ⟨by omega, by omega⟩]
  exact ⟨_, rfl⟩
theorem f103_l1_any (s : ByteArray) (l : List ByteArray) (hl : l.length ≤ 1000) (k : Unit → Option Bool) (hk : ∃ r, k () = some r) : ∀ (n i : Nat) (z : Int), z = i → i ≤ l.length → l.length - i < n → ∃ r, f103_l1 l s k n z = some r
  | 0, i, z, _, _, h => by omega
  | n + 1, i, z, hz, hi, hn => by
    subst hz
    unfold f103_l1
    by_cases hil : i < l.length
    · rw [decide_eq_true (by omega), cond_true, idx_nat, List.getElem?_eq_getElem hil, obind, w64 (by omega) (by omega)]
      cases (l[i].toList == s.toList) with
      | true => exact ⟨true, rfl⟩
      | false => exact f103_l1_any s l hl k hk n (i + 1) ((i : Int) + 1) (by omega) (by omega) (by omega)
    · rw [decide_eq_false (by omega), cond_false]; exact hk
theorem f89_any (s : ByteArray) : ∃ r, f89 s = some r := by
  unfold f89 f103
  simp only [letkE]
  have hl : f104.length ≤ 1000 := by decide
  obtain ⟨r, h⟩ := f103_l1_any s f104 hl (fun _ => some false) ⟨false, rfl⟩ 9223372036854775808 0 0 rfl (by omega) (by omega)
  rw [h, obind]
  exact ⟨r, rfl⟩
theorem f75_l1_any (s : ByteArray) (hs : s.size ≤ 32) (k : Unit → Option Bool) (hk : ∃ r, k () = some r) : ∀ (n i : Nat) (z : Int), z = i → i ≤ s.size → s.size - i < n → ∃ r, f75_l1 s k n z = some r
  | 0, i, z, _, _, h => by omega
  | n + 1, i, z, hz, hi, hn => by
    subst hz
    unfold f75_l1
    by_cases hil : i < s.size
    · obtain ⟨x, hx⟩ := sIdx_some hil
      rw [decide_eq_true (by omega), cond_true, hx, obind, w64 (by omega) (by omega)]
      cases f90 x with
      | false => exact ⟨false, rfl⟩
      | true => exact f75_l1_any s hs k hk n (i + 1) ((i : Int) + 1) (by omega) (by omega) (by omega)
    · rw [decide_eq_false (by omega), cond_false]; exact hk
theorem f75_any (s : ByteArray) : ∃ r, f75 s = some r := by
  unfold f75
  obtain ⟨r, hr⟩ := f89_any s
  rw [hr]
  by_cases h : s.size < 1 ∨ s.size > 32
  · have e : (decide ((s.size : Int) < 1) || decide ((s.size : Int) > 32)) = true := by
      rcases h with h | h
      · rw [decide_eq_true (show (s.size : Int) < 1 by omega), Bool.true_or]
      · rw [decide_eq_true (show (s.size : Int) > 32 by omega), Bool.or_true]
    rw [e, cond_true, obind, cond_true, obind, cond_true]
    exact ⟨false, rfl⟩
  · have e : (decide ((s.size : Int) < 1) || decide ((s.size : Int) > 32)) = false := by
      rw [decide_eq_false (show ¬ (s.size : Int) < 1 by omega), decide_eq_false (show ¬ (s.size : Int) > 32 by omega)]; rfl
    obtain ⟨x, hx⟩ := sIdx_some (s := s) (i := 0) (by omega)
    rw [e, cond_false, show (0 : Int) = ((0 : Nat) : Int) from rfl, hx, obind, obind]
    cases f88 x with
    | false => rw [Bool.not_false, cond_true, obind, cond_true]; exact ⟨false, rfl⟩
    | true =>
      rw [Bool.not_true, cond_false, obind, obind]
      cases r with
      | true => rw [cond_true]; exact ⟨false, rfl⟩
      | false =>
        rw [cond_false, letkE]
        exact f75_l1_any s (by omega) _ ⟨true, rfl⟩ 9223372036854775808 0 0 rfl (by omega) (by omega)

/-- Different names. -/
def Diff (l : List ByteArray) : Prop := ∀ (i j : Nat) (x y : ByteArray), i < j → l[i]? = some x → l[j]? = some y → (x.toList == y.toList) = false
theorem f92_l2_any (l : List ByteArray) (hl : l.length ≤ 9223372036854775807) (q : Nat) (hq : q < l.length) (k : Unit → Option Bool) (P : Prop) (hk : ∃ r, k () = some r ∧ (r = true → P)) : ∀ (n i : Nat) (z : Int), z = i → i ≤ q → q - i < n →
    ∃ r, f92_l2 l q k n z = some r ∧ (r = true → P ∧ ∀ (j : Nat) x, i ≤ j → j < q → l[j]? = some x → (x.toList == l[q].toList) = false)
  | 0, i, z, _, _, h => by omega
  | n + 1, i, z, hz, hi, hn => by
    subst hz
    unfold f92_l2
    by_cases hil : i < q
    · rw [decide_eq_true (by omega), cond_true, idx_nat, List.getElem?_eq_getElem (by omega), obind, idx_nat, List.getElem?_eq_getElem hq, obind, w64 (by omega) (by omega)]
      cases hx : (l[i].toList == l[q].toList) with
      | true => exact ⟨false, rfl, by simp⟩
      | false =>
        obtain ⟨r, h1, h2⟩ := f92_l2_any l hl q hq k P hk n (i + 1) ((i : Int) + 1) (by omega) (by omega) (by omega)
        refine ⟨r, h1, fun hr => ⟨(h2 hr).1, fun j x h3 h4 h5 => ?_⟩⟩
        by_cases hj : j = i
        · subst hj
          rw [List.getElem?_eq_getElem (by omega)] at h5
          simp only [Option.some.injEq] at h5
          subst h5
          exact hx
        · exact (h2 hr).2 j x (by omega) h4 h5
    · rw [decide_eq_false (by omega), cond_false]
      obtain ⟨r, h1, h2⟩ := hk
      exact ⟨r, h1, fun hr => ⟨h2 hr, fun j x h3 h4 _ => by omega⟩⟩
theorem f92_l1_any (l : List ByteArray) (hl : l.length ≤ 9223372036854775807) (k : Unit → Option Bool) (hk : ∃ r, k () = some r) : ∀ (n i : Nat) (z : Int), z = i → i ≤ l.length → l.length - i < n →
    ∃ r, f92_l1 l k n z = some r ∧ (r = true → ∀ (q j : Nat) (y x : ByteArray), i ≤ q → j < q → l[q]? = some y → l[j]? = some x → (x.toList == y.toList) = false)
  | 0, i, z, _, _, h => by omega
  | n + 1, i, z, hz, hi, hn => by
    subst hz
    unfold f92_l1
    by_cases hil : i < l.length
    · obtain ⟨rn, hrn⟩ := f75_any l[i]
      rw [decide_eq_true (by omega), cond_true, w64 (by omega) (by omega), idx_nat, List.getElem?_eq_getElem hil]
      simp only [letkE, obind, hrn]
      cases rn with
      | false => exact ⟨false, rfl, by simp⟩
      | true =>
        rw [Bool.not_true, cond_false]
        have ih := f92_l1_any l hl k hk n (i + 1) ((i : Int) + 1) (by omega) (by omega) (by omega)
        obtain ⟨r, h1, h2⟩ := f92_l2_any l hl i hil (fun _ => f92_l1 l k n ((i : Int) + 1)) _ ih 9223372036854775808 0 0 rfl (by omega) (by omega)
        refine ⟨r, h1, fun hr q j y x h3 h4 h5 h6 => ?_⟩
        obtain ⟨h7, h8⟩ := h2 hr
        by_cases hqi : q = i
        · subst hqi
          rw [List.getElem?_eq_getElem hil] at h5
          simp only [Option.some.injEq] at h5
          subst h5
          exact h8 j x (by omega) h4 h6
        · exact h7 q j y x (by omega) h4 h5 h6
    · rw [decide_eq_false (by omega), cond_false]
      obtain ⟨r, h1⟩ := hk
      refine ⟨r, h1, fun _ q j y x h3 _ h5 _ => ?_⟩
      have := (List.getElem?_eq_some_iff.1 h5).1
      omega
theorem f92_any (l : List ByteArray) (hl : l.length ≤ 9223372036854775807) : ∃ r, f92 l = some r ∧ (r = true → Diff l) := by
  unfold f92
  simp only [letkE]
  obtain ⟨r, h1, h2⟩ := f92_l1_any l hl (fun _ => some true) ⟨true, rfl⟩ 9223372036854775808 0 0 rfl (by omega) (by omega)
  exact ⟨r, h1, fun hr i j x y h3 h4 h5 => h2 hr j i y x (by omega) h3 h5 h4⟩
end Go.Proofs.YteafckpdbmncfaaDoor
namespace Go.Proofs.YteafckpdbmncfaaDoor
open Go Go.Sk

def smallM (t : Table) (s : Int) : Bool := ((rangeM t s).2.2 && decide ((rangeM t s).1 ≤ (rangeM t s).2.1)) || decide (kindM t s = 6)
theorem f93_eq (t : Table) (s : Int) : f93 t s = some (smallM t s) := by
  unfold f93 smallM
  rw [f26_eq, obind, f44_eq, obind]
  cases ((rangeM t s).2.2 && decide ((rangeM t s).1 ≤ (rangeM t s).2.1)) <;> rfl

theorem f106_l1_any (t : Table) (x : CompRow) (hx : x.when.length ≤ 9223372036854775807) (y : Ty) (k : Unit → Option Bool) (hk : ∃ r, k () = some r) : ∀ (n i : Nat) (z : Int), z = i → i ≤ x.when.length → x.when.length - i < n → ∃ r, f106_l1 t x y k n z = some r
  | 0, i, z, _, _, h => by omega
  | n + 1, i, z, hz, hi, hn => by
    subst hz
    unfold f106_l1
    by_cases hil : i < x.when.length
    · obtain ⟨r, hr⟩ := f106_l1_any t x hx y k hk n (i + 1) ((i : Int) + 1) (by omega) (by omega) (by omega)
      rw [decide_eq_true (by omega), cond_true, idx_nat, List.getElem?_eq_getElem hil, obind, f45_eq, obind, w64 (x := (i : Int) + 1) (by omega) (by omega), hr, obind]
      by_cases h0 : 0 < i
      · rw [decide_eq_true (show (i : Int) > 0 by omega), cond_true, w64 (by omega) (by omega), show (i : Int) - 1 = ((i - 1 : Nat) : Int) by omega, idx_nat, List.getElem?_eq_getElem (by omega), obind, obind]
        cases hasM t y.disc x.when[i] <;> cases decide (x.when[i] ≤ x.when[i - 1]) <;> exact ⟨_, rfl⟩
      · rw [decide_eq_false (show ¬ (i : Int) > 0 by omega), cond_false]
        cases hasM t y.disc x.when[i] <;> exact ⟨_, rfl⟩
    · rw [decide_eq_false (by omega), cond_false]; exact hk
theorem f106_any {t : Table} {i : Int} {y : Ty} (hy : idx t.types i = some y) (x : CompRow) (gx : GComp x) : ∃ r, f106 t i x = some r ∧ (r = true → smallM t x.sub = true ∧ (x.has = true → hasM t x.sub x.default_ = true)) := by
  unfold f106
  rw [f93_eq, obind, f45_eq]
  cases hs : smallM t x.sub with
  | false => exact ⟨false, rfl, by simp⟩
  | true =>
    simp only [Bool.not_true, cond_false, obind]
    have key : ∀ r, (∃ b, r = some b ∧ (b = true → (true = true ∧ (x.has = true → hasM t x.sub x.default_ = true)))) → ∃ b, r = some b ∧ (b = true → true = true ∧ (x.has = true → hasM t x.sub x.default_ = true)) := fun r h => h
    have rest : (x.has = true → hasM t x.sub x.default_ = true) → ∃ b, (bif (!x.variant) then some (decide ((List.length x.when : Int) = 0)) else Option.bind (idx t.types i) fun x100 =>
        letk (fun (_ : Unit) => some ((!decide (x100.disc = (-1))) && (decide ((List.length x.when : Int) > 0)))) fun k101 => (f106_l1 t x x100 k101 9223372036854775808 0)) = some b ∧ (b = true → true = true ∧ (x.has = true → hasM t x.sub x.default_ = true)) := fun hh => by
      cases x.variant with
      | false => rw [Bool.not_false, cond_true]; exact ⟨_, rfl, fun _ => ⟨rfl, hh⟩⟩
      | true =>
        rw [Bool.not_true, cond_false, hy, obind, letkE]
        obtain ⟨r, hr⟩ := f106_l1_any t x gx.when.1 y (fun _ => some ((!decide (y.disc = (-1))) && (decide ((List.length x.when : Int) > 0)))) ⟨_, rfl⟩ 9223372036854775808 0 0 rfl (by omega) (by have := gx.when.1; omega)
        exact ⟨r, hr, fun _ => ⟨rfl, hh⟩⟩
    cases hh : x.has with
    | false =>
      rw [cond_false, obind, obind]
      cases hd : decide (x.default_ = 0) with
      | false => exact ⟨false, rfl, by simp⟩
      | true =>
        simp only [Bool.not_false, Bool.not_true, Bool.and_false, Bool.or_self, cond_false]
        rw [hh] at rest
        obtain ⟨b, e1, e2⟩ := rest (by simp)
        exact ⟨b, e1, fun h => ⟨trivial, (e2 h).2⟩⟩
    | true =>
      rw [cond_true, obind, obind]
      cases hm : hasM t x.sub x.default_ with
      | false => exact ⟨false, rfl, by simp⟩
      | true =>
        simp only [Bool.not_true, Bool.false_and, Bool.or_self, cond_false]
        rw [hh, hm] at rest
        obtain ⟨b, e1, e2⟩ := rest (by simp)
        exact ⟨b, e1, fun h => ⟨trivial, fun _ => trivial⟩⟩

/-- The names of a record. -/
def namesM (y : Ty) : List ByteArray := (if y.disc = -1 then [] else [y.discName]) ++ y.comps.map (·.name)
structure RecOk (t : Table) (y : Ty) : Prop where
  disc : y.disc ≠ -1 → 0 < countM t y.disc 64 ∧ (y.has = true → hasM t y.disc y.default_ = true)
  comp : ∀ c ∈ y.comps, smallM t c.sub = true ∧ (c.has = true → hasM t c.sub c.default_ = true)
  diff : Diff (namesM y)
  some_ : 1 ≤ (namesM y).length
theorem appOk16 {α : Type} {L L2 : List α} (h : L.length + L2.length ≤ 1000) : appOk 16 L L2 = true := by
  have := maxLen_ge
  simp only [appOk, Bool.and_eq_true, decide_eq_true_eq]; omega

theorem f94_l1_any {t : Table} {ty : Int} {y : Ty} (hy : idx t.types ty = some y) (gy : GTy y) (hc : y.comps.length ≤ 20) (k : List ByteArray → Option Bool) (P : List ByteArray → Prop) (hk : ∀ l, l.length ≤ 30 → ∃ r, k l = some r ∧ (r = true → P l)) : ∀ (n i : Nat) (z : Int) (acc : List ByteArray), z = i → i ≤ y.comps.length → y.comps.length - i < n → acc.length ≤ i + 1 →
    ∃ r, f94_l1 t ty y k n z acc = some r ∧ (r = true → P (acc ++ (y.comps.drop i).map (·.name)) ∧ ∀ c ∈ y.comps.drop i, smallM t c.sub = true ∧ (c.has = true → hasM t c.sub c.default_ = true))
  | 0, i, z, acc, _, _, h, _ => by omega
  | n + 1, i, z, acc, hz, hi, hn, ha => by
    subst hz
    unfold f94_l1
    by_cases hil : i < y.comps.length
    · obtain ⟨r1, h1, h2⟩ := f106_any hy y.comps[i] (gy.comp _ (List.getElem_mem hil))
      rw [decide_eq_true (by omega), cond_true, idx_nat, List.getElem?_eq_getElem hil, obind, h1, obind]
      cases r1 with
      | false => exact ⟨false, rfl, by simp⟩
      | true =>
        obtain ⟨r, h3, h4⟩ := f94_l1_any hy gy hc k P hk n (i + 1) ((i : Int) + 1) (acc ++ [y.comps[i].name]) (by omega) (by omega) (by omega) (by simp; omega)
        rw [Bool.not_true, cond_false, obind, gB (appOk16 (by simp; omega)), w64 (by omega) (by omega)]
        refine ⟨r, h3, fun hr => ?_⟩
        obtain ⟨h5, h6⟩ := h4 hr
        rw [List.drop_eq_getElem_cons hil]
        refine ⟨by simpa only [List.append_assoc, List.singleton_append, List.map_cons] using h5, fun c hc' => ?_⟩
        rcases List.mem_cons.1 hc' with rfl | hc'
        · exact h2 rfl
        · exact h6 c hc'
    · rw [decide_eq_false (by omega), cond_false, List.drop_of_length_le (by omega)]
      obtain ⟨r, h1, h2⟩ := hk acc (by omega)
      exact ⟨r, h1, fun hr => ⟨by simpa using h2 hr, by simp⟩⟩
theorem f94_any {t : Table} (c : Cut t) {ty : Int} {y : Ty} (hy : idx t.types ty = some y) : ∃ r, f94 t ty = some r ∧ (r = true → RecOk t y) := by
  have gy := c.ty y (idx_mem hy)
  have hcl := c.comps y (idx_mem hy)
  unfold f94
  rw [hy, obind]
  simp only [letkE]
  have hk : ∀ l : List ByteArray, l.length ≤ 30 → ∃ r, (Option.bind (bif ((decide ((List.length l : Int) ≥ 1)) && (decide ((List.length y.comps : Int) ≤ 16))) then (Option.bind (f92 l) fun r122 => some r122) else some false) fun b121 => some (b121 && (y.has || (decide (y.default_ = 0))))) = some r ∧ (r = true → Diff l ∧ 1 ≤ l.length) := fun l hl => by
    obtain ⟨r, h1, h2⟩ := f92_any l (by omega)
    rw [h1, obind]
    by_cases h0 : 1 ≤ l.length
    · rw [decide_eq_true (show (l.length : Int) ≥ 1 by omega)]
      cases decide ((List.length y.comps : Int) ≤ 16) with
      | false => exact ⟨false, rfl, by simp⟩
      | true => exact ⟨_, rfl, fun h => ⟨h2 (by simp only [Bool.and_eq_true] at h; exact h.1), h0⟩⟩
    · rw [decide_eq_false (show ¬ (l.length : Int) ≥ 1 by omega)]
      exact ⟨false, rfl, by simp⟩
  have run : ∀ l : List ByteArray, l.length ≤ 1 → ∃ r, f94_l1 t ty y (fun l105 => Option.bind (bif ((decide ((List.length l105 : Int) ≥ 1)) && (decide ((List.length y.comps : Int) ≤ 16))) then (Option.bind (f92 l105) fun r122 => some r122) else some false) fun b121 => some (b121 && (y.has || (decide (y.default_ = 0))))) 9223372036854775808 0 l = some r ∧ (r = true → (Diff (l ++ y.comps.map (·.name)) ∧ 1 ≤ (l ++ y.comps.map (·.name)).length) ∧ ∀ c ∈ y.comps, smallM t c.sub = true ∧ (c.has = true → hasM t c.sub c.default_ = true)) := fun l hl => by
    have := f94_l1_any hy gy hcl _ (fun l => Diff l ∧ 1 ≤ l.length) hk 9223372036854775808 0 0 l rfl (by omega) (by omega) (by omega)
    simpa using this
  by_cases hd : y.disc = -1
  · rw [decide_eq_true hd, Bool.not_true, cond_false]
    cases ((!(y.discName.toList == (ByteArray.mk #[]).toList)) || y.has) with
    | true => rw [cond_true]; exact ⟨false, rfl, by simp⟩
    | false =>
      rw [cond_false]
      obtain ⟨r, h1, h2⟩ := run [] (by simp)
      exact ⟨r, h1, fun hr => ⟨fun h => absurd hd h, (h2 hr).2, by simpa [namesM, hd] using (h2 hr).1.1, by simpa [namesM, hd] using (h2 hr).1.2⟩⟩
  · rw [decide_eq_false hd, Bool.not_false, cond_true, f78_eq c.toGTab _ (by omega) (by omega), obind, f45_eq]
    by_cases hc : 0 < countM t y.disc 64
    · rw [decide_eq_true hc, Bool.not_true, cond_false]
      have fin : (y.has = true → hasM t y.disc y.default_ = true) → ∃ r, guardB (appOk 16 [] [y.discName]) (f94_l1 t ty y (fun l105 => Option.bind (bif ((decide ((List.length l105 : Int) ≥ 1)) && (decide ((List.length y.comps : Int) ≤ 16))) then (Option.bind (f92 l105) fun r122 => some r122) else some false) fun b121 => some (b121 && (y.has || (decide (y.default_ = 0))))) 9223372036854775808 0 ([] ++ [y.discName])) = some r ∧ (r = true → RecOk t y) := fun hh => by
        rw [gB (appOk16 (by simp)), List.nil_append]
        obtain ⟨r, h1, h2⟩ := run [y.discName] (by simp)
        exact ⟨r, h1, fun hr => ⟨fun _ => ⟨hc, hh⟩, (h2 hr).2, by simpa [namesM, hd] using (h2 hr).1.1, by simp [namesM, hd]⟩⟩
      cases hh : y.has with
      | false =>
        rw [hh] at fin
        rw [cond_false, obind, obind, cond_false]
        exact fin (by simp)
      | true =>
        rw [hh] at fin
        rw [cond_true, obind, obind, obind]
        cases hm : hasM t y.disc y.default_ with
        | false => exact ⟨false, rfl, by simp⟩
        | true =>
          rw [hm] at fin
          rw [Bool.not_true, cond_false]
          exact fin (by simp)
    · rw [decide_eq_false hc, Bool.not_false, cond_true, obind, cond_true]; exact ⟨false, rfl, by simp⟩

/-- A type other than 0. -/
structure TyOk (t : Table) (i : Int) (y : Ty) : Prop where
  kind : y.kind = 2 ∨ y.kind = 3 ∨ y.kind = 4 ∨ y.kind = 5 ∨ y.kind = 6 ∨ y.kind = 7
  arr : y.kind = 4 → 0 < countM t y.index 64 ∧ smallM t y.elem = true
  reco : y.kind = 5 → RecOk t y
  parent : y.parent = -1 ∨ ((y.kind = 2 ∨ y.kind = 3) ∧ 0 ≤ y.parent ∧ y.parent < i ∧ ∃ p, idx t.types y.parent = some p ∧ p.kind = y.kind)

theorem f91_any {t : Table} (c : Cut t) {ty : Int} {y : Ty} (hy : idx t.types ty = some y) : ∃ r, f91 t ty = some r ∧ (r = true → y.parent = -1 ∨ (0 ≤ y.parent ∧ y.parent < ty ∧ ∃ p, idx t.types y.parent = some p ∧ p.kind = y.kind)) := by
  unfold f91
  rw [hy, obind, f51_eq]
  by_cases h1 : y.parent = -1
  · rw [decide_eq_true h1, cond_true]; exact ⟨true, rfl, fun _ => .inl h1⟩
  · rw [decide_eq_false h1, cond_false]
    by_cases h2 : 0 ≤ y.parent ∧ y.parent < ty
    · have hl := idx_lt hy
      obtain ⟨p, hp, hpm⟩ := idx_some (l := t.types) h2.1 (by omega)
      obtain ⟨r, hr⟩ := f72_any p.lits y.lits (c.ty p hpm).lits
      rw [decide_eq_true h2.1, decide_eq_true h2.2, Bool.and_self, Bool.not_true, cond_false, hp, obind, hr, obind, bsome, obind]
      refine ⟨_, rfl, fun h => .inr ⟨h2.1, h2.2, p, rfl, ?_⟩⟩
      simp only [Bool.and_eq_true, decide_eq_true_eq] at h
      exact h.1.1.1
    · have e : (decide (0 ≤ y.parent) && decide (y.parent < ty)) = false := by
        cases hc : (decide (0 ≤ y.parent) && decide (y.parent < ty)) with
        | false => rfl
        | true => exact absurd (by simpa using hc) h2
      rw [e, Bool.not_false, cond_true]; exact ⟨false, rfl, by simp⟩

theorem only_parent {y : Ty} (h2 : y.kind ≠ 2) (h3 : y.kind ≠ 3) : (f74 y).parent = -1 := by
  unfold f74
  simp only [letkE]
  rw [decide_eq_false h2, decide_eq_false h3, cond_false, cond_false]
  cases decide (y.kind = 4) with
  | true => rfl
  | false =>
    cases decide (y.kind = 5) with
    | true => rfl
    | false =>
      cases decide (y.kind = 6) with
      | true => rfl
      | false => cases decide (y.kind = 7) <;> rfl

theorem f76_any {t : Table} (c : Cut t) {ty : Int} {y : Ty} (hy : idx t.types ty = some y) {b : Subt} (hb : idx t.subs y.first = some b) (hp : y.kind ≠ 2 → y.kind ≠ 3 → y.parent = -1) : ∃ r, f76 t ty = some r ∧ (r = true → TyOk t ty y) := by
  obtain ⟨r1, p1, p2⟩ := f91_any c hy
  unfold f76
  rw [hy, obind, hb, obind, p1]
  by_cases h2 : y.kind = 2
  · rw [decide_eq_true h2, cond_true, obind]
    refine ⟨_, rfl, fun h => ⟨.inl h2, fun h => by omega, fun h => by omega, ?_⟩⟩
    simp only [Bool.and_eq_true] at h
    rcases p2 h.1.1 with h | ⟨q1, q2, q3⟩
    · exact .inl h
    · exact .inr ⟨.inl h2, q1, q2, q3⟩
  rw [decide_eq_false h2, cond_false]
  by_cases h3 : y.kind = 3
  · rw [decide_eq_true h3, cond_true]
    have fin : r1 = true → TyOk t ty y := fun h => ⟨.inr (.inl h3), fun h => by omega, fun h => by omega, by
      rcases p2 h with h | ⟨q1, q2, q3⟩
      · exact .inl h
      · exact .inr ⟨.inr h3, q1, q2, q3⟩⟩
    cases decide (y.formal = 9) with
    | true =>
      rw [cond_true, obind]
      refine ⟨_, rfl, fun h => fin ?_⟩
      simp only [Bool.and_eq_true] at h
      exact h.1.1
    | false =>
      obtain ⟨r2, e1, e2⟩ := f92_any y.lits (c.ty y (idx_mem hy)).lits
      rw [cond_false, obind, e1, obind, bsome, obind]
      refine ⟨_, rfl, fun h => fin ?_⟩
      simp only [Bool.and_eq_true] at h
      exact h.1.1.1.1.1.1
  rw [decide_eq_false h3, cond_false]
  have hpar := hp h2 h3
  by_cases h4 : y.kind = 4
  · rw [decide_eq_true h4, cond_true, f78_eq c.toGTab _ (by omega) (by omega), obind, f93_eq, obind, bsome, obind]
    refine ⟨_, rfl, fun h => ⟨.inr (.inr (.inl h4)), fun _ => ?_, fun h => by omega, .inl hpar⟩⟩
    simp only [Bool.and_eq_true, decide_eq_true_eq] at h
    exact h
  rw [decide_eq_false h4, cond_false]
  by_cases h5 : y.kind = 5
  · obtain ⟨r2, e1, e2⟩ := f94_any c hy
    rw [decide_eq_true h5, cond_true, e1, obind]
    refine ⟨_, rfl, fun h => ⟨.inr (.inr (.inr (.inl h5))), fun h => by omega, fun _ => e2 ?_, .inl hpar⟩⟩
    simp only [Bool.and_eq_true] at h
    exact h.1
  rw [decide_eq_false h5, cond_false]
  by_cases h6 : y.kind = 6
  · rw [decide_eq_true h6, cond_true, f93_eq, obind, f56_eq, obind, bsome, obind]
    exact ⟨_, rfl, fun _ => ⟨.inr (.inr (.inr (.inr (.inl h6)))), fun h => by omega, fun h => by omega, .inl hpar⟩⟩
  rw [decide_eq_false h6, cond_false]
  by_cases h7 : y.kind = 7
  · rw [decide_eq_true h7, cond_true]
    exact ⟨_, rfl, fun _ => ⟨.inr (.inr (.inr (.inr (.inr h7)))), fun h => by omega, fun h => by omega, .inl hpar⟩⟩
  rw [decide_eq_false h7, cond_false]
  exact ⟨false, rfl, by simp⟩

theorem f55_any {t : Table} (c : Cut t) {ty : Int} {y : Ty} (hy : idx t.types ty = some y) : ∃ r, f55 t ty = some r ∧ (r = true → TyOk t ty y) := by
  unfold f55
  rw [hy, obind]
  simp only [letkE]
  obtain ⟨r1, s1, s2⟩ := f53_any y (f74 y) (c.ty y (idx_mem hy))
  obtain ⟨r2, s3⟩ := f75_any y.name
  cases decide (y.kind = 1) with
  | true => rw [cond_true, cond_true]; exact ⟨false, rfl, by simp⟩
  | false =>
    rw [cond_false, s1, obind]
    cases hr1 : r1 with
    | false => rw [Bool.not_false, cond_true, cond_true]; exact ⟨false, rfl, by simp⟩
    | true =>
      rw [Bool.not_true, cond_false, s3, obind]
      have hpar := s2 hr1
      cases r2 with
      | false => rw [Bool.not_false, cond_true, cond_true]; exact ⟨false, rfl, by simp⟩
      | true =>
        rw [Bool.not_true, cond_false]
        have rest : ∃ r, (bif ((decide (y.priv = (-1))) && ((!decide (y.full = 0)) || (y.limited && (!decide (y.kind = 7))))) then some false else Option.bind (bif (f51 y.first (List.length t.subs : Int)) then (Option.bind (idx t.subs y.first) fun x90 => some (decide (x90.t = ty))) else some false) fun b89 =>
            Option.bind (bif b89 then (Option.bind (f76 t ty) fun r92 => some r92) else some false) fun b91 => some b91) = some r ∧ (r = true → TyOk t ty y) := by
          cases ((decide (y.priv = (-1))) && ((!decide (y.full = 0)) || (y.limited && (!decide (y.kind = 7))))) with
          | true => rw [cond_true]; exact ⟨false, rfl, by simp⟩
          | false =>
            rw [cond_false, idx_is]
            cases hb : idx t.subs y.first with
            | none => exact ⟨false, rfl, by simp⟩
            | some b =>
              rw [Option.isSome_some, cond_true, obind, obind]
              obtain ⟨r3, e1, e2⟩ := f76_any c hy hb (fun h2 h3 => hpar.trans (only_parent h2 h3))
              rw [e1, obind]
              cases decide (b.t = ty) with
              | false => exact ⟨false, rfl, by simp⟩
              | true => exact ⟨r3, rfl, e2⟩
        cases decide (y.level < 0) with
        | true => rw [cond_true, cond_true]; exact ⟨false, rfl, by simp⟩
        | false =>
          rw [cond_false]
          cases decide (y.priv < (-1)) with
          | true => rw [cond_true, cond_true]; exact ⟨false, rfl, by simp⟩
          | false =>
            rw [cond_false]
            cases decide (y.full < 0) with
            | true => rw [cond_true]; exact ⟨false, rfl, by simp⟩
            | false => rw [cond_false]; exact rest

structure SubOk (t : Table) (b : Subt) : Prop where
  ty : ∃ y, idx t.types b.t = some y ∧ b.t ≠ 0 ∧ (y.kind = 5 → y.disc ≠ -1 → (b.lo = 0 ∧ b.hi = -1) ∨ (b.lo = b.hi ∧ hasM t y.disc b.lo = true)) ∧ ((y.kind = 2 ∨ y.kind = 3) → -2147483648 ≤ b.lo ∧ b.hi ≤ 2147483647)
theorem f54_any {t : Table} (c : Cut t) {s : Int} {b : Subt} (hb : idx t.subs s = some b) : ∃ r, f54 t s = some r ∧ (r = true → SubOk t b) := by
  unfold f54
  rw [hb, obind, idx_is]
  cases hy : idx t.types b.t with
  | none => exact ⟨false, rfl, by simp⟩
  | some y =>
    rw [Option.isSome_some, Bool.not_true, Bool.false_or]
    by_cases h0 : b.t = 0
    · rw [decide_eq_true h0, cond_true]; exact ⟨false, rfl, by simp⟩
    rw [decide_eq_false h0, cond_false, obind]
    simp only [letkE]
    have hlit := c.lits y (idx_mem hy)
    have ok : ¬ (y.kind = 5 ∧ y.disc ≠ -1) → ((y.kind = 2 ∨ y.kind = 3) → -2147483648 ≤ b.lo ∧ b.hi ≤ 2147483647) → SubOk t b := fun h g => ⟨y, hy, h0, fun h5 hd => absurd ⟨h5, hd⟩ h, g⟩
    by_cases h2 : y.kind = 2
    · rw [decide_eq_true h2, cond_true]
      refine ⟨_, rfl, fun h => ok (by omega) (fun _ => ?_)⟩
      simp only [Bool.and_eq_true, decide_eq_true_eq] at h
      omega
    rw [decide_eq_false h2, cond_false]
    by_cases h3 : y.kind = 3
    · rw [decide_eq_true h3, cond_true]
      cases decide (y.formal = 9) with
      | true =>
        refine ⟨_, rfl, fun h => ok (by omega) (fun _ => ?_)⟩
        simp only [Bool.and_eq_true, decide_eq_true_eq] at h
        omega
      | false =>
        refine ⟨_, rfl, fun h => ok (by omega) (fun _ => ?_)⟩
        simp only [Bool.and_eq_true, decide_eq_true_eq] at h
        omega
    rw [decide_eq_false h3, cond_false]
    by_cases h5 : y.kind = 5
    · rw [decide_eq_true h5, cond_true]
      by_cases hd : y.disc = -1
      · rw [decide_eq_true hd, Bool.not_true, cond_false]; exact ⟨_, rfl, fun _ => ok (by simp [hd]) (by omega)⟩
      · rw [decide_eq_false hd, Bool.not_false, cond_true, f45_eq, obind, bsome, obind, bsome_true, obind]
        refine ⟨_, rfl, fun h => ⟨y, hy, h0, fun _ _ => ?_, by omega⟩⟩
        simp only [Bool.or_eq_true, Bool.and_eq_true, decide_eq_true_eq] at h
        exact h
    · rw [decide_eq_false h5, cond_false]; exact ⟨_, rfl, fun _ => ok (by simp [h5]) (by omega)⟩

structure MayOk (t : Table) : Prop where
  sub : ∀ b ∈ t.subs, SubOk t b
  ty : ∀ (i : Nat) (y : Ty), 1 ≤ i → t.types[i]? = some y → TyOk t i y
  zero : ∀ y, t.types[0]? = some y → y.parent = -1

theorem f24_l2_any {t : Table} (c : Cut t) (k : Unit → Option Bool) (hk : ∃ r, k () = some r) : ∀ (n i : Nat) (z : Int), z = i → i ≤ t.types.length → t.types.length - i < n →
    ∃ r, f24_l2 t k n z = some r ∧ (r = true → ∀ (j : Nat) y, i ≤ j → t.types[j]? = some y → TyOk t j y)
  | 0, i, z, _, _, h => by omega
  | n + 1, i, z, hz, hi, hn => by
    subst hz
    have hb := c.tyn
    unfold f24_l2
    by_cases hil : i < t.types.length
    · have hy : idx t.types (i : Int) = some t.types[i] := by rw [idx_nat, List.getElem?_eq_getElem hil]
      obtain ⟨r1, h1, h2⟩ := f55_any c hy
      rw [decide_eq_true (by omega), cond_true, h1, obind, w64 (by omega) (by omega)]
      cases r1 with
      | false => exact ⟨false, rfl, by simp⟩
      | true =>
        obtain ⟨r, h3, h4⟩ := f24_l2_any c k hk n (i + 1) ((i : Int) + 1) (by omega) (by omega) (by omega)
        refine ⟨r, h3, fun hr j y hj hjy => ?_⟩
        by_cases hji : j = i
        · subst hji
          rw [List.getElem?_eq_getElem hil] at hjy
          simp only [Option.some.injEq] at hjy
          subst hjy
          exact h2 rfl
        · exact h4 hr j y (by omega) hjy
    · rw [decide_eq_false (by omega), cond_false]
      obtain ⟨r, h1⟩ := hk
      refine ⟨r, h1, fun _ j y hj hjy => ?_⟩
      have := (List.getElem?_eq_some_iff.1 hjy).1
      omega
theorem f24_l1_any {t : Table} (c : Cut t) (k : Unit → Option Bool) (P : Prop) (hk : ∃ r, k () = some r ∧ (r = true → P)) : ∀ (n i : Nat) (z : Int), z = i → i ≤ t.subs.length → t.subs.length - i < n →
    ∃ r, f24_l1 t k n z = some r ∧ (r = true → P ∧ ∀ b ∈ t.subs.drop i, SubOk t b)
  | 0, i, z, _, _, h => by omega
  | n + 1, i, z, hz, hi, hn => by
    subst hz
    have hb := c.subn
    unfold f24_l1
    by_cases hil : i < t.subs.length
    · have hy : idx t.subs (i : Int) = some t.subs[i] := by rw [idx_nat, List.getElem?_eq_getElem hil]
      obtain ⟨r1, h1, h2⟩ := f54_any c hy
      rw [decide_eq_true (by omega), cond_true, h1, obind, w64 (by omega) (by omega)]
      cases r1 with
      | false => exact ⟨false, rfl, by simp⟩
      | true =>
        obtain ⟨r, h3, h4⟩ := f24_l1_any c k P hk n (i + 1) ((i : Int) + 1) (by omega) (by omega) (by omega)
        refine ⟨r, h3, fun hr => ⟨(h4 hr).1, fun b hbm => ?_⟩⟩
        rw [List.drop_eq_getElem_cons hil] at hbm
        rcases List.mem_cons.1 hbm with rfl | hbm
        · exact h2 rfl
        · exact (h4 hr).2 b hbm
    · rw [decide_eq_false (by omega), cond_false, List.drop_of_length_le (by omega)]
      obtain ⟨r, h1, h2⟩ := hk
      exact ⟨r, h1, fun hr => ⟨h2 hr, by simp⟩⟩
theorem f24_any {t : Table} (c : Cut t) : ∃ r, f24 t = some r ∧ (r = true → MayOk t) := by
  have h1 := c.tyn
  have h2 := c.subn
  unfold f24
  simp only [letkE]
  by_cases h0 : t.types.length < 1
  · rw [decide_eq_true (show (t.types.length : Int) < 1 by omega), cond_true, cond_true]; exact ⟨false, rfl, by simp⟩
  rw [decide_eq_false (show ¬ (t.types.length : Int) < 1 by omega), decide_eq_false (show ¬ (t.types.length : Int) > 256 by omega), decide_eq_false (show ¬ (t.subs.length : Int) > 512 by omega), cond_false, cond_false, cond_false]
  obtain ⟨y, hy, hym⟩ := idx_some (l := t.types) (i := 0) (by omega) (by omega)
  obtain ⟨r1, s1, s2⟩ := f53_any y (f37 1) (c.ty y hym)
  rw [hy, obind, s1, obind]
  cases r1 with
  | false => rw [Bool.not_false, cond_true]; exact ⟨false, rfl, by simp⟩
  | true =>
    rw [Bool.not_true, cond_false]
    have q1 := f24_l2_any c (fun _ => some true) ⟨true, rfl⟩ 9223372036854775808 1 1 rfl (by omega) (by omega)
    obtain ⟨r, q2, q3⟩ := f24_l1_any c (fun _ => f24_l2 t (fun _ => some true) 9223372036854775808 1) _ q1 9223372036854775808 0 0 rfl (by omega) (by omega)
    refine ⟨r, q2, fun hr => ⟨fun b hb => (q3 hr).2 b (by simpa using hb), fun i y' hi hy' => (q3 hr).1 i y' hi hy', fun y' hy' => ?_⟩⟩
    have : idx t.types 0 = t.types[0]? := idx_nat t.types 0
    rw [this, hy'] at hy
    simp only [Option.some.injEq] at hy
    subst hy
    exact (s2 rfl).trans rfl
end Go.Proofs.YteafckpdbmncfaaDoor
namespace Go.Proofs.YteafckpdbmncfaaDoor
open Go Go.Sk

theorem subOk_row {t : Table} (m : MayOk t) {s : Int} {b : Subt} (hb : idx t.subs s = some b) : ∃ y, row t s = some (y, b) ∧ TyOk t b.t y ∧ (y.kind = 5 → y.disc ≠ -1 → (b.lo = 0 ∧ b.hi = -1) ∨ (b.lo = b.hi ∧ hasM t y.disc b.lo = true)) ∧ ((y.kind = 2 ∨ y.kind = 3) → -2147483648 ≤ b.lo ∧ b.hi ≤ 2147483647) := by
  obtain ⟨y, hy, h0, h1⟩ := (m.sub b (idx_mem hb)).ty
  refine ⟨y, by simp [row, hb, hy], ?_, h1⟩
  have hn := idx_nonneg hy
  have := m.ty b.t.toNat y (by omega) (idx_get hy)
  rwa [Int.toNat_of_nonneg hn] at this

theorem scal_kind (t : Table) (s : Int) : (rangeM t s).2.2 = true ↔ kindM t s = 2 ∨ kindM t s = 3 := by
  unfold rangeM kindM
  cases row t s with
  | none => simp
  | some p =>
    obtain ⟨y, b⟩ := p
    show (bif decide (y.kind = 2) || decide (y.kind = 3) then (b.lo, b.hi, true) else (0, 0, false)).2.2 = true ↔ y.kind = 2 ∨ y.kind = 3
    by_cases h2 : y.kind = 2
    · simp [h2]
    · by_cases h3 : y.kind = 3
      · simp [h3]
      · simp [h2, h3]

theorem count_small {t : Table} {s : Int} (h : 0 < countM t s 64) : smallM t s = true := by
  unfold countM at h
  simp only at h
  split at h
  · rename_i hq
    unfold smallM
    rw [hq.1, decide_eq_true hq.2.1]; rfl
  · omega

end Go.Proofs.YteafckpdbmncfaaDoor
namespace Go.Proofs.YteafckpdbmncfaaDoor
open Go Go.Sk

/-! ### TableDefault -/
def badM (t : Table) (x : Int) : Bool := (rangeM t x).2.2 && decide ((rangeM t x).1 > (rangeM t x).2.1)
end Go.Proofs.YteafckpdbmncfaaDoor
namespace Go.Proofs.YteafckpdbmncfaaDoor
open Go Go.Sk

theorem firstC_at {name : ByteArray} : ∀ {l : List CompRow} {i j : Nat} {c : CompRow}, l[j]? = some c → (c.name.toList == name.toList) = true → (∀ (q : Nat) x, q < j → l[q]? = some x → (x.name.toList == name.toList) = false) → firstC name l i = some (i + j, c)
  | [], i, j, c, h, _, _ => by simp at h
  | x :: l, i, j, c, h, hn, hd => by
    unfold firstC
    cases j with
    | zero =>
      simp only [List.getElem?_cons_zero, Option.some.injEq] at h
      subst h
      rw [hn]; rfl
    | succ j =>
      rw [hd 0 x (by omega) (by simp), cond_false, firstC_at (j := j) (by simpa using h) hn (fun q y hq hy => hd (q + 1) y (by omega) (by simpa using hy))]
      congr 2; omega

theorem namesM_get (y : Ty) (i : Nat) : (namesM y)[(if y.disc = -1 then 0 else 1) + i]? = (y.comps[i]?).map (·.name) := by
  unfold namesM
  split
  · simp
  · rw [Nat.add_comm]; simp
/-- A component is found by its name. -/
theorem find_comp {t : Table} {s : Int} {y : Ty} {b : Subt} (hr : row t s = some (y, b)) (h5 : y.kind = 5) (ro : RecOk t y) {i : Nat} {c : CompRow} (hc : y.comps[i]? = some c) : findM t s c.name = ((if y.disc = -1 then 0 else 1) + (i : Int), some c, true) := by
  have refl : ∀ s : ByteArray, (s.toList == s.toList) = true := fun s => by simp
  have hf : firstC c.name y.comps 0 = some (0 + i, c) := firstC_at hc (refl _) (fun q x hq hx => by
    have := ro.diff ((if y.disc = -1 then 0 else 1) + q) ((if y.disc = -1 then 0 else 1) + i) x.name c.name (by omega) (by rw [namesM_get, hx]; rfl) (by rw [namesM_get, hc]; rfl)
    exact this)
  unfold findM
  rw [hr]
  simp only
  rw [if_pos h5, hf, Nat.zero_add]
  by_cases hd : y.disc = -1
  · rw [if_neg (fun h => h.1 hd)]
  · rw [if_neg (fun h => by
      have := ro.diff 0 (1 + i) y.discName c.name (by omega) (by unfold namesM; rw [if_neg hd]; rfl) (by have := namesM_get y i; rw [if_neg hd] at this; rw [this, hc]; rfl)
      rw [this] at h
      exact absurd h.2 (by simp))]
theorem find_disc {t : Table} {s : Int} {y : Ty} {b : Subt} (hr : row t s = some (y, b)) (h5 : y.kind = 5) (hd : y.disc ≠ -1) : findM t s y.discName = (0, none, true) := by
  unfold findM
  rw [hr]
  simp only
  rw [if_pos h5, if_pos ⟨hd, by simp⟩]

theorem f8_l2_eq {t : Table} (c : Cut t) {s : Int} {y : Ty} {b : Subt} (hr : row t s = some (y, b)) (h4 : y.kind = 4) (m : Nat) (hm : countM t y.index 64 = m + 1) (hlo : -2147483648 ≤ (rangeM t y.index).1) (hhi : (rangeM t y.index).2.1 ≤ 2147483647)
    (hr2 : (rangeM t y.index).2.2 = true) (hdf : (rangeM t y.index).2.1 - (rangeM t y.index).1 = m) (hm64 : m < 64) (k : Int → Option Bool) : ∀ (n i : Nat) (z v : Int), z = i → v = (rangeM t y.index).1 + i → i ≤ m + 1 → m + 1 - i < n → f8_l2 t s y k (rangeM t y.index) n z v = k (m + 1 : Nat)
  | 0, i, z, v, _, _, _, h => by omega
  | n + 1, i, z, v, hz, hv, hi, hn => by
    subst hz; subst hv
    unfold f8_l2
    by_cases him : i ≤ m
    · have hsl : slotsM t s = List.replicate (m + 1) y.elem := by unfold slotsM; rw [hr]; simp only; rw [if_neg (by omega), if_pos h4, hm]; rfl
      have he : elemM t s ((rangeM t y.index).1 + i) = ((i : Int), true) := by
        unfold elemM
        rw [hr]
        simp only
        rw [if_pos ⟨h4, by omega, by unfold hasM; rw [hr2, decide_eq_true (by omega), decide_eq_true (by omega)]; rfl⟩, show (rangeM t y.index).1 + i - (rangeM t y.index).1 = (i : Int) by omega, w64 (by omega) (by omega)]
      have hs : slotM t s (i : Int) = (y.elem, true) := by
        unfold slotM
        rw [idx_nat, hsl, List.getElem?_replicate, if_pos (by omega)]
      rw [decide_eq_true (by omega), cond_true, f11_eq c, obind, he, f27_eq c, obind, hs, w64 (x := (i : Int) + 1) (by omega) (by omega), w64 (x := (rangeM t y.index).1 + i + 1) (by omega) (by omega),
        f8_l2_eq c hr h4 m hm hlo hhi hr2 hdf hm64 k n (i + 1) ((i : Int) + 1) ((rangeM t y.index).1 + i + 1) (by omega) (by omega) (by omega) (by omega)]
      simp
    · rw [decide_eq_false (by omega), cond_false]
      congr 1
      omega
theorem f8_l3_eq {t : Table} (c : Cut t) {s : Int} {y : Ty} {b : Subt} (hr : row t s = some (y, b)) (h5 : y.kind = 5) (ro : RecOk t y) (hcl : y.comps.length ≤ 20) (N : Int) (hN : N = (if y.disc = -1 then 0 else 1) + (y.comps.length : Int)) (k : Int → Option Bool) : ∀ (n i : Nat) (z : Int), z = i → i ≤ y.comps.length → y.comps.length - i < n → f8_l3 t s y k N n z = k N
  | 0, i, z, _, _, h => by omega
  | n + 1, i, z, hz, hi, hn => by
    subst hz
    have hfirst : (if y.disc = -1 then (0 : Int) else 1) = 0 ∨ (if y.disc = -1 then (0 : Int) else 1) = 1 := by split <;> simp
    unfold f8_l3
    by_cases hil : i < y.comps.length
    · have hci : y.comps[i]? = some y.comps[i] := List.getElem?_eq_getElem hil
      have hf := find_comp hr h5 ro hci
      have hsl : slotsM t s = (if y.disc = -1 then [] else [y.disc]) ++ y.comps.map (·.sub) := by
        unfold slotsM; rw [hr]; simp [h5]
      have hs : slotM t s ((if y.disc = -1 then 0 else 1) + (i : Int)) = ((y.comps[i]).sub, true) := by
        unfold slotM
        have : idx (slotsM t s) ((if y.disc = -1 then 0 else 1) + (i : Int)) = some (y.comps[i]).sub := by
          rw [hsl]
          split
          · rw [Int.zero_add, idx_nat, List.nil_append, List.getElem?_map, hci]; rfl
          · rw [show (1 : Int) + (i : Int) = ((i + 1 : Nat) : Int) by omega, idx_nat, List.singleton_append, List.getElem?_cons_succ, List.getElem?_map, hci]; rfl
        rw [this]
      have e1 : IntKind.i64.wrap (IntKind.i64.wrap (N - (y.comps.length : Int)) + (i : Int)) = (if y.disc = -1 then 0 else 1) + (i : Int) := by
        have h1 : N - (y.comps.length : Int) = (if y.disc = -1 then 0 else 1) := by omega
        rw [h1]
        rcases hfirst with h | h <;> rw [h]
        · rw [w64 (x := 0) (by omega) (by omega), w64 (by omega) (by omega)]
        · rw [w64 (x := 1) (by omega) (by omega), w64 (by omega) (by omega)]
      rw [decide_eq_true (by omega), cond_true, idx_nat, hci, obind, f13_eq c, obind, hf, f27_eq c, obind, hs, e1, w64 (x := (i : Int) + 1) (by omega) (by omega),
        f8_l3_eq c hr h5 ro hcl N hN k n (i + 1) ((i : Int) + 1) (by omega) (by omega) (by omega)]
      simp
    · rw [decide_eq_false (by omega), cond_false]

theorem f8_l1_eq {t : Table} (c : Cut t) (mk : MayOk t) (k : Unit → Option Bool) : ∀ (n i : Nat) (z : Int), z = i → i ≤ t.subs.length → t.subs.length - i < n → f8_l1 t k n z = k ()
  | 0, i, z, _, _, h => by omega
  | n + 1, i, z, hz, hi, hn => by
    subst hz
    have hb := c.subn
    unfold f8_l1
    by_cases hil : i < t.subs.length
    · have hbi : idx t.subs (i : Int) = some t.subs[i] := by rw [idx_nat, List.getElem?_eq_getElem hil]
      obtain ⟨y, hr, ty, _, _⟩ := subOk_row mk hbi
      have hy := (row_idx hr).2
      have hcl := c.comps y (idx_mem hy)
      rw [decide_eq_true (by omega), cond_true, w64 (by omega) (by omega), f8_l1_eq c mk k n (i + 1) ((i : Int) + 1) (by omega) (by omega) (by omega), letkE, hbi, obind, hy, obind, letkE]
      have fin : ∀ N : Int, N = ((slotsM t (i : Int)).length : Int) → (Option.bind (f27 t (i : Int) N) fun r254 => Option.bind (f29 t (i : Int)) fun r255 => (bif ((!decide (r255 = N)) || r254.2) then some false else k ())) = k () := fun N hN => by
        have hs : slotM t (i : Int) N = (0, false) := by
          unfold slotM
          rw [idx_none (.inr (by omega))]
        rw [f27_eq c, obind, hs, f29_eq c, obind, decide_eq_true hN.symm]
        rfl
      by_cases h4 : y.kind = 4
      · obtain ⟨a1, _⟩ := ty.arr h4
        have hcount := a1
        unfold countM at a1
        simp only at a1
        split at a1
        · rename_i hq
          obtain ⟨m, hm⟩ := Int.eq_ofNat_of_zero_le (show 0 ≤ (rangeM t y.index).2.1 - (rangeM t y.index).1 by have := hq.2.1; omega)
          have hcm : countM t y.index 64 = m + 1 := by unfold countM; simp only; rw [if_pos hq, hm]
          have hsl : (slotsM t (i : Int)).length = m + 1 := by unfold slotsM; rw [hr]; simp only; rw [if_neg (by omega), if_pos h4, hcm, List.length_replicate]; rfl
          have hrow : ∃ b' y', row t y.index = some (y', b') ∧ (y'.kind = 2 ∨ y'.kind = 3) ∧ (rangeM t y.index) = (b'.lo, b'.hi, true) := by
            have hk := (scal_kind t y.index).1 hq.1
            unfold kindM at hk
            cases hrr : row t y.index with
            | none => rw [hrr] at hk; simp at hk
            | some p =>
              obtain ⟨y', b'⟩ := p
              rw [hrr] at hk
              have hk : y'.kind = 2 ∨ y'.kind = 3 := hk
              refine ⟨b', y', rfl, hk, ?_⟩
              unfold rangeM
              rw [hrr]
              simp only
              rcases hk with h | h
              · simp [h]
              · simp [h]
          obtain ⟨b', y', hr', hk', hrg⟩ := hrow
          obtain ⟨q1, q2⟩ := row_idx hr'
          obtain ⟨y'', hr'', _, _, hbd⟩ := subOk_row mk q1
          rw [hr'] at hr''
          simp only [Option.some.injEq, Prod.mk.injEq, and_true] at hr''
          subst hr''
          obtain ⟨b1, b2⟩ := hbd hk'
          have hlo : -2147483648 ≤ (rangeM t y.index).1 := by rw [hrg]; exact b1
          have hhi : (rangeM t y.index).2.1 ≤ 2147483647 := by rw [hrg]; exact b2
          rw [decide_eq_true h4, cond_true, f25_eq, obind, f8_l2_eq c hr h4 m hcm hlo hhi hq.1 hm (by omega) _ 9223372036854775808 0 0 (rangeM t y.index).1 rfl (by omega) (by omega) (by omega)]
          exact fin _ (by rw [hsl])
        · omega
      rw [decide_eq_false h4, cond_false]
      by_cases h5 : y.kind = 5
      · have ro := ty.reco h5
        rw [decide_eq_true h5, cond_true, letkE]
        have hsl : ((slotsM t (i : Int)).length : Int) = (if y.disc = -1 then 0 else 1) + (y.comps.length : Int) := by
          have := slots5 hr h5
          rw [this]
          split <;> simp
        by_cases hd : y.disc = -1
        · rw [decide_eq_false (show ¬ y.disc ≥ 0 by omega), cond_false]
          show f8_l3 t (i : Int) y _ (y.comps.length : Int) _ 0 = k ()
          rw [f8_l3_eq c hr h5 ro hcl (y.comps.length : Int) (by rw [if_pos hd]; omega) _ (Int.toNat ((y.comps.length : Int) - 0) + 1) 0 0 rfl (by omega) (by omega)]
          exact fin _ (by rw [hsl, if_pos hd]; omega)
        · have hge : y.disc ≥ 0 := by
            have h1 := (ro.disc hd).1
            have h2 := count_small h1
            unfold smallM at h2
            by_cases hn : y.disc < 0
            · exfalso
              have : row t y.disc = none := by unfold row; rw [idx_none (.inl hn)]
              unfold rangeM kindM at h2
              rw [this] at h2
              simp at h2
            · omega
          have hf := find_disc hr h5 hd
          have hs : slotM t (i : Int) 0 = (y.disc, true) := by
            have h2 : slotsM t (i : Int) = [y.disc] ++ y.comps.map (·.sub) := by unfold slotsM; rw [hr]; simp [h5, hd]
            unfold slotM
            rw [h2]; rfl
          rw [decide_eq_true hge, cond_true, f13_eq c, obind, hf, f27_eq c, obind, hs, w64 (by omega) (by omega)]
          simp only [Bool.not_true, decide_true, Bool.or_self, cond_false]
          rw [f8_l3_eq c hr h5 ro hcl ((y.comps.length : Int) + 1) (by rw [if_neg hd]; omega) _ (Int.toNat ((y.comps.length : Int) - 0) + 1) 0 0 rfl (by omega) (by omega)]
          exact fin _ (by rw [hsl, if_neg hd]; omega)
      rw [decide_eq_false h5, cond_false]
      have hsl : (slotsM t (i : Int)).length = 1 := by
        have := ty.kind
        unfold slotsM
        rw [hr]
        simp only
        rw [if_pos (by omega)]
        rfl
      exact fin 1 (by rw [hsl]; rfl)
    · rw [decide_eq_false (by omega), cond_false]
/-- TableSlots -/
theorem law8 {t : Table} (g : GTab t) : f8 t = some true := by
  unfold f8
  have c := cut_good g
  rw [f10_eq, obind]
  generalize hu : cutM t = u at *
  have h1 := c.subn
  obtain ⟨r, m1, m2⟩ := f24_any c
  rw [m1, obind]
  cases r with
  | false => rw [Bool.not_false, cond_true, works, obind]
  | true =>
    rw [Bool.not_true, cond_false, letkE, f8_l1_eq c (m2 rfl) _ (Int.toNat ((u.subs.length : Int) - 0) + 1) 0 0 rfl (by omega) (by omega), works, obind]
end Go.Proofs.YteafckpdbmncfaaDoor
