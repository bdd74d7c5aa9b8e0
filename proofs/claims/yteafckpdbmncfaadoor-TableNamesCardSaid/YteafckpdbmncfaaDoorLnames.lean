/- Layer 6: the slots of a variable, by the program and by the reference. -/
import Derived.Test.YteafckpdbmncfaaDoorL
namespace Go.Proofs.YteafckpdbmncfaaDoor
open Go Go.Sk

theorem maxLen_ge : 1000 ≤ maxLen := by decide
theorem appOk_small {α : Type} {L L2 : List α} (h : L.length + L2.length ≤ 1000) : appOk 8 L L2 = true := by
  have := maxLen_ge
  simp only [appOk, Bool.and_eq_true, decide_eq_true_eq]; omega
def slotsM (t : Table) (s : Int) : List Int := match row t s with
  | none => []
  | some (y, _) =>
    if y.kind = 2 ∨ y.kind = 3 ∨ y.kind = 6 ∨ y.kind = 7 then [s]
    else if y.kind = 4 then List.replicate (countM t y.index 64).toNat y.elem
    else if y.kind = 5 then (if y.disc = -1 then [] else [y.disc]) ++ y.comps.map (·.sub)
    else []

theorem f59_l1_eq (k : List Int → Option (List Int)) (y : Ty) (r : Int × Int × Bool) (m : Nat) (hm : m < 64) (hr : IntKind.u64.wrap (IntKind.u64.wrap r.2.1 - IntKind.u64.wrap r.1) = m) : ∀ (n i : Nat) (acc : List Int) (z : Int), z = i → i ≤ m + 1 → m + 1 - i < n → acc.length = i →
    f59_l1 k y r n z acc = k (acc ++ List.replicate (m + 1 - i) y.elem)
  | 0, i, acc, z, _, _, h, _ => by omega
  | n + 1, i, acc, z, hz, hi, hn, ha => by
    subst hz
    unfold f59_l1
    rw [hr]
    by_cases him : i ≤ m
    · rw [decide_eq_true (by omega), cond_true, gB (appOk_small (by simp; omega)), wu64 (by omega) (by omega)]
      have := f59_l1_eq k y r m hm hr n (i + 1) (acc ++ [y.elem]) ((i : Int) + 1) (by omega) (by omega) (by omega) (by simp; omega)
      rw [this, show m + 1 - i = (m + 1 - (i + 1)) + 1 by omega, List.replicate_succ]
      simp
    · rw [decide_eq_false (by omega), cond_false, show m + 1 - i = 0 by omega]
      simp
theorem f59_l2_eq (k : List Int → Option (List Int)) (y : Ty) (hl : y.comps.length ≤ 100) : ∀ (n i : Nat) (acc : List Int) (z : Int), z = i → i ≤ y.comps.length → y.comps.length - i < n → acc.length ≤ i + 10 →
    f59_l2 k y n z acc = k (acc ++ (y.comps.drop i).map (·.sub))
  | 0, i, acc, z, _, _, h, _ => by omega
  | n + 1, i, acc, z, hz, hi, hn, ha => by
    subst hz
    unfold f59_l2
    by_cases hil : i < y.comps.length
    · rw [decide_eq_true (by omega), cond_true, idx_nat, List.getElem?_eq_getElem hil, obind, gB (appOk_small (by simp; omega)), w64 (by omega) (by omega)]
      have := f59_l2_eq k y hl n (i + 1) (acc ++ [y.comps[i].sub]) ((i : Int) + 1) (by omega) (by omega) (by omega) (by simp; omega)
      rw [this, List.drop_eq_getElem_cons hil]
      simp only [List.map_cons, List.append_assoc, List.cons_append, List.nil_append]
    · rw [decide_eq_false (by omega), cond_false, List.drop_of_length_le (by omega)]
      simp

theorem f59_eq {t : Table} (c : Cut t) (s : Int) : f59 t s = some (slotsM t s) := by
  unfold f59 slotsM
  rw [f44_eq, obind]
  unfold kindM
  cases h : row t s with
  | none => simp [letk]
  | some p =>
    obtain ⟨y, b⟩ := p
    obtain ⟨hi1, hi2⟩ := row_idx h
    have hcl : y.comps.length ≤ 20 := c.comps _ (idx_mem hi2)
    simp only [hi1, obind, hi2, letk]
    by_cases h2 : y.kind = 2
    · simp [h2]
    by_cases h3 : y.kind = 3
    · simp [h3]
    by_cases h6 : y.kind = 6
    · simp [h6]
    by_cases h7 : y.kind = 7
    · simp [h7]
    rw [decide_eq_false h2, decide_eq_false h3, decide_eq_false h6, decide_eq_false h7, if_neg (by omega)]
    simp only [cond_false, Bool.or_self]
    by_cases h4 : y.kind = 4
    · rw [decide_eq_true h4, cond_true, if_pos h4, f78_eq c.toGTab _ (by omega) (by omega), obind, f26_eq, obind]
      by_cases hc : 0 < countM t y.index 64
      · rw [decide_eq_true hc, Bool.not_true, cond_false]
        obtain ⟨g1, g2⟩ := range_good c.toGTab y.index
        unfold countM at hc
        simp only at hc
        split at hc
        · rename_i hq
          have hw := wsub g1 g2 hq.2.1
          obtain ⟨m, hm⟩ := Int.eq_ofNat_of_zero_le (show 0 ≤ (rangeM t y.index).2.1 - (rangeM t y.index).1 by omega)
          rw [hm] at hw
          have hcm : countM t y.index 64 = m + 1 := by unfold countM; simp only; rw [if_pos hq, hm]
          rw [f59_l1_eq _ y (rangeM t y.index) m (by omega) hw 9223372036854775808 0 [] 0 rfl (by omega) (by omega) rfl, hcm, decide_eq_false (show ¬ y.kind = 5 by omega), cond_false, List.nil_append]
          congr 2
        · omega
      · have : countM t y.index 64 = 0 := by have := (countM_bd t y.index 64).1; omega
        rw [this, decide_eq_false (by omega)]
        simp
    · rw [decide_eq_false h4, cond_false, if_neg h4]
      by_cases h5 : y.kind = 5
      · rw [decide_eq_true h5, cond_true, if_pos h5]
        by_cases hd : y.disc = -1
        · rw [decide_eq_true hd, Bool.not_true, cond_false, if_pos hd, f59_l2_eq _ y (by omega) 9223372036854775808 0 [] 0 rfl (by omega) (by omega) (by simp)]
          simp
        · rw [decide_eq_false hd, Bool.not_false, cond_true, if_neg hd, gB (appOk_small (by simp)), f59_l2_eq _ y (by omega) 9223372036854775808 0 ([] ++ [y.disc]) 0 rfl (by omega) (by omega) (by simp)]
          simp
      · rw [decide_eq_false h5, cond_false, if_neg h5]
end Go.Proofs.YteafckpdbmncfaaDoor
namespace Go.Proofs.YteafckpdbmncfaaDoor
open Go Go.Sk

theorem f30_eq {t : Table} (c : Cut t) (s : Int) : f30 t s = some ((slotsM t s).length : Int) := by rw [f30, f59_eq c, obind]

def slotM (t : Table) (s i : Int) : Int × Bool := match idx (slotsM t s) i with | some x => (x, true) | none => (0, false)
def canM (t : Table) (s v : Int) : Bool := if kindM t s = 2 ∨ kindM t s = 3 then hasM t s v else if kindM t s = 6 then decide (0 ≤ v) && decide (v ≤ 2048) else decide (kindM t s = 7)
def fixM (t : Table) (s : Int) : Bool := match row t s with
  | some (y, b) => decide (y.kind = 5) && decide (y.disc ≠ -1) && decide (b.lo = b.hi)
  | none => false
def loM (t : Table) (s : Int) : Int := match row t s with | some (_, b) => b.lo | none => 0
def fitsM (t : Table) (s : Int) (v : List Int) : Bool :=
  decide ((slotsM t s).length ≠ 0) && decide ((slotsM t s).length = v.length) && ((slotsM t s).zip v).all (fun p => canM t p.1 p.2) && (!fixM t s || decide (v.head? = some (loM t s)))

/-- The value that a slot has by itself. -/
def oneM (t : Table) (s : Int) : Option Int :=
  let r := rangeM t s
  if r.2.2 = true then (if r.1 > r.2.1 then none else if r.1 > 0 ∨ r.2.1 < 0 then some r.1 else some 0)
  else if kindM t s = 6 ∨ kindM t s = 7 then some 0 else none

def setC : List CompRow → Nat → List Int → List Int
  | [], _, v => v
  | c :: cs, j, v => setC cs (j + 1) (if c.has then v.set j c.default_ else v)
def defaultM (t : Table) (s : Int) : List Int := match (slotsM t s).mapM (oneM t) with
  | none => []
  | some v => match row t s with
    | none => v
    | some (y, b) =>
      if y.kind = 5 then
        if y.disc = -1 then setC y.comps 0 v
        else setC y.comps 1 (if b.lo = b.hi then v.set 0 b.lo else if y.has then v.set 0 y.default_ else v)
      else v
end Go.Proofs.YteafckpdbmncfaaDoor
namespace Go.Proofs.YteafckpdbmncfaaDoor
open Go Go.Sk

end Go.Proofs.YteafckpdbmncfaaDoor
namespace Go.Proofs.YteafckpdbmncfaaDoor
open Go Go.Sk
set_option maxRecDepth 100000
theorem works : f17 = some true := by kernel_rfl
set_option maxRecDepth 512

theorem sliceF_min {α : Type} (L : List α) (c : Nat) : sliceF L 0 (if (c : Int) < (L.length : Int) then (c : Int) else (L.length : Int)) = L.take c := by
  unfold sliceF
  split
  · simp
  · rename_i h
    simp
    rw [List.take_of_length_le (by omega)]
theorem sliceOk_min {α : Type} (L : List α) (c : Nat) : sliceOk L 0 (if (c : Int) < (L.length : Int) then (c : Int) else (L.length : Int)) = true := by
  unfold sliceOk
  simp only [Bool.and_eq_true, decide_eq_true_eq]
  split <;> omega

def cutTy (y : Ty) : Ty := Ty.mk y.kind y.name y.parent y.first (y.lits.take 70) y.index y.elem y.disc y.discName y.has y.default_ (y.comps.take 20) y.target y.formal y.limited y.priv y.full y.level
def cutM (t : Table) : Table := ⟨(t.types.take 40).map cutTy, t.subs.take 60, ⟨none, 0, 0⟩, ⟨none, 0, 0⟩, ⟨none, 0, 0⟩⟩

theorem f10_l1_eq (t : Table) (k : List Ty → Option Table) (L : List Ty) (hL : L = [] ++ sliceF t.types 0 (if 40 < (t.types.length : Int) then 40 else (t.types.length : Int))) (hb : L.length ≤ 40) : ∀ (n i : Nat) (z : Int), z = i → i ≤ L.length → L.length - i < n →
    f10_l1 t k n z ((L.take i).map cutTy ++ L.drop i) = k (L.map cutTy)
  | 0, i, z, _, _, h => by omega
  | n + 1, i, z, hz, hi, hn => by
    subst hz
    unfold f10_l1
    rw [← hL]
    by_cases hil : i < L.length
    · have hlen : ((L.take i).map cutTy).length = i := by rw [List.length_map, List.length_take]; omega
      have hd : L.drop i = L[i] :: L.drop (i + 1) := List.drop_eq_getElem_cons hil
      have hget : ∀ (y : Ty) (R : List Ty), idx ((L.take i).map cutTy ++ y :: R) (i : Int) = some y := fun y R => by
        rw [idx_nat, List.getElem?_append_right (by omega), hlen, Nat.sub_self]; rfl
      have hset : ∀ (y y' : Ty) (R : List Ty), ((L.take i).map cutTy ++ y :: R).set (Int.toNat (i : Int)) y' = (L.take i).map cutTy ++ y' :: R := fun y y' R => by
        rw [Int.toNat_natCast, List.set_append_right _ _ (by omega), hlen, Nat.sub_self, List.set_cons_zero]
      rw [decide_eq_true (by omega), cond_true, hd, hget, obind, obind]
      have e1 := sliceOk_min (L[i]).lits 70
      have e2 := sliceF_min (L[i]).lits 70
      have e3 := sliceOk_min (L[i]).comps 20
      have e4 := sliceF_min (L[i]).comps 20
      simp only [Int.cast_ofNat_Int] at e1 e2 e3 e4
      rw [gB e1, e2, obind, hset, hget, obind, obind, gB e3, e4, obind, hset, w64 (by omega) (by omega)]
      have := f10_l1_eq t k L hL hb n (i + 1) ((i : Int) + 1) (by omega) (by omega) (by omega)
      rw [← this, List.take_succ_eq_append_getElem hil, List.map_append, List.append_assoc]
      rfl
    · rw [decide_eq_false (by omega), cond_false, List.drop_of_length_le (by omega), List.take_of_length_le (by omega), List.append_nil]

theorem f10_eq (t : Table) : f10 t = some (cutM t) := by
  unfold f10
  have e1 := sliceOk_min t.types 40
  have e2 := sliceF_min t.types 40
  have e3 := sliceOk_min t.subs 60
  have e4 := sliceF_min t.subs 60
  simp only [Int.cast_ofNat_Int] at e1 e2 e3 e4
  have hl : (t.types.take 40).length ≤ 40 := by rw [List.length_take]; omega
  have e5 : appOk 184 ([] : List Ty) (t.types.take 40) = true := by
    have := maxLen_ge
    simp only [appOk, Bool.and_eq_true, decide_eq_true_eq, List.length_nil]; omega
  rw [gB e1, e2, gB e5, gB e3, e4]
  simp only [letkE]
  have := f10_l1_eq t (fun l75 => some (Table.mk l75 (t.subs.take 60) (SlV.mk none 0 0) (SlV.mk none 0 0) (SlV.mk none 0 0))) ([] ++ t.types.take 40) (by rw [e2]) (by simpa using hl) (Int.toNat ((([] ++ t.types.take 40 : List Ty).length : Int) - 0) + 1) 0 0 rfl (by omega) (by omega)
  simp only [List.take_zero, List.map_nil, List.nil_append, List.drop_zero] at this ⊢
  exact this

theorem cut_good {t : Table} (g : GTab t) : Cut (cutM t) := by
  refine ⟨⟨?_, ?_, ?_, ?_⟩, ?_, ?_, ?_, ?_⟩
  · intro y hy
    obtain ⟨x, hx, rfl⟩ := List.mem_map.1 hy
    have h := g.ty x (List.mem_of_mem_take hx)
    exact ⟨h.kind, by simp [cutTy]; have := h.lits; omega, by simp [cutTy]; have := h.comps; omega, fun c hc => h.comp c (List.mem_of_mem_take hc), h.parent, h.first, h.index, h.elem, h.disc, h.def_, h.target⟩
  · exact fun s hs => g.sub s (List.mem_of_mem_take hs)
  · simp [cutM]; omega
  · simp [cutM]; omega
  · simp [cutM]; omega
  · simp [cutM]; omega
  · intro y hy
    obtain ⟨x, hx, rfl⟩ := List.mem_map.1 hy
    simp [cutTy]; omega
  · intro y hy
    obtain ⟨x, hx, rfl⟩ := List.mem_map.1 hy
    simp [cutTy]; omega

end Go.Proofs.YteafckpdbmncfaaDoor
namespace Go.Proofs.YteafckpdbmncfaaDoor
open Go Go.Sk

def elemM (t : Table) (s ix : Int) : Int × Bool := match row t s with
  | some (y, _) => if y.kind = 4 ∧ countM t y.index 64 ≠ 0 ∧ hasM t y.index ix = true then (IntKind.i64.wrap (ix - (rangeM t y.index).1), true) else (0, false)
  | none => (0, false)

theorem f11_eq {t : Table} (c : Cut t) (s ix : Int) : f11 t s ix = some (elemM t s ix) := by
  unfold f11 elemM
  cases hr : row t s with
  | none => obtain ⟨b, e⟩ := f40_none hr; simp [e]
  | some p =>
    obtain ⟨y, b⟩ := p
    rw [f40_row hr, obind]
    simp only
    by_cases h4 : y.kind = 4
    · rw [decide_eq_true h4, Bool.not_true, cond_false, f41_eq c.toGTab _ (by omega) (by omega)]
      simp only [obind]
      by_cases hc : countM t y.index 64 = 0
      · simp [hc]
      · simp only [decide_eq_false hc, cond_false, f42_eq, obind, f43_eq]
        cases hh : hasM t y.index ix with
        | false => simp
        | true => simp [h4, hc]
    · simp [h4]

theorem f12_eq {t : Table} (c : Cut t) (s ix : Int) : f12 t s ix = some (elemM t s ix) := by
  unfold f12 elemM
  rw [f44_eq, obind]
  unfold kindM
  cases hr : row t s with
  | none => simp
  | some p =>
    obtain ⟨y, b⟩ := p
    obtain ⟨h1, h2⟩ := row_idx hr
    simp only
    by_cases h4 : y.kind = 4
    · have hs : slotsM t s = List.replicate (countM t y.index 64).toNat y.elem := by unfold slotsM; rw [hr]; simp [h4]
      have hc0 := (countM_bd t y.index 64).1
      rw [decide_eq_true h4, Bool.not_true, cond_false, f30_eq c, hs, List.length_replicate]
      simp only [obind]
      by_cases hc : countM t y.index 64 = 0
      · rw [decide_eq_true (by omega)]; simp [hc]
      · rw [decide_eq_false (by omega)]
        simp only [cond_false, h1, h2, obind, f45_eq, f26_eq]
        cases hh : hasM t y.index ix with
        | false => simp
        | true => simp [h4, hc]
    · simp [h4]

/-! ### Components -/
def firstC (name : ByteArray) : List CompRow → Nat → Option (Nat × CompRow)
  | [], _ => none
  | c :: cs, i => bif c.name.toList == name.toList then some (i, c) else firstC name cs (i + 1)
theorem firstC_bd {name : ByteArray} : ∀ {l : List CompRow} {i j : Nat} {c : CompRow}, firstC name l i = some (j, c) → i ≤ j ∧ j < i + l.length ∧ l[j - i]? = some c ∧ (c.name.toList == name.toList) = true
  | x :: l, i, j, c, h => by
    unfold firstC at h
    cases hb : (x.name.toList == name.toList) with
    | true =>
      rw [hb] at h
      simp only [cond_true, Option.some.injEq, Prod.mk.injEq] at h
      obtain ⟨rfl, rfl⟩ := h
      exact ⟨Nat.le_refl _, by simp, by simp, hb⟩
    | false =>
      rw [hb] at h
      obtain ⟨h1, h2, h3, h4⟩ := firstC_bd (by simpa using h)
      refine ⟨by omega, by simp; omega, ?_, h4⟩
      rw [show j - i = (j - (i + 1)) + 1 by omega]
      simpa using h3

theorem f69_l1_eq (name : ByteArray) (l : List CompRow) (hb : l.length ≤ 100) (k : Unit → Option Int) : ∀ (n i : Nat) (z : Int), z = i → i ≤ l.length → l.length - i < n →
    f69_l1 l (fun z0 => some (f70 z0 name)) k n z = match firstC name (l.drop i) i with | some (j, _) => some (j : Int) | none => k ()
  | 0, i, z, _, _, h => by omega
  | n + 1, i, z, hz, hi, hn => by
    subst hz
    unfold f69_l1
    by_cases hil : i < l.length
    · rw [decide_eq_true (by omega), cond_true, idx_nat, List.getElem?_eq_getElem hil, obind, obind, List.drop_eq_getElem_cons hil, firstC, w64 (by omega) (by omega)]
      unfold f70
      cases (l[i].name.toList == name.toList) with
      | true => rfl
      | false => exact f69_l1_eq name l hb k n (i + 1) ((i : Int) + 1) (by omega) (by omega) (by omega)
    · rw [decide_eq_false (by omega), cond_false, List.drop_of_length_le (by omega)]; rfl
theorem f69_eq (name : ByteArray) (l : List CompRow) (hb : l.length ≤ 100) : f69 l (fun z0 => some (f70 z0 name)) = some (match firstC name l 0 with | some (j, _) => (j : Int) | none => -1) := by
  unfold f69
  simp only [letkE]
  rw [f69_l1_eq name l hb _ (Int.toNat ((l.length : Int) - 0) + 1) 0 0 rfl (by omega) (by omega), List.drop_zero]
  cases firstC name l 0 <;> rfl

/-- The slot of a component, and the component; none: it is the discriminant. -/
def findM (t : Table) (s : Int) (name : ByteArray) : Int × Option CompRow × Bool := match row t s with
  | none => (0, none, false)
  | some (y, _) => if y.kind = 5 then
      if y.disc ≠ -1 ∧ (y.discName.toList == name.toList) = true then (0, none, true)
      else match firstC name y.comps 0 with
        | none => (0, none, false)
        | some (i, c) => ((if y.disc = -1 then 0 else 1) + (i : Int), some c, true)
    else (0, none, false)

theorem f46_eq {t : Table} (c : Cut t) (s : Int) (name : ByteArray) : f46 ⟨t⟩ s name = some (findM t s name) := by
  unfold f46 findM
  cases hr : row t s with
  | none => obtain ⟨b, e⟩ := f40_none hr; simp [e]
  | some p =>
    obtain ⟨y, b⟩ := p
    have hcl : y.comps.length ≤ 20 := c.comps _ (idx_mem (row_idx hr).2)
    rw [f40_row hr, obind]
    simp only [letkE]
    have hk : ∀ first : Int, (first = 0 ∨ first = 1) → (Option.bind (f69 y.comps (fun z0 => some (f70 z0 name))) fun r50 =>
        (bif (decide (r50 < 0)) then some (0, none, false) else Option.bind (idx y.comps r50) fun x51 => some ((IntKind.i64.wrap (first + r50)), (some x51), true))) =
        some (match firstC name y.comps 0 with | none => (0, none, false) | some (i, c) => (first + (i : Int), some c, true)) := fun first hf => by
      rw [f69_eq name y.comps (by omega), obind]
      cases hc : firstC name y.comps 0 with
      | none => simp
      | some q =>
        obtain ⟨i, c'⟩ := q
        obtain ⟨h1, h2, h3, _⟩ := firstC_bd hc
        simp only
        rw [decide_eq_false (by omega), cond_false, idx_nat, show y.comps[i]? = some c' from by simpa using h3, obind, w64 (by omega) (by omega)]
    by_cases h5 : y.kind = 5
    · rw [decide_eq_true h5, Bool.not_true, cond_false, if_pos h5]
      by_cases hd : y.disc = -1
      · rw [decide_eq_true hd, Bool.not_true, cond_false, if_neg (by simp [hd]), hk 0 (.inl rfl), if_pos hd]
      · rw [decide_eq_false hd, Bool.not_false, cond_true, if_neg hd]
        cases hn : (y.discName.toList == name.toList) with
        | true => rw [cond_true, if_pos ⟨hd, rfl⟩]
        | false => rw [cond_false, if_neg (by simp), hk 1 (.inr rfl)]
    · rw [decide_eq_false h5, Bool.not_false, cond_true, if_neg h5]
theorem f13_eq {t : Table} (c : Cut t) (s : Int) (name : ByteArray) : f13 t s name = some ((findM t s name).1, (findM t s name).2.2) := by
  rw [f13, f46_eq c, obind]

theorem f14_l1_eq (name : ByteArray) (y : Ty) (hb : y.comps.length ≤ 100) (first : Int) (hf : first = 0 ∨ first = 1) (k : Unit → Option (Int × Bool)) : ∀ (n i : Nat) (z : Int), z = i → i ≤ y.comps.length → y.comps.length - i < n →
    f14_l1 name y first k n z = match firstC name (y.comps.drop i) i with | some (j, _) => some (first + (j : Int), true) | none => k ()
  | 0, i, z, _, _, h => by omega
  | n + 1, i, z, hz, hi, hn => by
    subst hz
    unfold f14_l1
    by_cases hil : i < y.comps.length
    · rw [decide_eq_true (by omega), cond_true, idx_nat, List.getElem?_eq_getElem hil, obind, List.drop_eq_getElem_cons hil, firstC, w64 (x := (i : Int) + 1) (by omega) (by omega), w64 (x := first + (i : Int)) (by omega) (by omega)]
      cases (y.comps[i].name.toList == name.toList) with
      | true => rfl
      | false => exact f14_l1_eq name y hb first hf k n (i + 1) ((i : Int) + 1) (by omega) (by omega) (by omega)
    · rw [decide_eq_false (by omega), cond_false, List.drop_of_length_le (by omega)]; rfl
theorem f14_eq {t : Table} (c : Cut t) (s : Int) (name : ByteArray) : f14 t s name = some ((findM t s name).1, (findM t s name).2.2) := by
  unfold f14 findM
  rw [f44_eq, obind]
  unfold kindM
  cases hr : row t s with
  | none => simp
  | some p =>
    obtain ⟨y, b⟩ := p
    obtain ⟨h1, h2⟩ := row_idx hr
    have hcl : y.comps.length ≤ 20 := c.comps _ (idx_mem h2)
    simp only [letkE]
    have hk : ∀ first : Int, (first = 0 ∨ first = 1) → f14_l1 name y first (fun _ => some (0, false)) 9223372036854775808 0 = some (match firstC name y.comps 0 with | none => (0, false) | some (i, _) => (first + (i : Int), true)) := fun first hf => by
      rw [f14_l1_eq name y (by omega) first hf _ 9223372036854775808 0 0 rfl (by omega) (by omega), List.drop_zero]
      cases firstC name y.comps 0 <;> rfl
    by_cases h5 : y.kind = 5
    · rw [decide_eq_true h5, Bool.not_true, cond_false, if_pos h5, h1, obind, h2, obind]
      by_cases hd : y.disc = -1
      · rw [decide_eq_true hd, Bool.not_true, cond_false, if_neg (by simp [hd]), hk 0 (.inl rfl), if_pos hd]
        cases firstC name y.comps 0 <;> rfl
      · rw [decide_eq_false hd, Bool.not_false, cond_true, if_neg hd]
        cases hn : (y.discName.toList == name.toList) with
        | true => rw [cond_true, if_pos ⟨hd, rfl⟩]
        | false =>
          rw [cond_false, if_neg (by simp), hk 1 (.inr rfl)]
          cases firstC name y.comps 0 <;> rfl
    · rw [decide_eq_false h5, Bool.not_false, cond_true, if_neg h5]

theorem f71_l1_eq (v : Int) (l : List Int) (hl : l.length ≤ 9223372036854775807) (k : Unit → Option Int) : ∀ (n i : Nat) (z : Int), z = i → i ≤ l.length → l.length - i < n →
    (v ∈ l.drop i → ∃ j : Nat, f71_l1 l v k n z = some (j : Int)) ∧ (v ∉ l.drop i → f71_l1 l v k n z = k ())
  | 0, i, z, _, _, h => by omega
  | n + 1, i, z, hz, hi, hn => by
    subst hz
    unfold f71_l1
    by_cases hil : i < l.length
    · rw [decide_eq_true (by omega), cond_true, idx_nat, List.getElem?_eq_getElem hil, obind, List.drop_eq_getElem_cons hil]
      by_cases hv : v = l[i]
      · rw [decide_eq_true hv, cond_true]
        exact ⟨fun _ => ⟨i, rfl⟩, fun h => absurd (by rw [hv]; exact List.mem_cons_self) h⟩
      · rw [decide_eq_false hv, cond_false, w64 (by omega) (by omega)]
        obtain ⟨h1, h2⟩ := f71_l1_eq v l hl k n (i + 1) ((i : Int) + 1) (by omega) (by omega) (by omega)
        refine ⟨fun h => h1 ?_, fun h => h2 ?_⟩
        · rcases List.mem_cons.1 h with h | h
          · exact absurd h hv
          · exact h
        · exact fun h' => h (List.mem_cons_of_mem _ h')
    · rw [decide_eq_false (by omega), cond_false, List.drop_of_length_le (by omega)]
      simp
theorem f47_eq (v : Int) (l : List Int) (hl : l.length ≤ 9223372036854775807) : f47 l v = some (decide (v ∈ l)) := by
  unfold f47 f71
  simp only [letkE]
  obtain ⟨h1, h2⟩ := f71_l1_eq v l hl (fun _ => some (-1)) (Int.toNat ((l.length : Int) - 0) + 1) 0 0 rfl (by omega) (by omega)
  rw [List.drop_zero] at h1 h2
  by_cases h : v ∈ l
  · obtain ⟨j, hj⟩ := h1 h
    rw [hj, obind]; simp [h]
  · rw [h2 h, obind]; simp [h]
theorem f48_l1_eq (v : Int) (l : List Int) (hl : l.length ≤ 9223372036854775807) (k : Unit → Option Bool) : ∀ (n i : Nat) (z : Int), z = i → i ≤ l.length → l.length - i < n →
    f48_l1 l v k n z = if v ∈ l.drop i then some true else k ()
  | 0, i, z, _, _, h => by omega
  | n + 1, i, z, hz, hi, hn => by
    subst hz
    unfold f48_l1
    by_cases hil : i < l.length
    · rw [decide_eq_true (by omega), cond_true, idx_nat, List.getElem?_eq_getElem hil, obind, List.drop_eq_getElem_cons hil]
      by_cases hv : l[i] = v
      · rw [decide_eq_true hv, cond_true, if_pos (by simp [hv])]
      · rw [decide_eq_false hv, cond_false, w64 (by omega) (by omega), f48_l1_eq v l hl k n (i + 1) ((i : Int) + 1) (by omega) (by omega) (by omega)]
        have e : (v ∈ l[i] :: l.drop (i + 1)) ↔ v ∈ l.drop (i + 1) := by
          rw [List.mem_cons]; exact ⟨fun h => h.resolve_left (fun h => hv h.symm), .inr⟩
        simp only [e]
    · rw [decide_eq_false (by omega), cond_false, List.drop_of_length_le (by omega), if_neg (by simp)]
theorem f48_eq (v : Int) (l : List Int) (hl : l.length ≤ 9223372036854775807) : f48 l v = some (decide (v ∈ l)) := by
  unfold f48
  simp only [letkE]
  rw [f48_l1_eq v l hl _ 9223372036854775808 0 0 rfl (by omega) (by omega), List.drop_zero]
  by_cases h : v ∈ l <;> simp [h]

def existsM (t : Table) (s : Int) (name : ByteArray) (d : Int) : Bool := match findM t s name with
  | (_, _, false) => false
  | (_, none, true) => true
  | (_, some c, true) => !c.variant || decide (d ∈ c.when)
theorem findM_comp {t : Table} {s : Int} {name : ByteArray} {i : Int} {c : CompRow} {b : Bool} (h : findM t s name = (i, some c, b)) : ∃ y z, row t s = some (y, z) ∧ ∃ j : Nat, y.comps[j]? = some c ∧ j < y.comps.length ∧ i = (if y.disc = -1 then 0 else 1) + (j : Int) := by
  unfold findM at h
  cases hr : row t s with
  | none => rw [hr] at h; simp at h
  | some p =>
    obtain ⟨y, z⟩ := p
    rw [hr] at h
    simp only at h
    split at h
    · split at h
      · simp at h
      · split at h
        · simp at h
        · rename_i j c' hc
          simp only [Prod.mk.injEq, Option.some.injEq] at h
          obtain ⟨rfl, rfl, rfl⟩ := h
          obtain ⟨h1, h2, h3, _⟩ := firstC_bd hc
          exact ⟨y, z, rfl, j, by simpa using h3, by omega, rfl⟩
    · simp at h
theorem findM_disc {t : Table} {s : Int} {name : ByteArray} {i : Int} (h : findM t s name = (i, none, true)) : i = 0 ∧ ∃ y z, row t s = some (y, z) ∧ y.disc ≠ -1 := by
  unfold findM at h
  cases hr : row t s with
  | none => rw [hr] at h; simp at h
  | some p =>
    obtain ⟨y, z⟩ := p
    rw [hr] at h
    simp only at h
    split at h
    · split at h
      · rename_i hq
        simp only [Prod.mk.injEq] at h
        exact ⟨h.1.symm, y, z, rfl, hq.1⟩
      · split at h <;> simp at h
    · simp at h
theorem comp_good {t : Table} (c : Cut t) {s : Int} {y : Ty} {z : Subt} (h : row t s = some (y, z)) {x : CompRow} (hx : x ∈ y.comps) : x.when.length ≤ 9223372036854775807 := ((row_good c.toGTab h).1.comp x hx).when.1

theorem f15_eq {t : Table} (c : Cut t) (s : Int) (name : ByteArray) (d : Int) : f15 t s name d = some (existsM t s name d) := by
  unfold f15 existsM
  rw [f46_eq c, obind]
  cases hf : findM t s name with
  | mk i q =>
    obtain ⟨oc, b⟩ := q
    cases b with
    | false => simp
    | true =>
      cases oc with
      | none => simp
      | some x =>
        obtain ⟨y, z, hr, j, hj, _⟩ := findM_comp hf
        have hw := comp_good c hr (List.mem_of_getElem? hj)
        simp only [cond_true, Option.isNone_some, cond_false, obind, f47_eq d x.when hw]
        cases x.variant <;> simp

theorem f16_eq {t : Table} (c : Cut t) (s : Int) (name : ByteArray) (d : Int) : f16 t s name d = some (existsM t s name d) := by
  unfold f16 existsM
  rw [f14_eq c, obind]
  cases hf : findM t s name with
  | mk i q =>
    obtain ⟨oc, b⟩ := q
    cases b with
    | false => simp
    | true =>
      cases oc with
      | none =>
        obtain ⟨rfl, y, z, hr, hd⟩ := findM_disc hf
        obtain ⟨h1, h2⟩ := row_idx hr
        simp [h1, h2, hd, letkE]
      | some x =>
        obtain ⟨y, z, hr, j, hj, hjl, rfl⟩ := findM_comp hf
        obtain ⟨h1, h2⟩ := row_idx hr
        have hcl : y.comps.length ≤ 20 := c.comps _ (idx_mem h2)
        have hw := comp_good c hr (List.mem_of_getElem? hj)
        simp only [Bool.not_true, cond_false, h1, h2, obind, letkE]
        have hk : ∀ v : Int, v = (j : Int) → (Option.bind (idx y.comps v) fun x65 => Option.bind (bif (!x65.variant) then some true else (Option.bind (idx y.comps v) fun x67 => Option.bind (f48 x67.when d) fun r68 => some r68)) fun b66 => some b66) = some (!x.variant || decide (d ∈ x.when)) := fun v hv => by
          subst hv
          rw [idx_nat, hj, obind, obind, f48_eq d x.when hw, obind]
          cases x.variant <;> rfl
        by_cases hd : y.disc = -1
        · rw [decide_eq_true hd, Bool.not_true, cond_false, if_pos hd]
          exact hk _ (by omega)
        · rw [decide_eq_false hd, Bool.not_false, cond_true, if_neg hd, decide_eq_false (by omega), cond_false, w64 (by omega) (by omega)]
          exact hk _ (by omega)

theorem f3_l1_eq (sub ix : Int) (name : ByteArray) (d : Int) {t : Table} (c : Cut t) (k : Unit → Option Bool) : ∀ (n i : Nat) (z : Int), z = (i : Int) - 1 → i ≤ t.subs.length + 2 → t.subs.length + 2 - i < n → f3_l1 sub ix name d t k n z = k ()
  | 0, i, z, _, _, h => by omega
  | n + 1, i, z, hz, hi, hn => by
    subst hz
    have hsn := c.subn
    unfold f3_l1
    by_cases hil : i ≤ t.subs.length + 1
    · have ih := f3_l1_eq sub ix name d c k n (i + 1) ((i : Int) - 1 + 1) (by omega) (by omega) (by omega)
      rw [decide_eq_true (by omega), cond_true, w64 (by omega) (by omega), ih]
      simp only [letkE, f11_eq c, f12_eq c, f13_eq c, f14_eq c, f15_eq c, f16_eq c, obind, decide_true, Bool.not_true, Bool.or_false, beq_self_eq_true, cond_false]
      cases decide ((i : Int) - 1 < 0) <;> rfl
    · rw [decide_eq_false (by omega), cond_false]
/-- TableNames -/
theorem law3 {t : Table} (g : GTab t) (sub ix : Int) (name : ByteArray) (d : Int) : f3 t sub ix name d = some true := by
  unfold f3
  rw [f10_eq, obind]
  simp only [letkE]
  have c := cut_good g
  have := c.subn
  rw [f3_l1_eq sub ix name d c _ 9223372036854775808 0 (-1) rfl (by omega) (by omega), works, obind]
end Go.Proofs.YteafckpdbmncfaaDoor
