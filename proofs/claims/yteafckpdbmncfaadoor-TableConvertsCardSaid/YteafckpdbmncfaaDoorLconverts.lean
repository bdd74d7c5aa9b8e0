/- Layer 6: the slots of a variable, by the program and by the reference. -/
import Derived.Test.YteafckpdbmncfaaDoorL
namespace Go.Proofs.YteafckpdbmncfaaDoor
open Go Go.Sk

theorem maxLen_ge : 1000 ≤ maxLen := by decide
def slotsM (t : Table) (s : Int) : List Int := match row t s with
  | none => []
  | some (y, _) =>
    if y.kind = 2 ∨ y.kind = 3 ∨ y.kind = 6 ∨ y.kind = 7 then [s]
    else if y.kind = 4 then List.replicate (countM t y.index 64).toNat y.elem
    else if y.kind = 5 then (if y.disc = -1 then [] else [y.disc]) ++ y.comps.map (·.sub)
    else []

end Go.Proofs.YteafckpdbmncfaaDoor
namespace Go.Proofs.YteafckpdbmncfaaDoor
open Go Go.Sk

def slotM (t : Table) (s i : Int) : Int × Bool := match idx (slotsM t s) i with | some x => (x, true) | none => (0, false)
def canM (t : Table) (s v : Int) : Bool := if kindM t s = 2 ∨ kindM t s = 3 then hasM t s v else if kindM t s = 6 then decide (0 ≤ v) && decide (v ≤ 2048) else decide (kindM t s = 7)
def fixM (t : Table) (s : Int) : Bool := match row t s with
  | some (y, b) => decide (y.kind = 5) && decide (y.disc ≠ -1) && decide (b.lo = b.hi)
  | none => false
def loM (t : Table) (s : Int) : Int := match row t s with | some (_, b) => b.lo | none => 0
def fitsM (t : Table) (s : Int) (v : List Int) : Bool :=
  decide ((slotsM t s).length ≠ 0) && decide ((slotsM t s).length = v.length) && ((slotsM t s).zip v).all (fun p => canM t p.1 p.2) && (!fixM t s || decide (v.head? = some (loM t s)))

/-- The value that a slot has by itself. -/
def oneM (t : Table) (s : Int) : Option Int :=
  let r := rangeM t s
  if r.2.2 = true then (if r.1 > r.2.1 then none else if r.1 > 0 ∨ r.2.1 < 0 then some r.1 else some 0)
  else if kindM t s = 6 ∨ kindM t s = 7 then some 0 else none

def setC : List CompRow → Nat → List Int → List Int
  | [], _, v => v
  | c :: cs, j, v => setC cs (j + 1) (if c.has then v.set j c.default_ else v)
def defaultM (t : Table) (s : Int) : List Int := match (slotsM t s).mapM (oneM t) with
  | none => []
  | some v => match row t s with
    | none => v
    | some (y, b) =>
      if y.kind = 5 then
        if y.disc = -1 then setC y.comps 0 v
        else setC y.comps 1 (if b.lo = b.hi then v.set 0 b.lo else if y.has then v.set 0 y.default_ else v)
      else v
end Go.Proofs.YteafckpdbmncfaaDoor
namespace Go.Proofs.YteafckpdbmncfaaDoor
open Go Go.Sk

end Go.Proofs.YteafckpdbmncfaaDoor
namespace Go.Proofs.YteafckpdbmncfaaDoor
open Go Go.Sk
set_option maxRecDepth 100000
theorem works : f17 = some true := by kernel_rfl
set_option maxRecDepth 512

theorem sliceF_min {α : Type} (L : List α) (c : Nat) : sliceF L 0 (if (c : Int) < (L.length : Int) then (c : Int) else (L.length : Int)) = L.take c := by
  unfold sliceF
  split
  · simp
  · rename_i h
    simp
    rw [List.take_of_length_le (by omega)]
theorem sliceOk_min {α : Type} (L : List α) (c : Nat) : sliceOk L 0 (if (c : Int) < (L.length : Int) then (c : Int) else (L.length : Int)) = true := by
  unfold sliceOk
  simp only [Bool.and_eq_true, decide_eq_true_eq]
  split <;> omega

def cutTy (y : Ty) : Ty := Ty.mk y.kind y.name y.parent y.first (y.lits.take 70) y.index y.elem y.disc y.discName y.has y.default_ (y.comps.take 20) y.target y.formal y.limited y.priv y.full y.level
def cutM (t : Table) : Table := ⟨(t.types.take 40).map cutTy, t.subs.take 60, ⟨none, 0, 0⟩, ⟨none, 0, 0⟩, ⟨none, 0, 0⟩⟩

theorem f10_l1_eq (t : Table) (k : List Ty → Option Table) (L : List Ty) (hL : L = [] ++ sliceF t.types 0 (if 40 < (t.types.length : Int) then 40 else (t.types.length : Int))) (hb : L.length ≤ 40) : ∀ (n i : Nat) (z : Int), z = i → i ≤ L.length → L.length - i < n →
    f10_l1 t k n z ((L.take i).map cutTy ++ L.drop i) = k (L.map cutTy)
  | 0, i, z, _, _, h => by omega
  | n + 1, i, z, hz, hi, hn => by
    subst hz
    unfold f10_l1
    rw [← hL]
    by_cases hil : i < L.length
    · have hlen : ((L.take i).map cutTy).length = i := by rw [List.length_map, List.length_take]; omega
      have hd : L.drop i = L[i] :: L.drop (i + 1) := List.drop_eq_getElem_cons hil
      have hget : ∀ (y : Ty) (R : List Ty), idx ((L.take i).map cutTy ++ y :: R) (i : Int) = some y := fun y R => by
        rw [idx_nat, List.getElem?_append_right (by omega), hlen, Nat.sub_self]; rfl
      have hset : ∀ (y y' : Ty) (R : List Ty), ((L.take i).map cutTy ++ y :: R).set (Int.toNat (i : Int)) y' = (L.take i).map cutTy ++ y' :: R := fun y y' R => by
        rw [Int.toNat_natCast, List.set_append_right _ _ (by omega), hlen, Nat.sub_self, List.set_cons_zero]
      rw [decide_eq_true (by omega), cond_true, hd, hget, obind, obind]
      have e1 := sliceOk_min (L[i]).lits 70
      have e2 := sliceF_min (L[i]).lits 70
      have e3 := sliceOk_min (L[i]).comps 20
      have e4 := sliceF_min (L[i]).comps 20
      simp only [Int.cast_ofNat_Int] at e1 e2 e3 e4
      rw [gB e1, e2, obind, hset, hget, obind, obind, gB e3, e4, obind, hset, w64 (by omega) (by omega)]
      have := f10_l1_eq t k L hL hb n (i + 1) ((i : Int) + 1) (by omega) (by omega) (by omega)
      rw [← this, List.take_succ_eq_append_getElem hil, List.map_append, List.append_assoc]
      rfl
    · rw [decide_eq_false (by omega), cond_false, List.drop_of_length_le (by omega), List.take_of_length_le (by omega), List.append_nil]

theorem f10_eq (t : Table) : f10 t = some (cutM t) := by
  unfold f10
  have e1 := sliceOk_min t.types 40
  have e2 := sliceF_min t.types 40
  have e3 := sliceOk_min t.subs 60
  have e4 := sliceF_min t.subs 60
  simp only [Int.cast_ofNat_Int] at e1 e2 e3 e4
  have hl : (t.types.take 40).length ≤ 40 := by rw [List.length_take]; omega
  have e5 : appOk 184 ([] : List Ty) (t.types.take 40) = true := by
    have := maxLen_ge
    simp only [appOk, Bool.and_eq_true, decide_eq_true_eq, List.length_nil]; omega
  rw [gB e1, e2, gB e5, gB e3, e4]
  simp only [letkE]
  have := f10_l1_eq t (fun l75 => some (Table.mk l75 (t.subs.take 60) (SlV.mk none 0 0) (SlV.mk none 0 0) (SlV.mk none 0 0))) ([] ++ t.types.take 40) (by rw [e2]) (by simpa using hl) (Int.toNat ((([] ++ t.types.take 40 : List Ty).length : Int) - 0) + 1) 0 0 rfl (by omega) (by omega)
  simp only [List.take_zero, List.map_nil, List.nil_append, List.drop_zero] at this ⊢
  exact this

theorem cut_good {t : Table} (g : GTab t) : Cut (cutM t) := by
  refine ⟨⟨?_, ?_, ?_, ?_⟩, ?_, ?_, ?_, ?_⟩
  · intro y hy
    obtain ⟨x, hx, rfl⟩ := List.mem_map.1 hy
    have h := g.ty x (List.mem_of_mem_take hx)
    exact ⟨h.kind, by simp [cutTy]; have := h.lits; omega, by simp [cutTy]; have := h.comps; omega, fun c hc => h.comp c (List.mem_of_mem_take hc), h.parent, h.first, h.index, h.elem, h.disc, h.def_, h.target⟩
  · exact fun s hs => g.sub s (List.mem_of_mem_take hs)
  · simp [cutM]; omega
  · simp [cutM]; omega
  · simp [cutM]; omega
  · simp [cutM]; omega
  · intro y hy
    obtain ⟨x, hx, rfl⟩ := List.mem_map.1 hy
    simp [cutTy]; omega
  · intro y hy
    obtain ⟨x, hx, rfl⟩ := List.mem_map.1 hy
    simp [cutTy]; omega

end Go.Proofs.YteafckpdbmncfaaDoor
namespace Go.Proofs.YteafckpdbmncfaaDoor
open Go Go.Sk

def elemM (t : Table) (s ix : Int) : Int × Bool := match row t s with
  | some (y, _) => if y.kind = 4 ∧ countM t y.index 64 ≠ 0 ∧ hasM t y.index ix = true then (IntKind.i64.wrap (ix - (rangeM t y.index).1), true) else (0, false)
  | none => (0, false)

/-! ### Components -/
def firstC (name : ByteArray) : List CompRow → Nat → Option (Nat × CompRow)
  | [], _ => none
  | c :: cs, i => bif c.name.toList == name.toList then some (i, c) else firstC name cs (i + 1)
/-- The slot of a component, and the component; none: it is the discriminant. -/
def findM (t : Table) (s : Int) (name : ByteArray) : Int × Option CompRow × Bool := match row t s with
  | none => (0, none, false)
  | some (y, _) => if y.kind = 5 then
      if y.disc ≠ -1 ∧ (y.discName.toList == name.toList) = true then (0, none, true)
      else match firstC name y.comps 0 with
        | none => (0, none, false)
        | some (i, c) => ((if y.disc = -1 then 0 else 1) + (i : Int), some c, true)
    else (0, none, false)

def existsM (t : Table) (s : Int) (name : ByteArray) (d : Int) : Bool := match findM t s name with
  | (_, _, false) => false
  | (_, none, true) => true
  | (_, some c, true) => !c.variant || decide (d ∈ c.when)
end Go.Proofs.YteafckpdbmncfaaDoor
namespace Go.Proofs.YteafckpdbmncfaaDoor
open Go Go.Sk

/-- The root, in at most n steps. -/
def rootM (t : Table) : Nat → Int → Int
  | 0, ty => ty
  | n + 1, ty => match idx t.types ty with
    | some y => if 0 ≤ y.parent ∧ y.parent < ty then rootM t n y.parent else ty
    | none => ty

theorem f22_l1_eq (t : Table) (k : Int → Option Int) : ∀ (m n : Nat) (ty : Int) (y : Ty), idx t.types ty = some y → 0 ≤ ty → ty < m → m < n → f22_l1 t k n ty y.parent = k (rootM t m ty)
  | 0, n, ty, y, _, h0, h1, _ => by omega
  | m + 1, 0, ty, y, _, _, _, h => by omega
  | m + 1, n + 1, ty, y, hy, h0, h1, h2 => by
    unfold f22_l1 rootM
    rw [hy]
    simp only
    by_cases hp : 0 ≤ y.parent ∧ y.parent < ty
    · have e : (decide (y.parent ≥ 0) && decide (y.parent < ty)) = true := by simpa using hp
      have htl := idx_lt hy
      obtain ⟨y', hy', _⟩ := idx_some (l := t.types) hp.1 (by omega)
      rw [e, cond_true, hy', obind, if_pos hp, f22_l1_eq t k m n y.parent y' hy' hp.1 (by omega) (by omega)]
    · have e : (decide (y.parent ≥ 0) && decide (y.parent < ty)) = false := by
        cases hc : (decide (y.parent ≥ 0) && decide (y.parent < ty)) with
        | false => rfl
        | true => exact absurd (by simpa using hc) hp
      rw [e, cond_false, if_neg hp]
theorem f23_l1_eq (t : Table) (k : Int → Option Int) : ∀ (m n : Nat) (ty : Int) (y : Ty), idx t.types ty = some y → 0 ≤ ty → ty < m → m < n → f23_l1 t k n ty = k (rootM t m ty)
  | 0, n, ty, y, _, h0, h1, _ => by omega
  | m + 1, 0, ty, y, _, _, _, h => by omega
  | m + 1, n + 1, ty, y, hy, h0, h1, h2 => by
    unfold f23_l1 rootM
    rw [hy, obind, f51_eq]
    simp only
    by_cases hp : 0 ≤ y.parent ∧ y.parent < ty
    · have e : (decide (0 ≤ y.parent) && decide (y.parent < ty)) = true := by simpa using hp
      have htl := idx_lt hy
      obtain ⟨y', hy', _⟩ := idx_some (l := t.types) hp.1 (by omega)
      rw [e, cond_true, obind, if_pos hp, f23_l1_eq t k m n y.parent y' hy' hp.1 (by omega) (by omega)]
    · have e : (decide (0 ≤ y.parent) && decide (y.parent < ty)) = false := by
        cases hc : (decide (0 ≤ y.parent) && decide (y.parent < ty)) with
        | false => rfl
        | true => exact absurd (by simpa using hc) hp
      rw [e, cond_false, if_neg hp]

def rootT (t : Table) (ty : Int) : Int := match idx t.types ty with | some _ => rootM t 100 ty | none => -1
theorem f22_eq {t : Table} (c : Cut t) (ty : Int) : f22 t ty = some (rootT t ty) := by
  unfold f22 rootT
  rw [f49_eq, obind]
  cases h : idx t.types ty with
  | none => simp
  | some y =>
    have h0 := idx_nonneg h
    have h1 := idx_lt h
    have := c.tyn
    simp only [letkE, Bool.not_true, cond_false, obind]
    rw [f22_l1_eq t _ 100 9223372036854775808 ty y h h0 (by omega) (by omega)]
theorem f23_eq {t : Table} (c : Cut t) (ty : Int) : f23 t ty = some (rootT t ty) := by
  unfold f23 rootT
  rw [idx_is]
  cases h : idx t.types ty with
  | none => simp
  | some y =>
    have h0 := idx_nonneg h
    have h1 := idx_lt h
    have := c.tyn
    simp only [letkE, Option.isSome_some, Bool.not_true, cond_false]
    rw [f23_l1_eq t _ 100 9223372036854775808 ty y h h0 (by omega) (by omega)]

def alikeM (t : Table) (a b : Int) : Bool := match idx t.subs a, idx t.subs b with
  | some x, some y => decide (x.t = y.t ∧ x.lo = y.lo ∧ x.hi = y.hi)
  | _, _ => false
theorem and3 (p q r : Prop) [Decidable p] [Decidable q] [Decidable r] : (decide p && (decide q && (decide r && true))) = decide (p ∧ q ∧ r) := by
  by_cases p <;> by_cases q <;> by_cases r <;> simp_all
theorem f20_eq (t : Table) (a b : Int) : f20 t a b = some (alikeM t a b) := by
  unfold f20 alikeM
  rw [f52_eq, obind, f52_eq, obind]
  cases idx t.subs a with
  | none => simp
  | some x =>
    cases idx t.subs b with
    | none => simp
    | some y => simp only [Bool.true_and, and3]
theorem f21_eq (t : Table) (a b : Int) : f21 t a b = some (alikeM t a b) := by
  unfold f21 alikeM
  rw [idx_is, idx_is]
  cases idx t.subs a with
  | none => simp
  | some x =>
    cases idx t.subs b with
    | none => simp
    | some y => simp only [Option.isSome_some, Bool.true_and, cond_true, obind, and3]

def wholeM (k : Int) : Bool := decide (k = 1) || decide (k = 2)
def convM (t : Table) (a b : Int) : Bool := match idx t.types a, idx t.types b with
  | some x, some y => decide (a = b) || (decide (x.kind = 3) && decide (y.kind = 3) && decide (rootT t a = rootT t b)) || (decide (x.kind = 6) && decide (y.kind = 6) && alikeM t x.target y.target) || (wholeM x.kind && wholeM y.kind)
  | _, _ => false
theorem f18_eq {t : Table} (c : Cut t) (a b : Int) : f18 t a b = some (convM t a b) := by
  unfold f18 convM
  rw [f49_eq, obind, f49_eq, obind]
  cases idx t.types a with
  | none => simp
  | some x =>
    cases idx t.types b with
    | none => simp
    | some y =>
      simp only [Bool.not_true, Bool.or_self, cond_false, f22_eq c, obind, f20_eq]
      by_cases h : a = b
      · simp [h]
      · rw [decide_eq_false h]
        by_cases h3 : x.kind = 3
        · by_cases g3 : y.kind = 3
          · simp [h3, g3, wholeM]
          · simp [h3, g3, wholeM, f50]
        · by_cases h6 : x.kind = 6
          · by_cases g6 : y.kind = 6
            · simp [h6, g6, wholeM]
            · simp [h6, g6, wholeM, f50]
          · simp [h3, h6, wholeM, f50]
theorem f19_eq {t : Table} (c : Cut t) (a b : Int) : f19 t a b = some (convM t a b) := by
  unfold f19 convM
  rw [idx_is, idx_is]
  cases idx t.types a with
  | none => simp
  | some x =>
    cases idx t.types b with
    | none => simp
    | some y =>
      simp only [Option.isSome_some, Bool.not_true, Bool.or_self, cond_false, f23_eq c, obind, f21_eq, bsome, bsome_true]
      have e : ∀ (p q r s u : Bool), some (((p || q) || r) || (s && u)) = some (((p || r) || (s && u)) || q) := fun p q r s u => by
        congr 1; cases p <;> cases q <;> cases r <;> cases s <;> cases u <;> rfl
      unfold wholeM
      rw [e]

theorem f4_l2_eq {t : Table} (c : Cut t) (x : Int) (k : Unit → Option Bool) (m : Nat) (hm : (m : Int) = if (t.subs.length : Int) > (t.types.length : Int) then (t.subs.length : Int) else (t.types.length : Int)) (hm2 : m ≤ 60) : ∀ (n i : Nat) (z : Int), z = (i : Int) - 1 → i ≤ m + 2 → m + 2 - i < n → f4_l2 t x k n z = k ()
  | 0, i, z, _, _, h => by omega
  | n + 1, i, z, hz, hi, hn => by
    subst hz
    unfold f4_l2
    rw [← hm]
    by_cases hil : i ≤ m + 1
    · rw [decide_eq_true (by omega), cond_true, w64 (by omega) (by omega), f4_l2_eq c x k m hm hm2 n (i + 1) ((i : Int) - 1 + 1) (by omega) (by omega) (by omega)]
      simp only [f18_eq c, f19_eq c, f20_eq, f21_eq, obind, beq_self_eq_true, Bool.not_true, cond_false]
    · rw [decide_eq_false (by omega), cond_false]
theorem f4_l1_eq {t : Table} (c : Cut t) (k : Unit → Option Bool) (m : Nat) (hm : (m : Int) = if (t.subs.length : Int) > (t.types.length : Int) then (t.subs.length : Int) else (t.types.length : Int)) (hm2 : m ≤ 60) : ∀ (n i : Nat) (z : Int), z = (i : Int) - 1 → i ≤ m + 2 → m + 2 - i < n → f4_l1 t k n z = k ()
  | 0, i, z, _, _, h => by omega
  | n + 1, i, z, hz, hi, hn => by
    subst hz
    unfold f4_l1
    rw [← hm]
    by_cases hil : i ≤ m + 1
    · rw [decide_eq_true (by omega), cond_true, w64 (by omega) (by omega), f4_l1_eq c k m hm hm2 n (i + 1) ((i : Int) - 1 + 1) (by omega) (by omega) (by omega)]
      simp only [letkE]
      rw [f4_l2_eq c _ _ m hm hm2 9223372036854775808 0 (-1) rfl (by omega) (by omega)]
      simp only [f22_eq c, f23_eq c, obind, decide_true, Bool.not_true, cond_false]
    · rw [decide_eq_false (by omega), cond_false]
/-- TableConverts -/
theorem law4 {t : Table} (g : GTab t) (a b : Int) : f4 t a b = some true := by
  unfold f4
  have c := cut_good g
  rw [f10_eq, obind]
  simp only [letkE]
  generalize hu : cutM t = u at *
  have h1 := c.subn
  have h2 := c.tyn
  obtain ⟨m, hm, hm2⟩ : ∃ m : Nat, (m : Int) = (if (u.subs.length : Int) > (u.types.length : Int) then (u.subs.length : Int) else (u.types.length : Int)) ∧ m ≤ 60 := by
    split
    · exact ⟨u.subs.length, rfl, by omega⟩
    · exact ⟨u.types.length, rfl, by omega⟩
  rw [f4_l1_eq c _ m hm hm2 9223372036854775808 0 (-1) rfl (by omega) (by omega), works]
  simp only [f18_eq c, f19_eq c, f20_eq, f21_eq, f22_eq c, f23_eq c, obind, beq_self_eq_true, decide_true, Bool.not_true, cond_false]
end Go.Proofs.YteafckpdbmncfaaDoor
