/- Layer 6: the slots of a variable, by the program and by the reference. -/
import Derived.Test.YteafckpdbmncfaaDoorL
namespace Go.Proofs.YteafckpdbmncfaaDoor
open Go Go.Sk

theorem maxLen_ge : 1000 ≤ maxLen := by decide
def slotsM (t : Table) (s : Int) : List Int := match row t s with
  | none => []
  | some (y, _) =>
    if y.kind = 2 ∨ y.kind = 3 ∨ y.kind = 6 ∨ y.kind = 7 then [s]
    else if y.kind = 4 then List.replicate (countM t y.index 64).toNat y.elem
    else if y.kind = 5 then (if y.disc = -1 then [] else [y.disc]) ++ y.comps.map (·.sub)
    else []

end Go.Proofs.YteafckpdbmncfaaDoor
namespace Go.Proofs.YteafckpdbmncfaaDoor
open Go Go.Sk

def slotM (t : Table) (s i : Int) : Int × Bool := match idx (slotsM t s) i with | some x => (x, true) | none => (0, false)
def canM (t : Table) (s v : Int) : Bool := if kindM t s = 2 ∨ kindM t s = 3 then hasM t s v else if kindM t s = 6 then decide (0 ≤ v) && decide (v ≤ 2048) else decide (kindM t s = 7)
def fixM (t : Table) (s : Int) : Bool := match row t s with
  | some (y, b) => decide (y.kind = 5) && decide (y.disc ≠ -1) && decide (b.lo = b.hi)
  | none => false
def loM (t : Table) (s : Int) : Int := match row t s with | some (_, b) => b.lo | none => 0
def fitsM (t : Table) (s : Int) (v : List Int) : Bool :=
  decide ((slotsM t s).length ≠ 0) && decide ((slotsM t s).length = v.length) && ((slotsM t s).zip v).all (fun p => canM t p.1 p.2) && (!fixM t s || decide (v.head? = some (loM t s)))

/-- The value that a slot has by itself. -/
def oneM (t : Table) (s : Int) : Option Int :=
  let r := rangeM t s
  if r.2.2 = true then (if r.1 > r.2.1 then none else if r.1 > 0 ∨ r.2.1 < 0 then some r.1 else some 0)
  else if kindM t s = 6 ∨ kindM t s = 7 then some 0 else none

def setC : List CompRow → Nat → List Int → List Int
  | [], _, v => v
  | c :: cs, j, v => setC cs (j + 1) (if c.has then v.set j c.default_ else v)
def defaultM (t : Table) (s : Int) : List Int := match (slotsM t s).mapM (oneM t) with
  | none => []
  | some v => match row t s with
    | none => v
    | some (y, b) =>
      if y.kind = 5 then
        if y.disc = -1 then setC y.comps 0 v
        else setC y.comps 1 (if b.lo = b.hi then v.set 0 b.lo else if y.has then v.set 0 y.default_ else v)
      else v
end Go.Proofs.YteafckpdbmncfaaDoor
namespace Go.Proofs.YteafckpdbmncfaaDoor
open Go Go.Sk

end Go.Proofs.YteafckpdbmncfaaDoor
namespace Go.Proofs.YteafckpdbmncfaaDoor
open Go Go.Sk
set_option maxRecDepth 100000
theorem works : f17 = some true := by kernel_rfl
set_option maxRecDepth 512

theorem sliceF_min {α : Type} (L : List α) (c : Nat) : sliceF L 0 (if (c : Int) < (L.length : Int) then (c : Int) else (L.length : Int)) = L.take c := by
  unfold sliceF
  split
  · simp
  · rename_i h
    simp
    rw [List.take_of_length_le (by omega)]
theorem sliceOk_min {α : Type} (L : List α) (c : Nat) : sliceOk L 0 (if (c : Int) < (L.length : Int) then (c : Int) else (L.length : Int)) = true := by
  unfold sliceOk
  simp only [Bool.and_eq_true, decide_eq_true_eq]
  split <;> omega

def cutTy (y : Ty) : Ty := Ty.mk y.kind y.name y.parent y.first (y.lits.take 70) y.index y.elem y.disc y.discName y.has y.default_ (y.comps.take 20) y.target y.formal y.limited y.priv y.full y.level
def cutM (t : Table) : Table := ⟨(t.types.take 40).map cutTy, t.subs.take 60, ⟨none, 0, 0⟩, ⟨none, 0, 0⟩, ⟨none, 0, 0⟩⟩

theorem f10_l1_eq (t : Table) (k : List Ty → Option Table) (L : List Ty) (hL : L = [] ++ sliceF t.types 0 (if 40 < (t.types.length : Int) then 40 else (t.types.length : Int))) (hb : L.length ≤ 40) : ∀ (n i : Nat) (z : Int), z = i → i ≤ L.length → L.length - i < n →
    f10_l1 t k n z ((L.take i).map cutTy ++ L.drop i) = k (L.map cutTy)
  | 0, i, z, _, _, h => by omega
  | n + 1, i, z, hz, hi, hn => by
    subst hz
    unfold f10_l1
    rw [← hL]
    by_cases hil : i < L.length
    · have hlen : ((L.take i).map cutTy).length = i := by rw [List.length_map, List.length_take]; omega
      have hd : L.drop i = L[i] :: L.drop (i + 1) := List.drop_eq_getElem_cons hil
      have hget : ∀ (y : Ty) (R : List Ty), idx ((L.take i).map cutTy ++ y :: R) (i : Int) = some y := fun y R => by
        rw [idx_nat, List.getElem?_append_right (by omega), hlen, Nat.sub_self]; rfl
      have hset : ∀ (y y' : Ty) (R : List Ty), ((L.take i).map cutTy ++ y :: R).set (Int.toNat (i : Int)) y' = (L.take i).map cutTy ++ y' :: R := fun y y' R => by
        rw [Int.toNat_natCast, List.set_append_right _ _ (by omega), hlen, Nat.sub_self, List.set_cons_zero]
      rw [decide_eq_true (by omega), cond_true, hd, hget, obind, obind]
      have e1 := sliceOk_min (L[i]).lits 70
      have e2 := sliceF_min (L[i]).lits 70
      have e3 := sliceOk_min (L[i]).comps 20
      have e4 := sliceF_min (L[i]).comps 20
      simp only [Int.cast_ofNat_Int] at e1 e2 e3 e4
      rw [gB e1, e2, obind, hset, hget, obind, obind, gB e3, e4, obind, hset, w64 (by omega) (by omega)]
      have := f10_l1_eq t k L hL hb n (i + 1) ((i : Int) + 1) (by omega) (by omega) (by omega)
      rw [← this, List.take_succ_eq_append_getElem hil, List.map_append, List.append_assoc]
      rfl
    · rw [decide_eq_false (by omega), cond_false, List.drop_of_length_le (by omega), List.take_of_length_le (by omega), List.append_nil]

theorem f10_eq (t : Table) : f10 t = some (cutM t) := by
  unfold f10
  have e1 := sliceOk_min t.types 40
  have e2 := sliceF_min t.types 40
  have e3 := sliceOk_min t.subs 60
  have e4 := sliceF_min t.subs 60
  simp only [Int.cast_ofNat_Int] at e1 e2 e3 e4
  have hl : (t.types.take 40).length ≤ 40 := by rw [List.length_take]; omega
  have e5 : appOk 184 ([] : List Ty) (t.types.take 40) = true := by
    have := maxLen_ge
    simp only [appOk, Bool.and_eq_true, decide_eq_true_eq, List.length_nil]; omega
  rw [gB e1, e2, gB e5, gB e3, e4]
  simp only [letkE]
  have := f10_l1_eq t (fun l75 => some (Table.mk l75 (t.subs.take 60) (SlV.mk none 0 0) (SlV.mk none 0 0) (SlV.mk none 0 0))) ([] ++ t.types.take 40) (by rw [e2]) (by simpa using hl) (Int.toNat ((([] ++ t.types.take 40 : List Ty).length : Int) - 0) + 1) 0 0 rfl (by omega) (by omega)
  simp only [List.take_zero, List.map_nil, List.nil_append, List.drop_zero] at this ⊢
  exact this

theorem cut_good {t : Table} (g : GTab t) : Cut (cutM t) := by
  refine ⟨⟨?_, ?_, ?_, ?_⟩, ?_, ?_, ?_, ?_⟩
  · intro y hy
    obtain ⟨x, hx, rfl⟩ := List.mem_map.1 hy
    have h := g.ty x (List.mem_of_mem_take hx)
    exact ⟨h.kind, by simp [cutTy]; have := h.lits; omega, by simp [cutTy]; have := h.comps; omega, fun c hc => h.comp c (List.mem_of_mem_take hc), h.parent, h.first, h.index, h.elem, h.disc, h.def_, h.target⟩
  · exact fun s hs => g.sub s (List.mem_of_mem_take hs)
  · simp [cutM]; omega
  · simp [cutM]; omega
  · simp [cutM]; omega
  · simp [cutM]; omega
  · intro y hy
    obtain ⟨x, hx, rfl⟩ := List.mem_map.1 hy
    simp [cutTy]; omega
  · intro y hy
    obtain ⟨x, hx, rfl⟩ := List.mem_map.1 hy
    simp [cutTy]; omega

end Go.Proofs.YteafckpdbmncfaaDoor
namespace Go.Proofs.YteafckpdbmncfaaDoor
open Go Go.Sk

def elemM (t : Table) (s ix : Int) : Int × Bool := match row t s with
  | some (y, _) => if y.kind = 4 ∧ countM t y.index 64 ≠ 0 ∧ hasM t y.index ix = true then (IntKind.i64.wrap (ix - (rangeM t y.index).1), true) else (0, false)
  | none => (0, false)

/-! ### Components -/
def firstC (name : ByteArray) : List CompRow → Nat → Option (Nat × CompRow)
  | [], _ => none
  | c :: cs, i => bif c.name.toList == name.toList then some (i, c) else firstC name cs (i + 1)
/-- The slot of a component, and the component; none: it is the discriminant. -/
def findM (t : Table) (s : Int) (name : ByteArray) : Int × Option CompRow × Bool := match row t s with
  | none => (0, none, false)
  | some (y, _) => if y.kind = 5 then
      if y.disc ≠ -1 ∧ (y.discName.toList == name.toList) = true then (0, none, true)
      else match firstC name y.comps 0 with
        | none => (0, none, false)
        | some (i, c) => ((if y.disc = -1 then 0 else 1) + (i : Int), some c, true)
    else (0, none, false)

def existsM (t : Table) (s : Int) (name : ByteArray) (d : Int) : Bool := match findM t s name with
  | (_, _, false) => false
  | (_, none, true) => true
  | (_, some c, true) => !c.variant || decide (d ∈ c.when)
end Go.Proofs.YteafckpdbmncfaaDoor
namespace Go.Proofs.YteafckpdbmncfaaDoor
open Go Go.Sk

/-- The root, in at most n steps. -/
def rootM (t : Table) : Nat → Int → Int
  | 0, ty => ty
  | n + 1, ty => match idx t.types ty with
    | some y => if 0 ≤ y.parent ∧ y.parent < ty then rootM t n y.parent else ty
    | none => ty

theorem f22_l1_eq (t : Table) (k : Int → Option Int) : ∀ (m n : Nat) (ty : Int) (y : Ty), idx t.types ty = some y → 0 ≤ ty → ty < m → m < n → f22_l1 t k n ty y.parent = k (rootM t m ty)
  | 0, n, ty, y, _, h0, h1, _ => by omega
  | m + 1, 0, ty, y, _, _, _, h => by omega
  | m + 1, n + 1, ty, y, hy, h0, h1, h2 => by
    unfold f22_l1 rootM
    rw [hy]
    simp only
    by_cases hp : 0 ≤ y.parent ∧ y.parent < ty
    · have e : (decide (y.parent ≥ 0) && decide (y.parent < ty)) = true := by simpa using hp
      have htl := idx_lt hy
      obtain ⟨y', hy', _⟩ := idx_some (l := t.types) hp.1 (by omega)
      rw [e, cond_true, hy', obind, if_pos hp, f22_l1_eq t k m n y.parent y' hy' hp.1 (by omega) (by omega)]
    · have e : (decide (y.parent ≥ 0) && decide (y.parent < ty)) = false := by
        cases hc : (decide (y.parent ≥ 0) && decide (y.parent < ty)) with
        | false => rfl
        | true => exact absurd (by simpa using hc) hp
      rw [e, cond_false, if_neg hp]
def rootT (t : Table) (ty : Int) : Int := match idx t.types ty with | some _ => rootM t 100 ty | none => -1
theorem f22_eq {t : Table} (c : Cut t) (ty : Int) : f22 t ty = some (rootT t ty) := by
  unfold f22 rootT
  rw [f49_eq, obind]
  cases h : idx t.types ty with
  | none => simp
  | some y =>
    have h0 := idx_nonneg h
    have h1 := idx_lt h
    have := c.tyn
    simp only [letkE, Bool.not_true, cond_false, obind]
    rw [f22_l1_eq t _ 100 9223372036854775808 ty y h h0 (by omega) (by omega)]
def alikeM (t : Table) (a b : Int) : Bool := match idx t.subs a, idx t.subs b with
  | some x, some y => decide (x.t = y.t ∧ x.lo = y.lo ∧ x.hi = y.hi)
  | _, _ => false
theorem and3 (p q r : Prop) [Decidable p] [Decidable q] [Decidable r] : (decide p && (decide q && (decide r && true))) = decide (p ∧ q ∧ r) := by
  by_cases p <;> by_cases q <;> by_cases r <;> simp_all
theorem f20_eq (t : Table) (a b : Int) : f20 t a b = some (alikeM t a b) := by
  unfold f20 alikeM
  rw [f52_eq, obind, f52_eq, obind]
  cases idx t.subs a with
  | none => simp
  | some x =>
    cases idx t.subs b with
    | none => simp
    | some y => simp only [Bool.true_and, and3]
def wholeM (k : Int) : Bool := decide (k = 1) || decide (k = 2)
def convM (t : Table) (a b : Int) : Bool := match idx t.types a, idx t.types b with
  | some x, some y => decide (a = b) || (decide (x.kind = 3) && decide (y.kind = 3) && decide (rootT t a = rootT t b)) || (decide (x.kind = 6) && decide (y.kind = 6) && alikeM t x.target y.target) || (wholeM x.kind && wholeM y.kind)
  | _, _ => false
theorem f18_eq {t : Table} (c : Cut t) (a b : Int) : f18 t a b = some (convM t a b) := by
  unfold f18 convM
  rw [f49_eq, obind, f49_eq, obind]
  cases idx t.types a with
  | none => simp
  | some x =>
    cases idx t.types b with
    | none => simp
    | some y =>
      simp only [Bool.not_true, Bool.or_self, cond_false, f22_eq c, obind, f20_eq]
      by_cases h : a = b
      · simp [h]
      · rw [decide_eq_false h]
        by_cases h3 : x.kind = 3
        · by_cases g3 : y.kind = 3
          · simp [h3, g3, wholeM]
          · simp [h3, g3, wholeM, f50]
        · by_cases h6 : x.kind = 6
          · by_cases g6 : y.kind = 6
            · simp [h6, g6, wholeM]
            · simp [h6, g6, wholeM, f50]
          · simp [h3, h6, wholeM, f50]
end Go.Proofs.YteafckpdbmncfaaDoor
namespace Go.Proofs.YteafckpdbmncfaaDoor
open Go Go.Sk

theorem f33_l1_any (a b : List Int) (ha : a.length ≤ 9223372036854775807) (hab : a.length = b.length) (k : Unit → Option Bool) (hk : ∃ r, k () = some r) : ∀ (n i : Nat) (z : Int), z = i → i ≤ a.length → a.length - i < n → ∃ r, f33_l1 a b k n z = some r
  | 0, i, z, _, _, h => by omega
  | n + 1, i, z, hz, hi, hn => by
    subst hz
    unfold f33_l1
    by_cases hil : i < a.length
    · rw [decide_eq_true (by omega), cond_true, idx_nat, List.getElem?_eq_getElem hil, obind, idx_nat, List.getElem?_eq_getElem (by omega), obind, w64 (by omega) (by omega)]
      cases decide (a[i] = b[i]) with
      | false => exact ⟨false, rfl⟩
      | true => exact f33_l1_any a b ha hab k hk n (i + 1) ((i : Int) + 1) (by omega) (by omega) (by omega)
    · rw [decide_eq_false (by omega), cond_false]; exact hk
theorem f33_any (a b : List Int) (ha : a.length ≤ 9223372036854775807) : ∃ r, f33 a b = some r := by
  unfold f33
  by_cases hab : a.length = b.length
  · rw [decide_eq_true (by omega), Bool.not_true, cond_false]
    simp only [letkE]
    exact f33_l1_any a b ha hab _ ⟨true, rfl⟩ 9223372036854775808 0 0 rfl (by omega) (by omega)
  · rw [decide_eq_false (by omega)]; exact ⟨false, rfl⟩
theorem f72_l1_any (a b : List ByteArray) (ha : a.length ≤ 9223372036854775807) (hab : a.length = b.length) (k : Unit → Option Bool) (hk : ∃ r, k () = some r) : ∀ (n i : Nat) (z : Int), z = i → i ≤ a.length → a.length - i < n → ∃ r, f72_l1 a b k n z = some r
  | 0, i, z, _, _, h => by omega
  | n + 1, i, z, hz, hi, hn => by
    subst hz
    unfold f72_l1
    by_cases hil : i < a.length
    · rw [decide_eq_true (by omega), cond_true, idx_nat, List.getElem?_eq_getElem hil, obind, idx_nat, List.getElem?_eq_getElem (by omega), obind, w64 (by omega) (by omega)]
      cases (a[i].toList == b[i].toList) with
      | false => exact ⟨false, rfl⟩
      | true => exact f72_l1_any a b ha hab k hk n (i + 1) ((i : Int) + 1) (by omega) (by omega) (by omega)
    · rw [decide_eq_false (by omega), cond_false]; exact hk
theorem f72_any (a b : List ByteArray) (ha : a.length ≤ 9223372036854775807) : ∃ r, f72 a b = some r := by
  unfold f72
  by_cases hab : a.length = b.length
  · rw [decide_eq_true (by omega), Bool.not_true, cond_false]
    simp only [letkE]
    exact f72_l1_any a b ha hab _ ⟨true, rfl⟩ 9223372036854775808 0 0 rfl (by omega) (by omega)
  · rw [decide_eq_false (by omega)]; exact ⟨false, rfl⟩
theorem f73_l1_any (a b : List CompRow) (ha : a.length ≤ 9223372036854775807) (hw : ∀ c ∈ a, c.when.length ≤ 9223372036854775807) (hab : a.length = b.length) (k : Unit → Option Bool) (hk : ∃ r, k () = some r) : ∀ (n i : Nat) (z : Int), z = i → i ≤ a.length → a.length - i < n → ∃ r, f73_l1 a b k n z = some r
  | 0, i, z, _, _, h => by omega
  | n + 1, i, z, hz, hi, hn => by
    subst hz
    unfold f73_l1
    by_cases hil : i < a.length
    · rw [decide_eq_true (by omega), cond_true, idx_nat, List.getElem?_eq_getElem hil, obind, idx_nat, List.getElem?_eq_getElem (by omega), obind, w64 (by omega) (by omega)]
      obtain ⟨r, hr⟩ := f33_any a[i].when b[i].when (hw _ (List.getElem_mem hil))
      obtain ⟨r', hr'⟩ := f73_l1_any a b ha hw hab k hk n (i + 1) ((i : Int) + 1) (by omega) (by omega) (by omega)
      rw [hr, hr', obind]
      cases (((((!(a[i].name.toList == b[i].name.toList)) || (!decide (a[i].sub = b[i].sub))) || (!(a[i].has == b[i].has))) || (!decide (a[i].default_ = b[i].default_))) || (!(a[i].variant == b[i].variant))) <;> cases r <;> exact ⟨_, rfl⟩
    · rw [decide_eq_false (by omega), cond_false]; exact hk
theorem f73_any (a b : List CompRow) (ha : a.length ≤ 9223372036854775807) (hw : ∀ c ∈ a, c.when.length ≤ 9223372036854775807) : ∃ r, f73 a b = some r := by
  unfold f73
  by_cases hab : a.length = b.length
  · rw [decide_eq_true (by omega), Bool.not_true, cond_false]
    simp only [letkE]
    exact f73_l1_any a b ha hw hab _ ⟨true, rfl⟩ 9223372036854775808 0 0 rfl (by omega) (by omega)
  · rw [decide_eq_false (by omega)]; exact ⟨false, rfl⟩

theorem f53_any (a b : Ty) (ga : GTy a) : ∃ r, f53 a b = some r ∧ (r = true → a.parent = b.parent) := by
  unfold f53
  obtain ⟨r1, h1⟩ := f72_any a.lits b.lits ga.lits
  obtain ⟨r2, h2⟩ := f73_any a.comps b.comps ga.comps (fun c hc => (ga.comp c hc).when.1)
  rw [h1, h2]
  simp only [obind, bsome]
  refine ⟨_, rfl, fun h => ?_⟩
  simp only [Bool.and_eq_true, decide_eq_true_eq] at h
  exact h.1.1.1.1.1.1.1.1.1.1.2

theorem sIdx_some {s : ByteArray} {i : Nat} (h : i < s.size) : ∃ x, sIdx s (i : Int) = some x := by
  unfold sIdx
  rw [dif_pos ⟨by omega, by omega⟩]
  exact ⟨_, rfl⟩
theorem f103_l1_any (s : ByteArray) (l : List ByteArray) (hl : l.length ≤ 1000) (k : Unit → Option Bool) (hk : ∃ r, k () = some r) : ∀ (n i : Nat) (z : Int), z = i → i ≤ l.length → l.length - i < n → ∃ r, f103_l1 l s k n z = some r
  | 0, i, z, _, _, h => by omega
  | n + 1, i, z, hz, hi, hn => by
    subst hz
    unfold f103_l1
    by_cases hil : i < l.length
    · rw [decide_eq_true (by omega), cond_true, idx_nat, List.getElem?_eq_getElem hil, obind, w64 (by omega) (by omega)]
      cases (l[i].toList == s.toList) with
      | true => exact ⟨true, rfl⟩
      | false => exact f103_l1_any s l hl k hk n (i + 1) ((i : Int) + 1) (by omega) (by omega) (by omega)
    · rw [decide_eq_false (by omega), cond_false]; exact hk
theorem f89_any (s : ByteArray) : ∃ r, f89 s = some r := by
  unfold f89 f103
  simp only [letkE]
  have hl : f104.length ≤ 1000 := by decide
  obtain ⟨r, h⟩ := f103_l1_any s f104 hl (fun _ => some false) ⟨false, rfl⟩ 9223372036854775808 0 0 rfl (by omega) (by omega)
  rw [h, obind]
  exact ⟨r, rfl⟩
theorem f75_l1_any (s : ByteArray) (hs : s.size ≤ 32) (k : Unit → Option Bool) (hk : ∃ r, k () = some r) : ∀ (n i : Nat) (z : Int), z = i → i ≤ s.size → s.size - i < n → ∃ r, f75_l1 s k n z = some r
  | 0, i, z, _, _, h => by omega
  | n + 1, i, z, hz, hi, hn => by
    subst hz
    unfold f75_l1
    by_cases hil : i < s.size
    · obtain ⟨x, hx⟩ := sIdx_some hil
      rw [decide_eq_true (by omega), cond_true, hx, obind, w64 (by omega) (by omega)]
      cases f90 x with
      | false => exact ⟨false, rfl⟩
      | true => exact f75_l1_any s hs k hk n (i + 1) ((i : Int) + 1) (by omega) (by omega) (by omega)
    · rw [decide_eq_false (by omega), cond_false]; exact hk
theorem f75_any (s : ByteArray) : ∃ r, f75 s = some r := by
  unfold f75
  obtain ⟨r, hr⟩ := f89_any s
  rw [hr]
  by_cases h : s.size < 1 ∨ s.size > 32
  · have e : (decide ((s.size : Int) < 1) || decide ((s.size : Int) > 32)) = true := by
      rcases h with h | h
      · rw [decide_eq_true (show (s.size : Int) < 1 by omega), Bool.true_or]
      · rw [decide_eq_true (show (s.size : Int) > 32 by omega), Bool.or_true]
    rw [e, cond_true, obind, cond_true, obind, cond_true]
    exact ⟨false, rfl⟩
  · have e : (decide ((s.size : Int) < 1) || decide ((s.size : Int) > 32)) = false := by
      rw [decide_eq_false (show ¬ (s.size : Int) < 1 by omega), decide_eq_false (show ¬ (s.size : Int) > 32 by omega)]; rfl
    obtain ⟨x, hx⟩ := sIdx_some (s := s) (i := 0) (by omega)
    rw [e, cond_false, show (0 : Int) = ((0 : Nat) : Int) from rfl, hx, obind, obind]
    cases f88 x with
    | false => rw [Bool.not_false, cond_true, obind, cond_true]; exact ⟨false, rfl⟩
    | true =>
      rw [Bool.not_true, cond_false, obind, obind]
      cases r with
      | true => rw [cond_true]; exact ⟨false, rfl⟩
      | false =>
        rw [cond_false, letkE]
        exact f75_l1_any s (by omega) _ ⟨true, rfl⟩ 9223372036854775808 0 0 rfl (by omega) (by omega)

/-- Different names. -/
def Diff (l : List ByteArray) : Prop := ∀ (i j : Nat) (x y : ByteArray), i < j → l[i]? = some x → l[j]? = some y → (x.toList == y.toList) = false
theorem f92_l2_any (l : List ByteArray) (hl : l.length ≤ 9223372036854775807) (q : Nat) (hq : q < l.length) (k : Unit → Option Bool) (P : Prop) (hk : ∃ r, k () = some r ∧ (r = true → P)) : ∀ (n i : Nat) (z : Int), z = i → i ≤ q → q - i < n →
    ∃ r, f92_l2 l q k n z = some r ∧ (r = true → P ∧ ∀ (j : Nat) x, i ≤ j → j < q → l[j]? = some x → (x.toList == l[q].toList) = false)
  | 0, i, z, _, _, h => by omega
  | n + 1, i, z, hz, hi, hn => by
    subst hz
    unfold f92_l2
    by_cases hil : i < q
    · rw [decide_eq_true (by omega), cond_true, idx_nat, List.getElem?_eq_getElem (by omega), obind, idx_nat, List.getElem?_eq_getElem hq, obind, w64 (by omega) (by omega)]
      cases hx : (l[i].toList == l[q].toList) with
      | true => exact ⟨false, rfl, by simp⟩
      | false =>
        obtain ⟨r, h1, h2⟩ := f92_l2_any l hl q hq k P hk n (i + 1) ((i : Int) + 1) (by omega) (by omega) (by omega)
        refine ⟨r, h1, fun hr => ⟨(h2 hr).1, fun j x h3 h4 h5 => ?_⟩⟩
        by_cases hj : j = i
        · subst hj
          rw [List.getElem?_eq_getElem (by omega)] at h5
          simp only [Option.some.injEq] at h5
          subst h5
          exact hx
        · exact (h2 hr).2 j x (by omega) h4 h5
    · rw [decide_eq_false (by omega), cond_false]
      obtain ⟨r, h1, h2⟩ := hk
      exact ⟨r, h1, fun hr => ⟨h2 hr, fun j x h3 h4 _ => by omega⟩⟩
theorem f92_l1_any (l : List ByteArray) (hl : l.length ≤ 9223372036854775807) (k : Unit → Option Bool) (hk : ∃ r, k () = some r) : ∀ (n i : Nat) (z : Int), z = i → i ≤ l.length → l.length - i < n →
    ∃ r, f92_l1 l k n z = some r ∧ (r = true → ∀ (q j : Nat) (y x : ByteArray), i ≤ q → j < q → l[q]? = some y → l[j]? = some x → (x.toList == y.toList) = false)
  | 0, i, z, _, _, h => by omega
  | n + 1, i, z, hz, hi, hn => by
    subst hz
    unfold f92_l1
    by_cases hil : i < l.length
    · obtain ⟨rn, hrn⟩ := f75_any l[i]
      rw [decide_eq_true (by omega), cond_true, w64 (by omega) (by omega), idx_nat, List.getElem?_eq_getElem hil]
      simp only [letkE, obind, hrn]
      cases rn with
      | false => exact ⟨false, rfl, by simp⟩
      | true =>
        rw [Bool.not_true, cond_false]
        have ih := f92_l1_any l hl k hk n (i + 1) ((i : Int) + 1) (by omega) (by omega) (by omega)
        obtain ⟨r, h1, h2⟩ := f92_l2_any l hl i hil (fun _ => f92_l1 l k n ((i : Int) + 1)) _ ih 9223372036854775808 0 0 rfl (by omega) (by omega)
        refine ⟨r, h1, fun hr q j y x h3 h4 h5 h6 => ?_⟩
        obtain ⟨h7, h8⟩ := h2 hr
        by_cases hqi : q = i
        · subst hqi
          rw [List.getElem?_eq_getElem hil] at h5
          simp only [Option.some.injEq] at h5
          subst h5
          exact h8 j x (by omega) h4 h6
        · exact h7 q j y x (by omega) h4 h5 h6
    · rw [decide_eq_false (by omega), cond_false]
      obtain ⟨r, h1⟩ := hk
      refine ⟨r, h1, fun _ q j y x h3 _ h5 _ => ?_⟩
      have := (List.getElem?_eq_some_iff.1 h5).1
      omega
theorem f92_any (l : List ByteArray) (hl : l.length ≤ 9223372036854775807) : ∃ r, f92 l = some r ∧ (r = true → Diff l) := by
  unfold f92
  simp only [letkE]
  obtain ⟨r, h1, h2⟩ := f92_l1_any l hl (fun _ => some true) ⟨true, rfl⟩ 9223372036854775808 0 0 rfl (by omega) (by omega)
  exact ⟨r, h1, fun hr i j x y h3 h4 h5 => h2 hr j i y x (by omega) h3 h5 h4⟩
end Go.Proofs.YteafckpdbmncfaaDoor
namespace Go.Proofs.YteafckpdbmncfaaDoor
open Go Go.Sk

def smallM (t : Table) (s : Int) : Bool := ((rangeM t s).2.2 && decide ((rangeM t s).1 ≤ (rangeM t s).2.1)) || decide (kindM t s = 6)
theorem f93_eq (t : Table) (s : Int) : f93 t s = some (smallM t s) := by
  unfold f93 smallM
  rw [f26_eq, obind, f44_eq, obind]
  cases ((rangeM t s).2.2 && decide ((rangeM t s).1 ≤ (rangeM t s).2.1)) <;> rfl

theorem f106_l1_any (t : Table) (x : CompRow) (hx : x.when.length ≤ 9223372036854775807) (y : Ty) (k : Unit → Option Bool) (hk : ∃ r, k () = some r) : ∀ (n i : Nat) (z : Int), z = i → i ≤ x.when.length → x.when.length - i < n → ∃ r, f106_l1 t x y k n z = some r
  | 0, i, z, _, _, h => by omega
  | n + 1, i, z, hz, hi, hn => by
    subst hz
    unfold f106_l1
    by_cases hil : i < x.when.length
    · obtain ⟨r, hr⟩ := f106_l1_any t x hx y k hk n (i + 1) ((i : Int) + 1) (by omega) (by omega) (by omega)
      rw [decide_eq_true (by omega), cond_true, idx_nat, List.getElem?_eq_getElem hil, obind, f45_eq, obind, w64 (x := (i : Int) + 1) (by omega) (by omega), hr, obind]
      by_cases h0 : 0 < i
      · rw [decide_eq_true (show (i : Int) > 0 by omega), cond_true, w64 (by omega) (by omega), show (i : Int) - 1 = ((i - 1 : Nat) : Int) by omega, idx_nat, List.getElem?_eq_getElem (by omega), obind, obind]
        cases hasM t y.disc x.when[i] <;> cases decide (x.when[i] ≤ x.when[i - 1]) <;> exact ⟨_, rfl⟩
      · rw [decide_eq_false (show ¬ (i : Int) > 0 by omega), cond_false]
        cases hasM t y.disc x.when[i] <;> exact ⟨_, rfl⟩
    · rw [decide_eq_false (by omega), cond_false]; exact hk
theorem f106_any {t : Table} {i : Int} {y : Ty} (hy : idx t.types i = some y) (x : CompRow) (gx : GComp x) : ∃ r, f106 t i x = some r ∧ (r = true → smallM t x.sub = true ∧ (x.has = true → hasM t x.sub x.default_ = true)) := by
  unfold f106
  rw [f93_eq, obind, f45_eq]
  cases hs : smallM t x.sub with
  | false => exact ⟨false, rfl, by simp⟩
  | true =>
    simp only [Bool.not_true, cond_false, obind]
    have key : ∀ r, (∃ b, r = some b ∧ (b = true → (true = true ∧ (x.has = true → hasM t x.sub x.default_ = true)))) → ∃ b, r = some b ∧ (b = true → true = true ∧ (x.has = true → hasM t x.sub x.default_ = true)) := fun r h => h
    have rest : (x.has = true → hasM t x.sub x.default_ = true) → ∃ b, (bif (!x.variant) then some (decide ((List.length x.when : Int) = 0)) else Option.bind (idx t.types i) fun x100 =>
        letk (fun (_ : Unit) => some ((!decide (x100.disc = (-1))) && (decide ((List.length x.when : Int) > 0)))) fun k101 => (f106_l1 t x x100 k101 9223372036854775808 0)) = some b ∧ (b = true → true = true ∧ (x.has = true → hasM t x.sub x.default_ = true)) := fun hh => by
      cases x.variant with
      | false => rw [Bool.not_false, cond_true]; exact ⟨_, rfl, fun _ => ⟨rfl, hh⟩⟩
      | true =>
        rw [Bool.not_true, cond_false, hy, obind, letkE]
        obtain ⟨r, hr⟩ := f106_l1_any t x gx.when.1 y (fun _ => some ((!decide (y.disc = (-1))) && (decide ((List.length x.when : Int) > 0)))) ⟨_, rfl⟩ 9223372036854775808 0 0 rfl (by omega) (by have := gx.when.1; omega)
        exact ⟨r, hr, fun _ => ⟨rfl, hh⟩⟩
    cases hh : x.has with
    | false =>
      rw [cond_false, obind, obind]
      cases hd : decide (x.default_ = 0) with
      | false => exact ⟨false, rfl, by simp⟩
      | true =>
        simp only [Bool.not_false, Bool.not_true, Bool.and_false, Bool.or_self, cond_false]
        rw [hh] at rest
        obtain ⟨b, e1, e2⟩ := rest (by simp)
        exact ⟨b, e1, fun h => ⟨trivial, (e2 h).2⟩⟩
    | true =>
      rw [cond_true, obind, obind]
      cases hm : hasM t x.sub x.default_ with
      | false => exact ⟨false, rfl, by simp⟩
      | true =>
        simp only [Bool.not_true, Bool.false_and, Bool.or_self, cond_false]
        rw [hh, hm] at rest
        obtain ⟨b, e1, e2⟩ := rest (by simp)
        exact ⟨b, e1, fun h => ⟨trivial, fun _ => trivial⟩⟩

/-- The names of a record. -/
def namesM (y : Ty) : List ByteArray := (if y.disc = -1 then [] else [y.discName]) ++ y.comps.map (·.name)
structure RecOk (t : Table) (y : Ty) : Prop where
  disc : y.disc ≠ -1 → 0 < countM t y.disc 64 ∧ (y.has = true → hasM t y.disc y.default_ = true)
  comp : ∀ c ∈ y.comps, smallM t c.sub = true ∧ (c.has = true → hasM t c.sub c.default_ = true)
  diff : Diff (namesM y)
  some_ : 1 ≤ (namesM y).length
theorem appOk16 {α : Type} {L L2 : List α} (h : L.length + L2.length ≤ 1000) : appOk 16 L L2 = true := by
  have := maxLen_ge
  simp only [appOk, Bool.and_eq_true, decide_eq_true_eq]; omega

theorem f94_l1_any {t : Table} {ty : Int} {y : Ty} (hy : idx t.types ty = some y) (gy : GTy y) (hc : y.comps.length ≤ 20) (k : List ByteArray → Option Bool) (P : List ByteArray → Prop) (hk : ∀ l, l.length ≤ 30 → ∃ r, k l = some r ∧ (r = true → P l)) : ∀ (n i : Nat) (z : Int) (acc : List ByteArray), z = i → i ≤ y.comps.length → y.comps.length - i < n → acc.length ≤ i + 1 →
    ∃ r, f94_l1 t ty y k n z acc = some r ∧ (r = true → P (acc ++ (y.comps.drop i).map (·.name)) ∧ ∀ c ∈ y.comps.drop i, smallM t c.sub = true ∧ (c.has = true → hasM t c.sub c.default_ = true))
  | 0, i, z, acc, _, _, h, _ => by omega
  | n + 1, i, z, acc, hz, hi, hn, ha => by
    subst hz
    unfold f94_l1
    by_cases hil : i < y.comps.length
    · obtain ⟨r1, h1, h2⟩ := f106_any hy y.comps[i] (gy.comp _ (List.getElem_mem hil))
      rw [decide_eq_true (by omega), cond_true, idx_nat, List.getElem?_eq_getElem hil, obind, h1, obind]
      cases r1 with
      | false => exact ⟨false, rfl, by simp⟩
      | true =>
        obtain ⟨r, h3, h4⟩ := f94_l1_any hy gy hc k P hk n (i + 1) ((i : Int) + 1) (acc ++ [y.comps[i].name]) (by omega) (by omega) (by omega) (by simp; omega)
        rw [Bool.not_true, cond_false, obind, gB (appOk16 (by simp; omega)), w64 (by omega) (by omega)]
        refine ⟨r, h3, fun hr => ?_⟩
        obtain ⟨h5, h6⟩ := h4 hr
        rw [List.drop_eq_getElem_cons hil]
        refine ⟨by simpa only [List.append_assoc, List.singleton_append, List.map_cons] using h5, fun c hc' => ?_⟩
        rcases List.mem_cons.1 hc' with rfl | hc'
        · exact h2 rfl
        · exact h6 c hc'
    · rw [decide_eq_false (by omega), cond_false, List.drop_of_length_le (by omega)]
      obtain ⟨r, h1, h2⟩ := hk acc (by omega)
      exact ⟨r, h1, fun hr => ⟨by simpa using h2 hr, by simp⟩⟩
theorem f94_any {t : Table} (c : Cut t) {ty : Int} {y : Ty} (hy : idx t.types ty = some y) : ∃ r, f94 t ty = some r ∧ (r = true → RecOk t y) := by
  have gy := c.ty y (idx_mem hy)
  have hcl := c.comps y (idx_mem hy)
  unfold f94
  rw [hy, obind]
  simp only [letkE]
  have hk : ∀ l : List ByteArray, l.length ≤ 30 → ∃ r, (Option.bind (bif ((decide ((List.length l : Int) ≥ 1)) && (decide ((List.length y.comps : Int) ≤ 16))) then (Option.bind (f92 l) fun r122 => some r122) else some false) fun b121 => some (b121 && (y.has || (decide (y.default_ = 0))))) = some r ∧ (r = true → Diff l ∧ 1 ≤ l.length) := fun l hl => by
    obtain ⟨r, h1, h2⟩ := f92_any l (by omega)
    rw [h1, obind]
    by_cases h0 : 1 ≤ l.length
    · rw [decide_eq_true (show (l.length : Int) ≥ 1 by omega)]
      cases decide ((List.length y.comps : Int) ≤ 16) with
      | false => exact ⟨false, rfl, by simp⟩
      | true => exact ⟨_, rfl, fun h => ⟨h2 (by simp only [Bool.and_eq_true] at h; exact h.1), h0⟩⟩
    · rw [decide_eq_false (show ¬ (l.length : Int) ≥ 1 by omega)]
      exact ⟨false, rfl, by simp⟩
  have run : ∀ l : List ByteArray, l.length ≤ 1 → ∃ r, f94_l1 t ty y (fun l105 => Option.bind (bif ((decide ((List.length l105 : Int) ≥ 1)) && (decide ((List.length y.comps : Int) ≤ 16))) then (Option.bind (f92 l105) fun r122 => some r122) else some false) fun b121 => some (b121 && (y.has || (decide (y.default_ = 0))))) 9223372036854775808 0 l = some r ∧ (r = true → (Diff (l ++ y.comps.map (·.name)) ∧ 1 ≤ (l ++ y.comps.map (·.name)).length) ∧ ∀ c ∈ y.comps, smallM t c.sub = true ∧ (c.has = true → hasM t c.sub c.default_ = true)) := fun l hl => by
    have := f94_l1_any hy gy hcl _ (fun l => Diff l ∧ 1 ≤ l.length) hk 9223372036854775808 0 0 l rfl (by omega) (by omega) (by omega)
    simpa using this
  by_cases hd : y.disc = -1
  · rw [decide_eq_true hd, Bool.not_true, cond_false]
    cases ((!(y.discName.toList == (ByteArray.mk #[]).toList)) || y.has) with
    | true => rw [cond_true]; exact ⟨false, rfl, by simp⟩
    | false =>
      rw [cond_false]
      obtain ⟨r, h1, h2⟩ := run [] (by simp)
      exact ⟨r, h1, fun hr => ⟨fun h => absurd hd h, (h2 hr).2, by simpa [namesM, hd] using (h2 hr).1.1, by simpa [namesM, hd] using (h2 hr).1.2⟩⟩
  · rw [decide_eq_false hd, Bool.not_false, cond_true, f78_eq c.toGTab _ (by omega) (by omega), obind, f45_eq]
    by_cases hc : 0 < countM t y.disc 64
    · rw [decide_eq_true hc, Bool.not_true, cond_false]
      have fin : (y.has = true → hasM t y.disc y.default_ = true) → ∃ r, guardB (appOk 16 [] [y.discName]) (f94_l1 t ty y (fun l105 => Option.bind (bif ((decide ((List.length l105 : Int) ≥ 1)) && (decide ((List.length y.comps : Int) ≤ 16))) then (Option.bind (f92 l105) fun r122 => some r122) else some false) fun b121 => some (b121 && (y.has || (decide (y.default_ = 0))))) 9223372036854775808 0 ([] ++ [y.discName])) = some r ∧ (r = true → RecOk t y) := fun hh => by
        rw [gB (appOk16 (by simp)), List.nil_append]
        obtain ⟨r, h1, h2⟩ := run [y.discName] (by simp)
        exact ⟨r, h1, fun hr => ⟨fun _ => ⟨hc, hh⟩, (h2 hr).2, by simpa [namesM, hd] using (h2 hr).1.1, by simp [namesM, hd]⟩⟩
      cases hh : y.has with
      | false =>
        rw [hh] at fin
        rw [cond_false, obind, obind, cond_false]
        exact fin (by simp)
      | true =>
        rw [hh] at fin
        rw [cond_true, obind, obind, obind]
        cases hm : hasM t y.disc y.default_ with
        | false => exact ⟨false, rfl, by simp⟩
        | true =>
          rw [hm] at fin
          rw [Bool.not_true, cond_false]
          exact fin (by simp)
    · rw [decide_eq_false hc, Bool.not_false, cond_true, obind, cond_true]; exact ⟨false, rfl, by simp⟩

/-- A type other than 0. -/
structure TyOk (t : Table) (i : Int) (y : Ty) : Prop where
  kind : y.kind = 2 ∨ y.kind = 3 ∨ y.kind = 4 ∨ y.kind = 5 ∨ y.kind = 6 ∨ y.kind = 7
  arr : y.kind = 4 → 0 < countM t y.index 64 ∧ smallM t y.elem = true
  reco : y.kind = 5 → RecOk t y
  parent : y.parent = -1 ∨ ((y.kind = 2 ∨ y.kind = 3) ∧ 0 ≤ y.parent ∧ y.parent < i ∧ ∃ p, idx t.types y.parent = some p ∧ p.kind = y.kind)

theorem f91_any {t : Table} (c : Cut t) {ty : Int} {y : Ty} (hy : idx t.types ty = some y) : ∃ r, f91 t ty = some r ∧ (r = true → y.parent = -1 ∨ (0 ≤ y.parent ∧ y.parent < ty ∧ ∃ p, idx t.types y.parent = some p ∧ p.kind = y.kind)) := by
  unfold f91
  rw [hy, obind, f51_eq]
  by_cases h1 : y.parent = -1
  · rw [decide_eq_true h1, cond_true]; exact ⟨true, rfl, fun _ => .inl h1⟩
  · rw [decide_eq_false h1, cond_false]
    by_cases h2 : 0 ≤ y.parent ∧ y.parent < ty
    · have hl := idx_lt hy
      obtain ⟨p, hp, hpm⟩ := idx_some (l := t.types) h2.1 (by omega)
      obtain ⟨r, hr⟩ := f72_any p.lits y.lits (c.ty p hpm).lits
      rw [decide_eq_true h2.1, decide_eq_true h2.2, Bool.and_self, Bool.not_true, cond_false, hp, obind, hr, obind, bsome, obind]
      refine ⟨_, rfl, fun h => .inr ⟨h2.1, h2.2, p, rfl, ?_⟩⟩
      simp only [Bool.and_eq_true, decide_eq_true_eq] at h
      exact h.1.1.1
    · have e : (decide (0 ≤ y.parent) && decide (y.parent < ty)) = false := by
        cases hc : (decide (0 ≤ y.parent) && decide (y.parent < ty)) with
        | false => rfl
        | true => exact absurd (by simpa using hc) h2
      rw [e, Bool.not_false, cond_true]; exact ⟨false, rfl, by simp⟩

theorem only_parent {y : Ty} (h2 : y.kind ≠ 2) (h3 : y.kind ≠ 3) : (f74 y).parent = -1 := by
  unfold f74
  simp only [letkE]
  rw [decide_eq_false h2, decide_eq_false h3, cond_false, cond_false]
  cases decide (y.kind = 4) with
  | true => rfl
  | false =>
    cases decide (y.kind = 5) with
    | true => rfl
    | false =>
      cases decide (y.kind = 6) with
      | true => rfl
      | false => cases decide (y.kind = 7) <;> rfl

theorem f76_any {t : Table} (c : Cut t) {ty : Int} {y : Ty} (hy : idx t.types ty = some y) {b : Subt} (hb : idx t.subs y.first = some b) (hp : y.kind ≠ 2 → y.kind ≠ 3 → y.parent = -1) : ∃ r, f76 t ty = some r ∧ (r = true → TyOk t ty y) := by
  obtain ⟨r1, p1, p2⟩ := f91_any c hy
  unfold f76
  rw [hy, obind, hb, obind, p1]
  by_cases h2 : y.kind = 2
  · rw [decide_eq_true h2, cond_true, obind]
    refine ⟨_, rfl, fun h => ⟨.inl h2, fun h => by omega, fun h => by omega, ?_⟩⟩
    simp only [Bool.and_eq_true] at h
    rcases p2 h.1.1 with h | ⟨q1, q2, q3⟩
    · exact .inl h
    · exact .inr ⟨.inl h2, q1, q2, q3⟩
  rw [decide_eq_false h2, cond_false]
  by_cases h3 : y.kind = 3
  · rw [decide_eq_true h3, cond_true]
    have fin : r1 = true → TyOk t ty y := fun h => ⟨.inr (.inl h3), fun h => by omega, fun h => by omega, by
      rcases p2 h with h | ⟨q1, q2, q3⟩
      · exact .inl h
      · exact .inr ⟨.inr h3, q1, q2, q3⟩⟩
    cases decide (y.formal = 9) with
    | true =>
      rw [cond_true, obind]
      refine ⟨_, rfl, fun h => fin ?_⟩
      simp only [Bool.and_eq_true] at h
      exact h.1.1
    | false =>
      obtain ⟨r2, e1, e2⟩ := f92_any y.lits (c.ty y (idx_mem hy)).lits
      rw [cond_false, obind, e1, obind, bsome, obind]
      refine ⟨_, rfl, fun h => fin ?_⟩
      simp only [Bool.and_eq_true] at h
      exact h.1.1.1.1.1.1
  rw [decide_eq_false h3, cond_false]
  have hpar := hp h2 h3
  by_cases h4 : y.kind = 4
  · rw [decide_eq_true h4, cond_true, f78_eq c.toGTab _ (by omega) (by omega), obind, f93_eq, obind, bsome, obind]
    refine ⟨_, rfl, fun h => ⟨.inr (.inr (.inl h4)), fun _ => ?_, fun h => by omega, .inl hpar⟩⟩
    simp only [Bool.and_eq_true, decide_eq_true_eq] at h
    exact h
  rw [decide_eq_false h4, cond_false]
  by_cases h5 : y.kind = 5
  · obtain ⟨r2, e1, e2⟩ := f94_any c hy
    rw [decide_eq_true h5, cond_true, e1, obind]
    refine ⟨_, rfl, fun h => ⟨.inr (.inr (.inr (.inl h5))), fun h => by omega, fun _ => e2 ?_, .inl hpar⟩⟩
    simp only [Bool.and_eq_true] at h
    exact h.1
  rw [decide_eq_false h5, cond_false]
  by_cases h6 : y.kind = 6
  · rw [decide_eq_true h6, cond_true, f93_eq, obind, f56_eq, obind, bsome, obind]
    exact ⟨_, rfl, fun _ => ⟨.inr (.inr (.inr (.inr (.inl h6)))), fun h => by omega, fun h => by omega, .inl hpar⟩⟩
  rw [decide_eq_false h6, cond_false]
  by_cases h7 : y.kind = 7
  · rw [decide_eq_true h7, cond_true]
    exact ⟨_, rfl, fun _ => ⟨.inr (.inr (.inr (.inr (.inr h7)))), fun h => by omega, fun h => by omega, .inl hpar⟩⟩
  rw [decide_eq_false h7, cond_false]
  exact ⟨false, rfl, by simp⟩

theorem f55_any {t : Table} (c : Cut t) {ty : Int} {y : Ty} (hy : idx t.types ty = some y) : ∃ r, f55 t ty = some r ∧ (r = true → TyOk t ty y) := by
  unfold f55
  rw [hy, obind]
  simp only [letkE]
  obtain ⟨r1, s1, s2⟩ := f53_any y (f74 y) (c.ty y (idx_mem hy))
  obtain ⟨r2, s3⟩ := f75_any y.name
  cases decide (y.kind = 1) with
  | true => rw [cond_true, cond_true]; exact ⟨false, rfl, by simp⟩
  | false =>
    rw [cond_false, s1, obind]
    cases hr1 : r1 with
    | false => rw [Bool.not_false, cond_true, cond_true]; exact ⟨false, rfl, by simp⟩
    | true =>
      rw [Bool.not_true, cond_false, s3, obind]
      have hpar := s2 hr1
      cases r2 with
      | false => rw [Bool.not_false, cond_true, cond_true]; exact ⟨false, rfl, by simp⟩
      | true =>
        rw [Bool.not_true, cond_false]
        have rest : ∃ r, (bif ((decide (y.priv = (-1))) && ((!decide (y.full = 0)) || (y.limited && (!decide (y.kind = 7))))) then some false else Option.bind (bif (f51 y.first (List.length t.subs : Int)) then (Option.bind (idx t.subs y.first) fun x90 => some (decide (x90.t = ty))) else some false) fun b89 =>
            Option.bind (bif b89 then (Option.bind (f76 t ty) fun r92 => some r92) else some false) fun b91 => some b91) = some r ∧ (r = true → TyOk t ty y) := by
          cases ((decide (y.priv = (-1))) && ((!decide (y.full = 0)) || (y.limited && (!decide (y.kind = 7))))) with
          | true => rw [cond_true]; exact ⟨false, rfl, by simp⟩
          | false =>
            rw [cond_false, idx_is]
            cases hb : idx t.subs y.first with
            | none => exact ⟨false, rfl, by simp⟩
            | some b =>
              rw [Option.isSome_some, cond_true, obind, obind]
              obtain ⟨r3, e1, e2⟩ := f76_any c hy hb (fun h2 h3 => hpar.trans (only_parent h2 h3))
              rw [e1, obind]
              cases decide (b.t = ty) with
              | false => exact ⟨false, rfl, by simp⟩
              | true => exact ⟨r3, rfl, e2⟩
        cases decide (y.level < 0) with
        | true => rw [cond_true, cond_true]; exact ⟨false, rfl, by simp⟩
        | false =>
          rw [cond_false]
          cases decide (y.priv < (-1)) with
          | true => rw [cond_true, cond_true]; exact ⟨false, rfl, by simp⟩
          | false =>
            rw [cond_false]
            cases decide (y.full < 0) with
            | true => rw [cond_true]; exact ⟨false, rfl, by simp⟩
            | false => rw [cond_false]; exact rest

structure SubOk (t : Table) (b : Subt) : Prop where
  ty : ∃ y, idx t.types b.t = some y ∧ b.t ≠ 0 ∧ (y.kind = 5 → y.disc ≠ -1 → (b.lo = 0 ∧ b.hi = -1) ∨ (b.lo = b.hi ∧ hasM t y.disc b.lo = true)) ∧ ((y.kind = 2 ∨ y.kind = 3) → -2147483648 ≤ b.lo ∧ b.hi ≤ 2147483647)
theorem f54_any {t : Table} (c : Cut t) {s : Int} {b : Subt} (hb : idx t.subs s = some b) : ∃ r, f54 t s = some r ∧ (r = true → SubOk t b) := by
  unfold f54
  rw [hb, obind, idx_is]
  cases hy : idx t.types b.t with
  | none => exact ⟨false, rfl, by simp⟩
  | some y =>
    rw [Option.isSome_some, Bool.not_true, Bool.false_or]
    by_cases h0 : b.t = 0
    · rw [decide_eq_true h0, cond_true]; exact ⟨false, rfl, by simp⟩
    rw [decide_eq_false h0, cond_false, obind]
    simp only [letkE]
    have hlit := c.lits y (idx_mem hy)
    have ok : ¬ (y.kind = 5 ∧ y.disc ≠ -1) → ((y.kind = 2 ∨ y.kind = 3) → -2147483648 ≤ b.lo ∧ b.hi ≤ 2147483647) → SubOk t b := fun h g => ⟨y, hy, h0, fun h5 hd => absurd ⟨h5, hd⟩ h, g⟩
    by_cases h2 : y.kind = 2
    · rw [decide_eq_true h2, cond_true]
      refine ⟨_, rfl, fun h => ok (by omega) (fun _ => ?_)⟩
      simp only [Bool.and_eq_true, decide_eq_true_eq] at h
      omega
    rw [decide_eq_false h2, cond_false]
    by_cases h3 : y.kind = 3
    · rw [decide_eq_true h3, cond_true]
      cases decide (y.formal = 9) with
      | true =>
        refine ⟨_, rfl, fun h => ok (by omega) (fun _ => ?_)⟩
        simp only [Bool.and_eq_true, decide_eq_true_eq] at h
        omega
      | false =>
        refine ⟨_, rfl, fun h => ok (by omega) (fun _ => ?_)⟩
        simp only [Bool.and_eq_true, decide_eq_true_eq] at h
        omega
    rw [decide_eq_false h3, cond_false]
    by_cases h5 : y.kind = 5
    · rw [decide_eq_true h5, cond_true]
      by_cases hd : y.disc = -1
      · rw [decide_eq_true hd, Bool.not_true, cond_false]; exact ⟨_, rfl, fun _ => ok (by simp [hd]) (by omega)⟩
      · rw [decide_eq_false hd, Bool.not_false, cond_true, f45_eq, obind, bsome, obind, bsome_true, obind]
        refine ⟨_, rfl, fun h => ⟨y, hy, h0, fun _ _ => ?_, by omega⟩⟩
        simp only [Bool.or_eq_true, Bool.and_eq_true, decide_eq_true_eq] at h
        exact h
    · rw [decide_eq_false h5, cond_false]; exact ⟨_, rfl, fun _ => ok (by simp [h5]) (by omega)⟩

structure MayOk (t : Table) : Prop where
  sub : ∀ b ∈ t.subs, SubOk t b
  ty : ∀ (i : Nat) (y : Ty), 1 ≤ i → t.types[i]? = some y → TyOk t i y
  zero : ∀ y, t.types[0]? = some y → y.parent = -1

theorem f24_l2_any {t : Table} (c : Cut t) (k : Unit → Option Bool) (hk : ∃ r, k () = some r) : ∀ (n i : Nat) (z : Int), z = i → i ≤ t.types.length → t.types.length - i < n →
    ∃ r, f24_l2 t k n z = some r ∧ (r = true → ∀ (j : Nat) y, i ≤ j → t.types[j]? = some y → TyOk t j y)
  | 0, i, z, _, _, h => by omega
  | n + 1, i, z, hz, hi, hn => by
    subst hz
    have hb := c.tyn
    unfold f24_l2
    by_cases hil : i < t.types.length
    · have hy : idx t.types (i : Int) = some t.types[i] := by rw [idx_nat, List.getElem?_eq_getElem hil]
      obtain ⟨r1, h1, h2⟩ := f55_any c hy
      rw [decide_eq_true (by omega), cond_true, h1, obind, w64 (by omega) (by omega)]
      cases r1 with
      | false => exact ⟨false, rfl, by simp⟩
      | true =>
        obtain ⟨r, h3, h4⟩ := f24_l2_any c k hk n (i + 1) ((i : Int) + 1) (by omega) (by omega) (by omega)
        refine ⟨r, h3, fun hr j y hj hjy => ?_⟩
        by_cases hji : j = i
        · subst hji
          rw [List.getElem?_eq_getElem hil] at hjy
          simp only [Option.some.injEq] at hjy
          subst hjy
          exact h2 rfl
        · exact h4 hr j y (by omega) hjy
    · rw [decide_eq_false (by omega), cond_false]
      obtain ⟨r, h1⟩ := hk
      refine ⟨r, h1, fun _ j y hj hjy => ?_⟩
      have := (List.getElem?_eq_some_iff.1 hjy).1
      omega
theorem f24_l1_any {t : Table} (c : Cut t) (k : Unit → Option Bool) (P : Prop) (hk : ∃ r, k () = some r ∧ (r = true → P)) : ∀ (n i : Nat) (z : Int), z = i → i ≤ t.subs.length → t.subs.length - i < n →
    ∃ r, f24_l1 t k n z = some r ∧ (r = true → P ∧ ∀ b ∈ t.subs.drop i, SubOk t b)
  | 0, i, z, _, _, h => by omega
  | n + 1, i, z, hz, hi, hn => by
    subst hz
    have hb := c.subn
    unfold f24_l1
    by_cases hil : i < t.subs.length
    · have hy : idx t.subs (i : Int) = some t.subs[i] := by rw [idx_nat, List.getElem?_eq_getElem hil]
      obtain ⟨r1, h1, h2⟩ := f54_any c hy
      rw [decide_eq_true (by omega), cond_true, h1, obind, w64 (by omega) (by omega)]
      cases r1 with
      | false => exact ⟨false, rfl, by simp⟩
      | true =>
        obtain ⟨r, h3, h4⟩ := f24_l1_any c k P hk n (i + 1) ((i : Int) + 1) (by omega) (by omega) (by omega)
        refine ⟨r, h3, fun hr => ⟨(h4 hr).1, fun b hbm => ?_⟩⟩
        rw [List.drop_eq_getElem_cons hil] at hbm
        rcases List.mem_cons.1 hbm with rfl | hbm
        · exact h2 rfl
        · exact (h4 hr).2 b hbm
    · rw [decide_eq_false (by omega), cond_false, List.drop_of_length_le (by omega)]
      obtain ⟨r, h1, h2⟩ := hk
      exact ⟨r, h1, fun hr => ⟨h2 hr, by simp⟩⟩
theorem f24_any {t : Table} (c : Cut t) : ∃ r, f24 t = some r ∧ (r = true → MayOk t) := by
  have h1 := c.tyn
  have h2 := c.subn
  unfold f24
  simp only [letkE]
  by_cases h0 : t.types.length < 1
  · rw [decide_eq_true (show (t.types.length : Int) < 1 by omega), cond_true, cond_true]; exact ⟨false, rfl, by simp⟩
  rw [decide_eq_false (show ¬ (t.types.length : Int) < 1 by omega), decide_eq_false (show ¬ (t.types.length : Int) > 256 by omega), decide_eq_false (show ¬ (t.subs.length : Int) > 512 by omega), cond_false, cond_false, cond_false]
  obtain ⟨y, hy, hym⟩ := idx_some (l := t.types) (i := 0) (by omega) (by omega)
  obtain ⟨r1, s1, s2⟩ := f53_any y (f37 1) (c.ty y hym)
  rw [hy, obind, s1, obind]
  cases r1 with
  | false => rw [Bool.not_false, cond_true]; exact ⟨false, rfl, by simp⟩
  | true =>
    rw [Bool.not_true, cond_false]
    have q1 := f24_l2_any c (fun _ => some true) ⟨true, rfl⟩ 9223372036854775808 1 1 rfl (by omega) (by omega)
    obtain ⟨r, q2, q3⟩ := f24_l1_any c (fun _ => f24_l2 t (fun _ => some true) 9223372036854775808 1) _ q1 9223372036854775808 0 0 rfl (by omega) (by omega)
    refine ⟨r, q2, fun hr => ⟨fun b hb => (q3 hr).2 b (by simpa using hb), fun i y' hi hy' => (q3 hr).1 i y' hi hy', fun y' hy' => ?_⟩⟩
    have : idx t.types 0 = t.types[0]? := idx_nat t.types 0
    rw [this, hy'] at hy
    simp only [Option.some.injEq] at hy
    subst hy
    exact (s2 rfl).trans rfl
end Go.Proofs.YteafckpdbmncfaaDoor
namespace Go.Proofs.YteafckpdbmncfaaDoor
open Go Go.Sk

end Go.Proofs.YteafckpdbmncfaaDoor
namespace Go.Proofs.YteafckpdbmncfaaDoor
open Go Go.Sk

theorem root_spec (t : Table) : ∀ (m : Nat) (ty : Int) (y : Ty), idx t.types ty = some y → 0 ≤ ty → ty < m →
    ∃ z, idx t.types (rootM t m ty) = some z ∧ 0 ≤ rootM t m ty ∧ rootM t m ty ≤ ty ∧ ¬ (0 ≤ z.parent ∧ z.parent < rootM t m ty) ∧ (MayOk t → z.kind = y.kind ∧ (rootM t m ty = ty ∨ y.kind = 2 ∨ y.kind = 3))
  | 0, ty, y, _, h0, h1 => by omega
  | m + 1, ty, y, hy, h0, h1 => by
    unfold rootM
    rw [hy]
    simp only
    by_cases hp : 0 ≤ y.parent ∧ y.parent < ty
    · have hl := idx_lt hy
      obtain ⟨p, hpp, _⟩ := idx_some (l := t.types) hp.1 (by omega)
      obtain ⟨z, q1, q2, q3, q4, q5⟩ := root_spec t m y.parent p hpp hp.1 (by omega)
      rw [if_pos hp]
      refine ⟨z, q1, q2, by omega, q4, fun mk => ?_⟩
      have htk := mk.ty ty.toNat y (by omega) (idx_get hy)
      rcases htk.parent with h | ⟨h2, _, _, p', hp', hk⟩
      · omega
      · rw [hpp] at hp'
        simp only [Option.some.injEq] at hp'
        subst hp'
        exact ⟨(q5 mk).1.trans hk, .inr h2⟩
    · rw [if_neg hp]
      exact ⟨y, hy, h0, Int.le_refl _, hp, fun _ => ⟨rfl, .inl rfl⟩⟩
theorem root_root {t : Table} (c : Cut t) {ty : Int} {y : Ty} (hy : idx t.types ty = some y) : rootT t (rootT t ty) = rootT t ty ∧ (MayOk t → convM t ty (rootT t ty) = true) := by
  have h0 := idx_nonneg hy
  have hl := idx_lt hy
  have ht := c.tyn
  have e : rootT t ty = rootM t 100 ty := by unfold rootT; rw [hy]
  obtain ⟨z, q1, q2, q3, q4, q5⟩ := root_spec t 100 ty y hy h0 (by omega)
  rw [← e] at q1 q2 q3 q4 q5
  have hrr : rootT t (rootT t ty) = rootT t ty := by
    have hgen : ∀ R, idx t.types R = some z → rootT t R = rootM t 100 R := fun R h => by unfold rootT; rw [h]
    have := hgen _ q1
    rw [this]
    unfold rootM
    rw [q1]
    simp only
    rw [if_neg q4]
  refine ⟨hrr, fun mk => ?_⟩
  obtain ⟨k1, k2⟩ := q5 mk
  unfold convM
  rw [hy, q1]
  simp only [Bool.or_eq_true, Bool.and_eq_true, decide_eq_true_eq]
  rcases k2 with k | k | k
  · exact .inl (.inl (.inl k.symm))
  · right
    unfold wholeM
    rw [k1, k]; exact ⟨rfl, rfl⟩
  · left; left; right
    exact ⟨⟨k, k1.trans k⟩, hrr.symm⟩

theorem alike_symm (t : Table) (a b : Int) : alikeM t a b = alikeM t b a := by
  unfold alikeM
  cases idx t.subs a with
  | none => cases idx t.subs b <;> rfl
  | some x =>
    cases idx t.subs b with
    | none => rfl
    | some y =>
      simp only [decide_eq_decide]
      constructor <;> (rintro ⟨h1, h2, h3⟩; exact ⟨h1.symm, h2.symm, h3.symm⟩)
theorem alike_trans {t : Table} {a b c : Int} (h : alikeM t a b = true) (k : alikeM t b c = true) : alikeM t a c = true := by
  unfold alikeM at *
  cases ha : idx t.subs a with
  | none => rw [ha] at h; cases h
  | some x =>
    cases hb : idx t.subs b with
    | none => rw [ha, hb] at h; cases h
    | some y =>
      cases hc : idx t.subs c with
      | none => rw [hb, hc] at k; cases k
      | some z =>
        rw [ha, hb] at h
        rw [hb, hc] at k
        simp only [decide_eq_true_eq] at *
        omega
theorem conv_symm (t : Table) (a b : Int) : convM t a b = convM t b a := by
  unfold convM
  cases idx t.types a with
  | none => cases idx t.types b <;> rfl
  | some x =>
    cases idx t.types b with
    | none => rfl
    | some y =>
      simp only
      rw [alike_symm t y.target x.target, Bool.and_comm (wholeM y.kind)]
      have e1 : decide (a = b) = decide (b = a) := decide_eq_decide.2 ⟨Eq.symm, Eq.symm⟩
      have e2 : decide (rootT t a = rootT t b) = decide (rootT t b = rootT t a) := decide_eq_decide.2 ⟨Eq.symm, Eq.symm⟩
      rw [e1, e2, Bool.and_comm (decide (x.kind = 3)), Bool.and_comm (decide (x.kind = 6))]
theorem conv_trans {t : Table} {a b c : Int} (h : convM t a b = true) (k : convM t b c = true) : convM t a c = true := by
  unfold convM at *
  cases ha : idx t.types a with
  | none => rw [ha] at h; cases h
  | some x =>
    cases hb : idx t.types b with
    | none => rw [ha, hb] at h; cases h
    | some y =>
      cases hc : idx t.types c with
      | none => rw [hb, hc] at k; cases k
      | some z =>
        rw [ha, hb] at h
        rw [hb, hc] at k
        simp only [Bool.or_eq_true, Bool.and_eq_true, decide_eq_true_eq, wholeM] at *
        rcases h with ((h | h) | h) | h
        · subst h
          rw [ha] at hb
          simp only [Option.some.injEq] at hb
          subst hb
          exact k
        · rcases k with ((k | k) | k) | k
          · subst k
            rw [hb] at hc
            simp only [Option.some.injEq] at hc
            subst hc
            exact .inl (.inl (.inr h))
          · exact .inl (.inl (.inr ⟨⟨h.1.1, k.1.2⟩, h.2.trans k.2⟩))
          · omega
          · omega
        · rcases k with ((k | k) | k) | k
          · subst k
            rw [hb] at hc
            simp only [Option.some.injEq] at hc
            subst hc
            exact .inl (.inr h)
          · omega
          · exact .inl (.inr ⟨⟨h.1.1, k.1.2⟩, alike_trans h.2 k.2⟩)
          · omega
        · rcases k with ((k | k) | k) | k
          · subst k
            rw [hb] at hc
            simp only [Option.some.injEq] at hc
            subst hc
            exact .inr h
          · omega
          · omega
          · exact .inr ⟨h.1, k.2⟩

theorem f5_l3_eq {t : Table} (c : Cut t) (a b : Int) (k : Unit → Option Bool) (m : Nat) (hm : (m : Int) = (if 12 < (List.length t.types : Int) then 12 else (List.length t.types : Int))) (hm2 : m ≤ 12) : ∀ (n i : Nat) (z : Int), z = i → i ≤ m → m - i < n → f5_l3 t a b k n z = k ()
  | 0, i, z, _, _, h => by omega
  | n + 1, i, z, hz, hi, hn => by
    subst hz
    unfold f5_l3
    rw [← hm]
    by_cases hil : i < m
    · rw [decide_eq_true (by omega), cond_true, w64 (by omega) (by omega), f5_l3_eq c a b k m hm hm2 n (i + 1) ((i : Int) + 1) (by omega) (by omega) (by omega)]
      simp only [f18_eq c, obind, bsome]
      cases h1 : convM t a b with
      | false => simp
      | true =>
        cases h2 : convM t b (i : Int) with
        | false => simp
        | true => simp [conv_trans h1 h2]
    · rw [decide_eq_false (by omega), cond_false]
theorem f5_l2_eq {t : Table} (c : Cut t) (a : Int) (k : Unit → Option Bool) (m : Nat) (hm : (m : Int) = (if 12 < (List.length t.types : Int) then 12 else (List.length t.types : Int))) (hm2 : m ≤ 12) : ∀ (n i : Nat) (z : Int), z = i → i ≤ m → m - i < n → f5_l2 t a k n z = k ()
  | 0, i, z, _, _, h => by omega
  | n + 1, i, z, hz, hi, hn => by
    subst hz
    unfold f5_l2
    rw [← hm]
    by_cases hil : i < m
    · rw [decide_eq_true (by omega), cond_true, w64 (by omega) (by omega), f5_l2_eq c a k m hm hm2 n (i + 1) ((i : Int) + 1) (by omega) (by omega) (by omega), letkE,
        f5_l3_eq c a (i : Int) _ m hm hm2 9223372036854775808 0 0 rfl (by omega) (by omega), f18_eq c, obind, f18_eq c, obind, conv_symm t (i : Int) a, beq_self_eq_true, Bool.not_true, cond_false]
    · rw [decide_eq_false (by omega), cond_false]
theorem f5_l1_eq {t : Table} (c : Cut t) (k : Unit → Option Bool) (m : Nat) (hm : (m : Int) = (if 12 < (List.length t.types : Int) then 12 else (List.length t.types : Int))) (hm2 : m ≤ 12) (hml : m ≤ t.types.length) : ∀ (n i : Nat) (z : Int), z = i → i ≤ m → m - i < n → f5_l1 t k n z = k ()
  | 0, i, z, _, _, h => by omega
  | n + 1, i, z, hz, hi, hn => by
    subst hz
    unfold f5_l1
    rw [← hm]
    by_cases hil : i < m
    · obtain ⟨y, hy, _⟩ := idx_some (l := t.types) (i := (i : Int)) (by omega) (by omega)
      obtain ⟨r1, r2⟩ := root_root c hy
      have hcc : convM t (i : Int) (i : Int) = true := by unfold convM; rw [hy]; simp
      obtain ⟨rm, m1, m2⟩ := f24_any c
      rw [decide_eq_true (by omega), cond_true, w64 (by omega) (by omega), f5_l1_eq c k m hm hm2 hml n (i + 1) ((i : Int) + 1) (by omega) (by omega) (by omega), letkE,
        f5_l2_eq c (i : Int) _ m hm hm2 9223372036854775808 0 0 rfl (by omega) (by omega), f22_eq c, obind, f18_eq c, obind, hcc, Bool.not_true, cond_false, m1, obind]
      have e : (Option.bind (bif rm then (Option.bind (f18 t (i : Int) (rootT t (i : Int))) fun r127 => some (!r127)) else some false) fun b126 => some b126) = some false := by
        rw [f18_eq c, obind]
        cases rm with
        | false => rfl
        | true => rw [r2 (m2 rfl)]; rfl
      rw [e, obind, cond_false, f22_eq c, obind, r1, obind, decide_eq_true rfl, Bool.not_true, cond_false]
    · rw [decide_eq_false (by omega), cond_false]
theorem f5_l5_eq (t : Table) (hb : t.subs.length ≤ 60) (a : Nat) (ha : a < t.subs.length) (k : Unit → Option Bool) : ∀ (n i : Nat) (z : Int), z = i → i ≤ t.subs.length → t.subs.length - i < n → f5_l5 t a k n z = k ()
  | 0, i, z, _, _, h => by omega
  | n + 1, i, z, hz, hi, hn => by
    subst hz
    unfold f5_l5
    by_cases hil : i < t.subs.length
    · rw [decide_eq_true (by omega), cond_true, w64 (by omega) (by omega), f5_l5_eq t hb a ha k n (i + 1) ((i : Int) + 1) (by omega) (by omega) (by omega), f20_eq, obind, idx_nat, List.getElem?_eq_getElem ha, obind, idx_nat, List.getElem?_eq_getElem hil, obind, and3]
      unfold alikeM
      rw [idx_nat, List.getElem?_eq_getElem ha, idx_nat, List.getElem?_eq_getElem hil]
      simp only [beq_self_eq_true, Bool.not_true, cond_false]
    · rw [decide_eq_false (by omega), cond_false]
theorem f5_l4_eq (t : Table) (hb : t.subs.length ≤ 60) (k : Unit → Option Bool) : ∀ (n i : Nat) (z : Int), z = i → i ≤ t.subs.length → t.subs.length - i < n → f5_l4 t k n z = k ()
  | 0, i, z, _, _, h => by omega
  | n + 1, i, z, hz, hi, hn => by
    subst hz
    unfold f5_l4
    by_cases hil : i < t.subs.length
    · rw [decide_eq_true (by omega), cond_true, w64 (by omega) (by omega), f5_l4_eq t hb k n (i + 1) ((i : Int) + 1) (by omega) (by omega) (by omega), letkE,
        f5_l5_eq t hb i hil _ (Int.toNat ((t.subs.length : Int) - 0) + 1) 0 0 rfl (by omega) (by omega)]
    · rw [decide_eq_false (by omega), cond_false]
/-- TableKinship -/
theorem law5 {t : Table} (g : GTab t) : f5 t = some true := by
  unfold f5
  have c := cut_good g
  rw [f10_eq, obind]
  generalize hu : cutM t = u at *
  have h1 := c.subn
  have h2 := c.tyn
  obtain ⟨m, hm, hm2, hm3⟩ : ∃ m : Nat, (m : Int) = (if 12 < (List.length u.types : Int) then 12 else (List.length u.types : Int)) ∧ m ≤ 12 ∧ m ≤ u.types.length := by
    split
    · exact ⟨12, rfl, by omega, by omega⟩
    · exact ⟨u.types.length, rfl, by omega, by omega⟩
  rw [letkE, f5_l1_eq c _ m hm hm2 hm3 9223372036854775808 0 0 rfl (by omega) (by omega), letkE, f5_l4_eq u h1 _ (Int.toNat ((u.subs.length : Int) - 0) + 1) 0 0 rfl (by omega) (by omega), works, obind]

/-! ### TableDefault -/
def badM (t : Table) (x : Int) : Bool := (rangeM t x).2.2 && decide ((rangeM t x).1 > (rangeM t x).2.1)
end Go.Proofs.YteafckpdbmncfaaDoor
