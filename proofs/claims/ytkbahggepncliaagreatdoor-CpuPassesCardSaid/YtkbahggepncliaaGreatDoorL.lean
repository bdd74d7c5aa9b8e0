/- Part of the proof. -/
import Derived.KernelRfl
import Derived.Test.YtkbahggepncliaaGreatDoorO
set_option linter.unusedVariables false
set_option linter.unusedSimpArgs false
set_option linter.unusedSectionVars false
set_option linter.unnecessarySimpa false
namespace Go.Proofs.YtkbahggepncliaaGreatDoor
open Go Go.Sk
set_option maxRecDepth 100000
theorem f9_ok : f9 = some true := by decide +kernel
end Go.Proofs.YtkbahggepncliaaGreatDoor
set_option maxRecDepth 10000
namespace Go.Proofs.YtkbahggepncliaaGreatDoor
open Go Go.Sk
theorem w64 {x : Int} (h1 : -9223372036854775808 ≤ x) (h2 : x ≤ 9223372036854775807) : IntKind.i64.wrap x = x := by
  rw [IntKind.wrap_i64]; omega
theorem letk_eq {α β : Sort _} (k : α) (f : α → β) : letk k f = f k := rfl
theorem idx_in {α : Type} {L : List α} {i : Nat} (h : i < L.length) : idx L (i : Int) = some L[i] := by
  unfold idx
  rw [decide_eq_true (Int.natCast_nonneg i)]
  simp [h]
theorem idx_out {α : Type} {L : List α} {i : Int} (h : ¬ (0 ≤ i ∧ i < L.length)) : idx L i = none := by
  unfold idx
  by_cases h0 : 0 ≤ i
  · rw [decide_eq_true h0, cond_true]
    exact List.getElem?_eq_none (by omega)
  · rw [decide_eq_false h0, cond_false]
theorem idx_some {α : Type} {L : List α} {i : Int} {x : α} (h : idx L i = some x) : 0 ≤ i ∧ i < L.length := ⟨idx_nonneg h, idx_lt h⟩
theorem idx_get_in {α : Type} {L : List α} {i : Int} (h : 0 ≤ i ∧ i < L.length) : ∃ x, idx L i = some x ∧ x ∈ L := by
  obtain ⟨n, rfl⟩ := Int.eq_ofNat_of_zero_le h.1
  exact ⟨_, idx_in (show n < L.length by omega), List.getElem_mem _⟩
theorem idx_mem {α : Type} {L : List α} {i : Int} {x : α} (h : idx L i = some x) : x ∈ L := List.mem_of_getElem? (idx_get h)
theorem drop_cons {α : Type} {L : List α} {i : Nat} (h : i < L.length) : L.drop i = L[i] :: L.drop (i + 1) := List.drop_eq_getElem_cons h
theorem guardB_t {α : Type} {c : Bool} (o : Option α) (h : c = true) : guardB c o = o := by rw [h]; rfl
def inM {κ : Type} [DecidableEq κ] (m : List (κ × Bool)) (x : κ) : Bool := Option.getD (mpGet m x) false
theorem f149_l1_eq (L : List Entry) (cb : Entry → Option Bool) (p : Entry → Bool) (hl : L.length < 9223372036854775808) : ∀ (n i : Nat) (z : Int), z = (i : Int) → i ≤ L.length → L.length < n + i → (∀ x ∈ L.drop i, cb x = some (p x)) → ∃ r, f149_l1 L cb (fun _ => some (-1)) n z = some r ∧ decide (r ≥ 0) = (L.drop i).any p
  | 0, i, z, _, _, h, _ => by omega
  | n + 1, i, z, hz, hi, h, hp => by
    subst hz
    rw [f149_l1]
    by_cases hh : i < L.length
    · rw [drop_cons hh] at hp ⊢
      rw [decide_eq_true (by omega : (i : Int) < (L.length : Int)), cond_true, idx_in hh, Option.bind_some, hp _ List.mem_cons_self, Option.bind_some, List.any_cons]
      cases hc : p L[i]
      · rw [cond_false, w64 (by omega) (by omega), Bool.false_or]
        exact f149_l1_eq L cb p hl n (i + 1) _ (by push_cast; rfl) (by omega) (by omega) (fun x hx => hp x (List.mem_cons_of_mem _ hx))
      · exact ⟨_, rfl, by rw [Bool.true_or]; exact decide_eq_true (by omega)⟩
    · rw [decide_eq_false (by omega : ¬ (i : Int) < (L.length : Int)), cond_false, List.drop_eq_nil_of_le (by omega)]
      exact ⟨_, rfl, rfl⟩
theorem f149_eq (L : List Entry) (cb : Entry → Option Bool) (p : Entry → Bool) (hl : L.length < 9223372036854775808) (hp : ∀ x ∈ L, cb x = some (p x)) : ∃ r, f149 L cb = some r ∧ decide (r ≥ 0) = L.any p := by
  unfold f149
  rw [letk_eq]
  exact f149_l1_eq L cb p hl _ 0 0 rfl (Nat.zero_le _) (by omega) hp
theorem f113_eq (L : List Entry) (cb : Entry → Option Bool) (p : Entry → Bool) (hl : L.length < 9223372036854775808) (hp : ∀ x ∈ L, cb x = some (p x)) : f113 L cb = some (L.any p) := by
  obtain ⟨r, h1, h2⟩ := f149_eq L cb p hl hp
  unfold f113
  rw [h1, Option.bind_some, h2]
theorem f158_l1_eq (L : List Int) (cb : Int → Option Bool) (p : Int → Bool) (hl : L.length < 9223372036854775808) : ∀ (n i : Nat) (z : Int), z = (i : Int) → i ≤ L.length → L.length < n + i → (∀ x ∈ L.drop i, cb x = some (p x)) → ∃ r, f158_l1 L cb (fun _ => some (-1)) n z = some r ∧ decide (r ≥ 0) = (L.drop i).any p
  | 0, i, z, _, _, h, _ => by omega
  | n + 1, i, z, hz, hi, h, hp => by
    subst hz
    rw [f158_l1]
    by_cases hh : i < L.length
    · rw [drop_cons hh] at hp ⊢
      rw [decide_eq_true (by omega : (i : Int) < (L.length : Int)), cond_true, idx_in hh, Option.bind_some, hp _ List.mem_cons_self, Option.bind_some, List.any_cons]
      cases hc : p L[i]
      · rw [cond_false, w64 (by omega) (by omega), Bool.false_or]
        exact f158_l1_eq L cb p hl n (i + 1) _ (by push_cast; rfl) (by omega) (by omega) (fun x hx => hp x (List.mem_cons_of_mem _ hx))
      · exact ⟨_, rfl, by rw [Bool.true_or]; exact decide_eq_true (by omega)⟩
    · rw [decide_eq_false (by omega : ¬ (i : Int) < (L.length : Int)), cond_false, List.drop_eq_nil_of_le (by omega)]
      exact ⟨_, rfl, rfl⟩
theorem f158_eq (L : List Int) (cb : Int → Option Bool) (p : Int → Bool) (hl : L.length < 9223372036854775808) (hp : ∀ x ∈ L, cb x = some (p x)) : ∃ r, f158 L cb = some r ∧ decide (r ≥ 0) = L.any p := by
  unfold f158
  rw [letk_eq]
  exact f158_l1_eq L cb p hl _ 0 0 rfl (Nat.zero_le _) (by omega) hp
theorem f128_eq (L : List Int) (cb : Int → Option Bool) (p : Int → Bool) (hl : L.length < 9223372036854775808) (hp : ∀ x ∈ L, cb x = some (p x)) : f128 L cb = some (L.any p) := by
  obtain ⟨r, h1, h2⟩ := f158_eq L cb p hl hp
  unfold f128
  rw [h1, Option.bind_some, h2]
theorem f123_l1_eq (L : List Insn) (cb : Insn → Option Bool) (p : Insn → Bool) (hl : L.length < 9223372036854775808) : ∀ (n i : Nat) (z : Int), z = (i : Int) → i ≤ L.length → L.length < n + i → (∀ x ∈ L.drop i, cb x = some (p x)) → ∃ r, f123_l1 L cb (fun _ => some (-1)) n z = some r ∧ decide (r ≥ 0) = (L.drop i).any p
  | 0, i, z, _, _, h, _ => by omega
  | n + 1, i, z, hz, hi, h, hp => by
    subst hz
    rw [f123_l1]
    by_cases hh : i < L.length
    · rw [drop_cons hh] at hp ⊢
      rw [decide_eq_true (by omega : (i : Int) < (L.length : Int)), cond_true, idx_in hh, Option.bind_some, hp _ List.mem_cons_self, Option.bind_some, List.any_cons]
      cases hc : p L[i]
      · rw [cond_false, w64 (by omega) (by omega), Bool.false_or]
        exact f123_l1_eq L cb p hl n (i + 1) _ (by push_cast; rfl) (by omega) (by omega) (fun x hx => hp x (List.mem_cons_of_mem _ hx))
      · exact ⟨_, rfl, by rw [Bool.true_or]; exact decide_eq_true (by omega)⟩
    · rw [decide_eq_false (by omega : ¬ (i : Int) < (L.length : Int)), cond_false, List.drop_eq_nil_of_le (by omega)]
      exact ⟨_, rfl, rfl⟩
theorem f123_eq (L : List Insn) (cb : Insn → Option Bool) (p : Insn → Bool) (hl : L.length < 9223372036854775808) (hp : ∀ x ∈ L, cb x = some (p x)) : ∃ r, f123 L cb = some r ∧ decide (r ≥ 0) = L.any p := by
  unfold f123
  rw [letk_eq]
  exact f123_l1_eq L cb p hl _ 0 0 rfl (Nat.zero_le _) (by omega) hp
theorem f76_eq (L : List Insn) (cb : Insn → Option Bool) (p : Insn → Bool) (hl : L.length < 9223372036854775808) (hp : ∀ x ∈ L, cb x = some (p x)) : f76 L cb = some (L.any p) := by
  obtain ⟨r, h1, h2⟩ := f123_eq L cb p hl hp
  unfold f76
  rw [h1, Option.bind_some, h2]
def spot (os : List Obj) (o from_ many : Int) : Bool := match idx os o with
  | some x => decide (0 ≤ from_) && decide (from_ ≤ IntKind.i64.wrap (x.size - many))
  | none => false
theorem f111_eq (t : Text) (o f m : Int) : f111 ⟨t⟩ o f m = some (spot t.objs o f m) := by
  unfold f111 spot
  by_cases h : 0 ≤ o ∧ o < t.objs.length
  · obtain ⟨x, hx, _⟩ := idx_get_in h
    dsimp only
    rw [hx, decide_eq_true (show o ≥ 0 from h.1), decide_eq_true h.2]
    by_cases hf : 0 ≤ f
    · rw [decide_eq_true (show f ≥ 0 from hf)]; rfl
    · rw [decide_eq_false (show ¬ f ≥ 0 from hf)]; rfl
  · dsimp only
    rw [idx_out h]
    have : (decide (o ≥ 0) && decide (o < (t.objs.length : Int))) = false := by
      rw [Bool.and_eq_false_iff]
      simp only [decide_eq_false_iff_not]
      omega
    rw [this]; rfl
theorem spot_in {os : List Obj} {o f m : Int} (h : spot os o f m = true) : ∃ x, idx os o = some x ∧ 0 ≤ f ∧ f ≤ IntKind.i64.wrap (x.size - m) := by
  unfold spot at h
  cases hx : idx os o with
  | none => rw [hx] at h; cases h
  | some x =>
    rw [hx] at h
    simp only [Bool.and_eq_true, decide_eq_true_eq] at h
    exact ⟨x, rfl, h⟩
def fits (o : Obj) (v : Int) : Bool := bif o.ptr then decide (v = 0) || o.set_.any (fun n => f129 n v) else decide (v ≥ o.lo) && decide (v ≤ o.hi)
theorem f79_eq (o : Obj) (v : Int) (hl : o.set_.length < 9223372036854775808) : f79 o v = some (fits o v) := by
  unfold f79 fits
  cases hp : o.ptr
  · rfl
  · rw [cond_true, cond_true]
    by_cases hv : v = 0
    · rw [decide_eq_true hv]; rfl
    · rw [decide_eq_false hv, f128_eq _ _ (fun n => f129 n v) hl (fun _ _ => rfl)]; rfl
def aim (os : List Obj) (x : Int) : Bool := match idx os x with
  | some y => decide (y.size = 1) && !y.ptr
  | none => false
def setOk (os : List Obj) : Int → List Int → Bool
  | _, [] => true
  | last, x :: r => decide (last < x) && aim os x && setOk os x r
def objOk (os : List Obj) (o : Obj) : Bool :=
  !((decide (o.size < 1) || decide (o.size > 16384)) || decide (o.lo > o.hi)) && bif !o.ptr then decide ((o.set_.length : Int) = 0) else setOk os (-1) o.set_ && (decide (o.lo = 0) && decide (o.hi = 0))
theorem f110_l1_eq (t : Text) (o : Obj) (r : Option Bool) (hl : o.set_.length < 9223372036854775808) : ∀ (n i : Nat) (z last : Int), z = (i : Int) → i ≤ o.set_.length → o.set_.length < n + i → -1 ≤ last →
    f110_l1 ⟨t⟩ o (fun _ => r) n last z = bif setOk t.objs last (o.set_.drop i) then r else some false
  | 0, i, z, last, _, _, h, _ => by omega
  | n + 1, i, z, last, hz, hi, h, hla => by
    subst hz
    rw [f110_l1]
    by_cases hh : i < o.set_.length
    · rw [drop_cons hh, setOk]
      rw [decide_eq_true (by omega : (i : Int) < (o.set_.length : Int)), cond_true, idx_in hh, Option.bind_some]
      generalize o.set_[i] = x
      dsimp only
      by_cases h1 : last < x
      · rw [decide_eq_true h1, decide_eq_false (show ¬ x ≤ last by omega), Bool.false_or, Bool.true_and]
        unfold aim
        by_cases h2 : x < t.objs.length
        · obtain ⟨y, hy, _⟩ := idx_get_in (L := t.objs) (i := x) (by omega)
          rw [decide_eq_false (show ¬ x ≥ (t.objs.length : Int) by omega), cond_false, hy]
          simp only [Option.bind_some]
          by_cases h3 : y.size = 1
          · rw [decide_eq_true h3]
            cases h4 : y.ptr
            · rw [w64 (by omega) (by omega)]
              exact f110_l1_eq t o r hl n (i + 1) _ x (by push_cast; rfl) (by omega) (by omega) (by omega)
            · rfl
          · rw [decide_eq_false h3]; rfl
        · rw [idx_out (by omega), decide_eq_true (show x ≥ (t.objs.length : Int) by omega)]; rfl
      · rw [decide_eq_false h1, decide_eq_true (show x ≤ last by omega)]; rfl
    · rw [decide_eq_false (by omega : ¬ (i : Int) < (o.set_.length : Int)), cond_false, List.drop_eq_nil_of_le (by omega)]
      rfl
theorem f110_eq (t : Text) (o : Obj) (hl : o.set_.length < 9223372036854775808) : f110 ⟨t⟩ o = some (objOk t.objs o) := by
  unfold f110 objOk
  cases h1 : (decide (o.size < 1) || decide (o.size > 16384)) || decide (o.lo > o.hi)
  · rw [cond_false, letk_eq, Bool.not_false, Bool.true_and]
    cases h2 : o.ptr
    · rfl
    · rw [Bool.not_true, cond_false, cond_false, f110_l1_eq t o _ hl _ 0 0 (-1) rfl (Nat.zero_le _) (by omega) (by omega), List.drop_zero]
      cases setOk t.objs (-1) o.set_ <;> rfl
  · rfl
def sumF (n : Int) (L : List Obj) : Int := L.foldl (fun n x => IntKind.i64.wrap (n + x.size)) n
theorem f68_l1_eq (t : Text) (k : Int → Option Bool) (hl : t.objs.length < 9223372036854775808) (hs : ∀ o ∈ t.objs, o.set_.length < 9223372036854775808) : ∀ (n i : Nat) (z a : Int), z = (i : Int) → i ≤ t.objs.length → t.objs.length < n + i →
    f68_l1 ⟨t⟩ k n a z = bif (t.objs.drop i).all (objOk t.objs) then k (sumF a (t.objs.drop i)) else some false
  | 0, i, z, a, _, _, h => by omega
  | n + 1, i, z, a, hz, hi, h => by
    subst hz
    rw [f68_l1]
    dsimp only
    by_cases hh : i < t.objs.length
    · rw [drop_cons hh, List.all_cons, decide_eq_true (by omega : (i : Int) < (t.objs.length : Int)), cond_true, idx_in hh, Option.bind_some, f110_eq t _ (hs _ (List.getElem_mem _)), Option.bind_some, w64 (x := (i : Int) + 1) (by omega) (by omega)]
      cases hc : objOk t.objs t.objs[i]
      · rfl
      · rw [Bool.not_true, cond_false, Bool.true_and, f68_l1_eq t k hl hs n (i + 1) _ _ (by push_cast; rfl) (by omega) (by omega)]
        rfl
    · rw [decide_eq_false (by omega : ¬ (i : Int) < (t.objs.length : Int)), cond_false, List.drop_eq_nil_of_le (by omega)]
      rfl
def initOk (os : List Obj) (x : Init) : Bool := spot os x.o x.slot 1 && (match idx os x.o with | some y => fits y x.v | none => false)
def initsOk (os : List Obj) : List ((Int × Int) × Bool) → List Init → Bool
  | _, [] => true
  | m, x :: r => (!(inM m (x.o, x.slot))) && initOk os x && initsOk os (mpPut m (x.o, x.slot) true) r
theorem f68_l2_eq (t : Text) (r : Option Bool) (hl : t.inits.length < 9223372036854775808) (hs : ∀ o ∈ t.objs, o.set_.length < 9223372036854775808) : ∀ (n i : Nat) (z : Int) (m : List ((Int × Int) × Bool)), z = (i : Int) → i ≤ t.inits.length → t.inits.length < n + i →
    f68_l2 ⟨t⟩ (fun _ => r) n z m = bif initsOk t.objs m (t.inits.drop i) then r else some false
  | 0, i, z, m, _, _, h => by omega
  | n + 1, i, z, m, hz, hi, h => by
    subst hz
    rw [f68_l2]
    dsimp only
    by_cases hh : i < t.inits.length
    · rw [drop_cons hh, initsOk, decide_eq_true (by omega : (i : Int) < (t.inits.length : Int)), cond_true, idx_in hh, Option.bind_some]
      generalize t.inits[i] = x
      rw [f111_eq, w64 (by omega) (by omega), f68_l2_eq t r hl hs n (i + 1) _ _ (by push_cast; rfl) (by omega) (by omega)]
      show Option.bind (bif inM m (x.o, x.slot) then _ else _) _ = _
      cases hm : inM m (x.o, x.slot)
      · unfold initOk
        cases hsp : spot t.objs x.o x.slot 1
        · rfl
        · obtain ⟨y, hy, _⟩ := spot_in hsp
          rw [hy]
          simp only [Bool.not_false, Bool.not_true, Option.bind_some, cond_false, Bool.true_and]
          rw [f79_eq _ _ (hs _ (idx_mem hy))]
          cases fits y x.v <;> rfl
      · rfl
    · rw [decide_eq_false (by omega : ¬ (i : Int) < (t.inits.length : Int)), cond_false, List.drop_eq_nil_of_le (by omega)]
      rfl
def objsB (t : Text) : Bool := !((decide ((t.objs.length : Int) > 4096) || decide (t.excs < 4)) || decide (t.excs > 64)) && (t.objs.all (objOk t.objs) && (initsOk t.objs [] t.inits && decide (sumF 0 t.objs ≤ 65536)))
theorem f68_eq (t : Text) (hl : t.inits.length < 9223372036854775808) (hs : ∀ o ∈ t.objs, o.set_.length < 9223372036854775808) : f68 ⟨t⟩ = some (objsB t) := by
  unfold f68 objsB
  dsimp only
  cases h1 : (decide ((t.objs.length : Int) > 4096) || decide (t.excs < 4)) || decide (t.excs > 64)
  · have hol : (t.objs.length : Int) ≤ 4096 := by
      simp only [Bool.or_eq_false_iff, decide_eq_false_iff_not] at h1
      omega
    rw [cond_false, letk_eq, f68_l1_eq t _ (by omega) hs _ 0 0 0 rfl (Nat.zero_le _) (by omega), letk_eq, f68_l2_eq t _ hl hs _ 0 0 [] rfl (Nat.zero_le _) (by omega)]
    simp only [List.drop_zero]
    cases t.objs.all (objOk t.objs) <;> cases initsOk t.objs [] t.inits <;> rfl
  · rfl
end Go.Proofs.YtkbahggepncliaaGreatDoor
set_option maxRecDepth 10000
namespace Go.Proofs.YtkbahggepncliaaGreatDoor
open Go Go.Sk
def at1 (t : Text) (a : Int) : Bool := decide (a ≥ 0) && decide (a < (t.insns.length : Int))
theorem f112_eq (t : Text) (a : Int) : f112 ⟨t⟩ a = at1 t a := rfl
theorem at1_iff {t : Text} {a : Int} : at1 t a = true ↔ 0 ≤ a ∧ a < (t.insns.length : Int) := by
  unfold at1; simp only [Bool.and_eq_true, decide_eq_true_eq, ge_iff_le]
def one1 (os : List Obj) (x : Int) : Bool := match idx os x with
  | some y => decide (y.size = 1)
  | none => false
theorem f150_eq (t : Text) (x : Int) : f150 x ⟨t⟩ = some (!(one1 t.objs x)) := by
  unfold f150 one1
  dsimp only
  by_cases h : 0 ≤ x ∧ x < t.objs.length
  · obtain ⟨y, hy, _⟩ := idx_get_in h
    rw [hy, decide_eq_false (show ¬ x < 0 by omega), decide_eq_false (show ¬ x ≥ (t.objs.length : Int) by omega)]
    rfl
  · rw [idx_out h]
    have : (decide (x < 0) || decide (x ≥ (t.objs.length : Int))) = true := by
      rw [Bool.or_eq_true]
      simp only [decide_eq_true_eq]
      omega
    rw [this]; rfl
def formals (os : List Obj) (l : List Int) : Bool := decide ((l.length : Int) ≤ 8) && l.all (one1 os)
theorem any_not {α : Type} (p : α → Bool) (L : List α) : (!(L.any fun x => !(p x))) = L.all p := by
  induction L with
  | nil => rfl
  | cons x L ih => rw [List.any_cons, List.all_cons, ← ih, Bool.not_or, Bool.not_not]
theorem f115_eq (t : Text) (l : List Int) : f115 ⟨t⟩ l = some (formals t.objs l) := by
  unfold f115 formals
  by_cases h : (l.length : Int) ≤ 8
  · rw [decide_eq_true h, cond_true, f128_eq l _ (fun x => !(one1 t.objs x)) (by omega) (fun x _ => f150_eq t x), Option.bind_some, any_not]
    rfl
  · rw [decide_eq_false h]; rfl
def entryOk (os : List Obj) (e : Entry) : Bool := formals os e.ins && formals os e.outs
theorem f114_eq (t : Text) (e : Entry) : f114 e ⟨t⟩ = some (!(entryOk t.objs e)) := by
  unfold f114 entryOk
  rw [f115_eq, f115_eq]
  cases formals t.objs e.ins <;> cases formals t.objs e.outs <;> rfl
def taskOk (t : Text) (x : MTask) : Bool := !(((((decide (x.prio < 0) || decide (x.prio > 31)) || (!(at1 t x.at_))) || decide (x.deadline < 0)) || decide (x.deadline > 2147483647)) || decide ((x.entries.length : Int) > 8)) && x.entries.all (entryOk t.objs)
theorem f69_l1_eq (t : Text) (r : Option Bool) (hl : t.tasks.length < 9223372036854775808) : ∀ (n i : Nat) (z : Int), z = (i : Int) → i ≤ t.tasks.length → t.tasks.length < n + i →
    f69_l1 ⟨t⟩ (fun _ => r) n z = bif (t.tasks.drop i).all (taskOk t) then r else some false
  | 0, i, z, _, _, h => by omega
  | n + 1, i, z, hz, hi, h => by
    subst hz
    rw [f69_l1]
    dsimp only
    by_cases hh : i < t.tasks.length
    · rw [drop_cons hh, List.all_cons, decide_eq_true (by omega : (i : Int) < (t.tasks.length : Int)), cond_true, idx_in hh, Option.bind_some, f112_eq]
      unfold taskOk
      generalize t.tasks[i] = x
      cases hc : ((((decide (x.prio < 0) || decide (x.prio > 31)) || (!(at1 t x.at_))) || decide (x.deadline < 0)) || decide (x.deadline > 2147483647)) || decide ((x.entries.length : Int) > 8)
      · have he : (x.entries.length : Int) ≤ 8 := by
          simp only [Bool.or_eq_false_iff, decide_eq_false_iff_not] at hc
          omega
        rw [cond_false, f113_eq x.entries _ (fun e => !(entryOk t.objs e)) (by omega) (fun e _ => f114_eq t e), Option.bind_some, ← any_not (entryOk t.objs), w64 (by omega) (by omega), f69_l1_eq t r hl n (i + 1) _ (by push_cast; rfl) (by omega) (by omega)]
        cases x.entries.any fun e => !(entryOk t.objs e) <;> rfl
      · rfl
    · rw [decide_eq_false (by omega : ¬ (i : Int) < (t.tasks.length : Int)), cond_false, List.drop_eq_nil_of_le (by omega)]
      rfl
def tasksB (t : Text) : Bool := !(decide ((t.tasks.length : Int) < 1) || decide ((t.tasks.length : Int) > 32)) && t.tasks.all (taskOk t)
theorem f69_eq (t : Text) : f69 ⟨t⟩ = some (tasksB t) := by
  unfold f69 tasksB
  dsimp only
  cases h1 : decide ((t.tasks.length : Int) < 1) || decide ((t.tasks.length : Int) > 32)
  · have hol : (t.tasks.length : Int) ≤ 32 := by
      simp only [Bool.or_eq_false_iff, decide_eq_false_iff_not] at h1
      omega
    rw [cond_false, letk_eq, f69_l1_eq t _ (by omega) _ 0 0 rfl (Nat.zero_le _) (by omega), List.drop_zero]
    cases t.tasks.all (taskOk t) <;> rfl
  · rfl
def listOk (n : Int) : List (Int × Bool) → List Int → Bool
  | _, [] => true
  | m, x :: r => (!((decide (x < 1) || decide (x ≥ n)) || inM m x)) && listOk n (mpPut m x true) r
theorem f70_l2_eq (t : Text) (l : List Int) (r : Option Bool) (hl : l.length < 9223372036854775808) : ∀ (n i : Nat) (z : Int) (m : List (Int × Bool)), z = (i : Int) → i ≤ l.length → l.length < n + i →
    f70_l2 ⟨t⟩ l (fun _ => r) n z m = bif listOk t.tasks.length m (l.drop i) then r else some false
  | 0, i, z, m, _, _, h => by omega
  | n + 1, i, z, m, hz, hi, h => by
    subst hz
    rw [f70_l2]
    dsimp only
    by_cases hh : i < l.length
    · rw [drop_cons hh, listOk, decide_eq_true (by omega : (i : Int) < (l.length : Int)), cond_true, idx_in hh, Option.bind_some, w64 (by omega) (by omega), f70_l2_eq t l r hl n (i + 1) _ _ (by push_cast; rfl) (by omega) (by omega)]
      show (bif (_ || inM m l[i]) then _ else _) = _
      cases (decide (l[i] < 1) || decide (l[i] ≥ (t.tasks.length : Int))) || inM m l[i] <;> rfl
    · rw [decide_eq_false (by omega : ¬ (i : Int) < (l.length : Int)), cond_false, List.drop_eq_nil_of_le (by omega)]
      rfl
def listB (t : Text) (l : List Int) : Bool := listOk t.tasks.length [] l && !(decide ((l.length : Int) > 32))
theorem f70_l1_eq (t : Text) (r : Option Bool) (hl : t.lists.length < 9223372036854775808) (hs : ∀ l ∈ t.lists, l.length < 9223372036854775808) : ∀ (n i : Nat) (z : Int), z = (i : Int) → i ≤ t.lists.length → t.lists.length < n + i →
    f70_l1 ⟨t⟩ (fun _ => r) n z = bif (t.lists.drop i).all (listB t) then r else some false
  | 0, i, z, _, _, h => by omega
  | n + 1, i, z, hz, hi, h => by
    subst hz
    rw [f70_l1]
    dsimp only
    by_cases hh : i < t.lists.length
    · rw [drop_cons hh, List.all_cons, decide_eq_true (by omega : (i : Int) < (t.lists.length : Int)), cond_true, letk_eq, idx_in hh, Option.bind_some, letk_eq]
      have hx := hs _ (List.getElem_mem hh)
      generalize t.lists[i] = x at hx
      unfold listB
      rw [f70_l2_eq t x _ hx _ 0 0 [] rfl (Nat.zero_le _) (by omega), w64 (by omega) (by omega), f70_l1_eq t r hl hs n (i + 1) _ (by push_cast; rfl) (by omega) (by omega), List.drop_zero]
      cases listOk t.tasks.length [] x <;> cases decide ((x.length : Int) > 32) <;> rfl
    · rw [decide_eq_false (by omega : ¬ (i : Int) < (t.lists.length : Int)), cond_false, List.drop_eq_nil_of_le (by omega)]
      rfl
def listsB (t : Text) : Bool := !(decide ((t.lists.length : Int) > 4096)) && t.lists.all (listB t)
theorem f70_eq (t : Text) (hs : ∀ l ∈ t.lists, l.length < 9223372036854775808) : f70 ⟨t⟩ = some (listsB t) := by
  unfold f70 listsB
  dsimp only
  cases h1 : decide ((t.lists.length : Int) > 4096)
  · have hol : (t.lists.length : Int) ≤ 4096 := by
      simp only [decide_eq_false_iff_not] at h1
      omega
    rw [cond_false, letk_eq, f70_l1_eq t _ (by omega) hs _ 0 0 rfl (Nat.zero_le _) (by omega), List.drop_zero]
    cases t.lists.all (listB t) <;> rfl
  · rfl
def altOk (t : Text) (obj : Int) (a : MAlt) : Bool :=
  at1 t a.at_ && (decide (a.guard = -1) || spot t.objs obj a.guard 1) &&
  bif decide (a.kind = 1) then (decide (a.entry ≥ 0) && decide (a.entry < 8)) && decide (a.time = 0)
  else bif decide (a.kind = 2) || decide (a.kind = 3) then decide (a.entry = 0) && spot t.objs obj a.time 1
  else decide (a.kind = 4) && decide ((IntKind.i64.wrap (BitVec.ofInt IntKind.i64.bits a.entry ||| BitVec.ofInt IntKind.i64.bits a.time).toNat) = 0)
theorem f155_eq (t : Text) (n o : Int) : f155 n ⟨t⟩ o = some (spot t.objs o n 1) := by
  unfold f155
  rw [f111_eq]; rfl
theorem f119_eq (t : Text) (o : Int) (a : MAlt) : f119 ⟨t⟩ o a = some (altOk t o a) := by
  unfold f119 altOk
  rw [f112_eq, f155_eq, f155_eq]
  simp only [letk_eq, Option.bind_some]
  cases at1 t a.at_
  · rfl
  · cases decide (a.guard = -1)
    · cases spot t.objs o a.guard 1
      · rfl
      · cases decide (a.kind = 1)
        · cases decide (a.kind = 2) <;> cases decide (a.kind = 3) <;> cases decide (a.entry = 0) <;> rfl
        · rfl
    · cases decide (a.kind = 1)
      · cases decide (a.kind = 2) <;> cases decide (a.kind = 3) <;> cases decide (a.entry = 0) <;> rfl
      · rfl
theorem f72_l2_eq (t : Text) (x : Select) (k : Int → Option Bool) (a b : Option Bool) (ha : ∀ i : Int, 0 ≤ i → k i = a) (hl : x.alts.length < 9223372036854775808) : ∀ (n i : Nat) (z : Int), z = (i : Int) → i ≤ x.alts.length → x.alts.length < n + i →
    f72_l2 ⟨t⟩ x k (fun _ => b) n z = bif (x.alts.drop i).all (altOk t x.obj) then b else a
  | 0, i, z, _, _, h => by omega
  | n + 1, i, z, hz, hi, h => by
    subst hz
    rw [f72_l2]
    by_cases hh : i < x.alts.length
    · rw [drop_cons hh, List.all_cons, decide_eq_true (by omega : (i : Int) < (x.alts.length : Int)), cond_true, idx_in hh, Option.bind_some, letk_eq, f119_eq, Option.bind_some]
      cases altOk t x.obj x.alts[i]
      · exact ha _ (by omega)
      · dsimp only
        rw [Bool.not_true, cond_false, w64 (by omega) (by omega), f72_l2_eq t x k a b ha hl n (i + 1) _ (by push_cast; rfl) (by omega) (by omega), Bool.true_and]
    · rw [decide_eq_false (by omega : ¬ (i : Int) < (x.alts.length : Int)), cond_false, List.drop_eq_nil_of_le (by omega)]
      rfl
def selOk (t : Text) (x : Select) : Bool := !((((decide ((x.alts.length : Int) < 1) || decide ((x.alts.length : Int) > 16)) || decide (x.obj < 0)) || decide (x.obj ≥ (t.objs.length : Int))) || ((!decide (x.else_ = -1)) && (!(at1 t x.else_)))) && x.alts.all (altOk t x.obj)
theorem f72_l1_eq (t : Text) (r : Option Bool) (hl : t.selects.length < 9223372036854775808) : ∀ (n i : Nat) (z : Int), z = (i : Int) → i ≤ t.selects.length → t.selects.length < n + i →
    f72_l1 ⟨t⟩ (fun _ => r) n z = bif (t.selects.drop i).all (selOk t) then r else some false
  | 0, i, z, _, _, h => by omega
  | n + 1, i, z, hz, hi, h => by
    subst hz
    rw [f72_l1]
    dsimp only
    by_cases hh : i < t.selects.length
    · rw [drop_cons hh, List.all_cons, decide_eq_true (by omega : (i : Int) < (t.selects.length : Int)), cond_true, idx_in hh, Option.bind_some, f112_eq]
      generalize t.selects[i] = x
      unfold selOk
      cases hc : (((decide ((x.alts.length : Int) < 1) || decide ((x.alts.length : Int) > 16)) || decide (x.obj < 0)) || decide (x.obj ≥ (t.objs.length : Int))) || ((!decide (x.else_ = -1)) && (!(at1 t x.else_)))
      · have he : (x.alts.length : Int) ≤ 16 := by
          simp only [Bool.or_eq_false_iff, decide_eq_false_iff_not] at hc
          omega
        simp only [letk_eq]
        rw [cond_false, f72_l2_eq t x _ (some false) _ (fun i h => by rw [decide_eq_true (show i ≥ 0 from h)]; rfl) (by omega) _ 0 0 rfl (Nat.zero_le _) (by omega), List.drop_zero, w64 (by omega) (by omega), f72_l1_eq t r hl n (i + 1) _ (by push_cast; rfl) (by omega) (by omega)]
        cases x.alts.all (altOk t x.obj) <;> rfl
      · rfl
    · rw [decide_eq_false (by omega : ¬ (i : Int) < (t.selects.length : Int)), cond_false, List.drop_eq_nil_of_le (by omega)]
      rfl
def selsB (t : Text) : Bool := !(decide ((t.selects.length : Int) > 1024)) && t.selects.all (selOk t)
theorem f72_eq (t : Text) : f72 ⟨t⟩ = some (selsB t) := by
  unfold f72 selsB
  dsimp only
  cases h1 : decide ((t.selects.length : Int) > 1024)
  · have hol : (t.selects.length : Int) ≤ 1024 := by
      simp only [decide_eq_false_iff_not] at h1
      omega
    rw [cond_false, letk_eq, f72_l1_eq t _ (by omega) _ 0 0 rfl (Nat.zero_le _) (by omega), List.drop_zero]
    cases t.selects.all (selOk t) <;> rfl
  · rfl
def nestOk (h g : MHandler) : Bool := !((!(decide (g.from_ ≥ h.from_) && decide (g.to ≤ h.to))) && decide ((if h.from_ > g.from_ then h.from_ else g.from_) < (if h.to < g.to then h.to else g.to)))
theorem sliceF_0 {α : Type} (L : List α) (i : Nat) : sliceF L 0 (i : Int) = L.take i := by simp [sliceF]
theorem f73_l2_eq (t : Text) (j : Nat) (h0 : MHandler) (r : Option Bool) (hj : j ≤ t.handlers.length) (hl : t.handlers.length < 9223372036854775808) : ∀ (n i : Nat) (z : Int), z = (i : Int) → i ≤ j → j < n + i →
    f73_l2 ⟨t⟩ (j : Int) (fun _ _ _ _ => r) h0 n z = bif ((t.handlers.take j).drop i).all (nestOk h0) then r else some false
  | 0, i, z, _, _, h => by omega
  | n + 1, i, z, hz, hi, h => by
    subst hz
    have hL : (t.handlers.take j).length = j := by rw [List.length_take]; omega
    rw [f73_l2]
    dsimp only
    rw [sliceF_0]
    by_cases hh : i < (t.handlers.take j).length
    · rw [drop_cons hh, List.all_cons, decide_eq_true (by omega : (i : Int) < ((t.handlers.take j).length : Int)), cond_true, idx_in hh, Option.bind_some, w64 (by omega) (by omega), f73_l2_eq t j h0 r hj hl n (i + 1) _ (by push_cast; rfl) (by omega) (by omega)]
      generalize (t.handlers.take j)[i] = g
      unfold nestOk
      cases (!(decide (g.from_ ≥ h0.from_) && decide (g.to ≤ h0.to))) && decide ((if h0.from_ > g.from_ then h0.from_ else g.from_) < (if h0.to < g.to then h0.to else g.to)) <;> rfl
    · rw [decide_eq_false (by omega : ¬ (i : Int) < ((t.handlers.take j).length : Int)), cond_false, List.drop_eq_nil_of_le (by omega)]
      rfl
def hdlBad (t : Text) (x : MHandler) : Bool := ((((decide (x.from_ < 0)) || (decide (x.from_ ≥ x.to))) || (decide (x.to > (t.insns.length : Int)))) || (!(at1 t x.at_))) || (f120 x x.at_)
def hdlsOk (t : Text) : List MHandler → List MHandler → Bool
  | _, [] => true
  | P, x :: r => (!(hdlBad t x)) && P.all (nestOk x) && hdlsOk t (P ++ [x]) r
theorem f73_l1_eq (t : Text) (r : Option Bool) (hl : t.handlers.length < 9223372036854775808) : ∀ (n i : Nat) (z : Int), z = (i : Int) → i ≤ t.handlers.length → t.handlers.length < n + i →
    f73_l1 ⟨t⟩ (fun _ => r) n z = bif hdlsOk t (t.handlers.take i) (t.handlers.drop i) then r else some false
  | 0, i, z, _, _, h => by omega
  | n + 1, i, z, hz, hi, h => by
    subst hz
    rw [f73_l1]
    dsimp only
    by_cases hh : i < t.handlers.length
    · have hL : (t.handlers.take i).length = i := by rw [List.length_take]; omega
      rw [drop_cons hh, hdlsOk, ← List.take_succ_eq_append_getElem hh, decide_eq_true (by omega : (i : Int) < (t.handlers.length : Int)), cond_true, letk_eq, idx_in hh, Option.bind_some, f112_eq, guardB_t _ (by simp [sliceOk]; omega), sliceF_0, w64 (by omega) (by omega), f73_l2_eq t i _ _ (by omega) hl _ 0 0 rfl (Nat.zero_le _) (by omega), f73_l1_eq t r hl n (i + 1) _ (by push_cast; rfl) (by omega) (by omega), List.drop_zero]
      generalize t.handlers[i] = x
      show (bif hdlBad t x then _ else _) = _
      cases hdlBad t x <;> cases (t.handlers.take i).all (nestOk x) <;> rfl
    · rw [decide_eq_false (by omega : ¬ (i : Int) < (t.handlers.length : Int)), cond_false, List.drop_eq_nil_of_le (by omega)]
      rfl
def hdlsB (t : Text) : Bool := !(decide ((t.handlers.length : Int) > 4096)) && hdlsOk t [] t.handlers
theorem f73_eq (t : Text) : f73 ⟨t⟩ = some (hdlsB t) := by
  unfold f73 hdlsB
  dsimp only
  cases h1 : decide ((t.handlers.length : Int) > 4096)
  · have hol : (t.handlers.length : Int) ≤ 4096 := by
      simp only [decide_eq_false_iff_not] at h1
      omega
    rw [cond_false, letk_eq, f73_l1_eq t _ (by omega) _ 0 0 rfl (Nat.zero_le _) (by omega), List.drop_zero, List.take_zero]
    cases hdlsOk t [] t.handlers <;> rfl
  · rfl
def lpOk (t : Text) (x : Loop) : Bool := (!((decide (x.head < 0) || decide (x.head > x.back)) || (!(at1 t x.back)))) && (match idx t.insns x.back with | some y => f121 y x.head | none => false) && !(decide (x.bound < 0) || decide (x.bound > 2147483647))
def lpsOk (t : Text) : List (Int × Bool) → List Loop → Bool
  | _, [] => true
  | m, x :: r => (!(inM m x.back)) && lpOk t x && lpsOk t (mpPut m x.back true) r
theorem f74_l1_eq (t : Text) (r : Option Bool) (hl : t.loops.length < 9223372036854775808) : ∀ (n i : Nat) (z : Int) (m : List (Int × Bool)), z = (i : Int) → i ≤ t.loops.length → t.loops.length < n + i →
    f74_l1 ⟨t⟩ (fun _ => r) n z m = bif lpsOk t m (t.loops.drop i) then r else some false
  | 0, i, z, m, _, _, h => by omega
  | n + 1, i, z, m, hz, hi, h => by
    subst hz
    rw [f74_l1]
    dsimp only
    by_cases hh : i < t.loops.length
    · rw [drop_cons hh, lpsOk, decide_eq_true (by omega : (i : Int) < (t.loops.length : Int)), cond_true, idx_in hh, Option.bind_some, f112_eq, w64 (by omega) (by omega), f74_l1_eq t r hl n (i + 1) _ _ (by push_cast; rfl) (by omega) (by omega)]
      generalize t.loops[i] = x
      unfold lpOk
      show Option.bind (bif (_ || inM m x.back) then _ else _) _ = _
      cases h1 : (decide (x.head < 0) || decide (x.head > x.back)) || (!(at1 t x.back))
      · cases inM m x.back
        · have h2 : at1 t x.back = true := by
            cases h : at1 t x.back
            · rw [h] at h1; simp at h1
            · rfl
          obtain ⟨y, hy, _⟩ := idx_get_in (at1_iff.1 h2)
          rw [hy]
          simp only [Option.bind_some, Bool.or_self, cond_false, Bool.not_false, Bool.true_and, Bool.or_assoc]
          cases f121 y x.head <;> cases (decide (x.bound < 0) || decide (x.bound > 2147483647)) <;> rfl
        · rfl
      · cases inM m x.back <;> rfl
    · rw [decide_eq_false (by omega : ¬ (i : Int) < (t.loops.length : Int)), cond_false, List.drop_eq_nil_of_le (by omega)]
      rfl
def lpsB (t : Text) : Bool := !(decide ((t.loops.length : Int) > 4096)) && lpsOk t [] t.loops
theorem f74_eq (t : Text) : f74 ⟨t⟩ = some (lpsB t) := by
  unfold f74 lpsB
  dsimp only
  cases h1 : decide ((t.loops.length : Int) > 4096)
  · have hol : (t.loops.length : Int) ≤ 4096 := by
      simp only [decide_eq_false_iff_not] at h1
      omega
    rw [cond_false, letk_eq, f74_l1_eq t _ (by omega) _ 0 0 [] rfl (Nat.zero_le _) (by omega), List.drop_zero]
    cases lpsOk t [] t.loops <;> rfl
  · rfl
def chk (t : Text) (a : Int) : Bool := match idx t.insns a with
  | some x => decide (x.op = 27) || decide (x.op = 28)
  | none => false
theorem f122_eq (t : Text) (a : Int) : f122 ⟨t⟩ a = some (chk t a) := by
  unfold f122 chk
  rw [f112_eq]
  dsimp only
  cases h : at1 t a
  · rw [idx_out (fun hh => by rw [at1_iff.2 hh] at h; cases h)]; rfl
  · obtain ⟨y, hy, _⟩ := idx_get_in (at1_iff.1 h)
    rw [hy]
    dsimp only [Option.bind_some, cond_true]
    cases decide (y.op = 27) <;> rfl
def ckOk (t : Text) : Int → List Check → Bool
  | _, [] => true
  | last, x :: r => ((decide (last < x.at_) && chk t x.at_) && !(decide (x.kind < 1) || decide (x.kind > 5))) && ckOk t x.at_ r
theorem f75_l1_eq (t : Text) (r : Option Bool) (hl : t.checks.length < 9223372036854775808) : ∀ (n i : Nat) (z last : Int), z = (i : Int) → i ≤ t.checks.length → t.checks.length < n + i →
    f75_l1 ⟨t⟩ (fun _ => r) n last z = bif ckOk t last (t.checks.drop i) then r else some false
  | 0, i, z, last, _, _, h => by omega
  | n + 1, i, z, last, hz, hi, h => by
    subst hz
    rw [f75_l1]
    dsimp only
    by_cases hh : i < t.checks.length
    · rw [drop_cons hh, ckOk, decide_eq_true (by omega : (i : Int) < (t.checks.length : Int)), cond_true, idx_in hh, Option.bind_some, f122_eq, w64 (by omega) (by omega), f75_l1_eq t r hl n (i + 1) _ _ (by push_cast; rfl) (by omega) (by omega)]
      generalize t.checks[i] = x
      by_cases h1 : last < x.at_
      · rw [decide_eq_true h1, decide_eq_false (show ¬ x.at_ ≤ last by omega)]
        cases chk t x.at_ <;> cases decide (x.kind < 1) <;> cases decide (x.kind > 5) <;> rfl
      · rw [decide_eq_false h1, decide_eq_true (show x.at_ ≤ last by omega)]; rfl
    · rw [decide_eq_false (by omega : ¬ (i : Int) < (t.checks.length : Int)), cond_false, List.drop_eq_nil_of_le (by omega)]
      rfl
theorem f75_eq (t : Text) (hl : t.checks.length < 9223372036854775808) : f75 ⟨t⟩ = some (ckOk t (-1) t.checks) := by
  unfold f75
  dsimp only
  rw [letk_eq, f75_l1_eq t _ hl _ 0 0 (-1) rfl (Nat.zero_le _) (by omega), List.drop_zero]
  cases ckOk t (-1) t.checks <;> rfl
end Go.Proofs.YtkbahggepncliaaGreatDoor
set_option maxRecDepth 10000
namespace Go.Proofs.YtkbahggepncliaaGreatDoor
open Go Go.Sk
def wantOf (os : List Obj) (ent : Int) (e : CExpr) : Bool × Int × Int × Int × Int × Int :=
  bif decide (e.kind = 1) then (true, 0, 0, e.n, 0, 0) else
  bif decide (e.kind = 2) then (bif spot os e.o e.off 1 && (match idx os e.o with | some y => !y.ptr | none => false) then (true, 0, 0, 0, e.o, e.off) else (false, 0, 0, 0, 0, 0)) else
  bif decide (e.kind = 14) then (decide (e.n ≥ 0) && decide (e.n < ent), 0, 0, e.n, 0, 0) else
  bif decide (e.kind = 4) then (true, 1, 18, 0, 0, 0) else
  bif decide (e.kind = 5) then (true, 2, (if (if 15 < e.op then 15 else e.op) > 7 then (if 15 < e.op then 15 else e.op) else 7), 0, 0, 0) else
  bif decide (e.kind = 6) || decide (e.kind = 7) then (true, 2, 0, 0, 0, 0) else (false, 0, 0, 0, 0, 0)
def shapeBad (os : List Obj) (ent : Int) (e : CExpr) : Bool :=
  ((((((((!(wantOf os ent e).1) || (!decide ((List.length e.l : Int) = (wantOf os ent e).2.1))) || (!decide (e.op = (wantOf os ent e).2.2.1))) || (!decide (e.n = (wantOf os ent e).2.2.2.1))) || (!decide (e.o = (wantOf os ent e).2.2.2.2.1))) || (!decide (e.off = (wantOf os ent e).2.2.2.2.2))) || (!decide (e.len = 0))) || (!decide (e.lo = 0))) || (!decide (e.hi = 0))
def exL (rec : Int → CExpr → Bool × Int) : List CExpr → Int → Bool × Int
  | [], l => (true, l)
  | e :: r, l => bif (rec l e).1 then exL rec r (rec l e).2 else (false, (rec l e).2)
def exF (os : List Obj) (ent : Int) : Nat → Int → Int → CExpr → Bool × Int
  | 0, _, left, _ => (false, left)
  | n + 1, deep, left, e =>
    bif (decide (IntKind.i64.wrap (left - 1) < 0) || decide (deep > 64)) || shapeBad os ent e then (false, IntKind.i64.wrap (left - 1))
    else exL (exF os ent n (deep + 1)) e.l (IntKind.i64.wrap (left - 1))
theorem want_parts (os : List Obj) (ent : Int) (e : CExpr) : (wantOf os ent e).2.1 ≤ 2 := by
  unfold wantOf
  cases decide (e.kind = 1) <;> cases decide (e.kind = 2) <;> cases decide (e.kind = 14) <;> cases decide (e.kind = 4) <;> cases decide (e.kind = 5) <;> cases (decide (e.kind = 6) || decide (e.kind = 7)) <;> simp <;> cases (spot os e.o e.off 1 && (match idx os e.o with | some y => !y.ptr | none => false)) <;> simp
abbrev Rt : Type := Bool × (List Insn) × (List MHandler) × (List Loop) × (List Select) × (List (List Int)) × (List Obj) × (List Init) × Int × (List MTask) × (List MProt) × (List Check) × Int × Int
abbrev Re : Type := (List Insn) → (List MHandler) → (List Loop) → (List Select) → (List (List Int)) → (List Obj) → (List Init) → Int → (List MTask) → (List MProt) → (List Check) → Int → Int → CExpr → Int → Option Rt
section
variable (v0 : List Insn) (v1 : List MHandler) (v2 : List Loop) (v3 : List Select) (v4 : List (List Int)) (v5 : List Obj) (v6 : List Init) (v7 : Int) (v8 : List MTask) (v9 : List MProt) (v10 : List Check) (ent : Int)
def outF (z : Bool × Int) : Option Rt := some (z.1, v0, v1, v2, v3, v4, v5, v6, v7, v8, v9, v10, ent, z.2)
theorem f116s_l1_eq (rec : Re) (g : Int → CExpr → Bool × Int) (e : CExpr) (deep : Int)
    (hrec : ∀ l x, rec v0 v1 v2 v3 v4 v5 v6 v7 v8 v9 v10 ent l x (IntKind.i64.wrap (deep + 1)) = outF v0 v1 v2 v3 v4 v5 v6 v7 v8 v9 v10 ent (g l x))
    (ka : Int → (List Insn) → (List MHandler) → (List Loop) → (List Select) → (List (List Int)) → (List Obj) → (List Init) → Int → (List MTask) → (List MProt) → (List Check) → Int → Int → Option Rt)
    (kb : (List Insn) → (List MHandler) → (List Loop) → (List Select) → (List (List Int)) → (List Obj) → (List Init) → Int → (List MTask) → (List MProt) → (List Check) → Int → Int → Option Rt)
    (ha : ∀ (i : Int) l, 0 ≤ i → ka i v0 v1 v2 v3 v4 v5 v6 v7 v8 v9 v10 ent l = outF v0 v1 v2 v3 v4 v5 v6 v7 v8 v9 v10 ent (false, l))
    (hb : ∀ l, kb v0 v1 v2 v3 v4 v5 v6 v7 v8 v9 v10 ent l = outF v0 v1 v2 v3 v4 v5 v6 v7 v8 v9 v10 ent (true, l))
    (hl : e.l.length < 9223372036854775808) : ∀ (n i : Nat) (z l : Int), z = (i : Int) → i ≤ e.l.length → e.l.length < n + i →
    f116s_l1 rec e deep ka kb n z v0 v1 v2 v3 v4 v5 v6 v7 v8 v9 v10 ent l = outF v0 v1 v2 v3 v4 v5 v6 v7 v8 v9 v10 ent (exL g (e.l.drop i) l)
  | 0, i, z, l, _, _, h => by omega
  | n + 1, i, z, l, hz, hi, h => by
    subst hz
    rw [f116s_l1]
    by_cases hh : i < e.l.length
    · rw [drop_cons hh, exL, decide_eq_true (by omega : (i : Int) < (e.l.length : Int)), cond_true, idx_in hh, Option.bind_some, letk_eq, hrec]
      unfold outF
      dsimp only [Option.bind_some]
      cases (g l e.l[i]).1
      · exact ha _ _ (by omega)
      · rw [Bool.not_true, cond_false, w64 (by omega) (by omega)]
        exact f116s_l1_eq rec g e deep hrec ka kb ha hb hl n (i + 1) _ _ (by push_cast; rfl) (by omega) (by omega)
    · rw [decide_eq_false (by omega : ¬ (i : Int) < (e.l.length : Int)), cond_false, List.drop_eq_nil_of_le (by omega)]
      exact hb _
theorem f116s_eq (rec : Re) (g : Int → CExpr → Bool × Int) (e : CExpr) (deep left : Int)
    (hrec : deep ≤ 64 → ∀ l x, rec v0 v1 v2 v3 v4 v5 v6 v7 v8 v9 v10 ent l x (IntKind.i64.wrap (deep + 1)) = outF v0 v1 v2 v3 v4 v5 v6 v7 v8 v9 v10 ent (g l x)) : ∀ z, f116s rec v0 v1 v2 v3 v4 v5 v6 v7 v8 v9 v10 ent left e deep = z →
    z = outF v0 v1 v2 v3 v4 v5 v6 v7 v8 v9 v10 ent (bif (decide (IntKind.i64.wrap (left - 1) < 0) || decide (deep > 64)) || shapeBad v5 ent e then (false, IntKind.i64.wrap (left - 1)) else exL g e.l (IntKind.i64.wrap (left - 1))) := by
  intro z h
  unfold f116s at h
  obtain ⟨K, hK, h⟩ := letkS h
  have h' : K (wantOf v5 ent e).1 (wantOf v5 ent e).2.1 (CExpr.mk e.kind (wantOf v5 ent e).2.2.1 (wantOf v5 ent e).2.2.2.1 (wantOf v5 ent e).2.2.2.2.1 (wantOf v5 ent e).2.2.2.2.2 0 0 0 []) (wantOf v5 ent e).2.2.1 (wantOf v5 ent e).2.2.2.1 (wantOf v5 ent e).2.2.2.2.1 (wantOf v5 ent e).2.2.2.2.2 = z := by
    rw [← h, letk_eq]
    unfold wantOf
    cases decide (e.kind = 1)
    · cases decide (e.kind = 2)
      · cases decide (e.kind = 14)
        · cases decide (e.kind = 4)
          · cases decide (e.kind = 5)
            · cases decide (e.kind = 6) <;> cases decide (e.kind = 7) <;> rfl
            · rfl
          · rfl
        · cases decide (e.n ≥ 0) <;> rfl
      · rw [f111_eq]
        dsimp only [Option.bind_some, cond_true, cond_false]
        cases hs : spot v5 e.o e.off 1
        · rfl
        · obtain ⟨y, hy, _⟩ := spot_in hs
          rw [hy]
          dsimp only [Option.bind_some, cond_true, cond_false]
          cases y.ptr <;> rfl
    · rfl
  clear h
  rw [hK] at h'
  dsimp only at h'
  have hc := want_parts v5 ent e
  have e1 : (((((((((((decide (IntKind.i64.wrap (left - 1) < 0)) || (decide (deep > 64))) || (!(wantOf v5 ent e).1)) || (!decide ((List.length e.l : Int) = (wantOf v5 ent e).2.1))) || (!decide (e.op = (wantOf v5 ent e).2.2.1))) || (!decide (e.n = (wantOf v5 ent e).2.2.2.1))) || (!decide (e.o = (wantOf v5 ent e).2.2.2.2.1))) || (!decide (e.off = (wantOf v5 ent e).2.2.2.2.2))) || (!decide (e.len = 0))) || (!decide (e.lo = 0))) || (!decide (e.hi = 0))) = ((decide (IntKind.i64.wrap (left - 1) < 0) || decide (deep > 64)) || shapeBad v5 ent e) := by
    unfold shapeBad
    simp only [Bool.or_assoc]
  rw [e1] at h'
  cases hbad : (decide (IntKind.i64.wrap (left - 1) < 0) || decide (deep > 64)) || shapeBad v5 ent e
  · rw [hbad, cond_false] at h'
    have hd : deep ≤ 64 := by
      simp only [Bool.or_eq_false_iff, decide_eq_false_iff_not] at hbad
      omega
    have hlen : e.l.length ≤ 2 := by
      simp only [Bool.or_eq_false_iff] at hbad
      have := hbad.2
      unfold shapeBad at this
      simp only [Bool.or_eq_false_iff, Bool.not_eq_false', decide_eq_true_eq] at this
      have := this.1.1.1.1.1.1.1.2
      omega
    simp only [letk_eq] at h'
    rw [f116s_l1_eq v0 v1 v2 v3 v4 v5 v6 v7 v8 v9 v10 ent rec g e deep (hrec hd) _ _ (fun i l h0 => by rw [decide_eq_true (show i ≥ 0 from h0)]; rfl) (fun l => rfl) (by omega) _ 0 0 _ rfl (Nat.zero_le _) (by omega), List.drop_zero] at h'
    rw [← h', cond_false]
  · rw [hbad, cond_true] at h'
    rw [← h', cond_true]
    rfl
theorem f116_eq : ∀ (n : Nat) (deep left : Int) (e : CExpr), 1 ≤ deep → deep ≤ 65 → 66 < n + deep → f116 n v0 v1 v2 v3 v4 v5 v6 v7 v8 v9 v10 ent left e deep = outF v0 v1 v2 v3 v4 v5 v6 v7 v8 v9 v10 ent (exF v5 ent n deep left e)
  | 0, deep, left, e, h0, h1, h2 => by omega
  | n + 1, deep, left, e, h0, h1, h2 => by
    rw [f116, exF]
    exact f116s_eq v0 v1 v2 v3 v4 v5 v6 v7 v8 v9 v10 ent (f116 n) (exF v5 ent n (deep + 1)) e deep left (fun hd l x => by
      rw [w64 (by omega) (by omega)]
      exact f116_eq n (deep + 1) l x (by omega) (by omega) (by omega)) _ rfl
end
def barOk (t : Text) (ent : Int) (e : CExpr) : Bool := (exF t.objs ent 66 1 256 e).1
theorem f71_l2_eq (t : Text) (x : MProt) (r : Option Bool) (hl : x.barriers.length < 9223372036854775808) : ∀ (n i : Nat) (z : Int), z = (i : Int) → i ≤ x.barriers.length → x.barriers.length < n + i →
    f71_l2 ⟨t⟩ (fun _ _ => r) x n z = bif (x.barriers.drop i).all (barOk t x.barriers.length) then r else some false
  | 0, i, z, _, _, h => by omega
  | n + 1, i, z, hz, hi, h => by
    subst hz
    rw [f71_l2]
    dsimp only
    by_cases hh : i < x.barriers.length
    · rw [drop_cons hh, List.all_cons, decide_eq_true (by omega : (i : Int) < (x.barriers.length : Int)), cond_true, idx_in hh, Option.bind_some, f116_eq _ _ _ _ _ _ _ _ _ _ _ _ 66 1 256 _ (by omega) (by omega) (by omega), w64 (by omega) (by omega), f71_l2_eq t x r hl n (i + 1) _ (by push_cast; rfl) (by omega) (by omega)]
      unfold outF barOk
      dsimp only [Option.bind_some]
      cases (exF t.objs x.barriers.length 66 1 256 x.barriers[i]).1 <;> rfl
    · rw [decide_eq_false (by omega : ¬ (i : Int) < (x.barriers.length : Int)), cond_false, List.drop_eq_nil_of_le (by omega)]
      rfl
def protOk (t : Text) (x : MProt) : Bool := !((decide (x.ceiling < 0) || decide (x.ceiling > 31)) || decide ((x.barriers.length : Int) > 8)) && x.barriers.all (barOk t x.barriers.length)
theorem f71_l1_eq (t : Text) (r : Option Bool) (hl : t.prots.length < 9223372036854775808) : ∀ (n i : Nat) (z : Int), z = (i : Int) → i ≤ t.prots.length → t.prots.length < n + i →
    f71_l1 ⟨t⟩ (fun _ => r) n z = bif (t.prots.drop i).all (protOk t) then r else some false
  | 0, i, z, _, _, h => by omega
  | n + 1, i, z, hz, hi, h => by
    subst hz
    rw [f71_l1]
    dsimp only
    by_cases hh : i < t.prots.length
    · rw [drop_cons hh, List.all_cons, decide_eq_true (by omega : (i : Int) < (t.prots.length : Int)), cond_true, letk_eq, idx_in hh, Option.bind_some]
      generalize t.prots[i] = x
      unfold protOk
      cases hc : (decide (x.ceiling < 0) || decide (x.ceiling > 31)) || decide ((x.barriers.length : Int) > 8)
      · have he : (x.barriers.length : Int) ≤ 8 := by
          simp only [Bool.or_eq_false_iff, decide_eq_false_iff_not] at hc
          omega
        rw [cond_false, f71_l2_eq t x _ (by omega) _ 0 0 rfl (Nat.zero_le _) (by omega), w64 (by omega) (by omega), f71_l1_eq t r hl n (i + 1) _ (by push_cast; rfl) (by omega) (by omega), List.drop_zero]
        cases x.barriers.all (barOk t x.barriers.length) <;> rfl
      · rfl
    · rw [decide_eq_false (by omega : ¬ (i : Int) < (t.prots.length : Int)), cond_false, List.drop_eq_nil_of_le (by omega)]
      rfl
def protsB (t : Text) : Bool := t.prots.all (protOk t) && decide ((t.prots.length : Int) ≤ 32)
theorem f71_eq (t : Text) (hl : t.prots.length < 9223372036854775808) : f71 ⟨t⟩ = some (protsB t) := by
  unfold f71 protsB
  dsimp only
  rw [letk_eq, f71_l1_eq t _ hl _ 0 0 rfl (Nat.zero_le _) (by omega), List.drop_zero]
  cases t.prots.all (protOk t) <;> rfl
end Go.Proofs.YtkbahggepncliaaGreatDoor
set_option maxRecDepth 10000
namespace Go.Proofs.YtkbahggepncliaaGreatDoor
open Go Go.Sk
def prs (o : Int) : Option (List ByteArray) := (f156 o).bind fun r => f176 r.1.fields
def ch (s : ByteArray) : Int × Int := ((sIdx s 0).getD 0, (sIdx s 1).getD 0)
def flds (o : Int) : List (Int × Int) := ((prs o).getD []).map ch
theorem prs_ok : ∀ k, k < 57 → (match prs ((k : Nat) + 1 : Int) with | some l => Nat.blt l.length 100 && l.all fun s => (sIdx s 0).isSome && (sIdx s 1).isSome | none => false) = true := by decide +kernel
theorem f156_ok : ∀ k, k < 57 → (match f156 ((k : Nat) + 1 : Int) with | some r => r.2 | none => false) = true := by decide +kernel
theorem f156_eq {o : Int} (h1 : 1 ≤ o) (h2 : o ≤ 57) : ∃ r, f156 o = some (r, true) := by
  obtain ⟨k, rfl⟩ : ∃ k : Nat, o = (k : Int) + 1 := ⟨(o - 1).toNat, by omega⟩
  have := f156_ok k (by omega)
  cases h : f156 ((k : Int) + 1) with
  | none => rw [h] at this; cases this
  | some r => rw [h] at this; exact ⟨r.1, by dsimp only at this; rw [← this]⟩
theorem prs_eq {o : Int} (h1 : 1 ≤ o) (h2 : o ≤ 57) : ∃ l, prs o = some l ∧ l.length < 100 ∧ ∀ s ∈ l, (∃ c, sIdx s 0 = some c) ∧ ∃ c, sIdx s 1 = some c := by
  obtain ⟨k, rfl⟩ : ∃ k : Nat, o = (k : Int) + 1 := ⟨(o - 1).toNat, by omega⟩
  have := prs_ok k (by omega)
  cases h : prs ((k : Int) + 1) with
  | none => rw [h] at this; cases this
  | some l =>
    rw [h] at this
    rw [Bool.and_eq_true] at this
    refine ⟨l, rfl, by simpa using this.1, fun s hs => ?_⟩
    have := List.all_eq_true.1 this.2 s hs
    rw [Bool.and_eq_true] at this
    exact ⟨Option.isSome_iff_exists.1 this.1, Option.isSome_iff_exists.1 this.2⟩
def rng (w v : Int) : Bool := !(decide (v < (f179 w).1) || decide (v > (f179 w).2))
def fl : List (Int × Int) → Int → Int → Int → Int → Int → Int → Bool
  | [], d, a, b, n, m, to => (decide (d = 0)) && ((decide (a = 0)) && ((decide (b = 0)) && ((decide (n = 0)) && ((decide (m = 0)) && ((decide (to = 0)) && true)))))
  | (c, w) :: r, d, a, b, n, m, to =>
    bif decide (c = 68) then rng w d && fl r 0 a b n m to else
    bif decide (c = 65) then rng w a && fl r d 0 b n m to else
    bif decide (c = 66) then rng w b && fl r d a 0 n m to else
    bif decide (c = 78) then rng w n && fl r d a b 0 m to else
    bif decide (c = 77) then rng w m && fl r d a b n 0 to else rng w to && fl r d a b n m 0
theorem f124_l1_eq (k1 k2 k3 k4 k5 k6 : Int → Int → Int → Int → Int → Int → ByteArray → ByteArray → Int → Int → Int → Int → Option Bool)
    (h1 : ∀ a b c d e f g h i j k l, k1 a b c d e f g h i j k l = some false) (h2 : ∀ a b c d e f g h i j k l, k2 a b c d e f g h i j k l = some false) (h3 : ∀ a b c d e f g h i j k l, k3 a b c d e f g h i j k l = some false)
    (h4 : ∀ a b c d e f g h i j k l, k4 a b c d e f g h i j k l = some false) (h5 : ∀ a b c d e f g h i j k l, k5 a b c d e f g h i j k l = some false) (h6 : ∀ a b c d e f g h i j k l, k6 a b c d e f g h i j k l = some false)
    (k7 : Int → Int → Int → Int → Int → Int → ByteArray → ByteArray → Option Bool) (h7 : ∀ d a b n m to x y, k7 d a b n m to x y = some (fl [] d a b n m to)) (r : Row224 × Bool) (L : List ByteArray) (hL : ∀ s ∈ L, (∃ c, sIdx s 0 = some c) ∧ ∃ c, sIdx s 1 = some c) (hl : L.length < 9223372036854775808) :
    ∀ (n i : Nat) (z d a b vn m to : Int), z = (i : Int) → i ≤ L.length → L.length < n + i → f124_l1 k1 k2 k3 k4 k5 k6 k7 r L n z d a b vn m to = some (fl ((L.drop i).map ch) d a b vn m to)
  | 0, i, z, _, _, _, _, _, _, _, _, h => by omega
  | n + 1, i, z, d, a, b, vn, m, to, hz, hi, h => by
    subst hz
    rw [f124_l1]
    by_cases hh : i < L.length
    · obtain ⟨⟨c, hc⟩, w, hw⟩ := hL _ (List.getElem_mem hh)
      have ih := fun d a b vn m to => f124_l1_eq k1 k2 k3 k4 k5 k6 h1 h2 h3 h4 h5 h6 k7 h7 r L hL hl n (i + 1) _ d a b vn m to (by push_cast; rfl) (by omega) (by omega)
      have he : ch L[i] = (c, w) := by unfold ch; rw [hc, hw]; rfl
      rw [drop_cons hh, List.map_cons, he, fl, decide_eq_true (by omega : (i : Int) < (L.length : Int)), cond_true, idx_in hh, Option.bind_some, hc, Option.bind_some, w64 (by omega) (by omega)]
      simp only [letk_eq, hw, Option.bind_some, h1, h2, h3, h4, h5, h6, ih]
      unfold rng
      cases decide (c = 68)
      · cases decide (c = 65)
        · cases decide (c = 66)
          · cases decide (c = 78)
            · cases decide (c = 77)
              · cases (decide (to < (f179 w).1) || decide (to > (f179 w).2)) <;> rfl
              · cases (decide (m < (f179 w).1) || decide (m > (f179 w).2)) <;> rfl
            · cases (decide (vn < (f179 w).1) || decide (vn > (f179 w).2)) <;> rfl
          · cases (decide (b < (f179 w).1) || decide (b > (f179 w).2)) <;> rfl
        · cases (decide (a < (f179 w).1) || decide (a > (f179 w).2)) <;> rfl
      · cases (decide (d < (f179 w).1) || decide (d > (f179 w).2)) <;> rfl
    · rw [decide_eq_false (by omega : ¬ (i : Int) < (L.length : Int)), cond_false, List.drop_eq_nil_of_le (by omega), h7]
      rfl
def imay (x : Insn) : Bool := !((!(decide (1 ≤ x.op) && decide (x.op ≤ 57))) || (decide (x.op = 27) && decide (x.n > x.m))) && (!((decide (x.op = 37) && decide ((IntKind.u8.wrap x.n) = 6)) && (!decide (x.m = 0))) && fl (flds x.op) x.d x.a x.b x.n x.m x.to)
theorem f124_eq (x : Insn) (ho : 0 ≤ x.op ∧ x.op ≤ 255) : f124 x = some (imay x) := by
  unfold f124 imay
  by_cases h : 1 ≤ x.op ∧ x.op ≤ 57
  · obtain ⟨r, hr⟩ := f156_eq h.1 h.2
    obtain ⟨l, hl, hlen, hg⟩ := prs_eq h.1 h.2
    have hf : f176 r.fields = some l := by
      unfold prs at hl
      rw [hr, Option.bind_some] at hl
      exact hl
    rw [hr, Option.bind_some, decide_eq_true h.1, decide_eq_true h.2]
    dsimp only
    rw [Bool.not_true, Bool.false_or, Bool.and_true, Bool.not_true, Bool.false_or]
    cases decide (x.op = 27) && decide (x.n > x.m)
    · rw [cond_false]
      cases (decide (x.op = 37) && decide ((IntKind.u8.wrap x.n) = 6)) && (!decide (x.m = 0))
      · rw [cond_false]
        simp only [letk_eq]
        rw [Option.bind_some, hf, Option.bind_some]
        refine (f124_l1_eq _ _ _ _ _ _ (fun _ _ _ _ _ _ _ _ _ _ _ _ => rfl) (fun _ _ _ _ _ _ _ _ _ _ _ _ => rfl) (fun _ _ _ _ _ _ _ _ _ _ _ _ => rfl) (fun _ _ _ _ _ _ _ _ _ _ _ _ => rfl) (fun _ _ _ _ _ _ _ _ _ _ _ _ => rfl) (fun _ _ _ _ _ _ _ _ _ _ _ _ => rfl) _ (by intro d a b n m to _ _; rfl) _ l hg (by omega) _ 0 0 _ _ _ _ _ _ rfl (Nat.zero_le _) (by omega)).trans ?_
        rw [List.drop_zero]
        unfold flds
        rw [hl]
        rfl
      · rfl
    · rfl
  · have e : f156 x.op = some ((Row224.mk ByteArray.empty ByteArray.empty), false) := by
      unfold f156
      have : (decide (x.op < 1) || decide ((IntKind.i64.wrap x.op) > 57)) = true := by
        rw [w64 (by omega) (by omega), Bool.or_eq_true]
        simp only [decide_eq_true_eq]
        omega
      rw [this]; rfl
    have e2 : (decide (1 ≤ x.op) && decide (x.op ≤ 57)) = false := by
      rw [Bool.and_eq_false_iff]
      simp only [decide_eq_false_iff_not]
      omega
    rw [e, e2]; rfl
def entN (t : Text) (task n : Int) : Int × Bool := match idx t.tasks task with
  | some x => (match idx x.entries n with
    | some e => ((IntKind.i64.wrap ((IntKind.i64.wrap ((List.length e.ins : Int) + (List.length e.outs : Int))) + 1)), true)
    | none => (0, false))
  | none => (0, false)
theorem f126_eq (t : Text) (a n : Int) : f126 ⟨t⟩ a n = some (entN t a n) := by
  unfold f126 entN
  dsimp only
  by_cases h : 0 ≤ a ∧ a < t.tasks.length
  · obtain ⟨y, hy, _⟩ := idx_get_in h
    rw [hy, decide_eq_false (show ¬ a < 0 by omega), decide_eq_false (show ¬ a ≥ (t.tasks.length : Int) by omega)]
    dsimp only [Option.bind_some]
    by_cases h2 : 0 ≤ n ∧ n < y.entries.length
    · obtain ⟨e, he, _⟩ := idx_get_in h2
      rw [he, decide_eq_false (show ¬ n < 0 by omega), decide_eq_false (show ¬ n ≥ (y.entries.length : Int) by omega)]
      rfl
    · rw [idx_out h2]
      by_cases h3 : n < 0
      · rw [decide_eq_true h3]; rfl
      · rw [decide_eq_true (show n ≥ (y.entries.length : Int) by omega), decide_eq_false h3]; rfl
  · rw [idx_out h]
    have : (decide (a < 0) || decide (a ≥ (t.tasks.length : Int))) = true := by
      rw [Bool.or_eq_true]
      simp only [decide_eq_true_eq]
      omega
    rw [this]; rfl
def gate (t : Text) (p n : Int) : Bool := match idx t.prots p with
  | some x => decide (0 ≤ n) && decide (n < (x.barriers.length : Int))
  | none => false
theorem f127_eq (t : Text) (p n : Int) : f127 ⟨t⟩ p n = some (gate t p n) := by
  unfold f127 gate
  dsimp only
  by_cases h : 0 ≤ p ∧ p < t.prots.length
  · obtain ⟨y, hy, _⟩ := idx_get_in h
    rw [hy, decide_eq_true (show p ≥ 0 by omega), decide_eq_true h.2]
    by_cases h3 : 0 ≤ n
    · rw [decide_eq_true (show n ≥ 0 from h3)]; rfl
    · rw [decide_eq_false (show ¬ n ≥ 0 from h3)]; rfl
  · rw [idx_out h]
    have : (decide (p ≥ 0) && decide (p < (t.prots.length : Int))) = false := by
      rw [Bool.and_eq_false_iff]
      simp only [decide_eq_false_iff_not]
      omega
    rw [this]; rfl
def jtOk (t : Text) (x : Insn) : Bool := decide ((IntKind.i64.wrap (x.to + x.m)) ≤ (t.insns.length : Int)) && (sliceF t.insns x.to (IntKind.i64.wrap (x.to + x.m))).all (fun y => decide (y.op = 29))
def fitI (t : Text) (x : Insn) : Bool := imay x &&
  bif decide (x.op = 3) || decide (x.op = 4) then spot t.objs x.n x.m 1 else
  bif decide (x.op = 5) || decide (x.op = 6) then spot t.objs x.n x.m x.b else
  bif decide (x.op = 29) || (decide (x.op = 30) || decide (x.op = 31)) then at1 t x.to else
  bif decide (x.op = 32) then jtOk t x else
  bif decide (x.op = 33) then decide (x.n ≤ t.excs) else
  bif decide (x.op = 44) || (decide (x.op = 45) || (decide (x.op = 46) || decide (x.op = 56))) then decide (x.n < (t.lists.length : Int)) else
  bif decide (x.op = 50) then decide (x.n < (t.selects.length : Int)) else
  bif decide (x.op = 49) then (entN t x.a x.b).2 && spot t.objs x.n 0 (entN t x.a x.b).1 else
  bif decide (x.op = 52) then (entN t x.a x.b).2 && decide (x.to < (t.insns.length : Int)) else
  bif decide (x.op = 53) || decide (x.op = 55) then decide (x.n < (t.prots.length : Int)) else
  bif decide (x.op = 54) then gate t x.n x.m else
  bif decide (x.op = 43) then decide (x.m < 0) || gate t x.m x.n else true
theorem flds32 : flds 32 = [(65, 114), (78, 118), (77, 108), (84, 115)] := by decide +kernel
theorem imay32 {x : Insn} (h : imay x = true) (ho : x.op = 32) : 0 ≤ x.to ∧ x.to ≤ 65535 ∧ 1 ≤ x.m ∧ x.m ≤ 65536 := by
  unfold imay at h
  rw [ho, flds32] at h
  simp only [Bool.and_eq_true] at h
  have := h.2.2
  simp only [fl, rng, f179] at this
  simp at this
  omega
theorem f76_eq' (L : List Insn) (hl : L.length < 9223372036854775808) : f76 L (fun z0 => some (f125 z0)) = some (!(L.all fun y => decide (y.op = 29))) := by
  rw [f76_eq L _ f125 hl (fun _ _ => rfl)]
  congr 1
  induction L with
  | nil => rfl
  | cons x L ih => rw [List.any_cons, List.all_cons, ih (by simp at hl; omega), Bool.not_and]; rfl
theorem f78_eq (t : Text) (x : Insn) (ho : 0 ≤ x.op ∧ x.op ≤ 255) (hl : t.insns.length ≤ 65536) : f78 ⟨t⟩ x = some (fitI t x) := by
  unfold f78 fitI
  rw [f124_eq x ho, Option.bind_some]
  cases hm : imay x
  · rfl
  · simp only [letk_eq, f111_eq, f112_eq, f126_eq, f127_eq, Option.bind_some]
    rw [Bool.not_true, cond_false, Bool.true_and]
    cases decide (x.op = 3)
    · cases decide (x.op = 4)
      · cases decide (x.op = 5)
        · cases decide (x.op = 6)
          · cases decide (x.op = 29)
            · cases decide (x.op = 30)
              · cases decide (x.op = 31)
                · cases h32 : decide (x.op = 32)
                  · cases decide (x.op = 33)
                    · cases decide (x.op = 44)
                      · cases decide (x.op = 45)
                        · cases decide (x.op = 46)
                          · cases decide (x.op = 56)
                            · cases decide (x.op = 50)
                              · cases decide (x.op = 49)
                                · cases decide (x.op = 52)
                                  · cases decide (x.op = 53)
                                    · cases decide (x.op = 55)
                                      · cases decide (x.op = 54)
                                        · cases decide (x.op = 43)
                                          · rfl
                                          · cases decide (x.m < 0) <;> rfl
                                        · rfl
                                      · rfl
                                    · rfl
                                  · rfl
                                · cases (entN t x.a x.b).2 <;> rfl
                              · rfl
                            · rfl
                          · rfl
                        · rfl
                      · rfl
                    · rfl
                  · obtain ⟨a1, a2, a3, a4⟩ := imay32 hm (of_decide_eq_true h32)
                    unfold jtOk
                    dsimp only [cond_true, cond_false, Bool.or_false]
                    by_cases h4 : (IntKind.i64.wrap (x.to + x.m)) ≤ (t.insns.length : Int)
                    · rw [decide_eq_true h4, cond_true]
                      rw [w64 (by omega) (by omega)] at h4
                      rw [w64 (by omega) (by omega), guardB_t _ (by simp [sliceOk]; omega), f76_eq' _ (by simp [sliceF]; omega), Option.bind_some, Bool.not_not]
                      rfl
                    · rw [decide_eq_false h4]; rfl
                · rfl
              · rfl
            · rfl
          · rfl
        · rfl
      · rfl
    · rfl
end Go.Proofs.YtkbahggepncliaaGreatDoor
set_option maxRecDepth 10000
namespace Go.Proofs.YtkbahggepncliaaGreatDoor
open Go Go.Sk
structure Sz (t : Text) : Prop where
  ops : ∀ x ∈ t.insns, 0 ≤ x.op ∧ x.op ≤ 255
  inits : t.inits.length < 9223372036854775808
  sets : ∀ o ∈ t.objs, o.set_.length < 9223372036854775808
  lists : ∀ l ∈ t.lists, l.length < 9223372036854775808
  prots : t.prots.length < 9223372036854775808
  checks : t.checks.length < 9223372036854775808
theorem f37_l1_eq (t : Text) (k : Int → Option Bool) (a b : Option Bool) (ha : ∀ i : Int, 0 ≤ i → k i = a) (ho : ∀ x ∈ t.insns, 0 ≤ x.op ∧ x.op ≤ 255) (hl : t.insns.length ≤ 65536) : ∀ (n i : Nat) (z : Int), z = (i : Int) → i ≤ t.insns.length → t.insns.length < n + i →
    f37_l1 t k (fun _ => b) n z = bif (t.insns.drop i).all (fitI t) then b else a
  | 0, i, z, _, _, h => by omega
  | n + 1, i, z, hz, hi, h => by
    subst hz
    rw [f37_l1]
    by_cases hh : i < t.insns.length
    · rw [drop_cons hh, List.all_cons, decide_eq_true (by omega : (i : Int) < (t.insns.length : Int)), cond_true, idx_in hh, Option.bind_some, letk_eq, f78_eq t _ (ho _ (List.getElem_mem hh)) hl, Option.bind_some]
      cases fitI t t.insns[i]
      · exact ha _ (by omega)
      · dsimp only
        rw [Bool.not_true, cond_false, w64 (by omega) (by omega), f37_l1_eq t k a b ha ho hl n (i + 1) _ (by push_cast; rfl) (by omega) (by omega), Bool.true_and]
    · rw [decide_eq_false (by omega : ¬ (i : Int) < (t.insns.length : Int)), cond_false, List.drop_eq_nil_of_le (by omega)]
      rfl
def lastOk (x : Insn) : Bool := decide (x.op = 29) || (decide (x.op = 33) || (decide (x.op = 34) || decide (x.op = 57)))
def lastB (t : Text) : Bool := match idx t.insns ((t.insns.length : Int) - 1) with
  | some x => lastOk x
  | none => false
def MayB (t : Text) : Bool := !(decide ((t.insns.length : Int) < 1) || decide ((t.insns.length : Int) > 65536)) && (lastB t && (objsB t && (tasksB t && (listsB t && (protsB t && (selsB t && (hdlsB t && (lpsB t && (ckOk t (-1) t.checks && t.insns.all (fitI t))))))))))
theorem f37_eq (t : Text) (h : Sz t) : f37 t = some (MayB t) := by
  unfold f37 MayB
  cases h1 : decide ((t.insns.length : Int) < 1) || decide ((t.insns.length : Int) > 65536)
  · have hol : (1 : Int) ≤ t.insns.length ∧ (t.insns.length : Int) ≤ 65536 := by
      simp only [Bool.or_eq_false_iff, decide_eq_false_iff_not] at h1
      omega
    obtain ⟨x, hx, _⟩ := idx_get_in (L := t.insns) (i := (t.insns.length : Int) - 1) (by omega)
    unfold lastB
    rw [cond_false, w64 (by omega) (by omega), hx, Option.bind_some]
    simp only [letk_eq]
    rw [f68_eq t h.inits h.sets, f69_eq, f70_eq t h.lists, f71_eq t h.prots, f72_eq, f73_eq, f74_eq, f75_eq t h.checks]
    rw [f37_l1_eq t _ (some false) _ (fun i h0 => by rw [decide_eq_true (show i ≥ 0 from h0)]; rfl) h.ops (by omega) _ 0 0 rfl (Nat.zero_le _) (by omega), List.drop_zero]
    unfold lastOk
    generalize objsB t = b1, tasksB t = b2, listsB t = b3, protsB t = b4, selsB t = b5, hdlsB t = b6, lpsB t = b7, ckOk t (-1) t.checks = b8, t.insns.all (fitI t) = b9
    have key : ∀ b : Bool, (bif b then (some b1).bind fun r69 => bif !r69 then some false else (some b2).bind fun r70 => bif !r70 then some false else (some b3).bind fun r71 => bif !r71 then some false else (some b4).bind fun r72 => bif !r72 then some false else (some b5).bind fun r73 => bif !r73 then some false else (some b6).bind fun r74 => bif !r74 then some false else (some b7).bind fun r75 => bif !r75 then some false else (some b8).bind fun r76 => bif !r76 then some false else bif b9 then some (!decide ((-1 : Int) ≥ 0)) else some false else some false) = some (b && (b1 && (b2 && (b3 && (b4 && (b5 && (b6 && (b7 && (b8 && b9))))))))) := by
      intro b
      cases b
      · rfl
      · cases b1
        · rfl
        · cases b2
          · rfl
          · cases b3
            · rfl
            · cases b4
              · rfl
              · cases b5
                · rfl
                · cases b6
                  · rfl
                  · cases b7
                    · rfl
                    · cases b8
                      · rfl
                      · cases b9 <;> rfl
    cases decide (x.op = 29)
    · cases decide (x.op = 33)
      · cases decide (x.op = 34)
        · exact key _
        · exact key true
      · exact key true
    · exact key true
  · rfl
end Go.Proofs.YtkbahggepncliaaGreatDoor
set_option maxRecDepth 10000
namespace Go.Proofs.YtkbahggepncliaaGreatDoor
open Go Go.Sk
theorem appOk_t {α : Type} {b : Nat} {L M : List α} (hb : b ≤ 64) (h : L.length + M.length ≤ 2000000000000) : appOk b L M = true := by
  unfold appOk
  have : maxLen = 9223372036854775807 := by decide
  rw [this, decide_eq_true (by omega), Bool.true_and]
  refine decide_eq_true ?_
  have : (L.length + M.length) * b ≤ 2000000000000 * 64 := Nat.mul_le_mul h hb
  omega
theorem mkOk_t {b : Nat} {n : Int} (hb : b ≤ 64) (h0 : 0 ≤ n) (h : n ≤ 2000000000000) : mkOk b n = true := by
  unfold mkOk
  have : maxLen = 9223372036854775807 := by decide
  rw [this, decide_eq_true h0, decide_eq_true (show n ≤ ((9223372036854775807 : Nat) : Int) by omega), Bool.true_and, Bool.and_true]
  refine decide_eq_true ?_
  have : (b : Int) * n ≤ 64 * 2000000000000 := Int.mul_le_mul (by omega) h h0 (by omega)
  omega
structure VT (t : Text) : Prop where
  sz : Sz t
  n : 1 ≤ t.insns.length ∧ t.insns.length ≤ 65536
  objs : t.objs.length ≤ 4096
  excs : 4 ≤ t.excs ∧ t.excs ≤ 64
  obj : ∀ o ∈ t.objs, objOk t.objs o = true
  inits : initsOk t.objs [] t.inits = true
  hdls : t.handlers.length ≤ 4096
  fits : ∀ x ∈ t.insns, fitI t x = true
  last : lastB t = true
  hok : hdlsOk t [] t.handlers = true
theorem MayB.vt {t : Text} (hs : Sz t) (h : MayB t = true) : VT t := by
  unfold MayB objsB hdlsB at h
  simp only [Bool.and_eq_true, Bool.not_eq_true', Bool.or_eq_false_iff, decide_eq_false_iff_not, List.all_eq_true] at h
  exact ⟨hs, by omega, by omega, by omega, h.2.2.1.2.1, h.2.2.1.2.2.1, by omega, h.2.2.2.2.2.2.2.2.2.2, h.2.1, h.2.2.2.2.2.2.2.1.2⟩
theorem setOk_len {os : List Obj} : ∀ (L : List Int) (last : Int), setOk os last L = true → -1 ≤ last → last < os.length → (L.length : Int) + last + 1 ≤ os.length
  | [], last, _, h1, h2 => by simp; omega
  | x :: r, last, h, h1, h2 => by
    simp only [setOk, Bool.and_eq_true, decide_eq_true_eq] at h
    have hx : x < os.length := by
      have := h.1.2
      unfold aim at this
      cases hi : idx os x with
      | none => rw [hi] at this; cases this
      | some y => exact (idx_some hi).2
    have := setOk_len r x h.2 (by omega) hx
    simp; omega
theorem objOk_f {os : List Obj} {o : Obj} (h : objOk os o = true) (hn : 0 < os.length) : 1 ≤ o.size ∧ o.size ≤ 16384 ∧ o.lo ≤ o.hi ∧ (o.set_.length : Int) ≤ os.length := by
  unfold objOk at h
  simp only [Bool.and_eq_true, Bool.not_eq_true', Bool.or_eq_false_iff, decide_eq_false_iff_not] at h
  refine ⟨by omega, by omega, by omega, ?_⟩
  cases hp : o.ptr
  · have h2 := h.2
    rw [hp] at h2
    simp only [Bool.not_false, cond_true, decide_eq_true_eq] at h2
    omega
  · have h2 := h.2
    rw [hp] at h2
    simp only [Bool.not_true, cond_false, Bool.and_eq_true] at h2
    have := setOk_len _ _ h2.1 (by omega) (by omega)
    omega
theorem VT.o {t : Text} (h : VT t) {o : Obj} (ho : o ∈ t.objs) : 1 ≤ o.size ∧ o.size ≤ 16384 ∧ o.lo ≤ o.hi ∧ (o.set_.length : Int) ≤ 4096 := by
  have h2 := h.objs
  have := objOk_f (h.obj o ho) (List.length_pos_of_mem ho)
  omega
theorem initsOk_all {os : List Obj} : ∀ (L : List Init) (m : List ((Int × Int) × Bool)), initsOk os m L = true → ∀ x ∈ L, initOk os x = true
  | [], _, _, x, hx => by cases hx
  | y :: r, m, h, x, hx => by
    simp only [initsOk, Bool.and_eq_true] at h
    rcases List.mem_cons.1 hx with e | e
    · rw [e]; exact h.1.2
    · exact initsOk_all r _ h.2 x e
def iniV (o : Obj) : Int := bif fits o 0 then 0 else o.lo
def iniRow (o : Obj) : List Int := List.replicate o.size.toNat (iniV o)
theorem f41_l2_eq (j : Nat) (k : List (List Int) → Option (List (List Int))) (o : Obj) (x : List Int) (hl : x.length < 9223372036854775808) : ∀ (n i : Nat) (z : Int) (S : List (List Int)), z = (i : Int) → i ≤ x.length → x.length < n + i → j < S.length →
    S[j]? = some (List.replicate i o.lo ++ List.replicate (x.length - i) 0) → f41_l2 (j : Int) k o x n z S = k (S.set j (List.replicate x.length o.lo))
  | 0, i, z, S, _, _, h, _, _ => by omega
  | n + 1, i, z, S, hz, hi, h, hj, hS => by
    subst hz
    rw [f41_l2]
    have hget : S[j] = List.replicate i o.lo ++ List.replicate (x.length - i) 0 := by
      rw [List.getElem?_eq_getElem hj] at hS
      exact Option.some.inj hS
    by_cases hh : i < x.length
    · rw [decide_eq_true (by omega : (i : Int) < (x.length : Int)), cond_true, idx_in hj, Option.bind_some, hget]
      rw [idx_in (show i < (List.replicate i o.lo ++ List.replicate (x.length - i) (0 : Int)).length by simp; omega), Option.bind_some, w64 (by omega) (by omega)]
      simp only [Int.toNat_natCast]
      rw [f41_l2_eq j k o x hl n (i + 1) _ _ (by push_cast; rfl) (by omega) (by omega) (by simpa using hj)]
      · rw [List.set_set]
      · rw [List.getElem?_set_self hj]
        congr 1
        rw [List.set_append_right _ _ (by simp), List.length_replicate, Nat.sub_self]
        obtain ⟨q, hq⟩ : ∃ q, x.length - i = q + 1 := ⟨x.length - i - 1, by omega⟩
        rw [hq, List.replicate_succ, List.set_cons_zero, List.replicate_succ', List.append_assoc, show x.length - (i + 1) = q by omega]
        rfl
    · rw [decide_eq_false (by omega : ¬ (i : Int) < (x.length : Int)), cond_false]
      have : i = x.length := by omega
      subst this
      congr 1
      rw [Nat.sub_self, List.replicate_zero, List.append_nil] at hget
      rw [← hget, List.set_getElem_self]
theorem f41_l1_eq (t : Text) (hv : VT t) (k : List (List Int) → Option (List (List Int))) : ∀ (n i : Nat) (z : Int), z = (i : Int) → i ≤ t.objs.length → t.objs.length < n + i →
    f41_l1 t k n z ((t.objs.take i).map iniRow ++ List.replicate (t.objs.length - i) []) = k (t.objs.map iniRow)
  | 0, i, z, _, _, h => by omega
  | n + 1, i, z, hz, hi, h => by
    subst hz
    have ho := hv.objs
    rw [f41_l1]
    by_cases hh : i < t.objs.length
    · rw [decide_eq_true (by omega : (i : Int) < (t.objs.length : Int)), cond_true]
      simp only [letk_eq]
      rw [idx_in hh, Option.bind_some]
      have hm := hv.o (List.getElem_mem hh)
      have hL : ((t.objs.take i).map iniRow ++ List.replicate (t.objs.length - i) ([] : List Int)).length = t.objs.length := by simp; omega
      have hstep : ∀ v, v = iniRow t.objs[i] → (((t.objs.take i).map iniRow ++ List.replicate (t.objs.length - i) ([] : List Int)).set i v) = (t.objs.take (i + 1)).map iniRow ++ List.replicate (t.objs.length - (i + 1)) [] := fun v hv => by
        rw [List.set_append_right _ _ (by simp; omega)]
        have e : i - ((t.objs.take i).map iniRow).length = 0 := by simp; omega
        obtain ⟨q, hq⟩ : ∃ q, t.objs.length - i = q + 1 := ⟨t.objs.length - i - 1, by omega⟩
        rw [e, hq, List.replicate_succ, List.set_cons_zero, List.take_succ_eq_append_getElem hh, List.map_append, List.append_assoc, show t.objs.length - (i + 1) = q by omega, hv]
        rfl
      rw [guardB_t _ (mkOk_t (by omega) (by omega) (by omega)), idx_in (by omega), Option.bind_some, f79_eq _ _ (hv.sz.sets _ (List.getElem_mem hh)), Option.bind_some, w64 (by omega) (by omega)]
      simp only [Int.toNat_natCast]
      generalize hS : (t.objs.take i).map iniRow ++ List.replicate (t.objs.length - i) ([] : List Int) = S at *
      cases hf : fits t.objs[i] 0
      · rw [Bool.not_false, cond_true, idx_in (show i < (S.set i (List.replicate t.objs[i].size.toNat (0 : Int))).length by simp; omega), Option.bind_some]
        rw [List.getElem_set_self]
        rw [f41_l2_eq i _ _ _ (by simp; omega) _ 0 0 _ rfl (Nat.zero_le _) (by omega) (by simp; omega) (by rw [List.getElem?_set_self (by omega)]; simp), List.set_set, List.length_replicate]
        rw [hstep _ (by unfold iniRow iniV; rw [hf]; rfl)]
        exact f41_l1_eq t hv k n (i + 1) _ (by push_cast; rfl) (by omega) (by omega)
      · rw [Bool.not_true, cond_false, hstep _ (by unfold iniRow iniV; rw [hf]; rfl)]
        exact f41_l1_eq t hv k n (i + 1) _ (by push_cast; rfl) (by omega) (by omega)
    · rw [decide_eq_false (by omega : ¬ (i : Int) < (t.objs.length : Int)), cond_false]
      have : i = t.objs.length := by omega
      subst this
      rw [Nat.sub_self, List.replicate_zero, List.append_nil, List.take_length]
def putI (S : List (List Int)) (x : Init) : List (List Int) := S.set x.o.toNat (((S[x.o.toNat]?).getD []).set x.slot.toNat x.v)
def Shape (os : List Obj) (S : List (List Int)) : Prop := S.map (fun r => (r.length : Int)) = os.map (·.size)
theorem Shape.len {os : List Obj} {S : List (List Int)} (h : Shape os S) : S.length = os.length := by
  have := congrArg List.length h
  simpa using this
theorem Shape.at {os : List Obj} {S : List (List Int)} (h : Shape os S) {i : Nat} {o : Obj} (ho : os[i]? = some o) : ∃ r, S[i]? = some r ∧ (r.length : Int) = o.size := by
  have h2 := congrArg (fun L => L[i]?) h
  simp only [List.getElem?_map, ho, Option.map_some] at h2
  cases hr : S[i]? with
  | none => rw [hr] at h2; simp at h2
  | some r => rw [hr] at h2; exact ⟨r, rfl, by simpa using h2⟩
theorem Shape.set {os : List Obj} {S : List (List Int)} (h : Shape os S) (i j : Nat) (v : Int) : Shape os (S.set i (((S[i]?).getD []).set j v)) := by
  unfold Shape at *
  rw [← h, List.map_set]
  refine List.ext_getElem? fun k => ?_
  rw [List.getElem?_set]
  by_cases hk : i = k
  · subst hk
    by_cases hl : i < S.length
    · simp [hl]
    · simp [hl]
  · rw [if_neg hk]
theorem f41_l3_eq (t : Text) (hv : VT t) (k : List (List Int) → Option (List (List Int))) : ∀ (n i : Nat) (z : Int) (S : List (List Int)), z = (i : Int) → i ≤ t.inits.length → t.inits.length < n + i → Shape t.objs S →
    f41_l3 t k n z S = k ((t.inits.drop i).foldl putI S)
  | 0, i, z, S, _, _, h, _ => by omega
  | n + 1, i, z, S, hz, hi, h, hS => by
    subst hz
    have hl := hv.sz.inits
    rw [f41_l3]
    by_cases hh : i < t.inits.length
    · have hx := initsOk_all _ _ hv.inits _ (List.getElem_mem hh)
      rw [drop_cons hh, List.foldl_cons, decide_eq_true (by omega : (i : Int) < (t.inits.length : Int)), cond_true, idx_in hh, Option.bind_some]
      generalize t.inits[i] = x at hx
      unfold initOk at hx
      rw [Bool.and_eq_true] at hx
      obtain ⟨o, ho, h0, h1⟩ := spot_in hx.1
      have hob := hv.o (idx_mem ho)
      obtain ⟨r, hr, hrl⟩ := hS.at (idx_get ho)
      have e : idx S x.o = some r := by
        unfold idx
        rw [decide_eq_true (idx_some ho).1]
        exact hr
      rw [w64 (by omega) (by omega)] at h1
      obtain ⟨v, hv', _⟩ := idx_get_in (L := r) (i := x.slot) (by omega)
      rw [e, Option.bind_some, hv', Option.bind_some, w64 (by omega) (by omega)]
      have e2 : putI S x = S.set x.o.toNat (r.set x.slot.toNat x.v) := by unfold putI; rw [hr]; rfl
      rw [← e2]
      exact f41_l3_eq t hv k n (i + 1) _ _ (by push_cast; rfl) (by omega) (by omega) (hS.set _ _ _)
    · rw [decide_eq_false (by omega : ¬ (i : Int) < (t.inits.length : Int)), cond_false, List.drop_eq_nil_of_le (by omega)]
      rfl
def store (t : Text) : List (List Int) := t.inits.foldl putI (t.objs.map iniRow)
theorem shape_ini {t : Text} (hv : VT t) : Shape t.objs (t.objs.map iniRow) := by
  unfold Shape
  rw [List.map_map]
  refine List.map_congr_left fun o ho => ?_
  have := hv.o ho
  simp [iniRow]; omega
theorem shape_fold {os : List Obj} : ∀ (L : List Init) (S : List (List Int)), Shape os S → Shape os (L.foldl putI S)
  | [], _, h => h
  | _x :: r, _, h => shape_fold r _ (h.set _ _ _)
theorem shape_store {t : Text} (hv : VT t) : Shape t.objs (store t) := shape_fold _ _ (shape_ini hv)
theorem f41_eq (t : Text) (hs : Sz t) (h : MayB t = true) : f41 t = some (store t) := by
  have hv := MayB.vt hs h
  have ho := hv.objs
  unfold f41
  rw [f37_eq t hs, h, Option.bind_some, Bool.not_true, cond_false, guardB_t _ (mkOk_t (by omega) (by omega) (by omega))]
  simp only [letk_eq]
  have e := f41_l1_eq t hv (fun l74 => f41_l3 t (fun l105 => some l105) (Int.toNat ((List.length t.inits : Int) - 0) + 1) 0 l74) (Int.toNat ((List.length t.objs : Int) - 0) + 1) 0 0 rfl (Nat.zero_le _) (by omega)
  rw [List.take_zero, List.map_nil, List.nil_append, Nat.sub_zero] at e
  rw [Int.toNat_natCast, e, f41_l3_eq t hv _ _ 0 0 _ rfl (Nat.zero_le _) (by omega) (shape_ini hv), List.drop_zero]
  rfl
theorem f10_l1_eq (R : List Obj) (k : List Obj → Option (Int × (List Insn) × (List MHandler) × (List Obj) × Int × (List Int) × (List (List Int)) × (List Int))) (hl : R.length < 9223372036854775808) (hs : ∀ o ∈ R, o.set_.length ≤ 4096) : ∀ (n i : Nat) (z : Int), z = (i : Int) → i ≤ R.length → R.length < n + i →
    f10_l1 R k n z R = k R
  | 0, i, z, _, _, h => by omega
  | n + 1, i, z, hz, hi, h => by
    subst hz
    rw [f10_l1]
    by_cases hh : i < R.length
    · have := hs _ (List.getElem_mem hh)
      rw [decide_eq_true (by omega : (i : Int) < (R.length : Int)), cond_true, idx_in hh, Option.bind_some, f43, guardB_t _ (appOk_t (by omega) (by simp; omega)), Option.bind_some, Option.bind_some, w64 (by omega) (by omega)]
      simp only [Int.toNat_natCast]
      rw [show Obj.mk R[i].size R[i].lo R[i].hi R[i].ptr R[i].set_ = R[i] from rfl, List.set_getElem_self]
      exact f10_l1_eq R k hl hs n (i + 1) _ (by push_cast; rfl) (by omega) (by omega)
    · rw [decide_eq_false (by omega : ¬ (i : Int) < (R.length : Int)), cond_false]
theorem f10_eq (t : Text) (in1 : List Int) (hs : Sz t) (h : MayB t = true) (hin : in1.length ≤ 1000000) : f10 t in1 = some (0, t.insns, t.handlers, t.objs, t.excs, in1, store t, []) := by
  have hv := MayB.vt hs h
  have h1 := hv.objs
  have h2 := hv.n
  have h3 := hv.hdls
  unfold f10
  rw [f37_eq t hs, h, Option.bind_some, Bool.not_true, cond_false]
  unfold f38 f39 f40n f42
  rw [guardB_t _ (appOk_t (by omega) (by simp; omega)), Option.bind_some, guardB_t _ (appOk_t (by omega) (by simp; omega)), Option.bind_some, guardB_t _ (appOk_t (by omega) (by simp; omega)), Option.bind_some, f41_eq t hs h, Option.bind_some, guardB_t _ (appOk_t (by omega) (by simp; omega)), Option.bind_some, letk_eq]
  exact f10_l1_eq t.objs _ (by omega) (fun o ho => by have := hv.o ho; omega) _ 0 0 rfl (Nat.zero_le _) (by omega)
end Go.Proofs.YtkbahggepncliaaGreatDoor
set_option maxRecDepth 10000
namespace Go.Proofs.YtkbahggepncliaaGreatDoor
open Go Go.Sk
def Sat {α : Type} (o : Option α) (Q : α → Prop) : Prop := ∃ r, o = some r ∧ Q r
theorem Sat.pure {α : Type} {a : α} {Q : α → Prop} (h : Q a) : Sat (some a) Q := ⟨a, rfl, h⟩
theorem Sat.bind {α β : Type} {o : Option α} {f : α → Option β} {P : α → Prop} {Q : β → Prop} (h : Sat o P) (hf : ∀ x, P x → Sat (f x) Q) : Sat (o.bind f) Q := by
  obtain ⟨r, h1, h2⟩ := h
  rw [h1]
  exact hf r h2
theorem Sat.cond {α : Type} {c : Bool} {a b : Option α} {Q : α → Prop} (h1 : c = true → Sat a Q) (h2 : c = false → Sat b Q) : Sat (bif c then a else b) Q := by
  cases c
  · exact h2 rfl
  · exact h1 rfl
theorem Sat.guard {α : Type} {c : Bool} {a : Option α} {Q : α → Prop} (h1 : c = true) (h2 : Sat a Q) : Sat (guardB c a) Q := by rw [guardB_t _ h1]; exact h2
theorem Sat.letk {α κ : Type} {k : κ} {f : κ → Option α} {Q : α → Prop} (P : κ → Prop) (hk : P k) (hf : ∀ k', P k' → Sat (f k') Q) : Sat (letk k f) Q := hf k hk
theorem Sat.cs {α β : Type} {r : Rs α} {f : Int → Option β} {g : α → Option β} {Q : β → Prop} (h1 : ∀ e, r = Rs.bad e → Sat (f e) Q) (h2 : ∀ z, r = Rs.ok z → Sat (g z) Q) : Sat (Rs.cs r f g) Q := by
  cases r with
  | ok z => exact h2 z rfl
  | bad e => exact h1 e rfl
theorem Sat.eq {α : Type} {o : Option α} {a : α} (h : o = some a) : Sat o (fun x => x = a) := ⟨a, h, rfl⟩
theorem Sat.idx {α : Type} {L : List α} {i : Int} (h : 0 ≤ i ∧ i < L.length) : Sat (idx L i) (fun x => idx L i = some x) := by
  obtain ⟨x, hx, _⟩ := idx_get_in h
  exact ⟨x, hx, hx⟩
theorem fl_d : ∀ (L : List (Int × Int)) (d a b n m to : Int), fl L d a b n m to = true → d = 0 ∨ ∃ w, (68, w) ∈ L ∧ rng w d = true
  | [], d, a, b, n, m, to, h => by
    simp only [fl, Bool.and_eq_true, decide_eq_true_eq] at h
    exact .inl (by omega)
  | (c, w) :: r, d, a, b, n, m, to, h => by
    have up : (d = 0 ∨ ∃ w, (68, w) ∈ r ∧ rng w d = true) → d = 0 ∨ ∃ w', (68, w') ∈ (c, w) :: r ∧ rng w' d = true := fun hh => by
      rcases hh with h | ⟨w', h1, h2⟩
      · exact .inl h
      · exact .inr ⟨w', List.mem_cons_of_mem _ h1, h2⟩
    rw [fl] at h
    by_cases hq : c = 68
    · subst hq
      refine .inr ⟨w, List.mem_cons_self, ?_⟩
      have h' : (rng w d && fl r 0 a b n m to) = true := h
      rw [Bool.and_eq_true] at h'
      exact h'.1
    · have e : decide (c = 68) = false := decide_eq_false hq
      rw [e] at h
      revert h
      cases decide (c = 68) <;> cases decide (c = 65) <;> cases decide (c = 66) <;> cases decide (c = 78) <;> cases decide (c = 77) <;> intro h <;> simp only [cond_true, cond_false, Bool.and_eq_true] at h <;> exact up (fl_d _ _ _ _ _ _ _ h.2)
theorem fl_a : ∀ (L : List (Int × Int)) (d a b n m to : Int), fl L d a b n m to = true → a = 0 ∨ ∃ w, (65, w) ∈ L ∧ rng w a = true
  | [], d, a, b, n, m, to, h => by
    simp only [fl, Bool.and_eq_true, decide_eq_true_eq] at h
    exact .inl (by omega)
  | (c, w) :: r, d, a, b, n, m, to, h => by
    have up : (a = 0 ∨ ∃ w, (65, w) ∈ r ∧ rng w a = true) → a = 0 ∨ ∃ w', (65, w') ∈ (c, w) :: r ∧ rng w' a = true := fun hh => by
      rcases hh with h | ⟨w', h1, h2⟩
      · exact .inl h
      · exact .inr ⟨w', List.mem_cons_of_mem _ h1, h2⟩
    rw [fl] at h
    by_cases hq : c = 65
    · subst hq
      refine .inr ⟨w, List.mem_cons_self, ?_⟩
      have h' : (rng w a && fl r d 0 b n m to) = true := h
      rw [Bool.and_eq_true] at h'
      exact h'.1
    · have e : decide (c = 65) = false := decide_eq_false hq
      rw [e] at h
      revert h
      cases decide (c = 68) <;> cases decide (c = 65) <;> cases decide (c = 66) <;> cases decide (c = 78) <;> cases decide (c = 77) <;> intro h <;> simp only [cond_true, cond_false, Bool.and_eq_true] at h <;> exact up (fl_a _ _ _ _ _ _ _ h.2)
theorem fl_b : ∀ (L : List (Int × Int)) (d a b n m to : Int), fl L d a b n m to = true → b = 0 ∨ ∃ w, (66, w) ∈ L ∧ rng w b = true
  | [], d, a, b, n, m, to, h => by
    simp only [fl, Bool.and_eq_true, decide_eq_true_eq] at h
    exact .inl (by omega)
  | (c, w) :: r, d, a, b, n, m, to, h => by
    have up : (b = 0 ∨ ∃ w, (66, w) ∈ r ∧ rng w b = true) → b = 0 ∨ ∃ w', (66, w') ∈ (c, w) :: r ∧ rng w' b = true := fun hh => by
      rcases hh with h | ⟨w', h1, h2⟩
      · exact .inl h
      · exact .inr ⟨w', List.mem_cons_of_mem _ h1, h2⟩
    rw [fl] at h
    by_cases hq : c = 66
    · subst hq
      refine .inr ⟨w, List.mem_cons_self, ?_⟩
      have h' : (rng w b && fl r d a 0 n m to) = true := h
      rw [Bool.and_eq_true] at h'
      exact h'.1
    · have e : decide (c = 66) = false := decide_eq_false hq
      rw [e] at h
      revert h
      cases decide (c = 68) <;> cases decide (c = 65) <;> cases decide (c = 66) <;> cases decide (c = 78) <;> cases decide (c = 77) <;> intro h <;> simp only [cond_true, cond_false, Bool.and_eq_true] at h <;> exact up (fl_b _ _ _ _ _ _ _ h.2)
theorem tab_ok : ∀ k, k < 41 → ((flds ((k : Nat) + 1 : Int)).all fun p => (!(decide (p.1 = 68)) || decide (p.2 = 114)) && ((!(decide (p.1 = 65)) || decide (p.2 = 114)) && (!(decide (p.1 = 66)) || (decide (p.2 = 114) || (decide (k = 4) || decide (k = 5)))))) = true := by decide +kernel
theorem rng_r {v : Int} (h : rng 114 v = true) : 0 ≤ v ∧ v ≤ 15 := by
  simp only [rng, f179] at h
  simp at h
  omega
theorem vec16 {v : Int} (h : 0 ≤ v ∧ v ≤ 15) : vecOk 16 v = true := by
  obtain ⟨n, rfl⟩ := Int.eq_ofNat_of_zero_le h.1
  have : n < 16 := by omega
  simp [vecOk, this]
structure Rg (x : Insn) : Prop where
  o : 1 ≤ x.op ∧ x.op ≤ 41
  d : vecOk 16 x.d = true
  a : vecOk 16 x.a = true
  b : x.op ≠ 5 → x.op ≠ 6 → vecOk 16 x.b = true
theorem imay_rg {x : Insn} (h : imay x = true) (ho : 1 ≤ x.op ∧ x.op ≤ 41) : Rg x := by
  unfold imay at h
  simp only [Bool.and_eq_true] at h
  have hf := h.2.2
  obtain ⟨k, hk⟩ : ∃ k : Nat, x.op = (k : Int) + 1 := ⟨(x.op - 1).toNat, by omega⟩
  have ht := List.all_eq_true.1 (tab_ok k (by omega))
  rw [hk] at hf
  refine ⟨ho, ?_, ?_, fun h5 h6 => ?_⟩
  · rcases fl_d _ _ _ _ _ _ _ hf with e | ⟨w, h1, h2⟩
    · exact vec16 (by omega)
    · have := ht _ h1
      simp at this
      rw [this] at h2
      exact vec16 (rng_r h2)
  · rcases fl_a _ _ _ _ _ _ _ hf with e | ⟨w, h1, h2⟩
    · exact vec16 (by omega)
    · have := ht _ h1
      simp at this
      rw [this] at h2
      exact vec16 (rng_r h2)
  · rcases fl_b _ _ _ _ _ _ _ hf with e | ⟨w, h1, h2⟩
    · exact vec16 (by omega)
    · have := ht _ h1
      simp at this
      have e : w = 114 := by omega
      rw [e] at h2
      exact vec16 (rng_r h2)
end Go.Proofs.YtkbahggepncliaaGreatDoor
set_option maxRecDepth 10000
namespace Go.Proofs.YtkbahggepncliaaGreatDoor
open Go Go.Sk
def OKq {α : Type} (Q : α → Prop) : Rs α → Prop
  | .bad _ => True
  | .ok z => Q z
def tk (A : List Act) : List Int := (A.filter fun x => decide (x.kind = 2)).map (·.a)
def pt (A : List Act) : List Int := (A.filter fun x => decide (x.kind = 1)).map (·.a)
def Quiet (A : List Act) : Prop := tk A = [] ∧ pt A = [] ∧ A.length ≤ 1
theorem quiet_nil : Quiet [] := ⟨rfl, rfl, by simp⟩
theorem quiet_1 {k : Int} (h1 : k ≠ 1) (h2 : k ≠ 2) (t s a b n : Int) : Quiet ([] ++ [Act.mk t s k a b n]) := by
  refine ⟨?_, ?_, by simp⟩
  · simp [tk, h2]
  · simp [pt, h1]
abbrev TT {α : Type} : Rs α → Prop := fun _ => True
section
variable (tR : Nat → Int) (tP : Int) (tX : Int) (tD : Int) (mI : List Insn) (mH : List MHandler) (mO : List Obj) (mE : Int) (mN : List Int) (mS : List (List Int)) (mU : List Int)
theorem f131_sat (tA : List Act) : Sat (f131 tR tP tX tD mI mH mO mE mN mS mU tA) TT := by
  unfold f131
  exact .cond (fun _ => .pure trivial) (fun _ => .pure trivial)
theorem f59_l1_sat {Q : Rs ((Nat → Int) × Int × Int × Int) → Prop} (c1 : Int) (k63 : Int → Option (Rs ((Nat → Int) × Int × Int × Int))) (k64 : Unit → Option (Rs ((Nat → Int) × Int × Int × Int))) (ha : ∀ t : Int, t < mH.length → Sat (k63 t) Q) (hb : Sat (k64 ()) Q) (hl : mH.length < 9223372036854775808) : ∀ (n i : Nat) (z : Int), z = (i : Int) → i ≤ mH.length → mH.length < n + i → Sat (f59_l1 tP mH c1 k63 k64 n z) Q
  | 0, i, z, _, _, h => by omega
  | n + 1, i, z, hz, hi, h => by
    subst hz
    rw [f59_l1]
    refine .cond (fun h1 => ?_) (fun _ => hb)
    have hh : i < mH.length := by have := of_decide_eq_true h1; omega
    refine .bind (.idx (by omega)) fun x _ => ?_
    rw [letk_eq]
    refine .cond (fun _ => ha _ (by omega)) fun _ => ?_
    rw [w64 (by omega) (by omega)]
    exact f59_l1_sat c1 k63 k64 ha hb hl n (i + 1) _ (by push_cast; rfl) (by omega) (by omega)
theorem f59_sat (hl : mH.length ≤ 4096) (tA : List Act) (c1 : Int) : Sat (f59 tR tP tX tD mI mH mO mE mN mS mU tA c1) TT := by
  unfold f59
  refine .letk (fun k => ∀ t : Int, t < mH.length → Sat (k t) TT) (fun t ht => ?_) fun k63 h63 => ?_
  · refine .cond (fun _ => .pure trivial) fun h0 => ?_
    refine .bind (.idx (by have := of_decide_eq_false h0; omega)) fun x _ => ?_
    refine .letk (fun k => ∀ t, Sat (k t) TT) (fun t => ?_) fun k hk => ?_
    · exact .cond (fun _ => .pure trivial) (fun _ => .pure trivial)
    · exact .cond (fun _ => hk _) (fun _ => hk _)
  · rw [letk_eq]
    exact f59_l1_sat tP mH c1 _ _ h63 (h63 _ (by omega)) (by omega) _ 0 0 rfl (Nat.zero_le _) (by omega)
abbrev QA : Rs ((Nat → Int) × Int × Int × Int × (List Act)) → Prop := OKq fun z => Quiet z.2.2.2.2
theorem f56_sat (hl : mH.length ≤ 4096) (n1 : Int) : Sat (f56 tR tP tX tD mI mH mO mE mN mS mU [] n1) QA := by
  unfold f56
  refine .bind (f59_sat _ _ _ _ _ _ _ _ _ _ _ hl _ _) fun r _ => ?_
  refine .cs (fun e _ => .pure trivial) fun z _ => ?_
  refine .guard (appOk_t (by omega) (by simp)) (.pure ?_)
  exact quiet_1 (by decide) (by decide) _ _ _ _ _
def Pl (mS : List (List Int)) (o k : Int) : Prop := ∃ x, idx mS o = some x ∧ ∃ v, idx x k = some v
theorem pl_or (o k : Int) : Sat (bif (((decide (o < 0)) || (decide (o ≥ (List.length mS : Int)))) || (decide (k < 0))) then some true else (Option.bind (idx mS o) fun x58 => some (decide (k ≥ (List.length x58 : Int))))) (fun b => b = false → Pl mS o k) := by
  refine .cond (fun _ => .pure fun h => by cases h) fun h => ?_
  simp only [Bool.or_eq_false_iff, decide_eq_false_iff_not] at h
  refine .bind (.idx (by omega)) fun x hx => .pure fun h2 => ?_
  have h2 := of_decide_eq_false h2
  obtain ⟨v, hv, _⟩ := idx_get_in (L := x) (i := k) (by omega)
  exact ⟨x, hx, v, hv⟩
theorem f81_sat (hS : mS.length = mO.length) (tA : List Act) (x : Insn) (hx : Rg x) : Sat (f81 tR tP tX tD mI mH mO mE mN mS mU tA x) TT := by
  unfold f81
  refine .letk (fun k => Sat (k ()) TT) (.pure trivial) fun k28 h28 => ?_
  refine .letk (fun k => ∀ t o i a b c d e, Pl mS o i → Sat (k t o i a b c d e) TT) (fun t o i a b c d e hp => ?_) fun k37 h37 => ?_
  · obtain ⟨x, h1, v, h2⟩ := hp
    refine .bind (.eq h1) fun _ e1 => ?_
    rw [e1]
    refine .bind (.eq h2) fun _ e2 => .guard hx.d (.bind (f131_sat _ _ _ _ _ _ _ _ _ _ _ _) fun r _ => ?_)
    exact .cs (fun _ _ => .pure trivial) (fun _ _ => .pure trivial)
  · refine .guard hx.a (.letk (fun k => ∀ o i, Sat (k o i) TT) (fun o i => ?_) fun k41 h41 => ?_)
    · rw [letk_eq]
      refine .letk (fun k => Pl mS o i → Sat (k ()) TT) (fun hp => ?_) fun k56 h56 => ?_
      · obtain ⟨x, h1, v, h2⟩ := id hp
        have := idx_some h1
        refine .bind (.idx (by omega)) fun y _ => h37 _ _ _ _ _ _ _ _ hp
      · refine .bind (pl_or mS o i) fun b hb => .cond (fun _ => h28) fun h0 => ?_
        have hp := hb h0
        obtain ⟨x, h1, v, h2⟩ := id hp
        refine .bind (.eq h1) fun _ e1 => ?_
        rw [e1]
        exact .bind (.eq h2) fun _ _ => h56 hp
    · refine .letk (fun k => ∀ b, Sat (k b) TT) (fun b => ?_) fun k43 h43 => .cond (fun _ => h43 _) (fun _ => h43 _)
      refine .cond (fun _ => .cond (fun _ => h28) (fun _ => h41 _ _)) fun _ => ?_
      refine .letk (fun k => ∀ b, Sat (k b) TT) (fun b => ?_) fun k49 h49 => .cond (fun _ => h49 _) (fun _ => h49 _)
      exact .cond (fun _ => .cond (fun _ => h28) (fun _ => h41 _ _)) fun _ => h41 _ _
theorem f104_sat (s : List Int) (v : Int) (hl : s.length < 9223372036854775808) : ∃ b, f104 s v = some b := by
  have key : ∀ (n i : Nat) (z : Int), z = (i : Int) → i ≤ s.length → s.length < n + i → ∃ r, f145_l1 s v (fun _ => some (-1)) n z = some r := by
    intro n
    induction n with
    | zero => intro i z _ _ _; omega
    | succ n ih =>
      intro i z hz hi h
      subst hz
      rw [f145_l1]
      by_cases hh : i < s.length
      · rw [decide_eq_true (by omega : (i : Int) < (s.length : Int)), cond_true, idx_in hh, Option.bind_some]
        cases decide (v = s[i])
        · rw [cond_false, w64 (by omega) (by omega)]
          exact ih (i + 1) _ (by push_cast; rfl) (by omega) (by omega)
        · exact ⟨_, rfl⟩
      · rw [decide_eq_false (by omega : ¬ (i : Int) < (s.length : Int)), cond_false]
        exact ⟨_, rfl⟩
  obtain ⟨r, hr⟩ := key (Int.toNat ((List.length s : Int) - 0) + 1) 0 0 rfl (Nat.zero_le _) (by omega)
  unfold f104 f145
  rw [letk_eq, hr]
  exact ⟨_, rfl⟩
theorem f63_sat (o : Obj) (v : Int) (hl : o.set_.length < 9223372036854775808) : Sat (f63 o v) (fun _ => True) := by
  unfold f63
  refine .cond (fun _ => ?_) fun _ => .pure trivial
  refine .bind (P := fun _ => True) (.cond (fun _ => .pure trivial) fun _ => ?_) fun b _ => .pure trivial
  obtain ⟨b, hb⟩ := f104_sat o.set_ (IntKind.i64.wrap (v - 1)) hl
  exact .bind (.eq hb) fun _ _ => .pure trivial
abbrev QS (n : Nat) : Rs ((Nat → Int) × Int × Int × Int × (List (List Int))) → Prop := OKq fun z => z.2.2.2.2.length = n
theorem f82_sat (hS : mS.length = mO.length) (hO : ∀ o ∈ mO, o.set_.length < 9223372036854775808) (tA : List Act) (x : Insn) (hx : Rg x) : Sat (f82 tR tP tX tD mI mH mO mE mN mS mU tA x) (QS mS.length) := by
  unfold f82
  refine .guard hx.d (.letk (fun k => ∀ v, Sat (k v) (QS mS.length)) (fun v46 => ?_) fun k hk => ?_)
  · refine .letk (fun k => Sat (k ()) (QS mS.length)) (.pure trivial) fun k50 h50 => ?_
    refine .letk (fun k => ∀ t o i a b c d e, t ∈ mO → Pl mS o i → Sat (k t o i a b c d e) (QS mS.length)) (fun t o i a b c d e ht hp => ?_) fun k59 h59 => ?_
    · refine .bind (f63_sat t v46 (hO t ht)) fun r _ => .cond (fun _ => .pure trivial) fun _ => ?_
      refine .bind (f131_sat _ _ _ _ _ _ _ _ _ _ _ _) fun r _ => .cs (fun _ _ => .pure trivial) fun z _ => ?_
      obtain ⟨x, h1, v, h2⟩ := hp
      refine .bind (.eq h1) fun _ e1 => ?_
      rw [e1]
      refine .bind (.eq h2) fun _ e2 => .pure ?_
      show (List.set _ _ _).length = _
      rw [List.length_set]
    · refine .guard hx.a (.letk (fun k => ∀ o i, Sat (k o i) (QS mS.length)) (fun o i => ?_) fun k41 h41 => ?_)
      · rw [letk_eq]
        refine .letk (fun k => Pl mS o i → Sat (k ()) (QS mS.length)) (fun hp => ?_) fun k56 h56 => ?_
        · obtain ⟨x, h1, v, h2⟩ := id hp
          have := idx_some h1
          refine .bind (.idx (by omega)) fun y hy => h59 _ _ _ _ _ _ _ _ (idx_mem hy) hp
        · refine .bind (pl_or mS o i) fun b hb => .cond (fun _ => h50) fun h0 => ?_
          have hp := hb h0
          obtain ⟨x, h1, v, h2⟩ := id hp
          refine .bind (.eq h1) fun _ e1 => ?_
          rw [e1]
          exact .bind (.eq h2) fun _ _ => h56 hp
      · refine .letk (fun k => ∀ b, Sat (k b) (QS mS.length)) (fun b => ?_) fun k43 h43 => .cond (fun _ => h43 _) (fun _ => h43 _)
        refine .cond (fun _ => .cond (fun _ => h50) (fun _ => h41 _ _)) fun _ => ?_
        refine .letk (fun k => ∀ b, Sat (k b) (QS mS.length)) (fun b => ?_) fun k49 h49 => .cond (fun _ => h49 _) (fun _ => h49 _)
        exact .cond (fun _ => .cond (fun _ => h50) (fun _ => h41 _ _)) fun _ => h41 _ _
  · exact .cond (fun _ => .guard hx.a (hk _)) (fun _ => hk _)
theorem f83_sat (tA : List Act) (x : Insn) (hx : Rg x) : Sat (f83 tR tP tX tD mI mH mO mE mN mS mU tA x) TT := by
  unfold f83
  refine .guard hx.a (.cond (fun _ => .pure trivial) fun _ => ?_)
  refine .letk (fun k => ∀ b, Sat (k b) TT) (fun b => ?_) fun k hk => .cond (fun _ => hk _) (fun _ => .cond (fun _ => hk _) (fun _ => hk _))
  exact .cond (fun _ => .pure trivial) fun _ => .bind (f131_sat _ _ _ _ _ _ _ _ _ _ _ _) fun r _ => .cs (fun _ _ => .pure trivial) (fun _ _ => .pure trivial)
theorem f84_sat (hl : mH.length ≤ 4096) (x : Insn) (hx : Rg x) : Sat (f84 tR tP tX tD mI mH mO mE mN mS mU [] x) QA := by
  unfold f84
  refine .guard hx.a (.cond (fun _ => ?_) fun _ => ?_)
  · exact .bind (f56_sat _ _ _ _ _ _ _ _ _ _ _ hl _) fun r hr => .cs (fun _ _ => .pure trivial) (fun z hz => .pure (by rw [hz] at hr; exact hr))
  · exact .bind (f131_sat _ _ _ _ _ _ _ _ _ _ _ _) fun r _ => .cs (fun _ _ => .pure trivial) (fun _ _ => .pure quiet_nil)
theorem f85_sat (hl : mH.length ≤ 4096) (x : Insn) (hx : Rg x) : Sat (f85 tR tP tX tD mI mH mO mE mN mS mU [] x) QA := by
  unfold f85
  refine .guard hx.a (.cond (fun _ => ?_) fun _ => .cond (fun _ => ?_) fun _ => .cond (fun _ => .pure trivial) fun _ => .cond (fun _ => ?_) fun _ => ?_)
  · exact .bind (f56_sat _ _ _ _ _ _ _ _ _ _ _ hl _) fun r hr => .cs (fun _ _ => .pure trivial) (fun z hz => .pure (by rw [hz] at hr; exact hr))
  · exact .bind (f131_sat _ _ _ _ _ _ _ _ _ _ _ _) fun r _ => .cs (fun _ _ => .pure trivial) (fun _ _ => .pure quiet_nil)
  · exact .bind (f59_sat _ _ _ _ _ _ _ _ _ _ _ hl _ _) fun r _ => .cs (fun _ _ => .pure trivial) (fun _ _ => .pure quiet_nil)
  · exact .bind (f56_sat _ _ _ _ _ _ _ _ _ _ _ hl _) fun r hr => .cs (fun _ _ => .pure trivial) (fun z hz => .pure (by rw [hz] at hr; exact hr))
def Io (mN mU : List Int) (N U : List Int) (A : List Act) : Prop := tk A ++ N = mN ∧ U = mU ++ pt A ∧ A.length ≤ 1
theorem io_q {mN mU : List Int} {A : List Act} (h : Quiet A) : Io mN mU mN mU A := ⟨by rw [h.1]; rfl, by rw [h.2.1, List.append_nil], h.2.2⟩
abbrev QI (mN mU : List Int) : Rs ((Nat → Int) × Int × Int × Int × (List Int) × (List Int) × (List Act)) → Prop := OKq fun z => Io mN mU z.2.2.2.2.1 z.2.2.2.2.2.1 z.2.2.2.2.2.2
theorem f86_sat (hl : mH.length ≤ 4096) (x : Insn) (hx : Rg x) (hk : x.op = 37 → IntKind.u8.wrap x.n ≠ 1 ∧ IntKind.u8.wrap x.n ≠ 2) (hU : mU.length ≤ 1000000) : Sat (f86 tR tP tX tD mI mH mO mE mN mS mU [] x) (QI mN mU) := by
  unfold f86
  refine .cond (fun h37 => ?_) fun _ => .cond (fun _ => ?_) fun _ => .cond (fun h0 => ?_) fun h0 => ?_
  · refine .bind (f131_sat _ _ _ _ _ _ _ _ _ _ _ _) fun r _ => .cs (fun _ _ => .pure trivial) (fun z _ => ?_)
    refine .letk (fun k => ∀ c, Sat (k c) (QI mN mU)) (fun c => .guard (appOk_t (by omega) (by simp)) (.pure ?_)) fun k hk => .cond (fun _ => hk _) (fun _ => hk _)
    have := hk (of_decide_eq_true h37)
    exact io_q (quiet_1 this.1 this.2 _ _ _ _ _)
  · refine .guard hx.a (.bind (f131_sat _ _ _ _ _ _ _ _ _ _ _ _) fun r _ => .cs (fun _ _ => .pure trivial) (fun z _ => ?_))
    refine .guard (appOk_t (by omega) (by simp; omega)) (.guard (appOk_t (by omega) (by simp)) (.pure ?_))
    exact ⟨rfl, rfl, by simp⟩
  · exact .bind (f56_sat _ _ _ _ _ _ _ _ _ _ _ hl _) fun r hr => .cs (fun _ _ => .pure trivial) (fun z hz => .pure (by rw [hz] at hr; exact io_q hr))
  · have h0 := of_decide_eq_false h0
    refine .bind (f131_sat _ _ _ _ _ _ _ _ _ _ _ _) fun r _ => .cs (fun _ _ => .pure trivial) (fun z _ => ?_)
    obtain ⟨v, N, rfl⟩ : ∃ v N, mN = v :: N := by
      cases mN with
      | nil => exact absurd rfl h0
      | cons v N => exact ⟨v, N, rfl⟩
    have e : idx (v :: N) 0 = some v := rfl
    refine .bind (.eq e) fun _ _ => .guard hx.d (.bind (.eq e) fun y hy => .guard (appOk_t (by omega) (by simp)) (.guard (by simp [sliceOk]; omega) (.pure ?_)))
    refine ⟨?_, by simp [pt], by simp⟩
    show tk ([] ++ [Act.mk 0 0 2 y 0 0]) ++ sliceF (v :: N) 1 ((v :: N).length : Int) = _
    rw [hy]
    simp [tk, sliceF]
theorem f87_sat (tA : List Act) (x : Insn) (hx : Rg x) : Sat (f87 tR tP tX tD mI mH mO mE mN mS mU tA x) TT := by
  unfold f87
  refine .letk (fun k => ∀ R d, Sat (k R d) TT) (fun R d => ?_) fun k hk => ?_
  · refine .cond (fun _ => .pure trivial) fun _ => .bind (f131_sat _ _ _ _ _ _ _ _ _ _ _ _) fun r _ => .cs (fun _ _ => .pure trivial) (fun _ _ => .pure trivial)
  · refine .cond (fun _ => .guard hx.d (hk _ _)) fun _ => .cond (fun _ => .guard hx.a (.guard hx.d (hk _ _))) fun _ => .cond (fun _ => .guard hx.d (hk _ _)) fun _ => .cond (fun _ => hk _ _) fun _ => .cond (fun _ => hk _ _) (fun _ => hk _ _)
end
end Go.Proofs.YtkbahggepncliaaGreatDoor
set_option maxRecDepth 10000
namespace Go.Proofs.YtkbahggepncliaaGreatDoor
open Go Go.Sk
theorem f132_sat (op a b : Int) : Sat (f132 op a b) (fun _ => True) := by
  have hdiv : ∀ (o : Option Int) (v : Int), o = guardB (nz b) (some v) → Sat (bif (decide (b = 0)) then some ((0 : Int), false) else Option.bind o fun r => some (r, true)) (fun _ => True) := fun o v ho => .cond (fun _ => .pure trivial) fun h => by
    rw [ho, guardB_t _ (by have := of_decide_eq_false h; simp [nz, this])]
    exact .pure trivial
  have hmod : Sat (bif (decide (b = 0)) then some ((0 : Int), false) else Option.bind (f187 a b) fun r => some (r, true)) (fun _ => True) := .cond (fun _ => .pure trivial) fun h => by
    have hz : nz b = true := by have := of_decide_eq_false h; simp [nz, this]
    unfold f187
    rw [guardB_t _ hz]
    refine .bind (P := fun _ => True) (.cond (fun _ => .pure trivial) fun _ => .guard hz (.pure trivial)) fun _ _ => .pure trivial
  unfold f132
  refine .cond (fun _ => .pure trivial) fun _ => .cond (fun _ => .pure trivial) fun _ => ?_
  simp only [letk_eq]
  refine .cond (fun _ => .pure trivial) fun _ => .cond (fun _ => .pure trivial) fun _ => .cond (fun _ => .pure trivial) fun _ => .cond (fun _ => hdiv _ _ rfl) fun _ => .cond (fun _ => hdiv _ _ rfl) fun _ => .cond (fun _ => hmod) fun _ => ?_
  exact .cond (fun _ => .pure trivial) fun _ => .cond (fun _ => .pure trivial) fun _ => .cond (fun _ => .pure trivial) fun _ => .cond (fun _ => .pure trivial) fun _ => .cond (fun _ => .pure trivial) fun _ => .cond (fun _ => .pure trivial) fun _ => .cond (fun _ => .pure trivial) fun _ => .cond (fun _ => .pure trivial) fun _ => .cond (fun _ => .pure trivial) fun _ => .cond (fun _ => .pure trivial) fun _ => .cond (fun _ => .pure trivial) fun _ => .cond (fun _ => .pure trivial) fun _ => .pure trivial
section
variable (tR : Nat → Int) (tP : Int) (tX : Int) (tD : Int) (mI : List Insn) (mH : List MHandler) (mO : List Obj) (mE : Int) (mN : List Int) (mS : List (List Int)) (mU : List Int)
theorem f88_sat (tA : List Act) (x : Insn) (hx : Rg x) (hb : vecOk 16 x.b = true) : Sat (f88 tR tP tX tD mI mH mO mE mN mS mU tA x) TT := by
  unfold f88
  refine .guard hx.a (.guard hb (.bind (f132_sat _ _ _) fun r _ => .cond (fun _ => .pure trivial) fun _ => .guard hx.d ?_))
  exact .bind (f131_sat _ _ _ _ _ _ _ _ _ _ _ _) fun r _ => .cs (fun _ _ => .pure trivial) (fun _ _ => .pure trivial)
def mth (o : Int) : Nat :=
  bif decide (o = 3) || (decide (o = 5) || decide (o = 7)) then 81 else
  bif decide (o = 4) || (decide (o = 6) || decide (o = 8)) then 82 else
  bif decide (o = 29) || (decide (o = 30) || (decide (o = 31) || decide (o = 32))) then 83 else
  bif decide (o = 27) || decide (o = 28) then 84 else
  bif decide (o = 33) || (decide (o = 34) || decide (o = 35)) then 85 else
  bif decide (o = 37) || (decide (o = 38) || decide (o = 39)) then 86 else
  bif decide (o = 1) || (decide (o = 2) || (decide (o = 36) || (decide (o = 40) || decide (o = 41)))) then 87 else 88
theorem f46_eq (tA : List Act) (o : Int) : f46 tR tP tX tD mI mH mO mE mN mS mU tA o = some (mth o) := by
  unfold f46 mth
  simp only [letk_eq]
  cases decide (o = 3)
  · cases decide (o = 5)
    · cases decide (o = 7)
      · cases decide (o = 4)
        · cases decide (o = 6)
          · cases decide (o = 8)
            · cases decide (o = 29)
              · cases decide (o = 30)
                · cases decide (o = 31)
                  · cases decide (o = 32)
                    · cases decide (o = 27)
                      · cases decide (o = 28)
                        · cases decide (o = 33)
                          · cases decide (o = 34)
                            · cases decide (o = 35)
                              · cases decide (o = 37)
                                · cases decide (o = 38)
                                  · cases decide (o = 39)
                                    · cases decide (o = 1)
                                      · cases decide (o = 2)
                                        · cases decide (o = 36)
                                          · cases decide (o = 40)
                                            · cases decide (o = 41) <;> rfl
                                            · rfl
                                          · rfl
                                        · rfl
                                      · rfl
                                    · rfl
                                  · rfl
                                · rfl
                              · rfl
                            · rfl
                          · rfl
                        · rfl
                      · rfl
                    · rfl
                  · rfl
                · rfl
              · rfl
            · rfl
          · rfl
        · rfl
      · rfl
    · rfl
  · rfl
theorem mth_rng (o : Int) : 81 ≤ mth o ∧ mth o ≤ 88 := by
  unfold mth
  generalize (decide (o = 3) || (decide (o = 5) || decide (o = 7))) = c1, (decide (o = 4) || (decide (o = 6) || decide (o = 8))) = c2, (decide (o = 29) || (decide (o = 30) || (decide (o = 31) || decide (o = 32)))) = c3, (decide (o = 27) || decide (o = 28)) = c4, (decide (o = 33) || (decide (o = 34) || decide (o = 35))) = c5, (decide (o = 37) || (decide (o = 38) || decide (o = 39))) = c6, (decide (o = 1) || (decide (o = 2) || (decide (o = 36) || (decide (o = 40) || decide (o = 41))))) = c7
  revert c1 c2 c3 c4 c5 c6 c7
  decide
theorem mth_88 {o : Int} (h : mth o = 88) : o ≠ 5 ∧ o ≠ 6 := by
  constructor <;> (rintro rfl; exact absurd h (by decide))
structure MV : Prop where
  h : mH.length ≤ 4096
  s : mS.length = mO.length
  o : ∀ o ∈ mO, o.set_.length < 9223372036854775808
  i : ∀ x ∈ mI, imay x = true ∧ 0 ≤ x.op
abbrev Z8 : Type := (Nat → Int) × Int × Int × Int × (List Int) × (List (List Int)) × (List Int) × (List Act)
abbrev QE (mN mU : List Int) (n : Nat) : Rs Z8 → Prop := OKq fun z => Io mN mU z.2.2.2.2.1 z.2.2.2.2.2.2.1 z.2.2.2.2.2.2.2 ∧ z.2.2.2.2.2.1.length = n
theorem fm_sat (hv : MV mI mH mO mS) (hU : mU.length ≤ 1000000) (n : Nat) (hn : 81 ≤ n ∧ n ≤ 88) (x : Insn) (hx : Rg x) (hb : n = 88 → vecOk 16 x.b = true) (hk : x.op = 37 → IntKind.u8.wrap x.n ≠ 1 ∧ IntKind.u8.wrap x.n ≠ 2) :
    Sat (fm n tR tP tX tD mI mH mO mE mN mS mU [] x) (QE mN mU mS.length) := by
  unfold fm
  refine .cond (fun _ => ?_) fun e1 => .cond (fun _ => ?_) fun e2 => .cond (fun _ => ?_) fun e3 => .cond (fun _ => ?_) fun e4 => .cond (fun _ => ?_) fun e5 => .cond (fun _ => ?_) fun e6 => .cond (fun _ => ?_) fun e7 => .cond (fun e => ?_) fun e8 => ?_
  · exact .bind (f81_sat _ _ _ _ _ _ _ _ _ _ _ hv.s _ _ hx) fun r _ => .pure (by cases r <;> first | trivial | exact ⟨io_q quiet_nil, rfl⟩)
  · exact .bind (f82_sat _ _ _ _ _ _ _ _ _ _ _ hv.s hv.o _ _ hx) fun r hr => .pure (by cases r <;> first | trivial | exact ⟨io_q quiet_nil, hr⟩)
  · exact .bind (f83_sat _ _ _ _ _ _ _ _ _ _ _ _ _ hx) fun r _ => .pure (by cases r <;> first | trivial | exact ⟨io_q quiet_nil, rfl⟩)
  · exact .bind (f84_sat _ _ _ _ _ _ _ _ _ _ _ hv.h _ hx) fun r hr => .pure (by cases r <;> first | trivial | exact ⟨io_q hr, rfl⟩)
  · exact .bind (f85_sat _ _ _ _ _ _ _ _ _ _ _ hv.h _ hx) fun r hr => .pure (by cases r <;> first | trivial | exact ⟨io_q hr, rfl⟩)
  · exact .bind (f86_sat _ _ _ _ _ _ _ _ _ _ _ hv.h _ hx hk hU) fun r hr => .pure (by cases r <;> first | trivial | exact ⟨hr, rfl⟩)
  · exact .bind (f87_sat _ _ _ _ _ _ _ _ _ _ _ _ _ hx) fun r _ => .pure (by cases r <;> first | trivial | exact ⟨io_q quiet_nil, rfl⟩)
  · exact .bind (f88_sat _ _ _ _ _ _ _ _ _ _ _ _ _ hx (hb (by simpa using e))) fun r _ => .pure (by cases r <;> first | trivial | exact ⟨io_q quiet_nil, rfl⟩)
  · exfalso
    have := Nat.ne_of_beq_eq_false e1
    have := Nat.ne_of_beq_eq_false e2
    have := Nat.ne_of_beq_eq_false e3
    have := Nat.ne_of_beq_eq_false e4
    have := Nat.ne_of_beq_eq_false e5
    have := Nat.ne_of_beq_eq_false e6
    have := Nat.ne_of_beq_eq_false e7
    have := Nat.ne_of_beq_eq_false e8
    omega
theorem flds37 : flds 37 = [(78, 107), (77, 115)] := by decide +kernel
theorem imay37 {x : Insn} (h : imay x = true) (ho : x.op = 37) : IntKind.u8.wrap x.n ≠ 1 ∧ IntKind.u8.wrap x.n ≠ 2 := by
  unfold imay at h
  rw [ho, flds37] at h
  simp only [Bool.and_eq_true] at h
  have := h.2.2
  simp only [fl, rng, f179] at this
  simp at this
  rw [IntKind.wrap_u8]
  omega
theorem f36_iff {o : Int} (h0 : 0 ≤ o) : f36 o = true ↔ 1 ≤ o ∧ o ≤ 41 := by
  unfold f36 f67
  simp only [Bool.and_eq_true, Bool.not_eq_true', decide_eq_true_eq, decide_eq_false_iff_not, Bool.and_eq_false_iff]
  omega
theorem f45_sat (hv : MV mI mH mO mS) (hU : mU.length ≤ 1000000) (hp : 0 ≤ tP ∧ tP < mI.length) : Sat (f45 tR tP tX tD mI mH mO mE mN mS mU []) (QE mN mU mS.length) := by
  unfold f45
  refine .bind (.idx hp) fun x hx => .cond (fun _ => .pure trivial) fun h36 => ?_
  have hm := hv.i x (idx_mem hx)
  have ho := (f36_iff hm.2).1 (by simpa using h36)
  have hr := imay_rg hm.1 ho
  rw [f46_eq, Option.bind_some]
  refine .bind (fm_sat _ _ _ _ _ _ _ _ _ _ _ hv hU _ (mth_rng _) _ hr (fun e => hr.b (mth_88 e).1 (mth_88 e).2) (imay37 hm.1)) fun r hr => .cs (fun _ _ => .pure trivial) fun z hz => .pure ?_
  rw [hz] at hr
  exact hr
structure EX (n : Nat) (mN mU : List Int) (r : Regs × (List Act) × Int × (List Int) × (List (List Int)) × (List Int)) : Prop where
  io : Io mN mU r.2.2.2.1 r.2.2.2.2.2 r.2.1
  s : r.2.2.2.2.1.length = n
  e : r.2.2.1 ≠ 0 → r.2.1 = []
theorem f11_sat (hv : MV mI mH mO mS) (hU : mU.length ≤ 1000000) (r : Regs) : Sat (f11 mI mH mO mE mN mS mU r) (EX mS.length mN mU) := by
  unfold f11
  refine .bind (P := EX mS.length mN mU) ?_ fun r hr => .pure hr
  unfold f44_45
  refine .bind (.eq rfl) fun b _ => .cond (fun _ => .pure ⟨io_q quiet_nil, rfl, fun _ => rfl⟩) fun _ => .cond (fun _ => .pure ⟨io_q quiet_nil, rfl, fun _ => rfl⟩) fun h => ?_
  simp only [Bool.or_eq_false_iff, decide_eq_false_iff_not] at h
  refine .bind (f45_sat _ _ _ _ _ _ _ _ _ _ _ hv hU (by omega)) fun r hr => .cs (fun _ _ => .pure ⟨io_q quiet_nil, rfl, fun _ => rfl⟩) fun z hz => .pure ?_
  rw [hz] at hr
  exact ⟨hr.1, hr.2, fun h => absurd rfl h⟩
end
end Go.Proofs.YtkbahggepncliaaGreatDoor
set_option maxRecDepth 10000
namespace Go.Proofs.YtkbahggepncliaaGreatDoor
open Go Go.Sk
theorem f14_l1_eq (L : List Int) (k : Unit → Option Bool) (hl : L.length < 9223372036854775808) : ∀ (n i : Nat) (z : Int), z = (i : Int) → i ≤ L.length → L.length < n + i → f14_l1 L L k n z = k ()
  | 0, i, z, _, _, h => by omega
  | n + 1, i, z, hz, hi, h => by
    subst hz
    rw [f14_l1]
    by_cases hh : i < L.length
    · rw [decide_eq_true (by omega : (i : Int) < (L.length : Int)), cond_true, idx_in hh, Option.bind_some, Option.bind_some, decide_eq_true rfl, Bool.not_true, cond_false, w64 (by omega) (by omega)]
      exact f14_l1_eq L k hl n (i + 1) _ (by push_cast; rfl) (by omega) (by omega)
    · rw [decide_eq_false (by omega : ¬ (i : Int) < (L.length : Int)), cond_false]
theorem f14_same (L : List Int) (hl : L.length < 9223372036854775808) : f14 L L = some true := by
  unfold f14
  rw [decide_eq_true rfl, Bool.not_true, cond_false, letk_eq, f14_l1_eq L _ hl _ 0 0 rfl (Nat.zero_le _) (by omega)]
theorem f12_l1_sat (t : Text) (k : Int → Option Bool) (hk : ∀ a, Sat (k a) fun _ => True) : ∀ (n i : Nat) (a z : Int), z = (i : Int) → i ≤ 100 → 100 < n + i → Sat (f12_l1 t k n a z) fun _ => True
  | 0, i, _, z, _, _, h => by omega
  | n + 1, i, a, z, hz, hi, h => by
    subst hz
    rw [f12_l1]
    refine .cond (fun h1 => ?_) fun _ => hk _
    rw [Bool.and_eq_true, decide_eq_true_eq, decide_eq_true_eq] at h1
    refine .bind (.idx (by omega)) fun x _ => ?_
    rw [w64 (x := (i : Int) + 1) (by omega) (by omega)]
    exact f12_l1_sat t k hk n (i + 1) _ _ (by push_cast; rfl) (by omega) (by omega)
theorem f12_sat (t : Text) : Sat (f12 t) fun _ => True := by
  unfold f12
  exact .letk (fun k => ∀ a, Sat (k a) fun _ => True) (fun a => .pure trivial) fun k hk => f12_l1_sat t k hk _ 0 _ 0 rfl (by omega) (by omega)
theorem tk_cons (x : Act) (A : List Act) : tk (x :: A) = (bif decide (x.kind = 2) then [x.a] else []) ++ tk A := by
  unfold tk
  rw [List.filter_cons]
  by_cases h : x.kind = 2 <;> simp [h]
theorem pt_cons (x : Act) (A : List Act) : pt (x :: A) = (bif decide (x.kind = 1) then [x.a] else []) ++ pt A := by
  unfold pt
  rw [List.filter_cons]
  by_cases h : x.kind = 1 <;> simp [h]
abbrev X6 : Type := Regs × (List Act) × Int × (List Int) × (List (List Int)) × (List Int)
theorem f4_l2_eq (r : X6) (k : (List Int) → (List Int) → (Nat → Int) → Option Bool) (hA : r.2.1.length ≤ 1000) : ∀ (n i : Nat) (z : Int) (a b : List Int) (R : Nat → Int), z = (i : Int) → i ≤ r.2.1.length → r.2.1.length < n + i → a.length ≤ 100000 + i → b.length ≤ 100000 + i →
    f4_l2 r k n z a b R = k (a ++ tk (r.2.1.drop i)) (b ++ pt (r.2.1.drop i)) R
  | 0, i, z, _, _, _, _, _, h, _, _ => by omega
  | n + 1, i, z, a, b, R, hz, hi, h, ha, hb => by
    subst hz
    rw [f4_l2]
    by_cases hh : i < r.2.1.length
    · rw [drop_cons hh, tk_cons, pt_cons, decide_eq_true (by omega : (i : Int) < (r.2.1.length : Int)), cond_true]
      rw [letk_eq, letk_eq, idx_in hh]
      simp only [Option.bind_some]
      rw [w64 (by omega) (by omega)]
      generalize r.2.1[i] = x
      have ih := fun a b h1 h2 => f4_l2_eq r k hA n (i + 1) ((i : Int) + 1) a b R (by push_cast; rfl) (by omega) (by omega) h1 h2
      cases decide (x.kind = 2) <;> cases decide (x.kind = 1)
      · simp only [cond_false, List.nil_append]
        exact ih _ _ (by omega) (by omega)
      · simp only [cond_false, cond_true, List.nil_append]
        rw [guardB_t _ (appOk_t (by omega) (by simp; omega)), ih _ _ (by omega) (by simp; omega), List.append_assoc]
      · simp only [cond_false, cond_true, List.nil_append]
        rw [guardB_t _ (appOk_t (by omega) (by simp; omega)), ih _ _ (by simp; omega) (by omega), List.append_assoc]
      · simp only [cond_true]
        rw [guardB_t _ (appOk_t (by omega) (by simp; omega)), guardB_t _ (appOk_t (by omega) (by simp; omega)), ih _ _ (by simp; omega) (by simp; omega), List.append_assoc, List.append_assoc]
    · rw [decide_eq_false (by omega : ¬ (i : Int) < (r.2.1.length : Int)), cond_false, List.drop_eq_nil_of_le (by omega)]
      show _ = k (a ++ []) (b ++ []) R
      rw [List.append_nil, List.append_nil]
theorem tk_len (A : List Act) : (tk A).length ≤ A.length := by
  unfold tk
  rw [List.length_map]
  exact List.length_filter_le _ _
theorem pt_len (A : List Act) : (pt A).length ≤ A.length := by
  unfold pt
  rw [List.length_map]
  exact List.length_filter_le _ _
abbrev K9 : Type := (List (List Int)) → (List Int) → (List Int) → (List Int) → (List Int) → (Nat → Int) → Int → Int → Int → Option Bool
theorem f4_l1_eq (steps : Int) (hst : steps ≤ 300 ∧ -9223372036854775808 ≤ steps) (r : Int × (List Insn) × (List MHandler) × (List Obj) × Int × (List Int) × (List (List Int)) × (List Int)) (in1 : List Int) (hin : in1.length ≤ 200) (k : K9)
    (hk : ∀ S U l N R p x d, l ++ N = in1 → U.length ≤ 1000 → k S U l U N R p x d = some true) : ∀ (n i : Nat) (z : Int) (S : List (List Int)) (U l N : List Int) (R : Nat → Int) (p x d : Int), z = (i : Int) → i ≤ 300 → 300 < n + i → MV r.2.1 r.2.2.1 r.2.2.2.1 S → l ++ N = in1 → U.length ≤ i →
    f4_l1 steps r k n z S U l U N R p x d = some true
  | 0, i, z, _, _, _, _, _, _, _, _, _, _, h, _, _, _ => by omega
  | n + 1, i, z, S, U, l, N, R, p, x, d, hz, hi, h, hv, hl, hU => by
    subst hz
    rw [f4_l1]
    rw [w64 (x := steps) (by omega) (by omega)]
    by_cases hh : (i : Int) < steps
    · rw [decide_eq_true hh, cond_true, letk_eq]
      obtain ⟨e, he, hx⟩ := f11_sat r.2.1 r.2.2.1 r.2.2.2.1 r.2.2.2.2.1 N S U hv (by omega) (Regs.mk R p x d)
      rw [he, Option.bind_some]
      have hlen : (l ++ N).length ≤ 200 := by rw [hl]; exact hin
      rw [List.length_append] at hlen
      obtain ⟨i1, i2, i3⟩ := hx.io
      have ht := tk_len e.2.1
      have hp := pt_len e.2.1
      by_cases h0 : e.2.2.1 = 0
      · rw [decide_eq_true h0, Bool.not_true, cond_false, letk_eq]
        rw [f4_l2_eq e _ (by omega) _ 0 0 l U R rfl (Nat.zero_le _) (by omega) (by omega) (by omega), List.drop_zero, w64 (x := (i : Int) + 1) (by omega) (by omega), ← i2]
        refine f4_l1_eq steps hst r in1 hin k hk n (i + 1) _ _ _ _ _ _ _ _ _ (by push_cast; rfl) (by omega) (by omega) ⟨hv.h, by rw [hx.s, hv.s], hv.o, hv.i⟩ ?_ ?_
        · rw [List.append_assoc, i1, hl]
        · rw [i2, List.length_append]; omega
      · rw [decide_eq_false h0, Bool.not_false, cond_true]
        have hA := hx.e h0
        rw [hA] at i1 i2
        have i1 : e.2.2.2.1 = N := i1
        have i2 : e.2.2.2.2.2 = U := by rw [i2]; exact List.append_nil _
        rw [i1, i2]
        exact hk _ _ _ _ _ _ _ _ hl (by omega)
    · rw [decide_eq_false hh, cond_false]
      exact hk _ _ _ _ _ _ _ _ hl (by omega)
theorem mv_of {t : Text} (hv : VT t) : MV t.insns t.handlers t.objs (store t) :=
  ⟨hv.hdls, (shape_store hv).len, hv.sz.sets, fun x hx => ⟨by
    have := hv.fits x hx
    unfold fitI at this
    rw [Bool.and_eq_true] at this
    exact this.1, (hv.sz.ops x hx).1⟩⟩
theorem law_passes (t : Text) (in1 : List Int) (at2 steps : Int) (hs : Sz t) (hst : -9223372036854775808 ≤ steps) : f4 t in1 at2 steps = some true := by
  obtain ⟨b, hb, _⟩ := f12_sat t
  unfold f4
  rw [hb, Option.bind_some]
  cases hc : (b || (decide ((List.length in1 : Int) > 200))) || (decide (steps > 300))
  · rw [cond_false, f37_eq t hs, Option.bind_some]
    simp only [Bool.or_eq_false_iff, decide_eq_false_iff_not] at hc
    cases hm : MayB t
    · rw [cond_false]
      unfold f10b
      rw [f37_eq t hs, hm]
      exact f9_ok
    · rw [cond_true, f10_eq t in1 hs hm (by omega), Option.bind_some]
      rw [show (!decide (((0 : Int), t.insns, t.handlers, t.objs, t.excs, in1, store t, ([] : List Int)).1 = 0)) = false from rfl, cond_false, letk_eq]
      refine f4_l1_eq steps ⟨by omega, hst⟩ _ in1 (by omega) _ (fun S U l N R p x d hl hU => ?_) _ 0 0 _ _ _ _ _ _ _ _ rfl (by omega) (by omega) (mv_of (MayB.vt hs hm)) rfl (by simp)
      have hn : 1 ≤ t.insns.length := (MayB.vt hs hm).n.1
      have h47 : ∀ a b c d e f, f47 t.insns a b c d e f = some false := fun a b c d e f => by
        unfold f47
        rw [decide_eq_false (by omega)]
      have hlen : (l ++ N).length = in1.length := by rw [hl]
      rw [List.length_append] at hlen
      unfold f13 f15
      dsimp only
      rw [h47, Option.bind_some, Option.bind_some, cond_false, cond_false]
      unfold f42 f42c
      rw [guardB_t _ (appOk_t (by omega) (by simp; omega)), guardB_t _ (appOk_t (by omega) (by simp; omega)), Option.bind_some, Option.bind_some, Option.bind_some, guardB_t _ (appOk_t (by omega) (by omega)), hl, f14_same in1 (by omega), Option.bind_some, cond_true, Option.bind_some, f14_same U (by omega), Option.bind_some, cond_true, f9_ok]
      rfl
  · rw [cond_true, f9_ok]; rfl
end Go.Proofs.YtkbahggepncliaaGreatDoor
set_option maxRecDepth 10000
namespace Go.Proofs.YtkbahggepncliaaGreatDoor
open Go Go.Sk
def lo2 (x : Int) : Int := IntKind.i64.wrap (BitVec.ofInt IntKind.i64.bits x &&& BitVec.ofInt IntKind.i64.bits 3).toNat
def opv' (o : Int) : Int := IntKind.u8.wrap (9 + (Int.tmod o 4))
def mk (x : Insn) : Insn := bif decide (opv' x.op > 11) then Insn.mk 2 (lo2 x.d) (lo2 x.a) 0 0 0 0 else Insn.mk (opv' x.op) (lo2 x.d) (lo2 x.a) (lo2 x.b) 0 0 0
section
variable (R : Nat → Int) (p : Int) (mI : List Insn) (mH : List MHandler) (mO : List Obj) (mE : Int) (mN : List Int) (mS : List (List Int)) (mU : List Int) (x : Insn)
end
end Go.Proofs.YtkbahggepncliaaGreatDoor
