/-
  Regions that draw their order, of any kind: each operation is shown alone, over what its predecessors surely have left.
-/
import Derived.Laws.StructEq
import Derived.Laws.Cover3
import Derived.Laws.Pointers
import Derived.Laws.Strings3
import Derived.Laws.DeepStrings4
import Derived.Laws.Strings
import Derived.Test.YteafckpdbmncfaaDoorSa
namespace Go.Sk
open Go.RowKit (Below)

theorem WL.drop {P : Program} {e : En} {ops : Array Oper} {l : List Oper} {env : Env} {st : List AO} {R : Env → List AO → Prop} (n : Nat) (he : Env.lt n env = true) (ho : stLt n (st.take n) = true) (hm : e.m.length ≤ n) (h : WL P e ops l env (st.take n) R) : WL P e ops l env st R := fun m φ a w hi =>
  h (m.take n) φ a w (hi.drop n he ho hm)

def FL (base : Env) (L : Nat → Bool) : List (Nat × Nat × AV) → Env
  | [] => base
  | (k, d, r) :: rest => bif L k then (d, r) :: FL base L rest else FL base L rest
def regOf : List Oper → List AV → Nat → List (Nat × Nat × AV)
  | o :: l, r :: rs, k => (match o.dst with | some d => (k, d, r) :: regOf l rs (k + 1) | none => regOf l rs (k + 1))
  | _, _, _ => []

theorem Env.get_cons (k : Nat) (v : AV) (r : Env) (t : Nat) : Env.get ((k, v) :: r) t = if t = k then some v else Env.get r t := by
  conv => lhs; unfold Env.get
  by_cases h : t = k
  · subst h; simp
  · have : Nat.beq t k = false := by
      cases hb : Nat.beq t k with
      | false => rfl
      | true => exact absurd (Nat.eq_of_beq_eq_true hb) h
    rw [this, if_neg h]; rfl

theorem FL_hit {base : Env} {L : Nat → Bool} {k d : Nat} {r : AV} : ∀ {reg : List (Nat × Nat × AV)}, (reg.map (·.2.1)).Nodup → (k, d, r) ∈ reg → L k = true → (FL base L reg).get d = some r
  | (j, d', r') :: reg, hn, hm, hL => by
    simp only [List.map_cons, List.nodup_cons] at hn
    rcases List.mem_cons.1 hm with h | h
    · simp only [Prod.mk.injEq] at h
      obtain ⟨rfl, rfl, rfl⟩ := h
      simp [FL, hL, Env.get_cons]
    · have hne : d ≠ d' := fun he => hn.1 (by subst he; exact List.mem_map.2 ⟨_, h, rfl⟩)
      have := FL_hit (base := base) hn.2 h hL
      unfold FL
      cases L j
      · exact this
      · rw [cond_true, Env.get_cons, if_neg hne]; exact this
theorem FL_miss {base : Env} {L : Nat → Bool} {t : Nat} : ∀ {reg : List (Nat × Nat × AV)}, (∀ k r, (k, t, r) ∈ reg → L k = false) → (FL base L reg).get t = base.get t
  | [], _ => rfl
  | (j, d', r') :: reg, h => by
    have ih := FL_miss (base := base) (L := L) (t := t) (reg := reg) (fun k r hm => h k r (List.mem_cons_of_mem _ hm))
    unfold FL
    cases hL : L j
    · exact ih
    · have hne : t ≠ d' := fun he => by
        have := h j r' (by rw [he]; exact List.mem_cons_self)
        rw [hL] at this; cases this
      rw [cond_true, Env.get_cons, if_neg hne]; exact ih
theorem FL_step {base : Env} {L L' : Nat → Bool} {k t : Nat} : ∀ {reg : List (Nat × Nat × AV)}, (∀ j, j ≠ k → L' j = L j) → (∀ r, (k, t, r) ∉ reg) → (FL base L' reg).get t = (FL base L reg).get t
  | [], _, _ => rfl
  | (j, d', r') :: reg, h, hk => by
    have ih := FL_step (base := base) (reg := reg) h (fun r hr => hk r (List.mem_cons_of_mem _ hr))
    unfold FL
    by_cases hjk : j = k
    · subst hjk
      have hne : t ≠ d' := fun he => hk r' (by rw [he]; exact List.mem_cons_self)
      cases L' j <;> cases L j <;> simp only [cond_true, cond_false, Env.get_cons, if_neg hne, ih]
    · rw [h j hjk]
      cases L j
      · exact ih
      · rw [cond_true, cond_true, Env.get_cons, Env.get_cons, ih]

theorem mem_regOf : ∀ {l : List Oper} {rs : List AV} {k j d : Nat} {r : AV}, (j, d, r) ∈ regOf l rs k → k ≤ j ∧ ∃ o, l[j - k]? = some o ∧ o.dst = some d ∧ rs[j - k]? = some r
  | [], rs, k, j, d, r, h => by simp [regOf] at h
  | o :: l, [], k, j, d, r, h => by simp [regOf] at h
  | o :: l, r0 :: rs, k, j, d, r, h => by
    unfold regOf at h
    have key : (j, d, r) ∈ regOf l rs (k + 1) → k ≤ j ∧ ∃ o', (o :: l)[j - k]? = some o' ∧ o'.dst = some d ∧ (r0 :: rs)[j - k]? = some r := fun h => by
      obtain ⟨h1, o', h2, h3, h4⟩ := mem_regOf h
      have : j - k = (j - (k + 1)) + 1 := by omega
      exact ⟨by omega, o', by rw [this]; simpa using h2, h3, by rw [this]; simpa using h4⟩
    split at h
    · rename_i d0 hd
      rcases List.mem_cons.1 h with h | h
      · simp only [Prod.mk.injEq] at h
        obtain ⟨rfl, rfl, rfl⟩ := h
        exact ⟨Nat.le_refl _, o, by simp, hd, by simp⟩
      · exact key h
    · exact key h
theorem regOf_mem : ∀ {l : List Oper} {rs : List AV} {k j d : Nat} {r : AV} {o : Oper}, l[j]? = some o → o.dst = some d → rs[j]? = some r → (k + j, d, r) ∈ regOf l rs k
  | [], rs, k, j, d, r, o, h, _, _ => by simp at h
  | o0 :: l, [], k, j, d, r, o, _, _, h => by simp at h
  | o0 :: l, r0 :: rs, k, 0, d, r, o, h1, h2, h3 => by
    simp only [List.getElem?_cons_zero, Option.some.injEq] at h1 h3
    subst h1; subst h3
    simp [regOf, h2]
  | o0 :: l, r0 :: rs, k, j + 1, d, r, o, h1, h2, h3 => by
    have := regOf_mem (k := k + 1) (by simpa using h1 : l[j]? = some o) h2 (by simpa using h3 : rs[j]? = some r)
    rw [show k + (j + 1) = k + 1 + j by omega]
    unfold regOf
    split
    · exact List.mem_cons_of_mem _ this
    · exact this

/-- The edges go down, and tc names predecessors only. -/
def tcOk (ops : List Oper) (tc : List (List Nat)) : Bool :=
  (List.range ops.length).all fun k => match ops[k]? with
    | none => false
    | some o => (o.after.toList.all fun e => !(Region.binds .any e) || Nat.blt e.on k) &&
      (tc.getD k []).all fun j => o.after.toList.any fun e => Region.binds .any e && (Nat.beq e.on j || (tc.getD e.on []).contains j)

def Down (ops : List Oper) (L : Nat → Bool) : Prop := ∀ (k : Nat) (o : Oper), ops[k]? = some o → L k = true → ∀ e ∈ o.after, Region.binds .any e = true → L e.on = true

theorem tc_listed {ops : List Oper} {tc : List (List Nat)} (hok : tcOk ops tc = true) {L : Nat → Bool} (hd : Down ops L) : ∀ (k : Nat) (o : Oper), ops[k]? = some o → (∀ e ∈ o.after, Region.binds .any e = true → L e.on = true) → ∀ j ∈ tc.getD k [], L j = true := by
  intro k
  induction k using Nat.strongRecOn with
  | _ k ih =>
    intro o ho hall j hj
    have hk : k < ops.length := (List.getElem?_eq_some_iff.1 ho).1
    have h1 := List.all_eq_true.1 hok k (List.mem_range.2 hk)
    simp only [ho, Bool.and_eq_true] at h1
    have h2 := List.any_eq_true.1 (List.all_eq_true.1 h1.2 j hj)
    obtain ⟨e, he, h3⟩ := h2
    simp only [Bool.and_eq_true, Bool.or_eq_true] at h3
    have hea : e ∈ o.after := Array.mem_toList_iff.1 he
    have hL := hall e hea h3.1
    rcases h3.2 with h4 | h4
    · rw [← Nat.eq_of_beq_eq_true h4]; exact hL
    · have h5 := List.all_eq_true.1 h1.1 e he
      simp only [h3.1, Bool.not_true, Bool.false_or] at h5
      have hlt : e.on < k := by simpa [Nat.blt_eq] using h5
      cases hoe : ops[e.on]? with
      | none => exact absurd (List.getElem?_eq_none_iff.1 hoe) (by omega)
      | some o' => exact ih e.on hlt o' hoe (fun e' he' hb => hd e.on o' hoe hL e' he' hb) j (by simpa using h4)

/-- How many of the chain are listed. -/
def cnt (L : Nat → Bool) : List Nat → Nat
  | [] => 0
  | e :: es => bif L e then cnt L es + 1 else 0

def eko (l : List Oper) (rs : List AV) (j : Nat) : Option (Nat × AV) := match l[j]?, rs[j]? with
  | some o, some r => o.dst.map fun d => (d, r)
  | _, _ => none
def ekB (base : Env) : List Nat → Env
  | x :: bk => (match base.get x with | some v => (x, v) :: ekB base bk | none => ekB base bk)
  | [] => []
def ekP (l : List Oper) (rs : List AV) (tail : Env) : List Nat → Env
  | j :: pk => (match eko l rs j with | some p => p :: ekP l rs tail pk | none => ekP l rs tail pk)
  | [] => tail
def ekOf (l : List Oper) (rs : List AV) (base : Env) (pk bk : List Nat) : Env := ekP l rs (ekB base bk) pk

def Ob (P : Program) (e : En) (l : List Oper) (rs : List AV) (base : Env) (sts : Nat → List AO) (k : Nat) (o : Oper) (pk bk : List Nat) (c c' : Nat) : Prop :=
  ∀ F : Env, WL P e l.toArray [o] (ekOf l rs base pk bk ++ F) (sts c) fun env' st' => st' = sts c' ∧ ∃ pre, env' = pre ++ (ekOf l rs base pk bk ++ F) ∧
    (∀ t x, pre.get t = some x → o.dst = some t) ∧ ∀ d r, o.dst = some d → rs[k]? = some r → pre.get d = some r
def ObC (P : Program) (e : En) (l : List Oper) (rs : List AV) (base : Env) (sts : Nat → List AO) (k : Nat) (o : Oper) (pk bk : List Nat) (up : Bool) : List Nat → Prop
  | [] => True
  | c :: cs => Ob P e l rs base sts k o pk bk c (bif up then c + 1 else c) ∧ ObC P e l rs base sts k o pk bk up cs
def Obs (P : Program) (e : En) (l : List Oper) (rs : List AV) (base : Env) (sts : Nat → List AO) (es : List Nat) : Nat → List Oper → List (List Nat × List Nat × List Nat) → Prop
  | k, o :: ol, p :: ps => ObC P e l rs base sts k o p.1 p.2.1 (es.contains k) p.2.2 ∧ Obs P e l rs base sts es (k + 1) ol ps
  | _, _, _ => True

theorem ObC_get {P e l rs base sts k o pk bk up} : ∀ {cs : List Nat}, ObC P e l rs base sts k o pk bk up cs → ∀ c ∈ cs, Ob P e l rs base sts k o pk bk c (bif up then c + 1 else c)
  | c :: cs, h, c', hc => by
    rcases List.mem_cons.1 hc with rfl | hc
    · exact h.1
    · exact ObC_get h.2 c' hc
theorem Obs_get {P e l rs base sts es} : ∀ {ol : List Oper} {ps : List (List Nat × List Nat × List Nat)} {k j : Nat} {o : Oper} {p : List Nat × List Nat × List Nat}, Obs P e l rs base sts es k ol ps → ol[j]? = some o → ps[j]? = some p → ObC P e l rs base sts (k + j) o p.1 p.2.1 (es.contains (k + j)) p.2.2
  | o0 :: ol, p0 :: ps, k, 0, o, p, h, h1, h2 => by
    simp only [List.getElem?_cons_zero, Option.some.injEq] at h1 h2
    subst h1; subst h2; exact h.1
  | o0 :: ol, p0 :: ps, k, j + 1, o, p, h, h1, h2 => by
    have := Obs_get h.2 (by simpa using h1 : ol[j]? = some o) (by simpa using h2 : ps[j]? = some p)
    rw [show k + (j + 1) = k + 1 + j by omega]; exact this
  | [], _, _, _, _, _, _, h1, _ => by simp at h1
  | _ :: _, [], _, _, _, _, _, _, h2 => by simp at h2

def nodupB : List Nat → Bool
  | [] => true
  | x :: l => !(l.contains x) && nodupB l
theorem nodupB_spec : ∀ {l : List Nat}, nodupB l = true → l.Nodup
  | [], _ => List.nodup_nil
  | x :: l, h => by
    simp only [nodupB, Bool.and_eq_true, Bool.not_eq_true', List.contains_eq_mem, decide_eq_false_iff_not] at h
    exact List.nodup_cons.2 ⟨h.1, nodupB_spec h.2⟩

/-- The check of a plan. -/
def allOk (l : List Oper) (tc : List (List Nat)) (es : List Nat) (plan : List (List Nat × List Nat × List Nat)) : Bool :=
  tcOk l tc && nodupB (l.filterMap (·.dst)) && nodupB es && Nat.beq plan.length l.length &&
  ((List.range es.length).all fun i => match es[i]?, es[i + 1]? with | some x, some y => (tc.getD y []).contains x | _, _ => true) &&
  (List.range l.length).all fun k => match plan[k]? with
    | none => false
    | some (pk, bk, cs) => (pk.all fun j => (tc.getD k []).contains j) && (!(es.contains k) || cs.all fun c => es[c]? == some k) &&
      (bk.all fun x => (List.range l.length).all fun j => match l[j]? with | some o => !(o.dst == some x) || Nat.beq j k || (tc.getD j []).contains k | none => true) &&
      (List.range (es.length + 1)).all fun c => cs.contains c || (match es[c]? with | some y => (tc.getD k []).contains y | none => false) ||
        (es.take c).any fun y => Nat.beq y k || (tc.getD y []).contains k

theorem eko_spec {l : List Oper} {rs : List AV} {j t : Nat} {x : AV} (h : eko l rs j = some (t, x)) : (j, t, x) ∈ regOf l rs 0 := by
  unfold eko at h
  split at h
  · rename_i o r h1 h2
    cases hd : o.dst with
    | none => simp [hd] at h
    | some d =>
      simp only [hd, Option.map_some, Option.some.injEq, Prod.mk.injEq] at h
      obtain ⟨rfl, rfl⟩ := h
      have := regOf_mem (k := 0) h1 hd h2
      simpa using this
  · cases h
theorem ekB_spec {base : Env} {t : Nat} {x : AV} : ∀ {bk : List Nat}, (ekB base bk).get t = some x → t ∈ bk ∧ base.get t = some x
  | y :: bk, h => by
    unfold ekB at h
    split at h
    · rename_i v hv
      rw [Env.get_cons] at h
      split at h
      · rename_i htd
        simp only [Option.some.injEq] at h
        subst h; subst htd
        exact ⟨List.mem_cons_self, hv⟩
      · exact ⟨List.mem_cons_of_mem _ (ekB_spec h).1, (ekB_spec h).2⟩
    · exact ⟨List.mem_cons_of_mem _ (ekB_spec h).1, (ekB_spec h).2⟩
  | [], h => by simp [ekB, Env.get] at h
theorem ek_spec {l : List Oper} {rs : List AV} {base : Env} {t : Nat} {x : AV} {bk : List Nat} : ∀ {pk : List Nat}, (ekOf l rs base pk bk).get t = some x → (∃ j ∈ pk, (j, t, x) ∈ regOf l rs 0) ∨ (t ∈ bk ∧ base.get t = some x)
  | j :: pk, h => by
    unfold ekOf ekP at h
    split at h
    · rename_i p hp
      obtain ⟨d, r⟩ := p
      rw [Env.get_cons] at h
      split at h
      · rename_i htd
        simp only [Option.some.injEq] at h
        subst h; subst htd
        exact .inl ⟨j, List.mem_cons_self, eko_spec hp⟩
      · rcases ek_spec (pk := pk) h with ⟨j', h1, h2⟩ | h1
        · exact .inl ⟨j', List.mem_cons_of_mem _ h1, h2⟩
        · exact .inr h1
    · rcases ek_spec (pk := pk) h with ⟨j', h1, h2⟩ | h1
      · exact .inl ⟨j', List.mem_cons_of_mem _ h1, h2⟩
      · exact .inr h1
  | [], h => .inr (ekB_spec h)

theorem cnt_take {L : Nat → Bool} : ∀ {es : List Nat}, ∀ y ∈ es.take (cnt L es), L y = true
  | [], y, h => by simp [cnt] at h
  | e :: es, y, h => by
    unfold cnt at h
    cases hL : L e with
    | false => simp [hL] at h
    | true =>
      rw [hL, cond_true, List.take_succ_cons] at h
      rcases List.mem_cons.1 h with rfl | h
      · exact hL
      · exact cnt_take y h
theorem cnt_next {L : Nat → Bool} : ∀ {es : List Nat} {y : Nat}, es[cnt L es]? = some y → L y = false
  | [], y, h => by simp [cnt] at h
  | e :: es, y, h => by
    unfold cnt at h
    cases hL : L e with
    | false => simp only [hL, cond_false, List.getElem?_cons_zero, Option.some.injEq] at h; rw [← h]; exact hL
    | true => simp only [hL, cond_true, List.getElem?_cons_succ] at h; exact cnt_next h
theorem cnt_le {L : Nat → Bool} : ∀ {es : List Nat}, cnt L es ≤ es.length
  | [] => Nat.le_refl _
  | e :: es => by unfold cnt; cases L e <;> simp [cnt_le]
theorem cnt_other {L L' : Nat → Bool} {k : Nat} (h : ∀ j, j ≠ k → L' j = L j) : ∀ {es : List Nat}, k ∉ es → cnt L' es = cnt L es
  | [], _ => rfl
  | e :: es, hk => by
    have h1 : e ≠ k := fun he => hk (by rw [he]; exact List.mem_cons_self)
    unfold cnt
    rw [h e h1, cnt_other h (fun hm => hk (List.mem_cons_of_mem _ hm))]
theorem cnt_self {L L' : Nat → Bool} {k : Nat} (h : ∀ j, j ≠ k → L' j = L j) (hk : L k = false) (hk' : L' k = true) : ∀ {es : List Nat}, es.Nodup → es[cnt L es]? = some k → (∀ y, es[cnt L es + 1]? = some y → L y = false) → cnt L' es = cnt L es + 1
  | [], _, h1, _ => by simp at h1
  | e :: es, hn, h1, h2 => by
    obtain ⟨n1, n2⟩ := List.nodup_cons.1 hn
    cases hL : L e with
    | true =>
      have hek : e ≠ k := fun he => by subst he; rw [hk] at hL; cases hL
      have e1 : cnt L (e :: es) = cnt L es + 1 := by simp [cnt, hL]
      rw [e1] at h1 h2 ⊢
      have := cnt_self h hk hk' n2 (by simpa using h1) (fun y hy => h2 y (by simpa using hy))
      simp [cnt, h e hek, hL, this]
    | false =>
      have e1 : cnt L (e :: es) = 0 := by simp [cnt, hL]
      rw [e1] at h1 h2 ⊢
      simp only [List.getElem?_cons_zero, Option.some.injEq] at h1
      subst h1
      have : cnt L' es = 0 := by
        cases es with
        | nil => rfl
        | cons y es =>
          have hy := h2 y (by simp)
          have hne : y ≠ e := fun he => n1 (by rw [he]; exact List.mem_cons_self)
          simp [cnt, h y hne, hy]
      simp [cnt, hk', this]
theorem cnt_all {es : List Nat} : ∀ {L : Nat → Bool}, (∀ y ∈ es, L y = true) → cnt L es = es.length := by
  induction es with
  | nil => intros; rfl
  | cons e es ih => intro L h; simp [cnt, h e List.mem_cons_self, ih (fun y hy => h y (List.mem_cons_of_mem _ hy))]

theorem count_set : ∀ {l : List Bool} {i : Nat}, l[i]? = some false → (l.set i true).count false + 1 = l.count false
  | [], i, h => by simp at h
  | b :: l, 0, h => by simp only [List.getElem?_cons_zero, Option.some.injEq] at h; subst h; simp
  | b :: l, i + 1, h => by
    have := count_set (l := l) (i := i) (by simpa using h)
    cases b <;> simp <;> omega

section
variable {P : Program} {e : En} {l : List Oper} {rs : List AV} {base : Env} {sts : Nat → List AO} {es : List Nat}

def At (e : En) (l : List Oper) (rs : List AV) (base : Env) (sts : Nat → List AO) (es : List Nat) (L : Nat → Bool) (a : Act) (w : World) : Prop :=
  ∃ m φ, Inv e m φ (FL base L (regOf l rs 0)) (sts (cnt L es)) a w

theorem wpOp_of_WL {k : Nat} {o : Oper} {env : Env} {st : List AO} {R : Env → List AO → Prop} {m φ a w} {K : Act → World → Prop} (ho : l[k]? = some o) (h : WL P e l.toArray [o] env st R) (hi : Inv e m φ env st a w)
    (hK : ∀ a' w' env' st' m' φ', R env' st' → Inv e m' φ' env' st' a' w' → K a' w') : wpOp P l.toArray QF k K a w := by
  have h1 := h m φ a w hi
  have ho' : l.toArray[k]? = some o := by simpa using ho
  unfold wpOp
  simp only [ho']
  unfold wpList at h1
  have key : ∀ (a' : Act) (w' : World), wpList P l.toArray (okPost e R) [] a' w' → K a' w' := by
    rintro a' w' ⟨_, env', st', m', φ', hR, hi'⟩
    exact hK a' w' env' st' m' φ' hR hi'
  split
  · rename_i hw
    rw [if_pos hw] at h1
    rcases h1 with h1 | ⟨_, a0, w0, h0⟩
    · refine .inl ?_
      unfold Oper.wp at *
      generalize (execOp a.eval o).run P w = rr at *
      cases rr with
      | ok n w' =>
        cases n <;> simp only [Oper.upon] at h1 ⊢
        case value v => exact key _ _ h1
        case skip => exact key _ _ h1
        case defer d => exact key _ _ h1
        case enter g args =>
          refine Calls.mono h1 fun en w'' he => ?_
          cases en with
          | returned u => exact key _ _ he
          | panicked c => exact absurd he.1 (by simp)
          | outgrown => obtain ⟨_, _, h0⟩ := he; exact absurd h0.1 (by simp)
        case row row args => exact Rows.mono h1 fun u w'' he => key _ _ he
      | halt x w' => cases x <;> simp only [Oper.upon] at h1 ⊢; exact absurd h1.1 (by simp)
    · exact absurd h0.1 (by simp)
  · rename_i hw
    rw [if_neg hw] at h1
    exact key _ _ h1

theorem reg_nodup : ∀ {l : List Oper} {rs : List AV} {k : Nat}, (l.filterMap (·.dst)).Nodup → ((regOf l rs k).map (·.2.1)).Nodup ∧ ∀ d ∈ (regOf l rs k).map (·.2.1), d ∈ l.filterMap (·.dst)
  | [], rs, k, _ => by simp [regOf]
  | o :: l, [], k, _ => by simp [regOf]
  | o :: l, r :: rs, k, h => by
    unfold regOf
    cases hd : o.dst with
    | none =>
      simp only [List.filterMap_cons, hd] at h ⊢
      exact reg_nodup h
    | some d =>
      simp only [List.filterMap_cons, hd] at h ⊢
      obtain ⟨h1, h2⟩ := List.nodup_cons.1 h
      obtain ⟨h3, h4⟩ := reg_nodup (rs := rs) (k := k + 1) h2
      refine ⟨?_, ?_⟩
      · simp only [List.map_cons]
        exact List.nodup_cons.2 ⟨fun hm => h1 (h4 d hm), h3⟩
      · intro d' hd'
        simp only [List.map_cons] at hd'
        rcases List.mem_cons.1 hd' with rfl | hd'
        · exact List.mem_cons_self
        · exact List.mem_cons_of_mem _ (h4 d' hd')

theorem all_step {tc : List (List Nat)} {plan : List (List Nat × List Nat × List Nat)} (hok : allOk l tc es plan = true) (hrs : rs.length = l.length) (hobs : Obs P e l rs base sts es 0 l plan)
    {L L' : Nat → Bool} {k : Nat} {o : Oper} (ho : l[k]? = some o) (hd : Down l L) (hLn : ∀ y, L y = true → y < l.length) (hk : L k = false) (hpre : ∀ e ∈ o.after, Region.binds .any e = true → L e.on = true)
    (hL : ∀ j, j ≠ k → L' j = L j) (hk' : L' k = true) {a : Act} {w : World} (hat : At e l rs base sts es L a w) :
    wpOp P l.toArray QF k (fun a' w' => At e l rs base sts es L' a' w') a w := by
  obtain ⟨m, φ, hi⟩ := hat
  simp only [allOk, Bool.and_eq_true] at hok
  obtain ⟨⟨⟨⟨⟨htc, hnd⟩, hne⟩, hpl⟩, hch⟩, hall⟩ := hok
  have hkl : k < l.length := (List.getElem?_eq_some_iff.1 ho).1
  have h1 := List.all_eq_true.1 hall k (List.mem_range.2 hkl)
  cases hp : plan[k]? with
  | none => simp [hp] at h1
  | some p =>
    obtain ⟨pk, bk, cs⟩ := p
    simp only [hp, Bool.and_eq_true] at h1
    obtain ⟨⟨⟨hpk, hself⟩, hbk⟩, hcs⟩ := h1
    have hobk := Obs_get hobs ho hp
    rw [Nat.zero_add] at hobk
    have htck := tc_listed htc hd k o ho hpre
    have htcl : ∀ (y : Nat), L y = true → k ∉ tc.getD y [] := fun y hy hm => by
      have hyl := hLn y hy
      have hoy : l[y]? = some l[y] := List.getElem?_eq_getElem hyl
      have := tc_listed htc hd y _ hoy (fun e' he' hb => hd y _ hoy hy e' he' hb) k hm
      rw [hk] at this; cases this
    -- the store is one of those that the plan names
    have hc : cnt L es ∈ cs := by
      have h2 := List.all_eq_true.1 hcs (cnt L es) (List.mem_range.2 (Nat.lt_succ_of_le cnt_le))
      simp only [Bool.or_eq_true] at h2
      rcases h2 with (h2 | h2) | h2
      · simpa using h2
      · cases hy : es[cnt L es]? with
        | none => simp [hy] at h2
        | some y =>
          simp only [hy] at h2
          have := htck y (by simpa using h2)
          rw [cnt_next hy] at this; cases this
      · obtain ⟨y, hy, h3⟩ := List.any_eq_true.1 h2
        have hLy := cnt_take y hy
        simp only [Bool.or_eq_true] at h3
        rcases h3 with h3 | h3
        · rw [Nat.eq_of_beq_eq_true h3, hk] at hLy; cases hLy
        · exact absurd (by simpa using h3) (htcl y hLy)
    have hob := ObC_get hobk _ hc
    have hcnt : cnt L' es = bif es.contains k then cnt L es + 1 else cnt L es := by
      cases hmem : es.contains k with
      | false => exact cnt_other hL (by simpa using hmem)
      | true =>
        rw [hmem] at hself
        simp only [Bool.not_true, Bool.false_or] at hself
        have h4 := List.all_eq_true.1 hself _ hc
        have h5 : es[cnt L es]? = some k := by simpa using h4
        refine cnt_self hL hk hk' (nodupB_spec hne) h5 (fun y hy => ?_)
        have hlt : cnt L es < es.length := (List.getElem?_eq_some_iff.1 h5).1
        have h6 := List.all_eq_true.1 hch (cnt L es) (List.mem_range.2 hlt)
        simp only [h5, hy] at h6
        cases hLy : L y with
        | false => rfl
        | true => exact absurd (by simpa using h6) (htcl y hLy)
    have hreg := reg_nodup (rs := rs) (k := 0) (nodupB_spec hnd)
    have regk : ∀ (j t : Nat) (x : AV), (j, t, x) ∈ regOf l rs 0 → ∃ o', l[j]? = some o' ∧ o'.dst = some t ∧ rs[j]? = some x := fun j t x hm => by
      obtain ⟨_, o', h1, h2, h3⟩ := mem_regOf hm
      exact ⟨o', by simpa using h1, h2, by simpa using h3⟩
    -- what the operation needs is there
    have hek : ∀ t x, (ekOf l rs base pk bk).get t = some x → (FL base L (regOf l rs 0)).get t = some x := fun t x hx => by
      rcases ek_spec hx with ⟨j, hj, hm⟩ | ⟨hm, hb⟩
      · exact FL_hit hreg.1 hm (htck j (by simpa using List.all_eq_true.1 hpk j hj))
      · rw [FL_miss]
        · exact hb
        · intro j r hjm
          obtain ⟨o', h2, h3, _⟩ := regk j t r hjm
          have h4 := List.all_eq_true.1 (List.all_eq_true.1 hbk t hm) j (List.mem_range.2 (List.getElem?_eq_some_iff.1 h2).1)
          simp only [h2, h3, beq_self_eq_true, Bool.not_true, Bool.false_or, Bool.or_eq_true] at h4
          rcases h4 with h4 | h4
          · rw [Nat.eq_of_beq_eq_true h4]; exact hk
          · cases hLj : L j with
            | false => rfl
            | true => exact absurd (by simpa using h4) (htcl j hLj)
    have hsub : Sub (ekOf l rs base pk bk ++ FL base L (regOf l rs 0)) (FL base L (regOf l rs 0)) := fun t x hx => by
      rw [Env.get_append] at hx
      cases hg : (ekOf l rs base pk bk).get t with
      | some y => rw [hg] at hx; simp only [Option.some.injEq] at hx; subst hx; exact ⟨y, hek t y hg, Le.refl y⟩
      | none => rw [hg] at hx; exact ⟨x, hx, Le.refl x⟩
    refine wpOp_of_WL ho (hob (FL base L (regOf l rs 0))) (hi.sub hsub) ?_
    rintro a' w' env' st' m' φ' ⟨rfl, pre, rfl, hp1, hp2⟩ hi'
    refine ⟨m', φ', ?_⟩
    rw [hcnt]
    refine hi'.sub (fun t x hx => ?_)
    rw [Env.get_append, Env.get_append]
    cases hpt : pre.get t with
    | some y =>
      have hdt := hp1 t y hpt
      cases hrk : rs[k]? with
      | none => exact absurd (List.getElem?_eq_none_iff.1 hrk) (by omega)
      | some r =>
        have h2 := hp2 t r hdt hrk
        rw [hpt] at h2
        simp only [Option.some.injEq] at h2
        subst h2
        have h3 : (FL base L' (regOf l rs 0)).get t = some y := FL_hit hreg.1 (by simpa using regOf_mem (k := 0) ho hdt hrk) hk'
        rw [h3] at hx
        simp only [Option.some.injEq] at hx
        subst hx
        exact ⟨y, rfl, Le.refl y⟩
    | none =>
      have h3 : (FL base L' (regOf l rs 0)).get t = (FL base L (regOf l rs 0)).get t := FL_step hL (fun r hr => by
        obtain ⟨o', h2, h3, h4⟩ := regk k t r hr
        rw [ho] at h2
        simp only [Option.some.injEq] at h2
        subst h2
        have := hp2 t r h3 h4
        rw [hpt] at this; cases this)
      rw [h3] at hx
      cases hg : (ekOf l rs base pk bk).get t with
      | some y =>
        have := hek t y hg
        rw [hx] at this
        simp only [Option.some.injEq] at this
        subst this
        exact ⟨x, rfl, Le.refl x⟩
      | none => exact ⟨x, hx, Le.refl x⟩

def Lof (listed : Array Bool) (k : Nat) : Bool := listed.getD k false

theorem all_any {tc : List (List Nat)} {plan : List (List Nat × List Nat × List Nat)} {Q : Exit → Act → World → Prop} (hok : allOk l tc es plan = true) (hrs : rs.length = l.length) (hobs : Obs P e l rs base sts es 0 l plan)
    (hQ : ∀ a w, At e l rs base sts es (fun k => Nat.blt k l.length) a w → Q .normal a w) :
    ∀ (f : Nat) (listed : Array Bool) (a : Act) (w : World), listed.size = l.length → Down l (Lof listed) → listed.toList.count false ≤ f → At e l rs base sts es (Lof listed) a w → wpAny P .any l.toArray Q f listed a w := by
  have htc : tcOk l tc = true := by simp only [allOk, Bool.and_eq_true] at hok; exact hok.1.1.1.1.1
  -- what is ready
  have rdy : ∀ (listed : Array Bool) (i : Nat), listed.size = l.length → i ∈ Region.ready .any l.toArray listed → ∃ o, l[i]? = some o ∧ Lof listed i = false ∧ listed[i]? = some false ∧ ∀ e ∈ o.after, Region.binds .any e = true → Lof listed e.on = true := by
    intro listed i hsz hi
    obtain ⟨h0, o, ho, hall⟩ := mem_ready.1 hi
    have hil : i < listed.size := by
      rcases Nat.lt_or_ge i listed.size with h | h
      · exact h
      · simp [Array.getD, Nat.not_lt.2 h] at h0
    have h1 : listed[i]? = some false := by
      rw [Array.getElem?_eq_getElem hil]
      simp [Array.getD, hil] at h0
      rw [h0]
    exact ⟨o, by simpa using ho, by simp [Lof, Array.getD_eq_getD_getElem?, h1], h1, fun e he hb => hall e he hb⟩
  -- where nothing is ready, all is listed
  have full : ∀ (listed : Array Bool), listed.size = l.length → Region.ready .any l.toArray listed = [] → Lof listed = fun k => Nat.blt k l.length := by
    intro listed hsz hr
    have key : ∀ k, k < l.length → Lof listed k = true := by
      intro k
      induction k using Nat.strongRecOn with
      | _ k ih =>
        intro hk
        cases hLk : Lof listed k with
        | true => rfl
        | false =>
          exfalso
          have hok' : l[k]? = some l[k] := List.getElem?_eq_getElem hk
          have : k ∈ Region.ready .any l.toArray listed := by
            refine mem_ready.2 ⟨?_, l[k], by simp [hk], fun e he hb => ?_⟩
            · have hks : k < listed.size := by omega
              simp only [Lof, Array.getD, hks, dif_pos] at hLk ⊢
              exact hLk
            · have h1 := List.all_eq_true.1 htc k (List.mem_range.2 hk)
              simp only [hok', Bool.and_eq_true] at h1
              have h2 := List.all_eq_true.1 h1.1 e (Array.mem_toList_iff.2 he)
              simp only [hb, Bool.not_true, Bool.false_or] at h2
              have hlt : e.on < k := by simpa [Nat.blt_eq] using h2
              exact ih e.on hlt (by omega)
          rw [hr] at this; cases this
    funext k
    rcases Nat.lt_or_ge k l.length with h | h
    · rw [key k h]; simp [Nat.blt_eq, h]
    · have : Lof listed k = false := by simp [Lof, Array.getD, Nat.not_lt.2 (by omega : listed.size ≤ k)]
      rw [this]
      cases hb : Nat.blt k l.length with
      | false => rfl
      | true => have : k < l.length := by simpa [Nat.blt_eq] using hb
                omega
  intro f
  induction f with
  | zero =>
    intro listed a w hsz hdn hcn hat
    have hr : Region.ready .any l.toArray listed = [] := by
      cases hr : Region.ready .any l.toArray listed with
      | nil => rfl
      | cons i r =>
        obtain ⟨o, _, _, h1, _⟩ := rdy listed i hsz (by rw [hr]; exact List.mem_cons_self)
        have : false ∈ listed.toList := List.mem_of_getElem? (i := i) (by simpa using h1)
        have := List.count_pos_iff.2 this
        omega
    exact ⟨hr, hQ a w (full listed hsz hr ▸ hat)⟩
  | succ f ih =>
    intro listed a w hsz hdn hcn hat
    refine ⟨fun hr => hQ a w (full listed hsz hr ▸ hat), fun i hi => ?_⟩
    obtain ⟨o, ho, hLi, hli, hpre⟩ := rdy listed i hsz hi
    have hil : i < listed.size := (Array.getElem?_eq_some_iff.1 hli).1
    have hother : ∀ j, j ≠ i → Lof (listed.setIfInBounds i true) j = Lof listed j := fun j hj => by
      simp only [Lof, Array.getD_eq_getD_getElem?, Array.getElem?_setIfInBounds_ne (Ne.symm hj)]
    have hself : Lof (listed.setIfInBounds i true) i = true := by simp [Lof, Array.getD_eq_getD_getElem?, hil]
    have hstep := all_step (L' := Lof (listed.setIfInBounds i true)) hok hrs hobs ho hdn (fun y hy => by
      rcases Nat.lt_or_ge y l.length with h | h
      · exact h
      · simp [Lof, Array.getD, Nat.not_lt.2 (by omega : listed.size ≤ y)] at hy) hLi hpre hother hself hat
    refine wpOp_QF (fun a' w' hat' => ih _ a' w' (by simpa using hsz) ?_ ?_ hat') hstep
    · intro k ok hk hLk e he hb
      by_cases hki : k = i
      · subst hki
        rw [ho] at hk
        simp only [Option.some.injEq] at hk
        subst hk
        have := hpre e he hb
        by_cases hei : e.on = k
        · rw [hei]; exact hself
        · rw [hother _ hei]; exact this
      · rw [hother k hki] at hLk
        have := hdn k ok hk hLk e he hb
        by_cases hei : e.on = i
        · rw [hei]; exact hself
        · rw [hother _ hei]; exact this
    · have := count_set (l := listed.toList) (i := i) (by simpa using hli)
      rw [Array.toList_setIfInBounds]
      omega

/-- **A region in any order.** -/
theorem wc_region_all {k : Ko} {env : Env} {st : List AO} {id : Nat} (rs : List AV) (tc : List (List Nat)) (es : List Nat) (sts : Nat → List AO) (plan : List (List Nat × List Nat × List Nat)) (hm : P.follows .mixedOrders = true)
    (hok : allOk l tc es plan = true) (hrs : Nat.beq rs.length l.length = true) (hes : es.all (fun y => Nat.blt y l.length) = true) (hst : sts 0 = st) (hobs : Obs P e l rs env sts es 0 l plan)
    (h : WE P e .normal k (FL env (fun k => Nat.blt k l.length) (regOf l rs 0)) (sts es.length)) : WC P e (.region id l.toArray true) k env st := fun m φ a w hi => by
  have hQ : ∀ a' w', At e l rs env sts es (fun k => Nat.blt k l.length) a' w' → k.den P e .normal a' w' := fun a' w' ⟨m', φ', hi'⟩ => by
    rw [cnt_all (fun y hy => List.all_eq_true.1 hes y hy)] at hi'
    exact h m' φ' a' w' hi'
  have hz : ∀ j, Lof (Array.replicate l.toArray.size false) j = false := fun j => by simp [Lof, Array.getD]
  have hdn : Down l (Lof (Array.replicate l.toArray.size false)) := fun k o _ hL => by rw [hz] at hL; cases hL
  have hat : At e l rs env sts es (Lof (Array.replicate l.toArray.size false)) a { w with drawn := w.drawn + 1 } := by
    have hc : cnt (Lof (Array.replicate l.toArray.size false)) es = 0 := by
      cases es with
      | nil => rfl
      | cons y es => simp only [cnt, hz, cond_false]
    have hf : ∀ reg : List (Nat × Nat × AV), FL env (Lof (Array.replicate l.toArray.size false)) reg = env := by
      intro reg
      induction reg with
      | nil => rfl
      | cons p reg ih => obtain ⟨j, d, r⟩ := p; simp only [FL, hz, cond_false]; exact ih
    refine ⟨m, φ, ?_⟩
    rw [hc, hf, hst]
    exact hi.below ((Below.refl _ _).drew) (hi.env.mono (Pre.refl m) (Fz.refl φ w)) hi.sz hi.df
  exact wp_region_any hm (all_any (sts := sts) (base := env) hok (Nat.eq_of_beq_eq_true hrs) hobs hQ _ _ a _ (by simp) hdn (by simp) hat)

theorem WL.done1 {ops : Array Oper} {env : Env} {st' stc : List AO} {o : Oper} {d : Nat} {r : AV} {k : Nat} (hd : o.dst = some d) (hr : rs[k]? = some r) (hst : st' = stc) :
    WL P e ops [] ((d, r) :: env) st' (fun env' st'' => st'' = stc ∧ ∃ pre, env' = pre ++ env ∧ (∀ t x, pre.get t = some x → o.dst = some t) ∧ ∀ d' r', o.dst = some d' → rs[k]? = some r' → pre.get d' = some r') :=
  WL.nil ⟨hst, [(d, r)], rfl, fun t x hx => by
    rw [Env.get_cons] at hx
    split at hx
    · rename_i h; rw [h]; exact hd
    · simp [Env.get] at hx, fun d' r' hd' hr' => by
    rw [hd] at hd'; rw [hr] at hr'
    simp only [Option.some.injEq] at hd' hr'
    subst hd'; subst hr'
    simp [Env.get_cons]⟩
theorem WL.done2 {ops : Array Oper} {env : Env} {st' stc : List AO} {o : Oper} {d : Nat} {r r0 : AV} {k : Nat} (hd : o.dst = some d) (hr : rs[k]? = some r) (hst : st' = stc) :
    WL P e ops [] ((d, r) :: (d, r0) :: env) st' (fun env' st'' => st'' = stc ∧ ∃ pre, env' = pre ++ env ∧ (∀ t x, pre.get t = some x → o.dst = some t) ∧ ∀ d' r', o.dst = some d' → rs[k]? = some r' → pre.get d' = some r') :=
  WL.nil ⟨hst, [(d, r), (d, r0)], rfl, fun t x hx => by
    rw [Env.get_cons, Env.get_cons] at hx
    by_cases h : t = d
    · rw [h]; exact hd
    · simp [h, Env.get] at hx, fun d' r' hd' hr' => by
    rw [hd] at hd'; rw [hr] at hr'
    simp only [Option.some.injEq] at hd' hr'
    subst hd'; subst hr'
    simp [Env.get_cons]⟩
theorem WL.done0 {ops : Array Oper} {env : Env} {st' stc : List AO} {o : Oper} {k : Nat} (hd : o.dst = none) (hst : st' = stc) :
    WL P e ops [] env st' (fun env' st'' => st'' = stc ∧ ∃ pre, env' = pre ++ env ∧ (∀ t x, pre.get t = some x → o.dst = some t) ∧ ∀ d' r', o.dst = some d' → rs[k]? = some r' → pre.get d' = some r') :=
  WL.nil ⟨hst, [], rfl, fun t x hx => by simp [Env.get] at hx, fun d' r' hd' _ => by rw [hd] at hd'; cases hd'⟩
end
end Go.Sk
namespace Go.Sk
open Go.RowKit (Below)
section
variable {P : Program} {e : En} {ops : Array Oper} {l rest : List Oper} {env : Env} {st : List AO} {R : Env → List AO → Prop} {K : Ko}

theorem RAs_set1 {m φ w} : ∀ {xs : List AV} {vs : List Value} {i : Nat} {y : AV} {v : Value}, RAs m φ w xs vs → vs[i]? = some v → RA m φ w y v → RAs m φ w (xs.set i y) vs
  | [], vs, i, y, v, h, hi, hy => by simp only [RAs] at h; subst h; simp at hi
  | p :: xs, vs, i, y, v, h, hi, hy => by
    simp only [RAs] at h
    obtain ⟨c, cs, rfl, h1, h2⟩ := h
    cases i with
    | zero =>
      simp only [List.getElem?_cons_zero, Option.some.injEq] at hi
      subst hi
      exact RAs_cons hy h2
    | succ i => exact RAs_cons h1 (RAs_set1 h2 (by simpa using hi) hy)

end
end Go.Sk
namespace Go.Sk
open Go.RowKit (Below)

/-! ### Data in all places at once -/
def OsSlots (env : Env) (id ver : Nat) : List Nat → Prop
  | [] => True
  | t :: ts => env.get t = some (.os id ver) ∧ OsSlots env id ver ts
def setCells (x : AV) : List (Nat × Nat) → List AO → List AO
  | [], st => st
  | (i, off) :: r, st => setCells x r (match st[i]? with | some (.row T cs) => st.set i (.row T (cs.set off x)) | _ => st)
def OsCells (st : List AO) (id ver : Nat) (x : AV) : List (Nat × Nat) → Prop
  | [] => True
  | (i, off) :: r => ∃ T cs, st[i]? = some (.row T cs) ∧ cs[off]? = some (.os id ver) ∧ OsCells (st.set i (.row T (cs.set off x))) id ver x r

theorem osCells_sr {m φ w} {id ver : Nat} {y : Value} {x : AV} (hm : m[id]? = some (.tok ver y)) (hx : RA m φ w x y) : ∀ (l : List (Nat × Nat)) (st : List AO), SR m φ st w → OsCells st id ver x l → SR m φ (setCells x l st) w
  | [], st, h, _ => h
  | (i, off) :: r, st, h, hc => by
    obtain ⟨T, cs, h1, h2, h3⟩ := hc
    simp only [setCells, h1]
    refine osCells_sr hm hx r _ ?_ h3
    refine h.alter (o := .row T cs) h1 rfl ?_
    rintro c hc2 ⟨b, rfl, q2, vs, q3, q4⟩
    obtain ⟨v', p1, p2⟩ := RAs_get q4 h2
    simp only [RA] at p2
    obtain ⟨v0, y0, k1, k2, k3⟩ := p2
    rw [hm] at k1
    simp only [Option.some.injEq, Cz.tok.injEq] at k1
    obtain ⟨rfl, rfl⟩ := k1
    have := k3 rfl
    subst this
    exact ⟨b, rfl, q2, vs, q3, RAs_set1 q4 p1 hx⟩

section
variable {P : Program} {e : En} {ops : Array Oper} {l rest : List Oper} {env : Env} {st : List AO} {R : Env → List AO → Prop} {K : Ko}

/-- Slots and cells that hold the slice as it is now hold data. -/
theorem Inv.freezeX {m φ a w} {id ver T k : Nat} {ds : List (List D)} (ts : List Nat) (cl : List (Nat × Nat)) (hi : Inv e m φ env st a w) (hs : st[id]? = some (.os T k ver (ds.map fun e => e.map AV.d)))
    (ht : OsSlots env id ver ts) (hc : OsCells (st.set id .dead) id ver (.d (.sl ds)) cl) :
    ∃ φ', Inv e m φ' (ts.map (fun t => (t, .d (.sl ds))) ++ env) (setCells (.d (.sl ds)) cl (st.set id .dead)) a w := by
  obtain ⟨c, hcm⟩ : ∃ c, m[id]? = some c := by
    have : id < m.length := by rw [hi.sr.len]; exact (List.getElem?_eq_some_iff.1 hs).1
    exact ⟨_, List.getElem?_eq_getElem this⟩
  obtain ⟨y, xs, rfl, _⟩ := hi.sr.obj id _ _ hs hcm
  obtain ⟨φ', f1, f2, f3⟩ := freeze_os hi.sr hs hcm
  have h3 := hi.go f1 f2
  refine ⟨φ', osCells_sr hcm (by simpa [RA] using f3) cl _ h3.sr hc, h3.ev, ?_, h3.sz, h3.df⟩
  clear hc
  refine ⟨?_, h3.env.gl⟩
  induction ts with
  | nil => exact h3.env.get
  | cons t ts ih =>
    intro s x hx
    simp only [List.map_cons, List.cons_append] at hx
    unfold Env.get at hx
    cases hb : Nat.beq s t with
    | true =>
      rw [hb] at hx
      simp only [cond_true, Option.some.injEq] at hx
      subst hx
      have : s = t := Nat.eq_of_beq_eq_true hb
      subst this
      obtain ⟨v, g1, g2⟩ := hi.env s _ ht.1
      simp only [RA] at g2
      obtain ⟨v0, y0, k1, k2, k3⟩ := g2
      rw [hcm] at k1
      simp only [Option.some.injEq, Cz.tok.injEq] at k1
      obtain ⟨rfl, rfl⟩ := k1
      have := k3 rfl
      subst this
      exact ⟨_, g1, by simpa [RA] using f3⟩
    | false => rw [hb] at hx; exact ih ht.2 s x hx

theorem WC.freezeX {c : Code} (ts : List Nat) (cl : List (Nat × Nat)) (id : Nat) {ver T k : Nat} (ds : List (List D)) {es : List (List AV)} (hs : st[id]? = some (.os T k ver es)) (hes : es = ds.map fun e => e.map AV.d) (ht : OsSlots env id ver ts) (hc : OsCells (st.set id .dead) id ver (.d (.sl ds)) cl)
    (h : WC P e c K (ts.map (fun t => (t, .d (.sl ds))) ++ env) (setCells (.d (.sl ds)) cl (st.set id .dead))) : WC P e c K env st := fun m φ a w hi => by
  subst hes
  obtain ⟨φ', hi'⟩ := hi.freezeX ts cl hs ht hc
  exact h m φ' a w hi'
theorem WL.freezeX (ts : List Nat) (cl : List (Nat × Nat)) (id : Nat) {ver T k : Nat} (ds : List (List D)) {es : List (List AV)} (hs : st[id]? = some (.os T k ver es)) (hes : es = ds.map fun e => e.map AV.d) (ht : OsSlots env id ver ts) (hc : OsCells (st.set id .dead) id ver (.d (.sl ds)) cl)
    (h : WL P e ops l (ts.map (fun t => (t, .d (.sl ds))) ++ env) (setCells (.d (.sl ds)) cl (st.set id .dead)) R) : WL P e ops l env st R := fun m φ a w hi => by
  subst hes
  obtain ⟨φ', hi'⟩ := hi.freezeX ts cl hs ht hc
  exact h m φ' a w hi'
theorem WE.freezeX {x : Exit} (ts : List Nat) (cl : List (Nat × Nat)) (id : Nat) {ver T k : Nat} (ds : List (List D)) {es : List (List AV)} (hs : st[id]? = some (.os T k ver es)) (hes : es = ds.map fun e => e.map AV.d) (ht : OsSlots env id ver ts) (hc : OsCells (st.set id .dead) id ver (.d (.sl ds)) cl)
    (h : WE P e x K (ts.map (fun t => (t, .d (.sl ds))) ++ env) (setCells (.d (.sl ds)) cl (st.set id .dead))) : WE P e x K env st := fun m φ a w hi => by
  subst hes
  obtain ⟨φ', hi'⟩ := hi.freezeX ts cl hs ht hc
  exact h m φ' a w hi'

end

/-! ### make -/
def mkOk (b : Nat) (n : Int) : Bool := decide (0 ≤ n) && decide ((b : Int) * n ≤ 281474976710656) && decide (n ≤ maxLen)

section
variable {P : Program} {env : Env} {st : List AO} {dst : Option Tmp} {ty : TypeId} {pos : String} {after : Array Edge} {guard : Option (Nat × Bool)}

theorem madeCells_flat (z : Array Value) : ∀ n : Nat, 0 < z.size → (madeCells z (n * z.size)).toList = (List.replicate n z.toList).flatten
  | 0, _ => by simp [madeCells]
  | n + 1, hz => by
    apply List.ext_getElem?
    intro j
    have ih := congrArg (fun l => l[j - z.size]?) (madeCells_flat z n hz)
    simp only [madeCells, Array.toList_map, Array.toList_range, List.getElem?_map] at ih ⊢
    rw [List.replicate_succ, List.flatten_cons]
    by_cases hj : j < z.size
    · rw [List.getElem?_append_left (by simpa using hj), List.getElem?_range (by rw [Nat.succ_mul]; omega)]
      simp [hj, Nat.mod_eq_of_lt hj]
    · rw [List.getElem?_append_right (by simpa using Nat.le_of_not_lt hj)]
      simp only [Array.length_toList]
      rw [← ih]
      by_cases hj2 : j < (n + 1) * z.size
      · rw [List.getElem?_range hj2, List.getElem?_range (by rw [Nat.succ_mul] at hj2; omega)]
        simp only [Option.map_some]
        rw [Nat.mod_eq_sub_mod (Nat.le_of_not_lt hj)]
      · rw [List.getElem?_eq_none (by simpa using Nat.le_of_not_lt hj2), List.getElem?_eq_none (by simp only [List.length_range]; rw [Nat.succ_mul] at hj2; omega)]

theorem n_makeSlice {T e k by_ : Nat} {kl kc : IntKind} {n : Int} {x y : Operand} {zs : List Value} (hT : eltOf P T = some (e, k, by_)) (hz : zeroOf P e = some zs) (hzl : zs.length = k) (hk : 0 < k)
    (hx : opv env x = some (.d (.v (.int kl n)))) (hy : opv env y = some (.d (.v (.int kc n)))) (hok : mkOk by_ n = true) :
    NewOs P env st ⟨dst, .makeSlice T x y, ty, pos, after, guard⟩ e k (List.replicate n.toNat (zs.map fun z => .d (.v z))) := fun m φ a w hs he => by
  obtain ⟨i, ht, hi, rfl, rfl⟩ := eltOf_spec hT
  obtain ⟨z, hz1, hz2⟩ := zeroOf_spec hz hi
  simp only [mkOk, Bool.and_eq_true, decide_eq_true_eq] at hok
  obtain ⟨⟨k0, k1⟩, k2⟩ := hok
  have hr := run_make (P := P) w T e i z ht hi hz1 kl kc n n k0 (Int.le_refl _) k1 (by simp only [maxLen] at k2; omega)
  have hzs : z.cells.size = i.size := by rw [hz2]; simpa using hzl
  have hfl : (madeCells z.cells (n.toNat * i.size)).toList = (List.replicate n.toNat zs).flatten := by
    have := madeCells_flat z.cells n.toNat (by omega)
    rw [hzs] at this
    rw [this, hz2]
  have hF := Fz.alloc hs (.cells (madeCells z.cells (n.toNat * i.size)) e)
  have hkk : ∀ b, b < w.heap.size → (w.alloc (.cells (madeCells z.cells (n.toNat * i.size)) e)).heap[b]? = w.heap[b]? := fun b hb => heap_alloc_lt hb
  have hnew : ∀ b, (Cz.tok 0 (.slice (some ⟨w.heap.size, 0, none⟩) n.toNat n.toNat)).has b → w.heap.size ≤ b := fun b hb => by simp only [Cz.has, Value.ownBlock, Option.some.injEq] at hb; omega
  refine ⟨_, _, by simp only [execOp, opv_v he hx, opv_v he hy]; rw [Sem.run_bind, hr]; rfl, Ev.push hs hF hkk (by simp) rfl rfl rfl hnew, SR.push hs hF hkk (by simp) ?_ hnew, (Below.refl _ _).alloc (Nat.le_refl _) _, fun b hb => by simp only [Value.ownBlock, Option.some.injEq] at hb; omega⟩
  have hl2 : (List.replicate n.toNat zs).flatten.length = n.toNat * i.size := by rw [← hfl]; simp [size_madeCells]
  have hras : ∀ j : Nat, RAs (m ++ [Cz.tok 0 (.slice (some ⟨w.heap.size, 0, none⟩) n.toNat n.toNat)]) φ (w.alloc (.cells (madeCells z.cells (n.toNat * i.size)) e)) (List.replicate j (zs.map fun z => AV.d (.v z))).flatten (List.replicate j zs).flatten := by
    intro j
    induction j with
    | zero => exact RAs_nil
    | succ j ih => rw [List.replicate_succ, List.replicate_succ, List.flatten_cons, List.flatten_cons]; exact RAs_append (RAs_consts zs) ih
  refine ⟨_, (List.replicate n.toNat zs).flatten, rfl, ⟨by rw [hl2]; simp, .inr ⟨w.heap.size, n.toNat, _, by simp, Nat.zero_le _, heap_alloc_new w _, by simp, by omega, size_madeCells _ _, ?_⟩⟩, hras _, fun f hf => ?_, fun b hb => ?_⟩
  · rw [hfl, List.take_of_length_le (by rw [hl2]; simp)]
  · rw [(List.mem_replicate.1 hf).2]; simpa using hzl
  · simp only [Value.ownBlock, Option.some.injEq] at hb
    exact hs.lt b (by omega)

theorem NewOs.cast {o : Oper} {T k : Nat} {es es' : List (List AV)} (h : NewOs P env st o T k es) (he : es = es') : NewOs P env st o T k es' := he ▸ h
/-- The elements said in a weaker way. -/
def ELes : List (List AV) → List (List AV) → Prop
  | [], [] => True
  | x :: xs, y :: ys => Les x y ∧ ELes xs ys
  | _, _ => False
theorem ELes.len : ∀ {xs ys : List (List AV)}, ELes xs ys → xs.length = ys.length
  | [], [], _ => rfl
  | x :: xs, y :: ys, h => by simp [ELes.len h.2]
  | [], _ :: _, h => h.elim
  | _ :: _, [], h => h.elim
theorem Les.len : ∀ {xs ys : List AV}, Les xs ys → xs.length = ys.length
  | [], [], _ => rfl
  | x :: xs, y :: ys, h => by simp [Les.len h.2]
  | [], _ :: _, h => h.elim
  | _ :: _, [], h => h.elim
theorem Les.append : ∀ {xs ys us vs : List AV}, Les xs ys → Les us vs → Les (xs ++ us) (ys ++ vs)
  | [], [], _, _, _, k => k
  | _x :: _xs, _y :: _ys, _, _, h, k => ⟨h.1, Les.append h.2 k⟩
  | [], _ :: _, _, _, h, _ => h.elim
  | _ :: _, [], _, _, h, _ => h.elim
theorem ELes.flat : ∀ {xs ys : List (List AV)}, ELes xs ys → Les xs.flatten ys.flatten
  | [], [], _ => trivial
  | _x :: _xs, _y :: _ys, h => Les.append h.1 (ELes.flat h.2)
  | [], _ :: _, h => h.elim
  | _ :: _, [], h => h.elim
theorem ELes.lens {k : Nat} : ∀ {xs ys : List (List AV)}, ELes xs ys → (∀ e ∈ xs, e.length = k) → ∀ e ∈ ys, e.length = k
  | [], [], _, _ => fun e he => by simp at he
  | x :: xs, y :: ys, h, hk => fun e he => by
    rcases List.mem_cons.1 he with rfl | he
    · rw [← Les.len h.1]; exact hk x (by simp)
    · exact ELes.lens h.2 (fun e he => hk e (by simp [he])) e he
  | [], _ :: _, h, _ => h.elim
  | _ :: _, [], h, _ => h.elim
theorem NewOs.weak {o : Oper} {T k : Nat} {es es' : List (List AV)} (h : NewOs P env st o T k es) (he : ELes es es') : NewOs P env st o T k es' := fun m φ a w hs hE => by
  obtain ⟨v, w', h1, h2, h3, h4⟩ := h m φ a w hs hE
  refine ⟨v, w', h1, h2, ?_, h4⟩
  have := h3.alter (id := st.length) (o := .os T k 0 es) (o' := .os T k 0 es') (by simp) rfl (fun c _ => ?_)
  · simpa using this
  · rintro ⟨y, xs, r1, r2, r3, r4, r5⟩
    exact ⟨y, xs, r1, by rw [← he.len]; exact r2, (Les.ras he.flat) r3, he.lens r4, r5⟩
theorem replicate_encA {α : Type} {R : α → List D} {n : Nat} {z : α} {zs : List Value} (h : encA R z = zs.map fun z => .d (.v z)) : List.replicate n (zs.map fun z => AV.d (.v z)) = (List.replicate n z).map (encA R) := by
  rw [List.map_replicate, h]
end
end Go.Sk
namespace Go.Sk
open Go.RowKit (Below)

/-- The content of a slice of ours turns. -/
theorem set_os {m φ st w} {id : Nat} {T k ver b len cap : Nat} {es es' : List (List AV)} {vs : List Value} (hs : SR m φ st w) (hi : st[id]? = some (.os T k ver es)) (hb : m[id]? = some (.tok ver (.slice (some ⟨b, 0, none⟩) len cap)))
    (h : RAs m φ w es'.flatten vs) (hl : es'.length = es.length) (hk : ∀ e ∈ es', e.length = k) (cur : Array Value) (hcur : w.heap[b]? = some (.cells cur T (0, 0))) (new : Array Value) (hsz : new.size = cur.size) (htk : new.toList.take (es.length * k) = vs) :
    Ev m φ w m φ (w.setRow b new) ∧ SR m φ (st.set id (.os T k ver es')) (w.setRow b new) := by
  obtain ⟨y, xs, e1, g1, g2, g3, g4⟩ := hs.obj id _ _ hi hb
  simp only [Cz.tok.injEq, true_and] at e1
  subst e1
  have h0 : φ b = 0 := g4 b rfl
  have hF : Fz φ w φ (w.setRow b new) := fun b2 off c q1 q2 => ⟨q1, by
    have hne : b2 ≠ b := fun e => by subst e; omega
    rw [cell?_congr (heap_setRow_ne hne)]; exact q2⟩
  have hsize : (w.setRow b new).heap.size = w.heap.size := size_setRow w b _
  refine ⟨⟨Pre.refl m, fun _ h => .inl h, rfl, rfl, rfl, by rw [hsize]; exact Nat.le_refl _, fun b2 hb2 hn => ⟨heap_setRow_ne (fun e => hn ⟨id, _, hb, by rw [e]; rfl⟩), rfl⟩, hF⟩, ⟨by simp [hs.len], fun i o c q1 q2 => ?_, fun b2 hb2 => hs.lt b2 (by omega), fun i j o o' c c' b2 q1 q2 l1 l2 k1 k2 e1 e2 => ?_, hs.gl.mono hF⟩⟩
  · by_cases hii : i = id
    · subst hii
      rw [List.getElem?_set_self (lt_len hi)] at q1
      rw [hb] at q2
      simp only [Option.some.injEq] at q1 q2
      subst q1; subst q2
      refine ⟨_, vs, rfl, ?_, RAs.mono (Pre.refl m) hF _ _ h, hk, g4⟩
      obtain ⟨r1, r2⟩ := g1
      have hvl : vs.length = es.length * k := by
        have := RAs_length h
        rw [this]
        clear this h htk
        have : ∀ l : List (List AV), (∀ e ∈ l, e.length = k) → l.flatten.length = l.length * k := by
          intro l
          induction l with
          | nil => simp
          | cons x l ih => intro hh; simp only [List.flatten_cons, List.length_append, List.length_cons, ih (fun e he => hh e (by simp [he])), hh x (by simp), Nat.succ_mul]; omega
        rw [this es' hk, hl]
      rcases r2 with ⟨hv, _⟩ | ⟨g, cap', cur', hv, p1, p2, p3, p4, p5, p6⟩
      · cases hv
      · simp only [Value.slice.injEq, Option.some.injEq, Addr.mk.injEq, and_true] at hv
        obtain ⟨rfl, rfl, rfl⟩ := hv
        rw [hcur] at p2
        simp only [Option.some.injEq, Obj.cells.injEq, and_true] at p2
        subst p2
        rw [hl]
        exact ⟨hvl, .inr ⟨b, cap, new, rfl, p1, setRow_heap w b _ _ T (0, 0) hcur, p3, p4, by rw [hsz]; exact p5, htk⟩⟩
    · rw [List.getElem?_set_ne (Ne.symm hii)] at q1
      have h := hs.obj i o c q1 q2
      cases hl : o.live with
      | true =>
        refine h.congr (Pre.refl m) hF (fun b2 hb2 => ⟨heap_setRow_ne (fun e => ?_), rfl⟩)
        subst e
        exact hii (hs.inj i id o _ c _ b2 q1 hi hl rfl q2 hb hb2 rfl)
      | false => cases o <;> first | trivial | exact h | (simp [AO.live] at hl; done)
  · have back : ∀ (i : Nat) (o : AO), (st.set id (.os T k ver es'))[i]? = some o → o.live = true → ∃ o2, st[i]? = some o2 ∧ o2.live = true := by
      intro i o g l
      by_cases hii : i = id
      · subst hii; exact ⟨_, hi, rfl⟩
      · rw [List.getElem?_set_ne (Ne.symm hii)] at g; exact ⟨o, g, l⟩
    obtain ⟨p, p1, p2⟩ := back i o q1 l1
    obtain ⟨q, u1, u2⟩ := back j o' q2 l2
    exact hs.inj i j p q c c' b2 p1 u1 p2 u2 k1 k2 e1 e2

section
variable {P : Program} {env : Env} {st : List AO} {dst : Option Tmp} {ty : TypeId} {pos : String} {after : Array Edge} {guard : Option (Nat × Bool)}

theorem d_store_pe {T : TypeId} {x y : Operand} {id ver off n T' k : Nat} {es es' : List (List AV)} {r0 r : AV} {rs : List AV} (hx : opv env x = some (.pe id ver off)) (hs : st[id]? = some (.os T' k ver es)) (hy : opv env y = some r0) (hle : Le r0 r) (hk : r.okc = true) (hc : r.cells = rs) (hk1 : rs.all AV.ok1 = true)
    (hn : szOf P T = some n) (hl : rs.length = n) (hlen : off + n ≤ es.flatten.length) (hes : es'.flatten = es.flatten.take off ++ rs ++ es.flatten.drop (off + n)) (hel : es'.length = es.length) (hek : ∀ e ∈ es', e.length = k) :
    Does P env st ⟨dst, .store T x y, ty, pos, after, guard⟩ (.d (.v undef)) (st.set id (.os T' k ver es')) := fun m φ a w hsr he => by
  obtain ⟨b, len, cap, xs, g1, g2, g3, g4, g5, g6⟩ := opv_pe hsr he hx hs
  obtain ⟨us, q1, q2⟩ := RA_cells (hle _ _ _ _ (opv_ok he hy)) hk
  rw [hc] at q2
  have hul := RAs_length q2
  have hxl := RAs_length g4
  obtain ⟨r1, r2⟩ := g3
  rcases r2 with ⟨hv, _⟩ | ⟨g, cap', cur, hv, p1, p2, p3, p4, p5, p6⟩
  · cases hv
  simp only [Value.slice.injEq, Option.some.injEq, Addr.mk.injEq, and_true] at hv
  obtain ⟨rfl, rfl, rfl⟩ := hv
  have hcl : es.length * k ≤ cur.size := by rw [p5]; exact Nat.mul_le_mul_right _ p3
  have hfl : es.flatten.length = es.length * k := by omega
  have hst := run_storeCells_at P b off T' us 0 cur w p2 (by omega) (RAs_one q2 hk1)
  simp only [Nat.add_zero, hul, hl] at hst
  have hsize : us.length = n := by omega
  have hnew : RAs m φ w es'.flatten (xs.take off ++ us ++ xs.drop (off + n)) := by rw [hes]; exact RAs_append (RAs_append (RAs_take off g4) q2) (RAs_drop _ g4)
  have htk : ((cur.toList.take off ++ us ++ cur.toList.drop (off + n)).toArray.toList).take (es.length * k) = xs.take off ++ us ++ xs.drop (off + n) := by
    rw [← p6]
    apply List.ext_getElem?
    intro j
    have hcz : cur.toList.length = cur.size := by simp
    simp only [List.getElem?_take, List.getElem?_append, List.length_append, List.length_take, List.getElem?_drop, hsize, hcz]
    rw [Nat.min_eq_left (show off ≤ cur.size by omega), Nat.min_eq_left (show es.length * k ≤ cur.size by omega), Nat.min_eq_left (show off ≤ es.length * k by omega)]
    by_cases h1 : j < es.length * k
    · rw [if_pos h1]
      by_cases h2 : j < off + n
      · rw [if_pos h2, if_pos h2]
        by_cases h3 : j < off
        · simp only [if_pos h3, if_pos h1]
        · simp only [if_neg h3]
      · rw [if_neg h2, if_neg h2]
        have : off + n + (j - (off + n)) = j := by omega
        rw [this, if_pos h1]
    · rw [if_neg h1, if_neg (show ¬ j < off + n by omega)]
      have : off + n + (j - (off + n)) = j := by omega
      rw [this, if_neg h1]
  obtain ⟨k1, k2⟩ := set_os hsr hs g1 hnew hel hek cur p2 (cur.toList.take off ++ us ++ cur.toList.drop (off + n)).toArray (by simp [hsize]; omega) htk
  refine ⟨undef, _, m, φ, .inr ⟨?_, rfl⟩, k1, k2, RAv⟩
  simp [execOp, Instr.storeAt, Instr.sureAddr, g2, storeVar, q1, run_sizeOf' hn, hsize, hst]

theorem flat_at {α : Type} {R : α → List D} {k : Nat} (hR : ∀ x, (R x).length = k) : ∀ {L : List α} {i : Nat} {x : α}, L[i]? = some x → ∃ l1 l2, (L.map (encA R)).flatten = l1 ++ encA R x ++ l2 ∧ l1.length = i * k ∧ ∀ z, ((L.set i z).map (encA R)).flatten = l1 ++ encA R z ++ l2
  | [], i, x, h => by simp at h
  | y :: L, 0, x, h => by
    simp only [List.getElem?_cons_zero, Option.some.injEq] at h
    subst h
    exact ⟨[], (L.map (encA R)).flatten, by simp, by simp, fun z => by simp⟩
  | y :: L, i + 1, x, h => by
    simp only [List.getElem?_cons_succ] at h
    obtain ⟨l1, l2, h1, h2, h3⟩ := flat_at hR h
    refine ⟨encA R y ++ l1, l2, by simp [h1], ?_, fun z => ?_⟩
    · rw [List.length_append, h2, encA, List.length_map, hR, Nat.succ_mul]; omega
    · simp only [List.set_cons_succ, List.map_cons, List.flatten_cons, h3 z, List.append_assoc]

theorem y_pe {T n : Nat} {bb : Bool} {x ix : Operand} {id ver T' k : Nat} {α : Type} {R : α → List D} {L : List α} {kk : IntKind} {i : Int} {z : α} (hT : elemOf' P T = some (n, bb)) (hx : opv env x = some (.os id ver)) (hs : st[id]? = some (.os T' k ver (L.map (encA R)))) (hi : opv env ix = some (.d (.v (.int kk i)))) (h : idx L i = some z) :
    Yields P env st ⟨dst, .indexAddr T x ix, ty, pos, after, guard⟩ (.pe id ver (i.toNat * n)) :=
  y_indexAddr_os hT hx hs hi (idx_nonneg h) (by rw [List.length_map]; exact idx_lt h)

theorem y_fieldAddr_pe {S i fo n : Nat} {bb : Bool} {x : Operand} {id ver off T k : Nat} {es : List (List AV)} (hf : fieldOf P S i = some (fo, n + 1, bb)) (hx : opv env x = some (.pe id ver off)) (hs : st[id]? = some (.os T k ver es)) : Yields P env st ⟨dst, .fieldAddr S x i, ty, pos, after, guard⟩ (.pe id ver (off + fo)) := fun m φ a w hsr he => by
  obtain ⟨b, len, cap, xs, g1, g2, _⟩ := opv_pe hsr he hx hs
  exact ⟨_, by simp only [RA]; exact ⟨_, _, g1, Nat.le_refl _, fun _ => ⟨b, len, cap, rfl, rfl⟩⟩, fun w' _ => by simp [execOp, g2, run_fieldAt hf]⟩

theorem d_store_peL {T : TypeId} {x y : Operand} {id ver off fo n T' k : Nat} {α : Type} {R : α → List D} {L : List α} {i : Int} {z : α} (z' : α) {r0 r : AV} {rs : List AV} (hx : opv env x = some (.pe id ver off)) (hoff : off = i.toNat * k + fo) (hs : st[id]? = some (.os T' k ver (L.map (encA R)))) (hy : opv env y = some r0) (hle : Le r0 r) (hk : r.okc = true) (hc : r.cells = rs) (hk1 : rs.all AV.ok1 = true)
    (hn : szOf P T = some n) (hl : rs.length = n) (hR : ∀ x, (R x).length = k) (hi : idx L i = some z) (hrl : Nat.ble (fo + n) k = true) (hz' : encA R z' = (encA R z).take fo ++ rs ++ (encA R z).drop (fo + n)) :
    Does P env st ⟨dst, .store T x y, ty, pos, after, guard⟩ (.d (.v undef)) (st.set id (.os T' k ver ((L.set i.toNat z').map (encA R)))) := by
  subst hoff
  obtain ⟨l1, l2, h1, h2, h3⟩ := flat_at hR (idx_get hi)
  have hle2 := Nat.le_of_ble_eq_true hrl
  have hz : (encA R z).length = k := by rw [encA, List.length_map, hR]
  refine d_store_pe hx hs hy hle hk hc hk1 hn hl (by rw [h1]; simp only [List.length_append]; omega) ?_ (by simp) (fun e he => by obtain ⟨x, _, rfl⟩ := List.mem_map.1 he; rw [encA, List.length_map, hR])
  have e1 : (l1 ++ encA R z ++ l2).take (i.toNat * k + fo) = l1 ++ (encA R z).take fo := by
    rw [List.append_assoc, List.take_append, List.take_of_length_le (by omega), h2, show i.toNat * k + fo - i.toNat * k = fo from by omega, List.take_append_of_le_length (by omega)]
  have e2 : (l1 ++ encA R z ++ l2).drop (i.toNat * k + fo + n) = (encA R z).drop (fo + n) ++ l2 := by
    rw [List.append_assoc, List.drop_append, List.drop_eq_nil_of_le (by omega), h2, show i.toNat * k + fo + n - i.toNat * k = fo + n from by omega, List.nil_append, List.drop_append_of_le_length (by omega)]
  rw [h1, h3, hz', e1, e2]
  simp [List.append_assoc]
end
end Go.Sk
namespace Go.Sk
open Go.RowKit (Below)

inductive LK where
  | int (k : IntKind)
  | bool
  | str

def LK.fits : LK → Value → Bool
  | .int k, .int k' _ => decide (k = k')
  | .bool, .bool _ => true
  | .str, .string _ => true
  | _, _ => false
def fitsL : List LK → List Value → Bool
  | [], [] => true
  | k :: ks, v :: vs => k.fits v && fitsL ks vs
  | _, _ => false
def eqLeaf : Value → Value → Bool
  | .int _ a, .int _ b => decide (a = b)
  | .bool a, .bool b => a == b
  | .string a, .string b => a.toList == b.toList
  | _, _ => false
def eqL : List Value → List Value → Bool
  | [], [] => true
  | x :: xs, y :: ys => eqLeaf x y && eqL xs ys
  | _, _ => false

mutual
/-- The leaves of a type. -/
def leafK (P : Program) : Nat → TypeId → Option (List LK)
  | 0, _ => none
  | d + 1, T => match P.underlying T with
    | some (.int k) => some [.int k]
    | some .bool => some [.bool]
    | some .string => some [.str]
    | some (.struct fs) => if P.stoodInHeld T then none else leafF P d fs.toList 0
    | _ => none
def leafF (P : Program) : Nat → List Field → Nat → Option (List LK)
  | _, [], _ => some []
  | 0, _ :: _, _ => none
  | d + 1, f :: fs, off => if f.name ≠ "_" ∧ f.offset = off then
      match leafK P d f.type, szOf P f.type with
      | some ks, some n => if ks.length = n ∧ (aggOf P f.type = some true ∨ (aggOf P f.type = some false ∧ n = 1)) then (leafF P d fs (off + n)).map (ks ++ ·) else none
      | _, _ => none
    else none
end

theorem fitsL_len : ∀ {ks : List LK} {vs : List Value}, fitsL ks vs = true → vs.length = ks.length
  | [], [], _ => rfl
  | k :: ks, v :: vs, h => by simp only [fitsL, Bool.and_eq_true] at h; simp [fitsL_len h.2]
  | [], _ :: _, h => by simp [fitsL] at h
  | _ :: _, [], h => by simp [fitsL] at h
theorem fitsL_append : ∀ {ks ls : List LK} {vs : List Value}, fitsL (ks ++ ls) vs = true → fitsL ks (vs.take ks.length) = true ∧ fitsL ls (vs.drop ks.length) = true
  | [], ls, vs, h => by simpa [fitsL] using h
  | k :: ks, ls, [], h => by simp [fitsL] at h
  | k :: ks, ls, v :: vs, h => by
    simp only [List.cons_append, fitsL, Bool.and_eq_true] at h
    obtain ⟨h1, h2⟩ := fitsL_append h.2
    simp [fitsL, h.1, h1, h2]
theorem eqL_append : ∀ {xs ys us vs : List Value}, xs.length = ys.length → eqL (xs ++ us) (ys ++ vs) = (eqL xs ys && eqL us vs)
  | [], [], us, vs, _ => by simp [eqL]
  | x :: xs, y :: ys, us, vs, h => by simp only [List.cons_append, eqL, eqL_append (xs := xs) (ys := ys) (by simpa using h), Bool.and_assoc]
  | [], _ :: _, _, _, h => by simp at h
  | _ :: _, [], _, _, h => by simp at h

def descAgg : TypeDesc → Bool | .struct _ => true | .array _ _ => true | _ => false
theorem aggOf_of {P : Program} {T : TypeId} {u : TypeDesc} (hu : P.underlying T = some u) : aggOf P T = some (descAgg u) := by
  unfold aggOf; rw [hu]; cases u <;> rfl
theorem aggOf_isAgg {P : Program} {T : TypeId} {b : Bool} (h : aggOf P T = some b) (w : World) : (isAgg T).run P w = .ok b w := by
  unfold aggOf at h
  cases hu : P.underlying T with
  | none => simp [hu] at h
  | some u =>
    simp only [hu, Option.map_some, Option.some.injEq] at h
    subst h
    simp only [isAgg, Sem.run_bind, run_underlying hu, Result.andThen_ok]
    cases u <;> simp
theorem run_sizeOf2 {P : Program} {T : TypeId} {n : Nat} (h : szOf P T = some n) (w : World) : (sizeOf T).run P w = .ok n w := by
  unfold szOf at h
  cases hi : P.info? T with
  | none => simp [hi] at h
  | some i =>
    simp only [hi, Option.map_some, Option.some.injEq] at h
    simp [sizeOf, typeInfo, hi, h]

theorem run_equal_leaf {P : Program} (w : World) : ∀ (d : Nat), 
    (∀ (T : TypeId) (ks : List LK) (n : Nat) (xs ys : List Value), leafK P d T = some ks → d ≤ n → fitsL ks xs = true → fitsL ks ys = true →
      (aggOf P T = some true → (Op.equalIn n T (.agg ⟨xs⟩) (.agg ⟨ys⟩)).run P w = .ok (eqL xs ys) w) ∧
      (aggOf P T = some false → ∀ x y, xs = [x] → ys = [y] → (Op.equalIn n T x y).run P w = .ok (eqL xs ys) w)) ∧
    (∀ (fs : List Field) (off : Nat) (ks : List LK) (n : Nat) (xs ys : List Value), leafF P d fs off = some ks → d ≤ n → fitsL ks (xs.drop off) = true → fitsL ks (ys.drop off) = true → xs.length = ys.length →
      (Op.eqFields n ⟨xs⟩ ⟨ys⟩ fs).run P w = .ok (eqL (xs.drop off) (ys.drop off)) w)
  | 0 => by
    constructor
    · intro T ks n xs ys h; simp [leafK] at h
    · intro fs off ks n xs ys h hn h1 h2 hl
      cases fs with
      | nil =>
        simp only [leafF, Option.some.injEq] at h
        subst h
        have a1 := fitsL_len h1
        have a2 := fitsL_len h2
        rw [List.eq_nil_of_length_eq_zero a1, List.eq_nil_of_length_eq_zero a2]
        simp [Op.eqFields, eqL]
      | cons f fs => simp [leafF] at h
  | d + 1 => by
    obtain ⟨ihK, ihF⟩ := run_equal_leaf w d
    constructor
    · intro T ks n xs ys h hn h1 h2
      obtain ⟨n, rfl⟩ : ∃ n', n = n' + 1 := ⟨n - 1, by omega⟩
      simp only [leafK] at h
      cases hu : P.underlying T with
      | none => simp [hu] at h
      | some u =>
        rw [hu] at h
        have hag := aggOf_of hu
        cases u with
        | int k =>
          simp only [Option.some.injEq] at h
          subst h
          refine ⟨fun h => by simp [hag, descAgg] at h, fun _ x y hx hy => ?_⟩
          subst hx; subst hy
          simp only [fitsL, Bool.and_true] at h1 h2
          cases x <;> simp only [LK.fits, Bool.false_eq_true] at h1
          cases y <;> simp only [LK.fits, Bool.false_eq_true] at h2
          simp only [decide_eq_true_eq] at h1 h2
          subst h1; subst h2
          rw [run_equalIn_int w n T _ k _ _ hu]
          simp [eqL, eqLeaf, Int.beq_dec]
        | bool =>
          simp only [Option.some.injEq] at h
          subst h
          refine ⟨fun h => by simp [hag, descAgg] at h, fun _ x y hx hy => ?_⟩
          subst hx; subst hy
          simp only [fitsL, Bool.and_true] at h1 h2
          cases x <;> simp only [LK.fits, Bool.false_eq_true] at h1
          cases y <;> simp only [LK.fits, Bool.false_eq_true] at h2
          rw [run_equalIn_bool' w n T _ _ hu]
          simp [eqL, eqLeaf]
        | string =>
          simp only [Option.some.injEq] at h
          subst h
          refine ⟨fun h => by simp [hag, descAgg] at h, fun _ x y hx hy => ?_⟩
          subst hx; subst hy
          simp only [fitsL, Bool.and_true] at h1 h2
          cases x <;> simp only [LK.fits, Bool.false_eq_true] at h1
          cases y <;> simp only [LK.fits, Bool.false_eq_true] at h2
          rw [run_equalIn_string w n T _ _ hu]
          simp [eqL, eqLeaf]
        | struct fs =>
          simp only at h
          split at h
          · cases h
          · rename_i hst
            refine ⟨fun _ => ?_, fun h => by simp [hag, descAgg] at h⟩
            have hf : P.fieldsOf T = fs := by simp [Program.fieldsOf, hu]
            rw [run_equalIn_struct w n T ⟨xs⟩ ⟨ys⟩ (by rw [hf, hu]) (by simpa using hst), hf]
            have := ihF fs.toList 0 ks n xs ys h (by omega) (by simpa using h1) (by simpa using h2) (by rw [fitsL_len h1, fitsL_len h2])
            simpa using this
        | _ => simp at h
    · intro fs off ks n xs ys h hn h1 h2 hl
      cases fs with
      | nil =>
        simp only [leafF, Option.some.injEq] at h
        subst h
        have a1 := fitsL_len h1
        have a2 := fitsL_len h2
        rw [List.eq_nil_of_length_eq_zero a1, List.eq_nil_of_length_eq_zero a2]
        simp [Op.eqFields, eqL]
      | cons f fs =>
        simp only [leafF] at h
        split at h
        · rename_i hc
          obtain ⟨hname, hoff⟩ := hc
          split at h
          · rename_i ks1 m hk1 hm
            split at h
            · rename_i hc2
              obtain ⟨hlen, hag⟩ := hc2
              obtain ⟨ks2, hks2, rfl⟩ := Option.map_eq_some_iff.1 h
              obtain ⟨f1, f2⟩ := fitsL_append h1
              obtain ⟨g1, g2⟩ := fitsL_append h2
              have lx := fitsL_len h1
              have ly := fitsL_len h2
              simp only [List.length_append, List.length_drop] at lx ly
              have key : ∀ zs : List Value, zs.length = xs.length → (part f.type ⟨zs⟩ f.offset).run P w = .ok (if aggOf P f.type = some true then .agg ⟨(zs.drop off).take m⟩ else ((zs.drop off)[0]?).getD undef) w := by
                intro zs hz
                rcases hag with hag | ⟨hag, hm1⟩
                · rw [if_pos hag]
                  simp only [part, Sem.run_bind, aggOf_isAgg hag, Result.andThen_ok, if_true, run_sizeOf2 hm, Sem.run_pure]
                  rw [hoff]
                  congr 2
                  apply Array.toList_inj.mp
                  simp [List.extract_eq_take_drop]
                · rw [if_neg (by rw [hag]; simp)]
                  simp only [part, Sem.run_bind, aggOf_isAgg hag, Result.andThen_ok, Bool.false_eq_true, if_false]
                  have : off < zs.length := by omega
                  simp [hoff, this]
              have hmain : (Op.equalIn n f.type (if aggOf P f.type = some true then .agg ⟨(xs.drop off).take m⟩ else ((xs.drop off)[0]?).getD undef) (if aggOf P f.type = some true then .agg ⟨(ys.drop off).take m⟩ else ((ys.drop off)[0]?).getD undef)).run P w = .ok (eqL ((xs.drop off).take m) ((ys.drop off).take m)) w := by
                obtain ⟨i1, i2⟩ := ihK f.type ks1 n _ _ hk1 (by omega) f1 g1
                rw [hlen] at i1 i2
                rcases hag with hag | ⟨hag, hm1⟩
                · rw [if_pos hag, if_pos hag]; exact i1 hag
                · rw [if_neg (by rw [hag]; simp), if_neg (by rw [hag]; simp)]
                  have ex : ∀ zs : List Value, zs.length = xs.length → (zs.drop off).take m = [((zs.drop off)[0]?).getD undef] := by
                    intro zs hz
                    have : off < zs.length := by omega
                    subst hm1
                    rw [List.drop_eq_getElem_cons this]
                    rfl
                  exact i2 hag _ _ (ex xs rfl) (ex ys hl.symm)
              have hrest := ihF fs (off + m) ks2 n xs ys hks2 (by omega) (by rw [List.drop_drop, hlen] at f2; exact f2) (by rw [List.drop_drop, hlen] at g2; exact g2) hl
              have hsplit : eqL (xs.drop off) (ys.drop off) = (eqL ((xs.drop off).take m) ((ys.drop off).take m) && eqL (xs.drop (off + m)) (ys.drop (off + m))) := by
                conv => lhs; rw [← List.take_append_drop m (xs.drop off), ← List.take_append_drop m (ys.drop off)]
                rw [eqL_append (by simp only [List.length_take, List.length_drop]; omega), List.drop_drop, List.drop_drop]
              simp only [Op.eqFields, if_pos hname, Sem.run_bind, key xs rfl, key ys hl.symm, Result.andThen_ok, hmain]
              rw [hsplit]
              cases hb : eqL ((xs.drop off).take m) ((ys.drop off).take m) with
              | false => simp
              | true => simpa using hrest
            · cases h
          · cases h
        · cases h

/-- the leaves of data -/
def leafD : D → Option Value
  | .v x => some x
  | _ => none

section
variable {P : Program} {env : Env} {st : List AO} {dst : Option Tmp} {ty : TypeId} {pos : String} {after : Array Edge} {guard : Option (Nat × Bool)}

theorem RFs_vals {φ w} : ∀ {vs cs : List Value}, RFs φ w (vs.map D.v) cs → cs = vs
  | [], cs, h => by simpa [RFs] using h
  | v :: vs, cs, h => by
    simp only [List.map_cons, RFs, RD] at h
    obtain ⟨c, cs', rfl, rfl, h⟩ := h
    rw [RFs_vals h]

def leafOk (P : Program) (T : TypeId) : Option (List LK) := bif P.eqGuardType P.depth T then none else match aggOf P T with | some true => leafK P 100 T | _ => none
theorem y_eqst {x y : Operand} {T T' : TypeId} {xa ya : AV} {xs ys : List Value} {ks : List LK} {b : Bool} (hT : leafOk P T = some ks) (hx : opv env x = some xa) (hlx : Le xa (.d (.ag (xs.map D.v)))) (hy : opv env y = some ya) (hly : Le ya (.d (.ag (ys.map D.v)))) (h1 : fitsL ks xs = true) (h2 : fitsL ks ys = true) (hb : eqL xs ys = b) :
    Yields P env st ⟨dst, .binOp .eql T x y T', ty, pos, after, guard⟩ (.d (.v (.bool b))) := fun m φ a w _ he => by
  unfold leafOk at hT
  cases hg : P.eqGuardType P.depth T with
  | true => rw [hg] at hT; cases hT
  | false =>
    rw [hg] at hT
    simp only [cond_false] at hT
    split at hT
    · rename_i hag
      have ex := hlx _ _ _ _ (opv_ok he hx)
      have ey := hly _ _ _ _ (opv_ok he hy)
      simp only [RA, RD] at ex ey
      obtain ⟨cs, e1, e2⟩ := ex
      obtain ⟨ds, e3, e4⟩ := ey
      have e5 := RFs_vals e2
      rw [e5] at e1
      have e6 := RFs_vals e4
      rw [e6] at e3
      refine ⟨_, RAv, fun w' _ => ?_⟩
      have := ((run_equal_leaf (P := P) w' 100).1 T ks 10000 xs ys hT (by decide) h1 h2).1 hag
      simp only [execOp, e1, e3, Sem.run_bind, run_eqGuard_agg w' .eql T x y ⟨xs⟩ ⟨ys⟩ hg, Result.andThen_ok, run_eql_struct w' T ⟨xs⟩ ⟨ys⟩, this, hb]
      rfl
    · cases hT
end
end Go.Sk
namespace Go.Sk
open Go.RowKit (Below)

section
variable {P : Program} {e : En} {ops : Array Oper} {l rest : List Oper} {env : Env} {st : List AO} {R : Env → List AO → Prop} {K : Ko}
end
end Go.Sk
namespace Go.Sk
open Go.RowKit (Below)

section
variable {P : Program} {e : En} {ops : Array Oper} {l rest : List Oper} {env : Env} {st : List AO} {R : Env → List AO → Prop} {K : Ko}
variable {dst : Option Tmp} {ty : TypeId} {pos : String} {after : Array Edge} {guard : Option (Nat × Bool)}

theorem WL.cast (t : Nat) {x y : AV} (ht : env.get t = some x) (hl : Le x y) (h : WL P e ops rest ((t, y) :: env) st R) : WL P e ops rest env st R :=
  WL.sub (Sub.cons ht hl (Sub.refl env)) h
theorem boolCases (b : Bool) : b = true ∨ b = false := by cases b <;> simp

end
end Go.Sk
namespace Go.Sk
open Go.RowKit (Below)

def nilV : Value := .slice none 0 0

/-- The same object, each of its cells turned. -/
def AO.mapc (f : AV → AV) : AO → AO
  | .row T cs => .row T (cs.map f)
  | .os T k v es => .os T k v (es.map fun e => e.map f)
  | .mp es => .mp (es.map fun p => (p.1, f p.2))
  | .fam T k v ess => .fam T k v (ess.map fun es => es.map fun e => e.map f)
  | .si s p => .si s p
  | .rsv => .rsv
  | .dead => .dead
theorem RAs.mapc {m m' : List Cz} {φ φ' : Nat → Nat} {w w' : World} {f : AV → AV} (hf : ∀ x v, RA m φ w x v → RA m' φ' w' (f x) v) : ∀ {xs : List AV} {vs : List Value}, RAs m φ w xs vs → RAs m' φ' w' (xs.map f) vs
  | [], vs, h => by simpa [RAs] using h
  | x :: xs, vs, h => by
    simp only [RAs] at h
    obtain ⟨c, cs, rfl, h2, h3⟩ := h
    exact RAs_cons (hf x c h2) (RAs.mapc hf h3)
theorem flatten_mapc (f : AV → AV) : ∀ es : List (List AV), (es.map fun e => e.map f).flatten = es.flatten.map f
  | [] => rfl
  | e :: es => by simp only [List.map_cons, List.flatten_cons, flatten_mapc f es, List.map_append]

theorem ownsRow_congr {w w' : World} {T k n : Nat} {y : Value} {xs : List Value} (h : w.ownsRow 0 T k y n xs) (hb : ∀ b, y.ownBlock = some b → w'.heap[b]? = w.heap[b]?) : w'.ownsRow 0 T k y n xs := by
  refine ⟨h.1, ?_⟩
  rcases h.2 with g | ⟨g, cap, cur, rfl, q1, q2, q3⟩
  · exact .inl g
  · exact .inr ⟨g, cap, cur, rfl, q1, (hb g rfl).trans q2, q3⟩

theorem OR.mapc {m m' : List Cz} {φ φ' : Nat → Nat} {w w' : World} {c : Cz} {o : AO} {f : AV → AV} (h : OR m φ w o c) (hf : ∀ x v, RA m φ w x v → RA m' φ' w' (f x) v) (hb : ∀ b, c.has b → w'.heap[b]? = w.heap[b]? ∧ φ' b = φ b) : OR m' φ' w' (o.mapc f) c := by
  cases o with
  | row T cs =>
    obtain ⟨b, rfl, h0, vs, h1, h2⟩ := h
    have := hb b rfl
    exact ⟨b, rfl, this.2.trans h0, vs, this.1.trans h1, RAs.mapc hf h2⟩
  | os T k ver es =>
    obtain ⟨y, xs, rfl, h1, h2, h3, h4⟩ := h
    refine ⟨y, xs, rfl, ?_, by rw [flatten_mapc]; exact RAs.mapc hf h2, fun e he => ?_, fun b hy => (hb b hy).2.trans (h4 b hy)⟩
    · rw [List.length_map]; exact ownsRow_congr h1 fun b hy => (hb b hy).1
    · obtain ⟨e', he', rfl⟩ := List.mem_map.1 he
      rw [List.length_map]; exact h3 e' he'
  | mp es =>
    obtain ⟨b, rfl, h0, l, cl, h1, h2, h3⟩ := h
    have := hb b rfl
    refine ⟨b, rfl, this.2.trans h0, l, cl, this.1.trans h1, by rw [h2]; simp, ?_⟩
    have := RAs.mapc hf h3
    rw [List.map_map] at this ⊢
    exact this
  | fam T k ver ess =>
    obtain ⟨ys, rfl, h1, h2, h3⟩ := h
    refine ⟨ys, rfl, by rw [List.length_map]; exact h1, fun j es y hj hy => ?_, h3⟩
    rw [List.getElem?_map, Option.map_eq_some_iff] at hj
    obtain ⟨es', hj', rfl⟩ := hj
    obtain ⟨xs, g1, g2, g3, g4⟩ := h2 j es' y hj' hy
    have hh : ∀ b, y.ownBlock = some b → w'.heap[b]? = w.heap[b]? ∧ φ' b = φ b := fun b hy' => hb b ⟨y, List.mem_of_getElem? hy, hy'⟩
    refine ⟨xs, by rw [List.length_map]; exact ownsRow_congr g1 fun b hy => (hh b hy).1, by rw [flatten_mapc]; exact RAs.mapc hf g2, fun e he => ?_, fun b hy' => (hh b hy').2.trans (g4 b hy')⟩
    obtain ⟨e', he', rfl⟩ := List.mem_map.1 he
    rw [List.length_map]; exact g3 e' he'
  | si s p =>
    obtain ⟨b, rfl, h0, h1⟩ := h
    have := hb b rfl
    exact ⟨b, rfl, this.2.trans h0, this.1.trans h1⟩
  | rsv => exact h
  | dead => trivial

/-! ### One is taken out -/
def takeF (fid ver j nid : Nat) : AV → AV
  | .osf f i v => if f = fid ∧ v = ver then (if i = j then .os nid 0 else .osf fid i (ver + 1)) else .osf f i v
  | x => x
/-! ### One is put back -/
def putF (fid ver nid v j : Nat) : AV → AV
  | .osf f i v' => if f = fid ∧ v' = ver ∧ i ≠ j then .osf fid i (ver + 1) else .osf f i v'
  | .os n v' => if n = nid ∧ v' = v then .osf fid j (ver + 1) else .os n v'
  | x => x

/-! ### All become data -/
def frzF (fid ver : Nat) (dss : List (List (List D))) : AV → AV
  | .osf f i v => if f = fid ∧ v = ver ∧ i < dss.length then .d (.sl (dss.getD i [])) else .osf f i v
  | x => x

end Go.Sk
namespace Go.Sk
open Go.RowKit (Below)

/-- The cells of a slice whose elements are the family's. -/
def famE (fid ver n : Nat) : List (List AV) := (List.range n).map fun i => [AV.osf fid i ver]
/-- The family's elements. -/
abbrev famM {α : Type} (R : α → List D) (L : List (List α)) : List (List (List AV)) := L.map fun l => l.map (encA R)
section
variable {P : Program} {e : En} {ops : Array Oper} {l rest : List Oper} {env : Env} {st : List AO} {R : Env → List AO → Prop} {K : Ko}

/-- Steps of the store alone. -/
def Gh (e : En) (env : Env) (st : List AO) (env' : Env) (st' : List AO) : Prop := ∀ m φ a w, Inv e m φ env st a w → ∃ m' φ', Inv e m' φ' env' st' a w
theorem Gh.wc {c : Code} {env' : Env} {st' : List AO} (h : Gh e env st env' st') (k : WC P e c K env' st') : WC P e c K env st := fun m φ a w hi =>
  let ⟨m', φ', hi'⟩ := h m φ a w hi
  k m' φ' a w hi'
end
end Go.Sk
namespace Go.Sk
open Go.RowKit (Below)

section
variable {P : Program} {env : Env} {st : List AO} {dst : Option Tmp} {ty : TypeId} {pos : String} {after : Array Edge} {guard : Option (Nat × Bool)}

end

/-! ### A slice of ours takes the place of another -/
section
variable {P : Program} {e : En} {ops : Array Oper} {l rest : List Oper} {env : Env} {st : List AO} {R : Env → List AO → Prop} {K : Ko}

/-- What a function gives that works on k objects of ours, with results that may hang on these. -/
def WinA (k : Nat) (x : Nat → AV) (new : Nat → List AO) (r : AV) (st1 : List AO) : Prop := ∃ i, r = x i ∧ k ≤ st1.length ∧ st1.take k = new i

end
end Go.Sk
namespace Go.Sk
open Go.RowKit (Below)

section
variable {P : Program} {env : Env} {st : List AO} {dst : Option Tmp} {ty : TypeId} {pos : String} {after : Array Edge} {guard : Option (Nat × Bool)}

/-- A box that is never written: data at once. -/
theorem b_boxd {T : TypeId} {x : Operand} {r : AV} {ds : List D} (hx : opv env x = some r) (hk : r.okc = true) (hc : Les r.cells (ds.map .d)) : DoesB P env st ⟨dst, .box T x, ty, pos, after, guard⟩ (.d (.pc ds)) st := fun m φ a w hs he => by
  obtain ⟨vs, h1, h2⟩ := RA_cells (opv_ok he hx) hk
  have h2' := RFs_of_RAs (hc.ras h2)
  let w' := w.alloc (.cells ⟨vs⟩ T)
  let φ' : Nat → Nat := fun b => if b = w.heap.size then ds.length else φ b
  have hb : Below w.heap.size w w' := (Below.refl _ _).alloc (Nat.le_refl _) _
  have hF : Fz φ w φ' w' := fun b off c g1 g2 => by
    have hlt := lt_of_frozen hs g1
    refine ⟨?_, by rw [cell?_congr (hb.block b hlt)]; exact g2⟩
    show off < if b = w.heap.size then ds.length else φ b
    rw [if_neg (by omega)]; exact g1
  have hk' : ∀ b, b < w.heap.size → w'.heap[b]? = w.heap[b]? ∧ φ' b = φ b := fun b hlt => ⟨hb.block b hlt, if_neg (by omega)⟩
  have hlt : ∀ b, w'.heap.size ≤ b → φ' b = 0 := fun b h => by
    have h3 : w'.heap.size = w.heap.size + 1 := by simp [w']
    show (if b = w.heap.size then ds.length else φ b) = 0
    rw [if_neg (by omega)]; exact hs.lt b (by omega)
  refine ⟨.pointer (some ⟨w.heap.size, 0, none⟩), w', m, φ', by simp [execOp, Instr.box, newVar, newRow, h1, w'], ⟨Pre.refl m, fun _ h => .inl h, hb.os, hb.tape, hb.output, hb.size, fun b h _ => hk' b h, hF⟩, hs.of_keep hk' hF hlt, ?_, hb⟩
  simp only [RA, RD]
  refine ⟨_, 0, rfl, RPs_of_cells (RFs.mono hF _ _ h2') fun j v hj => ?_⟩
  have hjl : j < vs.length := lt_len hj
  have hvl := RFs_length h2'
  refine ⟨?_, ?_⟩
  · show 0 + j < if w.heap.size = w.heap.size then ds.length else φ w.heap.size
    rw [if_pos rfl]; omega
  · have : w'.heap[w.heap.size]? = some (.cells ⟨vs⟩ T (0, 0)) := heap_alloc_new w _
    unfold World.cell?
    simp only [this]
    simpa using hj
end

/-! ### Function values -/
theorem Le.fnc {f : Fn} {a b : List AV} {a' b' : List D} (h : Les a (a'.map .d)) (k : Les b (b'.map .d)) : Le (.fn f a b) (.d (.fnc f a' b')) := fun _ _ _ _ hh => by
  simp only [RA, RD] at hh ⊢
  obtain ⟨fs, cs, h1, h2, h3⟩ := hh
  exact ⟨fs, cs, h1, RFs_of_RAs (h.ras h2), RFs_of_RAs (k.ras h3)⟩
theorem Le.fncd (f : Fn) (a b : List D) : Le (.d (.fnc f a b)) (.fn f (a.map .d) (b.map .d)) := fun _ _ _ _ hh => by
  simp only [RA, RD] at hh ⊢
  obtain ⟨fs, cs, h1, h2, h3⟩ := hh
  exact ⟨fs, cs, h1, RAs_of_RFs h2, RAs_of_RFs h3⟩
theorem Les.app : ∀ {xs ys us vs : List AV}, Les xs ys → Les us vs → Les (xs ++ us) (ys ++ vs)
  | [], [], _, _, _, k => k
  | _x :: _xs, _y :: _ys, _, _, h, k => ⟨h.1, Les.app h.2 k⟩
  | [], _ :: _, _, _, h, _ => h.elim
  | _ :: _, [], _, _, h, _ => h.elim
theorem Les.mid {fi ca : List D} {as : List AV} {ds : List D} (h : Les as (ds.map .d)) : Les (fi.map .d ++ as ++ ca.map .d) ((fi ++ ds ++ ca).map .d) := by
  rw [List.map_append, List.map_append]
  exact Les.app (Les.app (Les.refl _) h) (Les.refl _)

/-! ### Pointers -/
def ptrD {α : Type} (R : α → List D) : Option α → D
  | none => .v (.pointer none)
  | some c => .pc (R c)
section
variable {P : Program} {env : Env} {st : List AO} {dst : Option Tmp} {ty : TypeId} {pos : String} {after : Array Edge} {guard : Option (Nat × Bool)}
theorem RD_ptr {α : Type} {R : α → List D} {o : Option α} {φ w} {y : Value} (h : RD φ w (ptrD R o) y) : ∃ p, y = .pointer p ∧ p.isNone = o.isNone := by
  cases o with
  | none => simp only [ptrD, RD] at h; exact ⟨none, h, rfl⟩
  | some c => simp only [ptrD, RD] at h; obtain ⟨b, off, rfl, _⟩ := h; exact ⟨_, rfl, rfl⟩
theorem y_eqnp {α : Type} {R : α → List D} {o : Option α} {x : Operand} {r : AV} {T T' E : TypeId} (hT : P.underlying T = some (.pointer E)) (hx : opv env x = some r) (hl : Le r (.d (ptrD R o))) : Yields P env st ⟨dst, .binOp .eql T x (.const (.pointer none)) T', ty, pos, after, guard⟩ (.d (.v (.bool o.isNone))) := fun m φ a w _ he => by
  have h := hl _ _ _ _ (opv_ok he hx)
  simp only [RA] at h
  obtain ⟨p, h1, h2⟩ := RD_ptr h
  refine ⟨_, RAv, fun w' _ => ?_⟩
  have hp : P.pointee T = E := by simp [Program.pointee, hT]
  have hc : a.eval (.const (.pointer none)) = .pointer none := rfl
  simp [execOp, h1, hc, eqGuard, binOp, run_equal_pointer_nil w' T p (by rw [hp]; exact hT), h2]
end
end Go.Sk
namespace Go.Sk
open Go.RowKit (Below)

/-- The byte at a place. -/
def sIdx (s : ByteArray) (i : Int) : Option Int := if h : 0 ≤ i ∧ i < s.size then some ((s[i.toNat]'(by omega)).toNat : Int) else none
/-- A piece. -/
def sCut (s : ByteArray) (l h : Int) : Option ByteArray := bif decide (0 ≤ h) && decide (h ≤ (s.size : Int)) && decide (0 ≤ l) && decide (l ≤ h) then some (s.extract l.toNat h.toNat) else none

section
variable {P : Program} {env : Env} {st : List AO} {dst : Option Tmp} {ty : TypeId} {pos : String} {after : Array Edge} {guard : Option (Nat × Bool)}

theorem y_sindex {T : TypeId} {x ix : Operand} {k : IntKind} {s : ByteArray} {i r : Int} (hT : P.underlying T = some .string) (hx : opv env x = some (.d (.v (.string s)))) (hi : opv env ix = some (.d (.v (.int k i)))) (h : sIdx s i = some r) :
    Yields P env st ⟨dst, .index T x ix, ty, pos, after, guard⟩ (.d (.v (.int .u8 r))) := fun m φ a w _ he => by
  refine ⟨_, RAv, fun w' _ => ?_⟩
  unfold sIdx at h
  split at h
  · rename_i hc
    simp only [Option.some.injEq] at h
    subst h
    simp only [execOp, opv_v he hx, opv_v he hi, Sem.run_bind, run_index_string w' T s k i hT, dif_pos hc]
    simp
  · cases h
theorem y_scut {T : TypeId} {x l h : Operand} {k k' : IntKind} {s r : ByteArray} {i j : Int} (hT : P.underlying T = some .string) (hx : opv env x = some (.d (.v (.string s)))) (hl : opv env l = some (.d (.v (.int k i)))) (hh : opv env h = some (.d (.v (.int k' j)))) (hr : sCut s i j = some r) :
    Yields P env st ⟨dst, .slice T x (some l) (some h) none, ty, pos, after, guard⟩ (.d (.v (.string r))) := fun m φ a w _ he => by
  refine ⟨_, RAv, fun w' _ => ?_⟩
  unfold sCut at hr
  cases hc : (decide (0 ≤ j) && decide (j ≤ (s.size : Int)) && decide (0 ≤ i) && decide (i ≤ j)) with
  | false => rw [hc] at hr; cases hr
  | true =>
    rw [hc] at hr
    obtain rfl := Option.some.inj hr
    simp only [Bool.and_eq_true, decide_eq_true_eq] at hc
    simp [execOp, opv_v he hx, opv_v he hl, opv_v he hh, Instr.sliceAt, run_underlying hT, run_slice_string_if w' T s k k' i j hT, hc]
theorem y_scutl {T : TypeId} {x l : Operand} {k : IntKind} {s r : ByteArray} {i : Int} (hT : P.underlying T = some .string) (hx : opv env x = some (.d (.v (.string s)))) (hl : opv env l = some (.d (.v (.int k i)))) (hr : sCut s i s.size = some r) :
    Yields P env st ⟨dst, .slice T x (some l) none none, ty, pos, after, guard⟩ (.d (.v (.string r))) := fun m φ a w _ he => by
  refine ⟨_, RAv, fun w' _ => ?_⟩
  unfold sCut at hr
  cases hc : (decide (0 ≤ (s.size : Int)) && decide ((s.size : Int) ≤ (s.size : Int)) && decide (0 ≤ i) && decide (i ≤ (s.size : Int))) with
  | false => rw [hc] at hr; cases hr
  | true =>
    rw [hc] at hr
    obtain rfl := Option.some.inj hr
    simp only [Bool.and_eq_true, decide_eq_true_eq] at hc
    simp [execOp, opv_v he hx, opv_v he hl, Instr.sliceAt, run_underlying hT, run_slice_string_from_if w' T s k i hT, hc]
theorem y_scuth {T : TypeId} {x h : Operand} {k : IntKind} {s r : ByteArray} {j : Int} (hT : P.underlying T = some .string) (hx : opv env x = some (.d (.v (.string s)))) (hl : opv env h = some (.d (.v (.int k j)))) (hr : sCut s 0 j = some r) :
    Yields P env st ⟨dst, .slice T x none (some h) none, ty, pos, after, guard⟩ (.d (.v (.string r))) := fun m φ a w _ he => by
  refine ⟨_, RAv, fun w' _ => ?_⟩
  unfold sCut at hr
  cases hc : (decide (0 ≤ j) && decide (j ≤ (s.size : Int)) && decide ((0 : Int) ≤ 0) && decide (0 ≤ j)) with
  | false => rw [hc] at hr; cases hr
  | true =>
    rw [hc] at hr
    obtain rfl := Option.some.inj hr
    simp only [Bool.and_eq_true, decide_eq_true_eq] at hc
    simp [execOp, opv_v he hx, opv_v he hl, Instr.sliceAt, run_underlying hT, run_slice_string_to_if w' T s k j hT, hc]

theorem y_slt {x y : Operand} {T T' : TypeId} {p q : ByteArray} (hx : opv env x = some (.d (.v (.string p)))) (hy : opv env y = some (.d (.v (.string q)))) : Yields P env st ⟨dst, .binOp .lss T x y T', ty, pos, after, guard⟩ (.d (.v (.bool (Op.bytesLess p.toList q.toList)))) := fun m φ a w _ he =>
  ⟨_, RAv, fun w' _ => by simp [execOp, opv_v he hx, opv_v he hy, eqGuard, binOp, Op.stringOp]⟩
/-! ### The walk over a string -/
theorem b_srange {T : TypeId} {x : Operand} {s : ByteArray} (hT : P.underlying T = some .string) (hx : opv env x = some (.d (.v (.string s)))) : DoesB P env st ⟨dst, .range T x, ty, pos, after, guard⟩ (.pt st.length 0) (st ++ [.si s 0]) := fun m φ a w hs he => by
  have hF := Fz.alloc hs (.stringIter s 0)
  have hkk : ∀ b, b < w.heap.size → (w.alloc (.stringIter s 0)).heap[b]? = w.heap[b]? := fun b hb => heap_alloc_lt hb
  have hnew : ∀ b, (Cz.blk w.heap.size).has b → w.heap.size ≤ b := fun b hb => by simp only [Cz.has] at hb; omega
  refine ⟨.pointer (some ⟨w.heap.size, 0, none⟩), w.alloc (.stringIter s 0), m ++ [.blk w.heap.size], φ, ?_, Ev.push hs hF hkk (by simp) rfl rfl rfl hnew, SR.push hs hF hkk (by simp) ⟨_, rfl, hs.lt _ (Nat.le_refl _), heap_alloc_new w _⟩ hnew, ?_, (Below.refl _ _).alloc (Nat.le_refl _) _⟩
  · simp [execOp, opv_v he hx, Instr.range, run_underlying hT]
  · simp only [RA]; exact ⟨_, by rw [← hs.len]; simp, rfl⟩

/-- The next rune. -/
theorem d_snext {x : Operand} {id pos' : Nat} {s : ByteArray} (hx : opv env x = some (.pt id 0)) (hs : st[id]? = some (.si s pos')) (h : pos' < s.size) :
    Does P env st ⟨dst, .next x true, ty, pos, after, guard⟩ (.tu [.d (.v (.bool true)), .d (.v (.int .i64 (pos' : Int))), .d (.v (.int .i32 (Utf8.decode s pos').1))]) (st.set id (.si s (pos' + (Utf8.decode s pos').2))) := fun m φ a w hsr he => by
  obtain ⟨b, g1, g2⟩ := opv_pt he hx
  obtain ⟨b', hb, g3, g4⟩ := hsr.obj id _ _ hs g1
  simp only [Cz.blk.injEq] at hb
  subst hb
  let w' : World := { w with heap := w.heap.setIfInBounds b (.stringIter s (pos' + (Utf8.decode s pos').2)) }
  have hsz : w'.heap.size = w.heap.size := by simp [w']
  have hbl := heap_lt g4
  have hoth : ∀ c, c ≠ b → w'.heap[c]? = w.heap[c]? := fun c hc => by simp [w', Array.getElem?_setIfInBounds, Ne.symm hc]
  have hself : w'.heap[b]? = some (.stringIter s (pos' + (Utf8.decode s pos').2)) := by simp [w', Array.getElem?_setIfInBounds, hbl]
  have hF : Fz φ w φ w' := fun b2 off c q1 q2 => ⟨q1, by
    have hne : b2 ≠ b := fun e => by subst e; omega
    rw [cell?_congr (hoth b2 hne)]; exact q2⟩
  have hset : m.set id (.blk b) = m := List.ext_getElem? fun i => by
    by_cases hii : i = id
    · subst hii; rw [List.getElem?_set_self (lt_len g1), g1]
    · rw [List.getElem?_set_ne (Ne.symm hii)]
  obtain ⟨k1, k2⟩ := set_obj (o' := .si s (pos' + (Utf8.decode s pos').2)) (c' := .blk b) (φ' := φ) (w' := w') hsr hs rfl g1 (Cz.le_refl _) rfl rfl rfl (by omega)
    (fun c _ hn => ⟨hoth c (fun e => hn (by rw [e]; rfl)), rfl⟩) hF (fun c hc => hsr.lt c (by omega)) (fun c hc => .inl hc) ⟨b, rfl, g3, hself⟩
  rw [hset] at k1 k2
  refine ⟨.tuple #[.bool true, .int .i64 (pos' : Int), .int .i32 ((Utf8.decode s pos').1 : Int)], w', m, φ, .inl ?_, k1, k2, ?_⟩
  · have e1 : (getObj b).run P w = .ok (.stringIter s pos') w := by simp [getObj, Sem.run, g4]
    have e2 : (setObj b (.stringIter s (pos' + (Utf8.decode s pos').2))).run P w = .ok () w' := by simp [setObj, Sem.run, g4, w']
    simp [execOp, g2, Instr.next, e1, e2, h, goInt]
  · simp [RA, RAs, RD]
theorem y_sover {x : Operand} {id pos' : Nat} {s : ByteArray} (hx : opv env x = some (.pt id 0)) (hs : st[id]? = some (.si s pos')) (h : s.size ≤ pos') :
    Yields P env st ⟨dst, .next x true, ty, pos, after, guard⟩ (.tu [.d (.v (.bool false))]) := fun m φ a w hsr he => by
  obtain ⟨b, g1, g2⟩ := opv_pt he hx
  obtain ⟨b', hb, g3, g4⟩ := hsr.obj id _ _ hs g1
  simp only [Cz.blk.injEq] at hb
  subst hb
  refine ⟨.tuple #[.bool false], by simp only [RA, RAs, RD]; exact ⟨_, rfl, _, _, rfl, rfl, rfl⟩, fun w' hw => ?_⟩
  have := hw.block b (heap_lt g4)
  rw [g4] at this
  have hn : ¬ pos' < s.size := by omega
  have e1 : (getObj b).run P w' = .ok (.stringIter s pos') w' := by simp [getObj, Sem.run, this]
  simp [execOp, g2, Instr.next, e1, hn]
end
end Go.Sk
namespace Go.Sk
open Go.RowKit (Below)
open Go.MapKept (IsKey sameNow_of_keys run_getObj_map run_setObj_map run_checkKey run_findKey run_keyThatStays)
theorem mpGet_nil {κ α : Type} [DecidableEq κ] {k : κ} : mpGet ([] : List (κ × α)) k = none := rfl
theorem mpGet_ne {κ α : Type} [DecidableEq κ] {k a : κ} {x : α} {L : List (κ × α)} (h : ¬ k = a) (r : mpGet L k = none) : mpGet ((a, x) :: L) k = none := by
  rw [mpGet, if_neg (fun e => h e.symm), r]
section
variable {P : Program} {env : Env} {st : List AO} {dst : Option Tmp} {ty : TypeId} {pos : String} {after : Array Edge} {guard : Option (Nat × Bool)}
variable {κ α : Type} [DecidableEq κ]
theorem y_lookupok {T kt et : TypeId} {d : TypeDesc} {x ki : Operand} {id : Nat} (kf : κ → Value) (g : α → AV) (L : List (κ × α)) {k : κ} {z : α} {zv : Value} {r : AV} {b : Bool} (hT : P.underlying T = some (.map kt et)) (hd : P.underlying kt = some d) (hK : KeyF d kf)
    (hx : opv env x = some (.mp id)) (hi : st[id]? = some (mpO kf g L)) (hk : opv env ki = some (.d (.v (kf k)))) (hz : (P.info? et).bind (·.zero) = some zv) (hgz : g z = .d (.v zv)) (hr : g ((mpGet L k).getD z) = r) (hb : (mpGet L k).isSome = b) :
    Yields P env st ⟨dst, .lookup T x ki true, ty, pos, after, guard⟩ (.tu [r, .d (.v (.bool b))]) := fun m φ a w hs he => by
  subst hr; subst hb
  obtain ⟨b, h1, h2⟩ := opv_mp he hx
  obtain ⟨b', hbb, h0, l, cl, g1, g2, g3⟩ := hs.obj id _ _ hi h1
  simp only [Cz.blk.injEq] at hbb
  subst hbb
  have hkeys : l.map (·.key) = L.map (fun p => kf p.1) := by rw [g2]; simp
  have hkv := opv_v he hk
  have hlt := heap_lt g1
  have tu : ∀ {x : AV} {v : Value} {c : Bool}, RA m φ w x v → RA m φ w (.tu [x, .d (.v (.bool c))]) (.tuple #[v, .bool c]) := fun h => by
    simp only [RA]; exact ⟨_, rfl, RAs_cons h (RAs_cons RAv RAs_nil)⟩
  cases hinf : P.info? et with
  | none => simp [hinf] at hz
  | some i =>
    simp only [hinf, Option.bind_some] at hz
    rcases findNow_mp hK k L l 0 hkeys with ⟨q1, q2, _⟩ | ⟨j, e, y, q1, q2, q3, q4, q5, _⟩
    · refine ⟨.tuple #[zv, .bool false], by rw [q1, Option.getD_none, hgz]; exact tu RAv, fun w' hb => ?_⟩
      have g1' : w'.heap[b]? = some (.map ⟨l⟩ cl) := by rw [hb.block b hlt]; exact g1
      simp [execOp, Instr.lookup, h2, hkv, run_underlying hT, MapKept.run_getObj_map g1', run_checkKey hd (hK.key k), run_findKey hd q2, zeroValue, typeInfo, hinf, hz, Result.andThen]
    · have hval : RA m φ w (g y) e.val := by
        have : (((L.map fun p => (kf p.1, g p.2)).map (·.2)))[j]? = some (g y) := by simp [q2]
        obtain ⟨v', hv1, hv2⟩ := RAs_get g3 this
        simp only [List.getElem?_map, q1, Option.map_some, Option.some.injEq] at hv1
        rw [hv1]; exact hv2
      refine ⟨.tuple #[e.val, .bool true], by rw [q3, Option.getD_some]; exact tu hval, fun w' hb => ?_⟩
      have g1' : w'.heap[b]? = some (.map ⟨l⟩ cl) := by rw [hb.block b hlt]; exact g1
      simp [execOp, Instr.lookup, h2, hkv, run_underlying hT, MapKept.run_getObj_map g1', run_checkKey hd (hK.key k), run_findKey hd q5, Result.andThen]
end
end Go.Sk
namespace Go.Sk
open Go.RowKit (Below)

/-- Surely one cell, or a struct whose cells are known, as the store is. -/
def AV.okS (st : List AO) : AV → Bool
  | .os id ver => match st[id]? with | some (.os _ _ v _) => Nat.beq v ver | _ => false
  | x => x.okc

theorem RA_cellsS {m φ w st} {x : AV} {y : Value} (hs : SR m φ st w) (h : RA m φ w x y) (hk : x.okS st = true) : ∃ vs, y.cells = ⟨vs⟩ ∧ RAs m φ w x.cells vs := by
  cases x with
  | os id ver =>
    simp only [AV.okS] at hk
    split at hk
    · rename_i T k v es hi
      obtain rfl := Nat.eq_of_beq_eq_true hk
      exact ⟨[y], (one_os hi m φ w y hs h).2, RAs_cons h RAs_nil⟩
    · cases hk
  | u => exact RA_cells h hk
  | d z => exact RA_cells h hk
  | ag ps => exact RA_cells h hk
  | pt id off => exact RA_cells h hk
  | sr id off len cap => exact RA_cells h hk
  | fn f a b => exact RA_cells h hk
  | mp id => exact RA_cells h hk
  | tu l => exact RA_cells h hk
  | pe id v off => exact RA_cells h hk
  | ow id v off len lo => exact RA_cells h hk
  | fs es => exact RA_cells h hk
  | ifc t x => exact RA_cells h hk
  | osf id j v => exact RA_cells h hk

def fillAVS (st : List AO) (place : Nat → Option (Nat × Nat)) (cells : List AV) : List (Nat × AV) → Option (List AV)
  | [] => some cells
  | (i, v) :: rest =>
    match place i with
    | none => none
    | some (off, size) =>
      bif Nat.beq v.cells.length size && Nat.ble (off + v.cells.length) cells.length && v.okS st then fillAVS st place (cells.take off ++ (v.cells ++ cells.drop (off + size))) rest
      else none

theorem fillAVS_ok {m φ w st} (hsr : SR m φ st w) {place : Nat → Option (Nat × Nat)} : ∀ {parts : List (Nat × AV)} {pv : List (Nat × Value)} {cells cs : List AV} {vs : List Value}, parts.map (·.1) = pv.map (·.1) → RAs m φ w (parts.map (·.2)) (pv.map (·.2)) →
    RAs m φ w cells vs → fillAVS st place cells parts = some cs → ∃ us, Instr.fill place ⟨vs⟩ pv = some ⟨us⟩ ∧ RAs m φ w cs us
  | [], pv, cells, cs, vs, hi, hv, hc, hf => by
    simp only [fillAVS, Option.some.injEq] at hf
    subst hf
    cases pv with
    | nil => exact ⟨vs, rfl, hc⟩
    | cons p pv => simp at hi
  | (i, x) :: parts, [], cells, cs, vs, hi, hv, hc, hf => by simp at hi
  | (i, x) :: parts, (i', v) :: pv, cells, cs, vs, hi, hv, hc, hf => by
    simp only [List.map_cons, List.cons.injEq] at hi
    obtain ⟨rfl, hi⟩ := hi
    simp only [List.map_cons, RAs] at hv
    obtain ⟨c, cs', he, hx, hv⟩ := hv
    simp only [List.cons.injEq] at he
    obtain ⟨rfl, rfl⟩ := he
    unfold fillAVS at hf
    split at hf
    · cases hf
    · rename_i off size hp
      cases hb : (Nat.beq x.cells.length size && Nat.ble (off + x.cells.length) cells.length && x.okS st) with
      | false => rw [hb] at hf; cases hf
      | true =>
        rw [hb] at hf
        simp only [cond_true] at hf
        simp only [Bool.and_eq_true] at hb
        obtain ⟨⟨b1, b2⟩, b3⟩ := hb
        have b1 := Nat.eq_of_beq_eq_true b1
        have b2 := Nat.le_of_ble_eq_true b2
        obtain ⟨us, g1, g2⟩ := RA_cellsS hsr hx b3
        have l1 := RAs_length g2
        have l2 := RAs_length hc
        obtain ⟨us', k1, k2⟩ := fillAVS_ok hsr hi hv (RAs_append (RAs_take off hc) (RAs_append g2 (RAs_drop (off + size) hc))) hf
        refine ⟨us', ?_, k2⟩
        rw [fill_step hp (by rw [g1]; simp; omega) (by rw [g1]; simp; omega)]
        rw [g1]
        simpa using k1

section
variable {P : Program} {env : Env} {st : List AO} {dst : Option Tmp} {ty : TypeId} {pos : String} {after : Array Edge} {guard : Option (Nat × Bool)}
theorem y_buildS {T : TypeId} {parts : Array (Nat × Operand)} {pl : List (Nat × Nat)} {zs : List Value} {xs cs : List AV} (hp : placesOf P T = some pl) (hz : zeroOf P T = some zs) (hx : opvs env (parts.toList.map (·.2)) = some xs)
    (hf : fillAVS st (fun i => pl[i]?) (zs.map fun v => .d (.v v)) (zipI parts.toList xs) = some cs) : Yields P env st ⟨dst, .build T parts, ty, pos, after, guard⟩ (.ag cs) := fun m φ a w hs he => by
  have h1 := opvs_map he hx
  have hl : parts.toList.length = xs.length := by have := opvs_length hx; simpa using this.symm
  obtain ⟨e1, e2⟩ := zipI_fst (l := parts.toList) (xs := xs) hl rfl
  obtain ⟨us, g1, g2⟩ := fillAVS_ok hs (m := m) (φ := φ) (w := w) (parts := zipI parts.toList xs) (pv := parts.toList.map fun (i, x) => (i, a.eval x)) (by rw [e1]; simp [Function.comp_def]) (by rw [e2]; exact h1) (RAs_consts zs) hf
  refine ⟨.agg ⟨us⟩, by simp only [RA]; exact ⟨us, rfl, g2⟩, fun w' hb => ?_⟩
  obtain ⟨z, z1, z2⟩ := run_zeroValue hz w'
  unfold placesOf at hp
  split at hp
  · rename_i fs hu
    have hm := run_mapM_list (P := P) (fun f : Field => (Prod.mk f.offset <$> sizeOf f.type : Sem (Nat × Nat))) (fun f => (szOf P f.type).map fun n => (f.offset, n)) w' fs.toList pl (fun f b _ hb => by
      cases hsz : szOf P f.type with
      | none => simp [hsz] at hb
      | some n => simp only [hsz, Option.map_some, Option.some.injEq] at hb; subst hb; simp [run_sizeOf' hsz]) hp
    have hm' : (fs.mapM (fun f : Field => (Prod.mk f.offset <$> sizeOf f.type : Sem (Nat × Nat)))).run P w' = .ok pl.toArray w' := by
      rw [← Array.toArray_toList (xs := fs), List.mapM_toArray]
      simp [hm]
    simp [execOp, Instr.build, z1, run_underlying hu, hm', z2, g1]
  · cases hp

end
end Go.Sk
namespace Go.Sk
open Go.RowKit (Below)

/-- A place for an object that an operation of a region will make. -/
theorem fill_ok {m φ w m' φ' w'} {st : List AO} {obj : AO} {id : Nat} {c : Cz} (hs : SR m φ st w) (hid : st[id]? = some .rsv) (hlt : stLt st.length (st ++ [obj]) = true) (he : Ev m φ w m' φ' w') (hs' : SR m' φ' (st ++ [obj]) w') (hc : m'[st.length]? = some c) :
    Ev m φ w ((m'.take st.length).set id c) φ' w' ∧ SR ((m'.take st.length).set id c) φ' (st.set id obj) w' ∧ ((m'.take st.length).set id c)[id]? = some c := by
  have hidl := (List.getElem?_eq_some_iff.1 hid).1
  have hml : m'.length = st.length + 1 := by rw [hs'.len]; simp
  have htl : (m'.take st.length).length = st.length := by rw [List.length_take, hml]; omega
  have hnon : m'[id]? = some .non := by
    have h1 : (st ++ [obj])[id]? = some .rsv := by rw [List.getElem?_append_left hidl]; exact hid
    obtain ⟨c', h2⟩ : ∃ c', m'[id]? = some c' := ⟨_, List.getElem?_eq_getElem (by omega)⟩
    have := hs'.obj id _ c' h1 h2
    simp only [OR] at this
    rw [h2, this]
  have hget : ∀ i, i ≠ id → i < st.length → ((m'.take st.length).set id c)[i]? = m'[i]? := fun i hi hil => by
    rw [List.getElem?_set_ne (Ne.symm hi), List.getElem?_take, if_pos hil]
  have hself : ((m'.take st.length).set id c)[id]? = some c := by rw [List.getElem?_set_self (by rw [htl]; exact hidl)]
  have hpre : Pre (m'.take st.length) ((m'.take st.length).set id c) := fun i x hx => by
    by_cases hi : i = id
    · subst hi
      rw [List.getElem?_take, if_pos hidl, hnon] at hx
      simp only [Option.some.injEq] at hx
      subst hx
      exact ⟨c, hself, trivial⟩
    · exact ⟨x, by rw [List.getElem?_set_ne (Ne.symm hi)]; exact hx, Cz.le_refl x⟩
  -- an object of the new store is one of the old
  have old : ∀ (i : Nat) (o : AO) (x : Cz), (st.set id obj)[i]? = some o → ((m'.take st.length).set id c)[i]? = some x → ∃ j, (st ++ [obj])[j]? = some o ∧ m'[j]? = some x ∧ (i = id ∧ j = st.length ∨ i ≠ id ∧ j = i ∧ i < st.length) := fun i o x h1 h2 => by
    by_cases hi : i = id
    · subst hi
      rw [List.getElem?_set_self hidl] at h1
      rw [hself] at h2
      simp only [Option.some.injEq] at h1 h2
      subst h1; subst h2
      exact ⟨st.length, by simp, hc, .inl ⟨rfl, rfl⟩⟩
    · rw [List.getElem?_set_ne (Ne.symm hi)] at h1
      have hil := (List.getElem?_eq_some_iff.1 h1).1
      rw [hget i hi hil] at h2
      exact ⟨i, by rw [List.getElem?_append_left hil]; exact h1, h2, .inr ⟨hi, rfl, hil⟩⟩
  have hF : Fz φ' w' φ' w' := Fz.refl _ _
  refine ⟨⟨fun i x hx => ?_, fun b hb => ?_, he.os, he.tape, he.output, he.size, he.keep, he.fz⟩, ⟨by rw [List.length_set, List.length_set, htl], fun i o x h1 h2 => ?_, hs'.lt, fun i j o o' x x' b h1 h2 l1 l2 g1 g2 b1 b2 => ?_, hs'.gl⟩, hself⟩
  · have hil : i < st.length := by rw [← hs.len]; exact (List.getElem?_eq_some_iff.1 hx).1
    obtain ⟨y, hy, hle⟩ := he.pre i x hx
    obtain ⟨z, hz, hle2⟩ := hpre i y (by rw [List.getElem?_take, if_pos hil]; exact hy)
    exact ⟨z, hz, Cz.le_trans hle hle2⟩
  · obtain ⟨i, x, h1, h2⟩ := hb
    by_cases hi : i = id
    · subst hi
      rw [hself] at h1
      simp only [Option.some.injEq] at h1
      subst h1
      exact he.new b ⟨_, _, hc, h2⟩
    · rw [List.getElem?_set_ne (Ne.symm hi), List.getElem?_take] at h1
      split at h1
      · exact he.new b ⟨_, _, h1, h2⟩
      · cases h1
  · obtain ⟨j, h3, h4, _⟩ := old i o x h1 h2
    have h5 := OR.take (n := st.length) (stLt_get hlt h3) (hs'.obj j o x h3 h4)
    exact h5.congr hpre (Fz.refl _ _) (fun _ _ => ⟨rfl, rfl⟩)
  · obtain ⟨i', p1, p2, p3⟩ := old i o x h1 g1
    obtain ⟨j', q1, q2, q3⟩ := old j o' x' h2 g2
    have := hs'.inj i' j' o o' x x' b p1 q1 l1 l2 p2 q2 b1 b2
    rcases p3 with ⟨rfl, rfl⟩ | ⟨hi, rfl, hil⟩ <;> rcases q3 with ⟨rfl, rfl⟩ | ⟨hj, rfl, hjl⟩
    · rfl
    · omega
    · omega
    · exact this

section
variable {P : Program} {env : Env} {st : List AO} {o : Oper}

theorem DoesB.fill {r r2 : AV} {obj : AO} (h : DoesB P env st o r (st ++ [obj])) (id : Nat) (hid : st[id]? = some .rsv) (hlt : stLt st.length (st ++ [obj]) = true)
    (hr : (∃ off, r = .pt st.length off ∧ r2 = .pt id off) ∨ (∃ v, r = .os st.length v ∧ r2 = .os id v) ∨ (r = .mp st.length ∧ r2 = .mp id)) : DoesB P env st o r2 (st.set id obj) := fun m φ a w hs he => by
  obtain ⟨v, w', m', φ', h1, h2, h3, h4, h5⟩ := h m φ a w hs he
  have hml : m'.length = st.length + 1 := by rw [h3.len]; simp
  obtain ⟨c, hc⟩ : ∃ c, m'[st.length]? = some c := ⟨_, List.getElem?_eq_getElem (by omega)⟩
  obtain ⟨g1, g2, g3⟩ := fill_ok hs hid hlt h2 h3 hc
  refine ⟨v, w', _, φ', h1, g1, g2, ?_, h5⟩
  rcases hr with ⟨off, rfl, rfl⟩ | ⟨ver, rfl, rfl⟩ | ⟨rfl, rfl⟩
  · simp only [RA] at h4 ⊢
    obtain ⟨b, q1, q2⟩ := h4
    rw [hc] at q1
    exact ⟨b, g3.trans q1, q2⟩
  · simp only [RA] at h4 ⊢
    obtain ⟨ver0, y0, q1, q2⟩ := h4
    rw [hc] at q1
    exact ⟨ver0, y0, g3.trans q1, q2⟩
  · simp only [RA] at h4 ⊢
    obtain ⟨b, q1, q2⟩ := h4
    rw [hc] at q1
    exact ⟨b, g3.trans q1, q2⟩
end

theorem gh_rsv {e : En} {env : Env} {st : List AO} : Gh e env st env (st ++ [.rsv]) := fun m φ a w hi => by
  have hF : Fz φ w φ w := Fz.refl _ _
  have hnew : ∀ b, Cz.non.has b → w.heap.size ≤ b := fun b hb => hb.elim
  exact ⟨_, _, hi.go (Ev.push hi.sr hF (fun _ _ => rfl) (Nat.le_refl _) rfl rfl rfl hnew) (SR.push hi.sr hF (fun _ _ => rfl) (Nat.le_refl _) rfl hnew)⟩

/-! ### Regions -/
def upB (k : Nat) (es : List Nat) (c : List Bool) : List Bool := List.zipWith (fun e b => b || Nat.beq e k) es c
theorem upB_map (k : Nat) (L : Nat → Bool) : ∀ es : List Nat, upB k es (es.map L) = es.map fun e => L e || Nat.beq e k
  | [] => rfl
  | e :: es => by simp only [upB, List.map_cons, List.zipWith_cons_cons, List.cons.injEq, true_and]; exact upB_map k L es
def allB : Nat → List (List Bool)
  | 0 => [[]]
  | n + 1 => (allB n).map (false :: ·) ++ (allB n).map (true :: ·)
theorem mem_allB : ∀ {n : Nat} (c : List Bool), c.length = n → c ∈ allB n
  | 0, [], _ => by simp [allB]
  | n + 1, b :: c, h => by
    have ih := mem_allB c (Nat.succ.inj h)
    cases b
    · exact List.mem_append.2 (.inl (List.mem_map.2 ⟨c, ih, rfl⟩))
    · exact List.mem_append.2 (.inr (List.mem_map.2 ⟨c, ih, rfl⟩))
  | 0, _ :: _, h => by simp at h
  | _ + 1, [], h => by simp at h
theorem mem_zip_map {L : Nat → Bool} : ∀ {es : List Nat} {y : Nat} {b : Bool}, (y, b) ∈ es.zip (es.map L) → y ∈ es ∧ b = L y
  | e :: es, y, b, h => by
    simp only [List.map_cons, List.zip_cons_cons] at h
    rcases List.mem_cons.1 h with h | h
    · simp only [Prod.mk.injEq] at h; obtain ⟨rfl, rfl⟩ := h; exact ⟨List.mem_cons_self, rfl⟩
    · exact ⟨List.mem_cons_of_mem _ (mem_zip_map h).1, (mem_zip_map h).2⟩

/-- A table of stores. -/
def tblB (tbl : List (List Bool × List AO)) (c : List Bool) : List AO := match tbl with
  | [] => []
  | (k, st) :: r => bif k == c then st else tblB r c

def ObT (P : Program) (e : En) (l : List Oper) (rs : List AV) (base : Env) (s s' : List AO) (k : Nat) (o : Oper) (pk bk : List Nat) : Prop :=
  ∀ F : Env, WL P e l.toArray [o] (ekOf l rs base pk bk ++ F) s fun env' st' => st' = s' ∧ ∃ pre, env' = pre ++ (ekOf l rs base pk bk ++ F) ∧
    (∀ t x, pre.get t = some x → o.dst = some t) ∧ ∀ d r, o.dst = some d → rs[k]? = some r → pre.get d = some r
def ObCT (P : Program) (e : En) (l : List Oper) (rs : List AV) (base : Env) (sts : List Bool → List AO) (es : List Nat) (k : Nat) (o : Oper) (pk bk : List Nat) : List (List Bool) → Prop
  | [] => True
  | c :: cs => ObT P e l rs base (sts c) (sts (upB k es c)) k o pk bk ∧ ObCT P e l rs base sts es k o pk bk cs
def ObsT (P : Program) (e : En) (l : List Oper) (rs : List AV) (base : Env) (sts : List Bool → List AO) (es : List Nat) : Nat → List Oper → List (List Nat × List Nat × List (List Bool)) → Prop
  | k, o :: ol, p :: ps => ObCT P e l rs base sts es k o p.1 p.2.1 p.2.2 ∧ ObsT P e l rs base sts es (k + 1) ol ps
  | _, _, _ => True
theorem ObCT_get {P e l rs base sts es k o pk bk} : ∀ {cs : List (List Bool)}, ObCT P e l rs base sts es k o pk bk cs → ∀ c ∈ cs, ObT P e l rs base (sts c) (sts (upB k es c)) k o pk bk
  | c :: cs, h, c', hc => by
    rcases List.mem_cons.1 hc with rfl | hc
    · exact h.1
    · exact ObCT_get h.2 c' hc
theorem ObsT_get {P e l rs base sts es} : ∀ {ol : List Oper} {ps : List (List Nat × List Nat × List (List Bool))} {k j : Nat} {o : Oper} {p : List Nat × List Nat × List (List Bool)}, ObsT P e l rs base sts es k ol ps → ol[j]? = some o → ps[j]? = some p → ObCT P e l rs base sts es (k + j) o p.1 p.2.1 p.2.2
  | o0 :: ol, p0 :: ps, k, 0, o, p, h, h1, h2 => by
    simp only [List.getElem?_cons_zero, Option.some.injEq] at h1 h2
    subst h1; subst h2; exact h.1
  | o0 :: ol, p0 :: ps, k, j + 1, o, p, h, h1, h2 => by
    have := ObsT_get h.2 (by simpa using h1 : ol[j]? = some o) (by simpa using h2 : ps[j]? = some p)
    rw [show k + (j + 1) = k + 1 + j by omega]; exact this
  | [], _, _, _, _, _, _, h1, _ => by simp at h1
  | _ :: _, [], _, _, _, _, _, _, h2 => by simp at h2

def allOkT (l : List Oper) (tc : List (List Nat)) (es : List Nat) (plan : List (List Nat × List Nat × List (List Bool))) : Bool :=
  tcOk l tc && nodupB (l.filterMap (·.dst)) && Nat.beq plan.length l.length &&
  (List.range l.length).all fun k => match plan[k]? with
    | none => false
    | some (pk, bk, cs) => (pk.all fun j => (tc.getD k []).contains j) &&
      (bk.all fun x => (List.range l.length).all fun j => match l[j]? with | some o => !(o.dst == some x) || Nat.beq j k || (tc.getD j []).contains k | none => true) &&
      (allB es.length).all fun c => cs.contains c || (es.zip c).any fun p => (p.2 && (Nat.beq p.1 k || (tc.getD p.1 []).contains k)) || (!p.2 && (tc.getD k []).contains p.1) ||
        (p.2 && (es.zip c).any fun q => !q.2 && (tc.getD p.1 []).contains q.1)

section
variable {P : Program} {e : En} {l : List Oper} {rs : List AV} {base : Env} {sts : List Bool → List AO} {es : List Nat}

def AtT (e : En) (l : List Oper) (rs : List AV) (base : Env) (sts : List Bool → List AO) (es : List Nat) (L : Nat → Bool) (a : Act) (w : World) : Prop :=
  ∃ m φ, Inv e m φ (FL base L (regOf l rs 0)) (sts (es.map L)) a w

theorem all_stepT {tc : List (List Nat)} {plan : List (List Nat × List Nat × List (List Bool))} (hok : allOkT l tc es plan = true) (hrs : rs.length = l.length) (hobs : ObsT P e l rs base sts es 0 l plan)
    {L L' : Nat → Bool} {k : Nat} {o : Oper} (ho : l[k]? = some o) (hd : Down l L) (hLn : ∀ y, L y = true → y < l.length) (hk : L k = false) (hpre : ∀ e ∈ o.after, Region.binds .any e = true → L e.on = true)
    (hL : ∀ j, j ≠ k → L' j = L j) (hk' : L' k = true) {a : Act} {w : World} (hat : AtT e l rs base sts es L a w) :
    wpOp P l.toArray QF k (fun a' w' => AtT e l rs base sts es L' a' w') a w := by
  obtain ⟨m, φ, hi⟩ := hat
  simp only [allOkT, Bool.and_eq_true] at hok
  obtain ⟨⟨⟨htc, hnd⟩, hpl⟩, hall⟩ := hok
  have hkl : k < l.length := (List.getElem?_eq_some_iff.1 ho).1
  have h1 := List.all_eq_true.1 hall k (List.mem_range.2 hkl)
  cases hp : plan[k]? with
  | none => simp [hp] at h1
  | some p =>
    obtain ⟨pk, bk, cs⟩ := p
    simp only [hp, Bool.and_eq_true] at h1
    obtain ⟨⟨hpk, hbk⟩, hcs⟩ := h1
    have hobk := ObsT_get hobs ho hp
    rw [Nat.zero_add] at hobk
    have htck := tc_listed htc hd k o ho hpre
    have htcl : ∀ (y : Nat), L y = true → k ∉ tc.getD y [] := fun y hy hm => by
      have hyl := hLn y hy
      have hoy : l[y]? = some l[y] := List.getElem?_eq_getElem hyl
      have := tc_listed htc hd y _ hoy (fun e' he' hb => hd y _ hoy hy e' he' hb) k hm
      rw [hk] at this; cases this
    -- the store is one of those that the plan names
    have hc : es.map L ∈ cs := by
      have h2 := List.all_eq_true.1 hcs (es.map L) (mem_allB _ (List.length_map _))
      simp only [Bool.or_eq_true] at h2
      rcases h2 with h2 | h2
      · simpa using h2
      · obtain ⟨⟨y, b⟩, hy, h3⟩ := List.any_eq_true.1 h2
        obtain ⟨hye, rfl⟩ := mem_zip_map hy
        simp only [Bool.or_eq_true, Bool.and_eq_true, Bool.not_eq_true'] at h3
        rcases h3 with (⟨hL, h3 | h3⟩ | ⟨hL, h3⟩) | ⟨hL, h3⟩
        · rw [Nat.eq_of_beq_eq_true h3, hk] at hL; cases hL
        · exact absurd (by simpa using h3) (htcl y hL)
        · have := htck y (by simpa using h3)
          rw [hL] at this; cases this
        · obtain ⟨⟨z, b⟩, hz, h4⟩ := List.any_eq_true.1 h3
          obtain ⟨_, rfl⟩ := mem_zip_map hz
          simp only [Bool.and_eq_true, Bool.not_eq_true'] at h4
          have hyl := hLn y hL
          have hoy : l[y]? = some l[y] := List.getElem?_eq_getElem hyl
          have := tc_listed htc hd y _ hoy (fun e' he' hb => hd y _ hoy hL e' he' hb) z (by simpa using h4.2)
          rw [h4.1] at this; cases this
    have hob := ObCT_get hobk _ hc
    have hcnt : es.map L' = upB k es (es.map L) := by
      rw [upB_map]
      apply List.map_congr_left
      intro y _
      by_cases hyk : y = k
      · subst hyk; simp [hk']
      · rw [hL y hyk]
        have : Nat.beq y k = false := by
          cases hb : Nat.beq y k with
          | false => rfl
          | true => exact absurd (Nat.eq_of_beq_eq_true hb) hyk
        rw [this, Bool.or_false]
    have hreg := reg_nodup (rs := rs) (k := 0) (nodupB_spec hnd)
    have regk : ∀ (j t : Nat) (x : AV), (j, t, x) ∈ regOf l rs 0 → ∃ o', l[j]? = some o' ∧ o'.dst = some t ∧ rs[j]? = some x := fun j t x hm => by
      obtain ⟨_, o', h1, h2, h3⟩ := mem_regOf hm
      exact ⟨o', by simpa using h1, h2, by simpa using h3⟩
    -- what the operation needs is there
    have hek : ∀ t x, (ekOf l rs base pk bk).get t = some x → (FL base L (regOf l rs 0)).get t = some x := fun t x hx => by
      rcases ek_spec hx with ⟨j, hj, hm⟩ | ⟨hm, hb⟩
      · exact FL_hit hreg.1 hm (htck j (by simpa using List.all_eq_true.1 hpk j hj))
      · rw [FL_miss]
        · exact hb
        · intro j r hjm
          obtain ⟨o', h2, h3, _⟩ := regk j t r hjm
          have h4 := List.all_eq_true.1 (List.all_eq_true.1 hbk t hm) j (List.mem_range.2 (List.getElem?_eq_some_iff.1 h2).1)
          simp only [h2, h3, beq_self_eq_true, Bool.not_true, Bool.false_or, Bool.or_eq_true] at h4
          rcases h4 with h4 | h4
          · rw [Nat.eq_of_beq_eq_true h4]; exact hk
          · cases hLj : L j with
            | false => rfl
            | true => exact absurd (by simpa using h4) (htcl j hLj)
    have hsub : Sub (ekOf l rs base pk bk ++ FL base L (regOf l rs 0)) (FL base L (regOf l rs 0)) := fun t x hx => by
      rw [Env.get_append] at hx
      cases hg : (ekOf l rs base pk bk).get t with
      | some y => rw [hg] at hx; simp only [Option.some.injEq] at hx; subst hx; exact ⟨y, hek t y hg, Le.refl y⟩
      | none => rw [hg] at hx; exact ⟨x, hx, Le.refl x⟩
    refine wpOp_of_WL ho (hob (FL base L (regOf l rs 0))) (hi.sub hsub) ?_
    rintro a' w' env' st' m' φ' ⟨rfl, pre, rfl, hp1, hp2⟩ hi'
    refine ⟨m', φ', ?_⟩
    rw [hcnt]
    refine hi'.sub (fun t x hx => ?_)
    rw [Env.get_append, Env.get_append]
    cases hpt : pre.get t with
    | some y =>
      have hdt := hp1 t y hpt
      cases hrk : rs[k]? with
      | none => exact absurd (List.getElem?_eq_none_iff.1 hrk) (by omega)
      | some r =>
        have h2 := hp2 t r hdt hrk
        rw [hpt] at h2
        simp only [Option.some.injEq] at h2
        subst h2
        have h3 : (FL base L' (regOf l rs 0)).get t = some y := FL_hit hreg.1 (by simpa using regOf_mem (k := 0) ho hdt hrk) hk'
        rw [h3] at hx
        simp only [Option.some.injEq] at hx
        subst hx
        exact ⟨y, rfl, Le.refl y⟩
    | none =>
      have h3 : (FL base L' (regOf l rs 0)).get t = (FL base L (regOf l rs 0)).get t := FL_step hL (fun r hr => by
        obtain ⟨o', h2, h3, h4⟩ := regk k t r hr
        rw [ho] at h2
        simp only [Option.some.injEq] at h2
        subst h2
        have := hp2 t r h3 h4
        rw [hpt] at this; cases this)
      rw [h3] at hx
      cases hg : (ekOf l rs base pk bk).get t with
      | some y =>
        have := hek t y hg
        rw [hx] at this
        simp only [Option.some.injEq] at this
        subst this
        exact ⟨x, rfl, Le.refl x⟩
      | none => exact ⟨x, hx, Le.refl x⟩

theorem all_anyT {tc : List (List Nat)} {plan : List (List Nat × List Nat × List (List Bool))} {Q : Exit → Act → World → Prop} (hok : allOkT l tc es plan = true) (hrs : rs.length = l.length) (hobs : ObsT P e l rs base sts es 0 l plan)
    (hQ : ∀ a w, AtT e l rs base sts es (fun k => Nat.blt k l.length) a w → Q .normal a w) :
    ∀ (f : Nat) (listed : Array Bool) (a : Act) (w : World), listed.size = l.length → Down l (Lof listed) → listed.toList.count false ≤ f → AtT e l rs base sts es (Lof listed) a w → wpAny P .any l.toArray Q f listed a w := by
  have htc : tcOk l tc = true := by simp only [allOkT, Bool.and_eq_true] at hok; exact hok.1.1.1
  -- what is ready
  have rdy : ∀ (listed : Array Bool) (i : Nat), listed.size = l.length → i ∈ Region.ready .any l.toArray listed → ∃ o, l[i]? = some o ∧ Lof listed i = false ∧ listed[i]? = some false ∧ ∀ e ∈ o.after, Region.binds .any e = true → Lof listed e.on = true := by
    intro listed i hsz hi
    obtain ⟨h0, o, ho, hall⟩ := mem_ready.1 hi
    have hil : i < listed.size := by
      rcases Nat.lt_or_ge i listed.size with h | h
      · exact h
      · simp [Array.getD, Nat.not_lt.2 h] at h0
    have h1 : listed[i]? = some false := by
      rw [Array.getElem?_eq_getElem hil]
      simp [Array.getD, hil] at h0
      rw [h0]
    exact ⟨o, by simpa using ho, by simp [Lof, Array.getD_eq_getD_getElem?, h1], h1, fun e he hb => hall e he hb⟩
  -- where nothing is ready, all is listed
  have full : ∀ (listed : Array Bool), listed.size = l.length → Region.ready .any l.toArray listed = [] → Lof listed = fun k => Nat.blt k l.length := by
    intro listed hsz hr
    have key : ∀ k, k < l.length → Lof listed k = true := by
      intro k
      induction k using Nat.strongRecOn with
      | _ k ih =>
        intro hk
        cases hLk : Lof listed k with
        | true => rfl
        | false =>
          exfalso
          have hok' : l[k]? = some l[k] := List.getElem?_eq_getElem hk
          have : k ∈ Region.ready .any l.toArray listed := by
            refine mem_ready.2 ⟨?_, l[k], by simp [hk], fun e he hb => ?_⟩
            · have hks : k < listed.size := by omega
              simp only [Lof, Array.getD, hks, dif_pos] at hLk ⊢
              exact hLk
            · have h1 := List.all_eq_true.1 htc k (List.mem_range.2 hk)
              simp only [hok', Bool.and_eq_true] at h1
              have h2 := List.all_eq_true.1 h1.1 e (Array.mem_toList_iff.2 he)
              simp only [hb, Bool.not_true, Bool.false_or] at h2
              have hlt : e.on < k := by simpa [Nat.blt_eq] using h2
              exact ih e.on hlt (by omega)
          rw [hr] at this; cases this
    funext k
    rcases Nat.lt_or_ge k l.length with h | h
    · rw [key k h]; simp [Nat.blt_eq, h]
    · have : Lof listed k = false := by simp [Lof, Array.getD, Nat.not_lt.2 (by omega : listed.size ≤ k)]
      rw [this]
      cases hb : Nat.blt k l.length with
      | false => rfl
      | true => have : k < l.length := by simpa [Nat.blt_eq] using hb
                omega
  intro f
  induction f with
  | zero =>
    intro listed a w hsz hdn hcn hat
    have hr : Region.ready .any l.toArray listed = [] := by
      cases hr : Region.ready .any l.toArray listed with
      | nil => rfl
      | cons i r =>
        obtain ⟨o, _, _, h1, _⟩ := rdy listed i hsz (by rw [hr]; exact List.mem_cons_self)
        have : false ∈ listed.toList := List.mem_of_getElem? (i := i) (by simpa using h1)
        have := List.count_pos_iff.2 this
        omega
    exact ⟨hr, hQ a w (full listed hsz hr ▸ hat)⟩
  | succ f ih =>
    intro listed a w hsz hdn hcn hat
    refine ⟨fun hr => hQ a w (full listed hsz hr ▸ hat), fun i hi => ?_⟩
    obtain ⟨o, ho, hLi, hli, hpre⟩ := rdy listed i hsz hi
    have hil : i < listed.size := (Array.getElem?_eq_some_iff.1 hli).1
    have hother : ∀ j, j ≠ i → Lof (listed.setIfInBounds i true) j = Lof listed j := fun j hj => by
      simp only [Lof, Array.getD_eq_getD_getElem?, Array.getElem?_setIfInBounds_ne (Ne.symm hj)]
    have hself : Lof (listed.setIfInBounds i true) i = true := by simp [Lof, Array.getD_eq_getD_getElem?, hil]
    have hstep := all_stepT (L' := Lof (listed.setIfInBounds i true)) hok hrs hobs ho hdn (fun y hy => by
      rcases Nat.lt_or_ge y l.length with h | h
      · exact h
      · simp [Lof, Array.getD, Nat.not_lt.2 (by omega : listed.size ≤ y)] at hy) hLi hpre hother hself hat
    refine wpOp_QF (fun a' w' hat' => ih _ a' w' (by simpa using hsz) ?_ ?_ hat') hstep
    · intro k ok hk hLk e he hb
      by_cases hki : k = i
      · subst hki
        rw [ho] at hk
        simp only [Option.some.injEq] at hk
        subst hk
        have := hpre e he hb
        by_cases hei : e.on = k
        · rw [hei]; exact hself
        · rw [hother _ hei]; exact this
      · rw [hother k hki] at hLk
        have := hdn k ok hk hLk e he hb
        by_cases hei : e.on = i
        · rw [hei]; exact hself
        · rw [hother _ hei]; exact this
    · have := count_set (l := listed.toList) (i := i) (by simpa using hli)
      rw [Array.toList_setIfInBounds]
      omega


theorem map_false : ∀ {es : List Nat} {L : Nat → Bool}, (∀ y, L y = false) → es.map L = List.replicate es.length false
  | [], _, _ => rfl
  | e :: es, L, h => by rw [List.map_cons, h e, map_false h]; rfl
theorem map_true : ∀ {es : List Nat} {L : Nat → Bool}, (∀ y ∈ es, L y = true) → es.map L = List.replicate es.length true
  | [], _, _ => rfl
  | e :: es, L, h => by rw [List.map_cons, h e List.mem_cons_self, map_true (fun y hy => h y (List.mem_cons_of_mem _ hy))]; rfl

/-- **A region in any order.** -/
theorem wc_region_set {k : Ko} {env : Env} {st : List AO} {id : Nat} (rs : List AV) (tc : List (List Nat)) (es : List Nat) (sts : List Bool → List AO) (plan : List (List Nat × List Nat × List (List Bool))) (hm : P.follows .mixedOrders = true)
    (hok : allOkT l tc es plan = true) (hrs : Nat.beq rs.length l.length = true) (hes : es.all (fun y => Nat.blt y l.length) = true) (hst : sts (List.replicate es.length false) = st) (hobs : ObsT P e l rs env sts es 0 l plan)
    (h : WE P e .normal k (FL env (fun k => Nat.blt k l.length) (regOf l rs 0)) (sts (List.replicate es.length true))) : WC P e (.region id l.toArray true) k env st := fun m φ a w hi => by
  have hQ : ∀ a' w', AtT e l rs env sts es (fun k => Nat.blt k l.length) a' w' → k.den P e .normal a' w' := fun a' w' ⟨m', φ', hi'⟩ => by
    rw [map_true (fun y hy => List.all_eq_true.1 hes y hy)] at hi'
    exact h m' φ' a' w' hi'
  have hz : ∀ j, Lof (Array.replicate l.toArray.size false) j = false := fun j => by simp [Lof, Array.getD]
  have hdn : Down l (Lof (Array.replicate l.toArray.size false)) := fun k o _ hL => by rw [hz] at hL; cases hL
  have hat : AtT e l rs env sts es (Lof (Array.replicate l.toArray.size false)) a { w with drawn := w.drawn + 1 } := by
    have hc : es.map (Lof (Array.replicate l.toArray.size false)) = List.replicate es.length false := map_false hz
    have hf : ∀ reg : List (Nat × Nat × AV), FL env (Lof (Array.replicate l.toArray.size false)) reg = env := by
      intro reg
      induction reg with
      | nil => rfl
      | cons p reg ih => obtain ⟨j, d, r⟩ := p; simp only [FL, hz, cond_false]; exact ih
    refine ⟨m, φ, ?_⟩
    rw [hc, hf, hst]
    exact hi.below ((Below.refl _ _).drew) (hi.env.mono (Pre.refl m) (Fz.refl φ w)) hi.sz hi.df
  exact wp_region_any hm (all_anyT (sts := sts) (base := env) hok (Nat.eq_of_beq_eq_true hrs) hobs hQ _ _ a _ (by simp) hdn (by simp) hat)

end
end Go.Sk
namespace Go.Sk
open Go.RowKit (Below)

theorem flatten_dropK {α : Type} {k : Nat} : ∀ (l : List (List α)) (n : Nat), (∀ e ∈ l, e.length = k) → (l.drop n).flatten = l.flatten.drop (n * k)
  | [], n, _ => by simp
  | e :: l, 0, _ => by simp
  | e :: l, n + 1, hl => by
    have he := hl e (by simp)
    have ih := flatten_dropK l n (fun e he => hl e (by simp [he]))
    have h1 : e.drop ((n + 1) * k) = [] := List.drop_of_length_le (by rw [he, Nat.succ_mul]; omega)
    have h2 : (n + 1) * k - k = n * k := by rw [Nat.succ_mul]; omega
    rw [List.drop_succ_cons, List.flatten_cons, ih, List.drop_append, he, h1, List.nil_append, h2]
theorem flatten_takeK {α : Type} {k : Nat} : ∀ (l : List (List α)) (n : Nat), (∀ e ∈ l, e.length = k) → (l.take n).flatten = l.flatten.take (n * k)
  | [], n, _ => by simp
  | e :: l, 0, _ => by simp
  | e :: l, n + 1, hl => by
    have he := hl e (by simp)
    have ih := flatten_takeK l n (fun e he => hl e (by simp [he]))
    have h1 : e.take ((n + 1) * k) = e := List.take_of_length_le (by rw [he, Nat.succ_mul]; omega)
    have h2 : (n + 1) * k - k = n * k := by rw [Nat.succ_mul]; omega
    rw [List.take_succ_cons, List.flatten_cons, List.flatten_cons, ih, List.take_append, he, h1, h2]

theorem WL.st {P : Program} {e : En} {ops : Array Oper} {rest : List Oper} {env : Env} {st st' : List AO} {R : Env → List AO → Prop} (hs : st = st') (h : WL P e ops rest env st' R) : WL P e ops rest env st R := hs ▸ h

/-- A slice that nobody looks into. -/
structure SlV where
  a : Option Addr
  n : Nat
  c : Nat
abbrev SlV.v (x : SlV) : Value := .slice x.a x.n x.c

/-- x is the piece of the object id from its element lo on, len elements. -/
def Piece (st : List AO) (x : AV) (id ver off len lo : Nat) : Prop :=
  x = .ow id ver off len lo ∨ (x = .os id ver ∧ off = 0 ∧ lo = 0 ∧ ∃ T k es, st[id]? = some (.os T k ver es) ∧ len = es.length)
theorem Piece.ow {st : List AO} {id ver off len lo : Nat} : Piece st (.ow id ver off len lo) id ver off len lo := .inl rfl
theorem Piece.os {st : List AO} {id ver len T k : Nat} {es : List (List AV)} (h : st[id]? = some (.os T k ver es)) (hl : es.length = len) : Piece st (.os id ver) id ver 0 len 0 := .inr ⟨rfl, rfl, rfl, T, k, es, h, hl.symm⟩

section
variable {P : Program} {env : Env} {st : List AO} {dst : Option Tmp} {ty : TypeId} {pos : String} {after : Array Edge} {guard : Option (Nat × Bool)}

theorem piece_val {m φ w} {x : AV} {v : Value} {id ver off len lo : Nat} {T k : Nat} {es : List (List AV)} (hs : SR m φ st w) (hx : Piece st x id ver off len lo) (h : RA m φ w x v) (hi : st[id]? = some (.os T k ver es)) :
    ∃ y xs, m[id]? = some (.tok ver y) ∧ w.ownsRow 0 T k y es.length xs ∧ RAs m φ w es.flatten xs ∧ (∀ e ∈ es, e.length = k) ∧ (∀ b, y.ownBlock = some b → φ b = 0) ∧
      ((y = .slice none 0 0 ∧ v = .slice none 0 0 ∧ len = 0) ∨ ∃ b n cap off', y = .slice (some ⟨b, 0, none⟩) n cap ∧ v = .slice (some ⟨b, off', none⟩) len (cap - lo) ∧ (off' = off ∨ len = 0)) := by
  rcases hx with rfl | ⟨rfl, rfl, rfl, T', k', es', hi', rfl⟩
  · simp only [RA] at h
    obtain ⟨v0, y0, g1, g2, g3⟩ := h
    obtain ⟨y, xs, e1, r1, r2, r3, r4⟩ := hs.obj id _ _ hi g1
    simp only [Cz.tok.injEq] at e1
    obtain ⟨rfl, rfl⟩ := e1
    exact ⟨y0, xs, g1, r1, r2, r3, r4, g3 rfl⟩
  · rw [hi] at hi'
    simp only [Option.some.injEq, AO.os.injEq, true_and] at hi'
    obtain ⟨rfl, rfl, rfl⟩ := hi'
    simp only [RA] at h
    obtain ⟨v0, y0, g1, g2, g3⟩ := h
    obtain ⟨y, xs, e1, r1, r2, r3, r4⟩ := hs.obj id _ _ hi g1
    simp only [Cz.tok.injEq] at e1
    obtain ⟨rfl, rfl⟩ := e1
    have := g3 rfl
    subst this
    refine ⟨v, xs, g1, r1, r2, r3, r4, ?_⟩
    rcases r1.2 with ⟨rfl, h0⟩ | ⟨g, cap, cur, rfl, _⟩
    · exact .inl ⟨rfl, rfl, h0⟩
    · exact .inr ⟨g, _, cap, 0, rfl, rfl, .inl rfl⟩

/-- A piece of a piece. -/
theorem y_slice_ow {T n : Nat} {bb : Bool} {x : Operand} {lo hi : Option Operand} {xr : AV} {id ver off len lo0 T' : Nat} {es : List (List AV)} {l h : Int} (hT : elemOf' P T = some (n, bb)) (hx : opv env x = some xr) (hp : Piece st xr id ver off len lo0) (hi' : st[id]? = some (.os T' n ver es))
    (hlo : BndI env lo 0 l) (hhi : BndI env hi len h) (h0 : 0 ≤ l) (h1 : l ≤ h) (h2 : h ≤ len) (hfit : lo0 + len ≤ es.length) :
    Yields P env st ⟨dst, .slice T x lo hi none, ty, pos, after, guard⟩ (.ow id ver (off + l.toNat * n) (h.toNat - l.toNat) (lo0 + l.toNat)) := fun m φ a w hsr he => by
  have hl := hlo.bnd h0
  have hh : Bnd env hi len h.toNat := hhi.bnd (by omega)
  obtain ⟨t, g1, g2, _⟩ := elemOf'_spec hT
  obtain ⟨y, xs, p1, p2, p3, p4, p5, p6⟩ := piece_val hsr hp (opv_ok he hx) hi'
  rcases p6 with ⟨rfl, q2, rfl⟩ | ⟨b, nn, cap, off', rfl, q2, q3⟩
  · have e1 : l = 0 := by omega
    have e2 : h = 0 := by omega
    subst e1; subst e2
    refine ⟨.slice none 0 0, by rw [RA]; exact ⟨_, _, p1, Nat.le_refl _, fun _ => .inl ⟨rfl, rfl, rfl⟩⟩, fun w' _ => ?_⟩
    have := run_sliceBounds (P := P) he hl hh (Nat.le_refl _) (Nat.le_refl 0) w'
    simp_all [execOp, Instr.sliceAt, run_underlying g1, Instr.slice, run_sizeOf' g2]
  · have hcap : es.length ≤ cap := by
      rcases p2.2 with ⟨hv, _⟩ | ⟨g, cap', cur, hv, _, _, r3, _⟩
      · cases hv
      · simp only [Value.slice.injEq] at hv; omega
    by_cases hcl : cap - lo0 = l.toNat
    · refine ⟨.slice (some ⟨b, off', none⟩) (h.toNat - l.toNat) (cap - lo0 - l.toNat), by simp only [RA]; exact ⟨_, _, p1, Nat.le_refl _, fun _ => .inr ⟨b, nn, cap, off', rfl, by rw [Nat.sub_sub], .inr (by omega)⟩⟩, fun w' _ => ?_⟩
      have := run_sliceBounds (P := P) (len := len) (cap := cap - lo0) he hl hh (by omega) (by omega) w'
      rw [hcl] at this ⊢
      simp [execOp, Instr.sliceAt, run_underlying g1, Instr.slice, q2, hcl, this, run_sizeOf' g2]
    · refine ⟨.slice (some ⟨b, off' + l.toNat * n, none⟩) (h.toNat - l.toNat) (cap - lo0 - l.toNat), by
        simp only [RA]
        refine ⟨_, _, p1, Nat.le_refl _, fun _ => .inr ⟨b, nn, cap, _, rfl, by rw [Nat.sub_sub], ?_⟩⟩
        rcases q3 with rfl | q3
        · exact .inl rfl
        · exact .inr (by omega), fun w' _ => ?_⟩
      have := run_sliceBounds (P := P) (len := len) (cap := cap - lo0) he hl hh (by omega) (by omega) w'
      simp [execOp, Instr.sliceAt, run_underlying g1, Instr.slice, q2, this, run_sizeOf' g2, hcl, Addr.add]

/-- What a piece holds. -/
theorem Src.ow {id ver off len lo T k : Nat} {es : List (List AV)} (hi : st[id]? = some (.os T k ver es)) (hoff : off = lo * k) (hfit : lo + len ≤ es.length) : Src st (.ow id ver off len lo) k ((es.drop lo).take len) := fun m φ w v hs h => by
  subst hoff
  obtain ⟨y, xs, p1, p2, p3, p4, p5, p6⟩ := piece_val hs Piece.ow h hi
  have hlen : ((es.drop lo).take len).length = len := by simp; omega
  have hd : ∀ e ∈ es.drop lo, e.length = k := fun e he => p4 e (List.mem_of_mem_drop he)
  refine ⟨(xs.drop (lo * k)).take (len * k), ?_, ?_, ?_⟩
  · rw [flatten_takeK _ _ hd, flatten_dropK _ _ p4]
    exact RAs_take _ (RAs_drop _ p3)
  · rw [hlen]
    have := RAs_length p3
    have hx : xs.length = es.length * k := p2.1
    rw [List.length_take, List.length_drop, hx, ← Nat.sub_mul]
    exact Nat.min_eq_left (Nat.mul_le_mul_right k (by omega))
  · rw [hlen]
    rcases p6 with ⟨_, h2, h3⟩ | ⟨b, n, cap, off', rfl, h2, h3⟩
    · exact .inl ⟨h2, h3⟩
    · refine .inr ⟨_, _, h2, fun j u hj => ?_⟩
      have hjl : j < len * k := by
        have := (List.getElem?_eq_some_iff.1 hj).1
        rw [List.length_take] at this; omega
      rw [List.getElem?_take, if_pos hjl, List.getElem?_drop] at hj
      rcases h3 with rfl | rfl
      · have := ownsRow_cell p2 hj
        rw [addr_add]; exact this
      · omega

theorem run_copyN {k : Nat} (w : World) (dT sT ty elem : TypeId) (g o dLen dCap : Nat) (a : Addr) (sLen sCap : Nat) (cur : Array Value) (t : TypeId) (cs : List Value)
    (hu : P.underlying dT = some (.slice elem)) (hs : szOf P elem = some k)
    (hg : w.heap[g]? = some (.cells cur t (0, 0))) (hn : cs.length = Nat.min sLen dLen * k)
    (hsrc : ∀ j v, cs[j]? = some v → w.cell? (a.add j) = some v) (hfit : o + cs.length ≤ cur.size) (h1 : ∀ v ∈ cs, v.oneCell' = true) :
    (Builtin.copy_ #[dT, sT] ty #[.slice (some ⟨g, o, none⟩) dLen dCap, .slice (some a) sLen sCap]).run P w =
      .ok (goInt (Nat.min sLen dLen)) (w.setRow g (cur.toList.take o ++ cs ++ cur.toList.drop (o + cs.length)).toArray) := by
  have hl := run_loadCells_list (P := P) w a cs hsrc
  have hst := run_storeCells_at P g o t cs 0 cur w hg (by simpa using hfit) h1
  simp [Builtin.copy_, run_underlying hu, Builtin.lenOf, Builtin.firstCells, run_sizeOf' hs, ← hn, hl, hst]

theorem take_app_len {α : Type} {xs rest : List α} {n : Nat} (h : xs.length = n) : (xs ++ rest).take n = xs := by
  subst h; simp

/-- 'copy' into a piece of ours. -/
theorem d_copy {T e k by_ : Nat} {d s : Operand} {dr xr : AV} {id ver off len lo n : Nat} {es fs : List (List AV)} {c : Call} (hT : eltOf P T = some (e, k, by_)) (hk : 0 < k)
    (hc : c = ⟨.builtin .copy, #[d, s], #[T, T]⟩) (hd : opv env d = some dr) (hp : Piece st dr id ver off len lo) (hoff : off = lo * k) (hi : st[id]? = some (.os e k ver es)) (hx : opv env s = some xr) (hsrc : Src st xr k fs)
    (hf1 : fs.flatten.all AV.ok1 = true) (hfk : ∀ f ∈ fs, f.length = k) (hfit : lo + len ≤ es.length) (hn : Nat.min fs.length len = n) :
    Does P env st ⟨dst, .call c, ty, pos, after, guard⟩ (.d (.v (.int .i64 n))) (st.set id (.os e k ver (es.take lo ++ (fs.take n ++ es.drop (lo + n))))) := fun m φ a w hs he => by
  subst hoff; subst hn; subst hc
  obtain ⟨i, ht, hi', rfl, rfl⟩ := eltOf_spec hT
  have hso : szOf P e = some i.size := by simp [szOf, hi']
  obtain ⟨y, xs, p1, p2, p3, p4, p5, p6⟩ := piece_val hs hp (opv_ok he hd) hi
  obtain ⟨news, n1, n2, n3⟩ := hsrc m φ w _ hs (opv_ok he hx)
  have idl := (List.getElem?_eq_some_iff.1 hi).1
  by_cases hn0 : Nat.min fs.length len = 0
  · have e1 : es.take lo ++ (fs.take (Nat.min fs.length len) ++ es.drop (lo + Nat.min fs.length len)) = es := by rw [hn0]; simp
    rw [e1, hn0]
    have e2 : st.set id (.os e i.size ver es) = st := by
      obtain ⟨hl, hg⟩ := List.getElem?_eq_some_iff.1 hi
      rw [← hg, List.set_getElem_self]
    rw [e2]
    refine ⟨.int .i64 0, w, m, φ, .inl ?_, Ev.refl _ _ _, hs, RAv⟩
    have hmn : ∀ c, Nat.min c len = 0 ∨ c ≠ fs.length := fun c => by
      by_cases h : c = fs.length
      · subst h; exact .inl hn0
      · exact .inr h
    rcases p6 with ⟨_, q2, rfl⟩ | ⟨b, nn, cap, off', _, q2, _⟩ <;> rcases n3 with ⟨q3, q4⟩ | ⟨aa, cc, q3, _⟩
    · simp [execOp, resolve, invoke, builtin, Builtin.copy_, run_underlying ht, q2, q3, Builtin.lenOf, Builtin.firstCells, run_sizeOf' hso, goInt]
    · simp [execOp, resolve, invoke, builtin, Builtin.copy_, run_underlying ht, q2, q3, Builtin.lenOf, Builtin.firstCells, run_sizeOf' hso, goInt, loadCells, loadCellsFrom]
    · simp [execOp, resolve, invoke, builtin, Builtin.copy_, run_underlying ht, q2, q3, Builtin.lenOf, Builtin.firstCells, run_sizeOf' hso, goInt, storeCells]
    · have h0 : Nat.min fs.length len = 0 := hn0
      simp [execOp, resolve, invoke, builtin, Builtin.copy_, run_underlying ht, q2, q3, Builtin.lenOf, Builtin.firstCells, run_sizeOf' hso, goInt, storeCells, h0, loadCells, loadCellsFrom]
  · have hf0 : 0 < fs.length := by
      rcases Nat.eq_zero_or_pos fs.length with h | h
      · rw [h] at hn0; simp at hn0
      · exact h
    have hl0 : 0 < len := by
      rcases Nat.eq_zero_or_pos len with h | h
      · rw [h] at hn0; simp at hn0
      · exact h
    have hnf : Nat.min fs.length len ≤ fs.length := Nat.min_le_left _ _
    have hnl : Nat.min fs.length len ≤ len := Nat.min_le_right _ _
    generalize hnn : Nat.min fs.length len = n at *
    rcases p6 with ⟨_, _, h⟩ | ⟨b, nn, cap, off', rfl, q2, q3⟩
    · omega
    have q3 : off' = lo * i.size := by
      rcases q3 with h | h
      · exact h
      · omega
    subst q3
    rcases n3 with ⟨_, h⟩ | ⟨aa, cc, q3, q4⟩
    · omega
    obtain ⟨hxl, r2⟩ := p2
    rcases r2 with ⟨hv, _⟩ | ⟨g, cap', cur, hv, _, r3, r4, r5, r6, r7⟩
    · cases hv
    simp only [Value.slice.injEq, Option.some.injEq, Addr.mk.injEq, and_true] at hv
    obtain ⟨rfl, rfl, rfl⟩ := hv
    have hcl : xs.length ≤ cur.toList.length := by
      have hcz : cur.toList.length = cap * i.size := by rw [Array.length_toList]; exact r6
      rw [hxl, hcz]; exact Nat.mul_le_mul_right _ r4
    have hcur : cur.toList = xs ++ cur.toList.drop (es.length * i.size) := by
      conv => lhs; rw [← List.take_append_drop (es.length * i.size) cur.toList, r7]
    generalize cur.toList.drop (es.length * i.size) = rest at hcur
    have hnk : n * i.size ≤ news.length := by rw [n2]; exact Nat.mul_le_mul_right _ hnf
    have hlok : lo * i.size + n * i.size ≤ xs.length := by rw [hxl, ← Nat.add_mul]; exact Nat.mul_le_mul_right _ (by omega)
    have hcs : (news.take (n * i.size)).length = n * i.size := by rw [List.length_take]; omega
    have hvs : (xs.take (lo * i.size) ++ (news.take (n * i.size) ++ xs.drop ((lo + n) * i.size))).length = es.length * i.size := by
      rw [List.length_append, List.length_append, hcs, List.length_take, List.length_drop, hxl, Nat.add_mul]
      rw [hxl] at hlok
      omega
    have hnew : cur.toList.take (lo * i.size) ++ news.take (n * i.size) ++ cur.toList.drop (lo * i.size + (news.take (n * i.size)).length) = (xs.take (lo * i.size) ++ (news.take (n * i.size) ++ xs.drop ((lo + n) * i.size))) ++ rest := by
      rw [hcs, hcur, List.take_append_of_le_length (by omega), List.drop_append_of_le_length (by omega), Nat.add_mul]
      simp
    have hok1 : ∀ v ∈ news.take (n * i.size), v.oneCell' = true := fun v hv => RAs_one n1 hf1 v (List.mem_of_mem_take hv)
    have hrun := run_copyN (P := P) (k := i.size) w T T ty e b (lo * i.size) len (cap - lo) aa fs.length cc cur e (news.take (n * i.size)) ht hso r3 (by rw [hcs, hnn]) (fun j v hj => by
        rw [List.getElem?_take] at hj
        split at hj
        · exact q4 j v hj
        · cases hj) (by rw [hcs]; have : cur.size = cur.toList.length := (Array.length_toList).symm; omega) hok1
    rw [hnew] at hrun
    obtain ⟨k1, k2⟩ := set_os (es' := es.take lo ++ (fs.take n ++ es.drop (lo + n))) (vs := xs.take (lo * i.size) ++ (news.take (n * i.size) ++ xs.drop ((lo + n) * i.size))) hs hi p1 (by
        rw [List.flatten_append, List.flatten_append, flatten_takeK _ _ p4, flatten_takeK _ _ hfk, flatten_dropK _ _ p4]
        exact RAs_append (RAs_take _ p3) (RAs_append (RAs_take _ n1) (RAs_drop _ p3))) (by simp; omega) (fun f hf => by
        rcases List.mem_append.1 hf with h | h
        · exact p4 f (List.mem_of_mem_take h)
        · rcases List.mem_append.1 h with h | h
          · exact hfk f (List.mem_of_mem_take h)
          · exact p4 f (List.mem_of_mem_drop h)) cur r3 ((xs.take (lo * i.size) ++ (news.take (n * i.size) ++ xs.drop ((lo + n) * i.size))) ++ rest).toArray (by
        have : cur.size = cur.toList.length := (Array.length_toList).symm
        rw [this, hcur, List.size_toArray]; simp only [List.length_append (bs := rest)]; rw [hvs, hxl]) (by simpa using take_app_len hvs)
    refine ⟨_, _, m, φ, .inl ?_, k1, k2, RAv⟩
    simp only [execOp, resolve, invoke, builtin, q2, q3]
    simp [hrun, hnn, goInt, q2, q3]

def copyF {α : Type} (L : List α) (lo len : Nat) (L2 : List α) : List α := L.take lo ++ (L2.take (Nat.min L2.length len) ++ L.drop (lo + Nat.min L2.length len))
def pieceOk {α : Type} (L : List α) (lo len : Nat) : Bool := Nat.ble (lo + len) L.length

theorem pieceOk_all {α : Type} (L : List α) : pieceOk L 0 L.length = true := by simp [pieceOk]
theorem map_copy {α β : Type} (f : α → β) (L : List α) (lo len : Nat) (L2 : List α) : (copyF L lo len L2).map f = (L.map f).take lo ++ ((L2.map f).take (Nat.min (L2.map f).length len) ++ (L.map f).drop (lo + Nat.min (L2.map f).length len)) := by
  simp [copyF, List.map_take, List.map_drop]

theorem d_copyL {T e k by_ : Nat} {d s : Operand} {dr xr : AV} {id ver off len lo : Nat} {α : Type} {R : α → List D} (L L2 : List α) {c : Call} (hT : eltOf P T = some (e, k, by_)) (hk : 0 < k)
    (hc : c = ⟨.builtin .copy, #[d, s], #[T, T]⟩) (hd : opv env d = some dr) (hp : Piece st dr id ver off len lo) (hoff : off = lo * k) (hi : st[id]? = some (.os e k ver (L.map (encA R)))) (hx : opv env s = some xr) (hsrc : Src st xr k (L2.map (encA R)))
    (hf1 : ∀ x, (encA R x).all AV.ok1 = true) (hR : ∀ x, (R x).length = k) (hg : pieceOk L lo len = true) :
    Does P env st ⟨dst, .call c, ty, pos, after, guard⟩ (.d (.v (.int .i64 ((Nat.min L2.length len : Nat) : Int)))) (st.set id (.os e k ver ((copyF L lo len L2).map (encA R)))) := by
  have := d_copy (by_ := by_) (dst := dst) (ty := ty) (pos := pos) (after := after) (guard := guard) hT hk hc hd hp hoff hi hx hsrc (all_flat hf1) (fun f hf => by
    obtain ⟨x, _, rfl⟩ := List.mem_map.1 hf
    simp [encA, hR]) (by simpa using Nat.le_of_ble_eq_true hg) rfl
  rw [← map_copy] at this
  simpa using this

theorem y_sliceO {T n : Nat} {bb : Bool} {x : Operand} {lo hi : Option Operand} {id ver T' : Nat} {α : Type} {R : α → List D} (L : List α) {l h : Int} (hT : elemOf' P T = some (n, bb)) (hx : opv env x = some (.os id ver)) (hi' : st[id]? = some (.os T' n ver (L.map (encA R))))
    (hlo : BndI env lo 0 l) (hhi : BndI env hi L.length h) (hg : sliceOk L l h = true) :
    Yields P env st ⟨dst, .slice T x lo hi none, ty, pos, after, guard⟩ (.ow id ver (l.toNat * n) (h.toNat - l.toNat) l.toNat) := by
  simp only [sliceOk, Bool.and_eq_true, decide_eq_true_eq] at hg
  have := y_slice_ow (dst := dst) (ty := ty) (pos := pos) (after := after) (guard := guard) hT hx (Piece.os hi' (len := L.length) (by simp)) hi' hlo hhi hg.1.1 hg.1.2 hg.2 (by simp)
  simpa using this

theorem Src.owL {α : Type} {R : α → List D} {L : List α} {id ver off len lo T k : Nat} (hi : st[id]? = some (.os T k ver (L.map (encA R)))) (hoff : off = lo * k) (hg : pieceOk L lo len = true) : Src st (.ow id ver off len lo) k (((L.drop lo).take len).map (encA R)) := by
  have := Src.ow hi hoff (len := len) (by simpa using Nat.le_of_ble_eq_true hg)
  simpa [List.map_take, List.map_drop] using this

theorem y_com {x : Operand} {T : TypeId} {k : IntKind} {p c : Int} (hx : opv env x = some (.d (.v (.int k p)))) (hw : k.wrap (BitVec.ofInt k.bits (if k.signed then -1 else k.max) ^^^ BitVec.ofInt k.bits p).toNat = c) : Yields P env st ⟨dst, .unOp .xor T x, ty, pos, after, guard⟩ (.d (.v (.int k c))) := fun m φ a w _ he => by
  subst hw
  exact ⟨_, RAv, fun w' _ => by simp [execOp, opv_v he hx, Op.unary, Op.intBits]⟩

/-- An element of a table that is a package variable. -/
theorem y_tab {T n : Nat} {bb : Bool} {x ix : Operand} {α : Type} {E : α → D} (tab : List α) {kk : IntKind} {i : Int} {z : α} (hT : arrOf P T = some (n, 1, bb)) (hx : opv env x = some (.d (.pc (tab.map E)))) (hi : opv env ix = some (.d (.v (.int kk i)))) (hl : tab.length = n) (h : idx tab i = some z) :
    Yields P env st ⟨dst, .indexAddr T x ix, ty, pos, after, guard⟩ (.d (.pc [E z])) := fun m φ a w hs he => by
  obtain ⟨v, h1, h2⟩ := y_indexAddrac (dst := dst) (ty := ty) (pos := pos) (after := after) (guard := guard) hT hx hi (idx_nonneg h) (by rw [← hl]; exact idx_lt h) m φ a w hs he
  refine ⟨v, ?_, h2⟩
  simp only [RA, RD] at h1 ⊢
  obtain ⟨b, off, g1, g2⟩ := h1
  refine ⟨b, off, g1, ?_⟩
  have hz := idx_get h
  have hd : (tab.map E).drop (i.toNat * 1) = E z :: (tab.map E).drop (i.toNat + 1) := by
    rw [Nat.mul_one]
    have hlt : i.toNat < (tab.map E).length := by simpa using (List.getElem?_eq_some_iff.1 hz).1
    rw [List.drop_eq_getElem_cons hlt]
    congr 1
    have := (List.getElem?_eq_some_iff.1 hz).2
    simp [this]
  rw [hd] at g2
  simp only [RPs] at g2 ⊢
  exact ⟨g2.1, trivial⟩
end
end Go.Sk
namespace Go.Sk
open Go.RowKit (Below)

def AV.ok1S (st : List AO) : AV → Bool
  | .os id ver => match st[id]? with | some (.os _ _ v _) => Nat.beq v ver | _ => false
  | x => x.ok1

theorem RAs_oneS {m φ w st} (hs : SR m φ st w) : ∀ {xs : List AV} {vs : List Value}, RAs m φ w xs vs → xs.all (AV.ok1S st) = true → ∀ v ∈ vs, v.oneCell' = true
  | [], vs, h, _, v, hv => by simp only [RAs] at h; subst h; simp at hv
  | x :: xs, vs, h, hk, v, hv => by
    simp only [RAs] at h
    obtain ⟨c, cs, rfl, h2, h3⟩ := h
    simp only [List.all_cons, Bool.and_eq_true] at hk
    rcases List.mem_cons.1 hv with rfl | hv
    · have key : ∀ y : AV, RA m φ w y v → y.ok1S st = true → v.oneCell' = true := fun y hy hky => by
        cases y with
        | os id ver =>
          simp only [AV.ok1S] at hky
          split at hky
          · rename_i T k v' es hi
            obtain rfl := Nat.eq_of_beq_eq_true hky
            exact (one_os hi m φ w v hs hy).1
          · cases hky
        | _ => exact RA_one hy hky
      exact key x h2 hk.1
    · exact RAs_oneS hs h3 hk.2 v hv

section
variable {P : Program} {env : Env} {st : List AO} {dst : Option Tmp} {ty : TypeId} {pos : String} {after : Array Edge} {guard : Option (Nat × Bool)}
theorem d_storeS {T : TypeId} {x y : Operand} {id off n : Nat} {T' : TypeId} {cs : List AV} {r : AV} {rs : List AV} (hx : opv env x = some (.pt id off)) (hs : st[id]? = some (.row T' cs)) (hy : opv env y = some r) (hk : r.okS st = true) (hc : r.cells = rs) (hk1 : rs.all (AV.ok1S st) = true)
    (hn : szOf P T = some n) (hl : rs.length = n) (hlen : Nat.ble (off + n) cs.length = true) :
    Does P env st ⟨dst, .store T x y, ty, pos, after, guard⟩ (.d (.v undef)) (st.set id (.row T' (cs.take off ++ rs ++ cs.drop (off + n)))) := fun m φ a w hsr he => by
  obtain ⟨b, h1, h2⟩ := opv_pt he hx
  obtain ⟨b', hbb, _, vs, h3, h4⟩ := hsr.obj id _ _ hs h1
  simp only [Cz.blk.injEq] at hbb
  subst hbb
  obtain ⟨us, g1, g2⟩ := RA_cellsS hsr (opv_ok he hy) hk
  rw [hc] at g2
  have hul := RAs_length g2
  have hvl := RAs_length h4
  have hle := Nat.le_of_ble_eq_true hlen
  have hst := run_storeCells_at P b off T' us 0 ⟨vs⟩ w h3 (by simp; omega) (RAs_oneS hsr g2 hk1)
  simp only [Nat.add_zero, hul, hl] at hst
  have hnew : RAs m φ w (cs.take off ++ rs ++ cs.drop (off + n)) (vs.take off ++ us ++ vs.drop (off + n)) := RAs_append (RAs_append (RAs_take off h4) g2) (RAs_drop _ h4)
  obtain ⟨k1, k2⟩ := set_row hsr hs h1 hnew
  refine ⟨undef, _, m, φ, .inr ⟨?_, rfl⟩, k1, k2, RAv⟩
  have hsize : us.length = n := by omega
  simp [execOp, Instr.storeAt, Instr.sureAddr, h2, storeVar, g1, run_sizeOf' hn, hsize, hst]
end

/-! ### Short forms -/
section
variable {P : Program} {e : En} {ops : Array Oper} {rest : List Oper} {env : Env} {st : List AO} {R : Env → List AO → Prop} {ty : TypeId} {pos : String} {after : Array Edge} {d : Nat} {op : Op} {r : AV} {x : Operand} {k : Ko}
theorem WL.qn (hy : Yields P env st ⟨some d, op, ty, pos, after, none⟩ r) (hd : Nat.ble (d + 1) e.n = true) (h : WL P e ops rest ((d, r) :: env) st R) : WL P e ops (⟨some d, op, ty, pos, after, none⟩ :: rest) env st R := WL.q hy (Wt.none rfl) rfl hd h
theorem WL.mv (hx : opv env x = some r) (hd : Nat.ble (d + 1) e.n = true) (h : WL P e ops rest ((d, r) :: env) st R) : WL P e ops (⟨some d, .move x, ty, pos, after, none⟩ :: rest) env st R := WL.q (y_move hx) (Wt.none rfl) rfl hd h
theorem WL.as (hx : opv env x = some r) (hd : Nat.ble (d + 1) e.n = true) (h : WL P e ops rest ((d, r) :: env) st R) : WL P e ops (⟨some d, .assign x, ty, pos, after, none⟩ :: rest) env st R := WL.q (y_assign hx) (Wt.none rfl) rfl hd h
theorem wc_sr {id : Nat} {l : List Oper} {y : Code} (h : WL P e l.toArray l env st (fun env' st' => WE P e .normal (.seq y k) env' st')) : WC P e (.seq (.region id l.toArray false) y) k env st := wc_seq (wc_region h)
theorem WL.ns {y : Code} (h : WC P e y k env st) : WL P e ops [] env st (fun env' st' => WE P e .normal (.seq y k) env' st') := WL.nil (we_seq h)
theorem WL.qy {j t : Nat} {b : Bool} (hy : Yields P env st ⟨some d, op, ty, pos, after, some (j, b)⟩ r) (hj : (ops[j]?).bind (·.dst) = some t) (hx : env.get t = some (.d (.v (.bool b)))) (hd : Nat.ble (d + 1) e.n = true) (h : WL P e ops rest ((d, r) :: env) st R) : WL P e ops (⟨some d, op, ty, pos, after, some (j, b)⟩ :: rest) env st R := WL.q hy (Wt.yes rfl hj hx) rfl hd h
theorem WQ.qn {n : Nat} {RQ : Env → Prop} (hy : Yields P env st ⟨some d, op, ty, pos, after, none⟩ r) (hd : Nat.ble (d + 1) n = true) (h : WQ P n ops rest ((d, r) :: env) st RQ) : WQ P n ops (⟨some d, op, ty, pos, after, none⟩ :: rest) env st RQ := WQ.q (Yields.quiet hy) (Wt.none rfl) rfl hd h
theorem WQ.qy {n j t : Nat} {b : Bool} {RQ : Env → Prop} (hy : Yields P env st ⟨some d, op, ty, pos, after, some (j, b)⟩ r) (hj : (ops[j]?).bind (·.dst) = some t) (hx : env.get t = some (.d (.v (.bool b)))) (hd : Nat.ble (d + 1) n = true) (h : WQ P n ops rest ((d, r) :: env) st RQ) : WQ P n ops (⟨some d, op, ty, pos, after, some (j, b)⟩ :: rest) env st RQ := WQ.q (Yields.quiet hy) (Wt.yes rfl hj hx) rfl hd h
end
end Go.Sk
