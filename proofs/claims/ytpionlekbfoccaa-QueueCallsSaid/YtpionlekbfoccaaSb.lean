/-
  Regions that draw their order, of any kind: each operation is shown alone, over what its predecessors surely have left.
-/
import Derived.Laws.StructEq
import Derived.Laws.Cover3
import Derived.Laws.Pointers
import Derived.Laws.Strings3
import Derived.Laws.DeepStrings4
import Derived.Laws.Strings
import Derived.Test.YtpionlekbfoccaaSa
namespace Go.Sk
open Go.RowKit (Below)

theorem WL.drop {P : Program} {e : En} {ops : Array Oper} {l : List Oper} {env : Env} {st : List AO} {R : Env → List AO → Prop} (n : Nat) (he : Env.lt n env = true) (ho : stLt n (st.take n) = true) (hm : e.m.length ≤ n) (h : WL P e ops l env (st.take n) R) : WL P e ops l env st R := fun m φ a w hi =>
  h (m.take n) φ a w (hi.drop n he ho hm)

def FL (base : Env) (L : Nat → Bool) : List (Nat × Nat × AV) → Env
  | [] => base
  | (k, d, r) :: rest => bif L k then (d, r) :: FL base L rest else FL base L rest
def regOf : List Oper → List AV → Nat → List (Nat × Nat × AV)
  | o :: l, r :: rs, k => (match o.dst with | some d => (k, d, r) :: regOf l rs (k + 1) | none => regOf l rs (k + 1))
  | _, _, _ => []

theorem Env.get_cons (k : Nat) (v : AV) (r : Env) (t : Nat) : Env.get ((k, v) :: r) t = if t = k then some v else Env.get r t := by
  conv => lhs; unfold Env.get
  by_cases h : t = k
  · subst h; simp
  · have : Nat.beq t k = false := by
      cases hb : Nat.beq t k with
      | false => rfl
      | true => exact absurd (Nat.eq_of_beq_eq_true hb) h
    rw [this, if_neg h]; rfl

theorem FL_hit {base : Env} {L : Nat → Bool} {k d : Nat} {r : AV} : ∀ {reg : List (Nat × Nat × AV)}, (reg.map (·.2.1)).Nodup → (k, d, r) ∈ reg → L k = true → (FL base L reg).get d = some r
  | (j, d', r') :: reg, hn, hm, hL => by
    simp only [List.map_cons, List.nodup_cons] at hn
    rcases List.mem_cons.1 hm with h | h
    · simp only [Prod.mk.injEq] at h
      obtain ⟨rfl, rfl, rfl⟩ := h
      simp [FL, hL, Env.get_cons]
    · have hne : d ≠ d' := fun he => hn.1 (by subst he; exact List.mem_map.2 ⟨_, h, rfl⟩)
      have := FL_hit (base := base) hn.2 h hL
      unfold FL
      cases L j
      · exact this
      · rw [cond_true, Env.get_cons, if_neg hne]; exact this
theorem FL_miss {base : Env} {L : Nat → Bool} {t : Nat} : ∀ {reg : List (Nat × Nat × AV)}, (∀ k r, (k, t, r) ∈ reg → L k = false) → (FL base L reg).get t = base.get t
  | [], _ => rfl
  | (j, d', r') :: reg, h => by
    have ih := FL_miss (base := base) (L := L) (t := t) (reg := reg) (fun k r hm => h k r (List.mem_cons_of_mem _ hm))
    unfold FL
    cases hL : L j
    · exact ih
    · have hne : t ≠ d' := fun he => by
        have := h j r' (by rw [he]; exact List.mem_cons_self)
        rw [hL] at this; cases this
      rw [cond_true, Env.get_cons, if_neg hne]; exact ih
theorem FL_step {base : Env} {L L' : Nat → Bool} {k t : Nat} : ∀ {reg : List (Nat × Nat × AV)}, (∀ j, j ≠ k → L' j = L j) → (∀ r, (k, t, r) ∉ reg) → (FL base L' reg).get t = (FL base L reg).get t
  | [], _, _ => rfl
  | (j, d', r') :: reg, h, hk => by
    have ih := FL_step (base := base) (reg := reg) h (fun r hr => hk r (List.mem_cons_of_mem _ hr))
    unfold FL
    by_cases hjk : j = k
    · subst hjk
      have hne : t ≠ d' := fun he => hk r' (by rw [he]; exact List.mem_cons_self)
      cases L' j <;> cases L j <;> simp only [cond_true, cond_false, Env.get_cons, if_neg hne, ih]
    · rw [h j hjk]
      cases L j
      · exact ih
      · rw [cond_true, cond_true, Env.get_cons, Env.get_cons, ih]

theorem mem_regOf : ∀ {l : List Oper} {rs : List AV} {k j d : Nat} {r : AV}, (j, d, r) ∈ regOf l rs k → k ≤ j ∧ ∃ o, l[j - k]? = some o ∧ o.dst = some d ∧ rs[j - k]? = some r
  | [], rs, k, j, d, r, h => by simp [regOf] at h
  | o :: l, [], k, j, d, r, h => by simp [regOf] at h
  | o :: l, r0 :: rs, k, j, d, r, h => by
    unfold regOf at h
    have key : (j, d, r) ∈ regOf l rs (k + 1) → k ≤ j ∧ ∃ o', (o :: l)[j - k]? = some o' ∧ o'.dst = some d ∧ (r0 :: rs)[j - k]? = some r := fun h => by
      obtain ⟨h1, o', h2, h3, h4⟩ := mem_regOf h
      have : j - k = (j - (k + 1)) + 1 := by omega
      exact ⟨by omega, o', by rw [this]; simpa using h2, h3, by rw [this]; simpa using h4⟩
    split at h
    · rename_i d0 hd
      rcases List.mem_cons.1 h with h | h
      · simp only [Prod.mk.injEq] at h
        obtain ⟨rfl, rfl, rfl⟩ := h
        exact ⟨Nat.le_refl _, o, by simp, hd, by simp⟩
      · exact key h
    · exact key h
theorem regOf_mem : ∀ {l : List Oper} {rs : List AV} {k j d : Nat} {r : AV} {o : Oper}, l[j]? = some o → o.dst = some d → rs[j]? = some r → (k + j, d, r) ∈ regOf l rs k
  | [], rs, k, j, d, r, o, h, _, _ => by simp at h
  | o0 :: l, [], k, j, d, r, o, _, _, h => by simp at h
  | o0 :: l, r0 :: rs, k, 0, d, r, o, h1, h2, h3 => by
    simp only [List.getElem?_cons_zero, Option.some.injEq] at h1 h3
    subst h1; subst h3
    simp [regOf, h2]
  | o0 :: l, r0 :: rs, k, j + 1, d, r, o, h1, h2, h3 => by
    have := regOf_mem (k := k + 1) (by simpa using h1 : l[j]? = some o) h2 (by simpa using h3 : rs[j]? = some r)
    rw [show k + (j + 1) = k + 1 + j by omega]
    unfold regOf
    split
    · exact List.mem_cons_of_mem _ this
    · exact this

/-- The edges go down, and tc names predecessors only. -/
def tcOk (ops : List Oper) (tc : List (List Nat)) : Bool :=
  (List.range ops.length).all fun k => match ops[k]? with
    | none => false
    | some o => (o.after.toList.all fun e => !(Region.binds .any e) || Nat.blt e.on k) &&
      (tc.getD k []).all fun j => o.after.toList.any fun e => Region.binds .any e && (Nat.beq e.on j || (tc.getD e.on []).contains j)

def Down (ops : List Oper) (L : Nat → Bool) : Prop := ∀ (k : Nat) (o : Oper), ops[k]? = some o → L k = true → ∀ e ∈ o.after, Region.binds .any e = true → L e.on = true

theorem tc_listed {ops : List Oper} {tc : List (List Nat)} (hok : tcOk ops tc = true) {L : Nat → Bool} (hd : Down ops L) : ∀ (k : Nat) (o : Oper), ops[k]? = some o → (∀ e ∈ o.after, Region.binds .any e = true → L e.on = true) → ∀ j ∈ tc.getD k [], L j = true := by
  intro k
  induction k using Nat.strongRecOn with
  | _ k ih =>
    intro o ho hall j hj
    have hk : k < ops.length := (List.getElem?_eq_some_iff.1 ho).1
    have h1 := List.all_eq_true.1 hok k (List.mem_range.2 hk)
    simp only [ho, Bool.and_eq_true] at h1
    have h2 := List.any_eq_true.1 (List.all_eq_true.1 h1.2 j hj)
    obtain ⟨e, he, h3⟩ := h2
    simp only [Bool.and_eq_true, Bool.or_eq_true] at h3
    have hea : e ∈ o.after := Array.mem_toList_iff.1 he
    have hL := hall e hea h3.1
    rcases h3.2 with h4 | h4
    · rw [← Nat.eq_of_beq_eq_true h4]; exact hL
    · have h5 := List.all_eq_true.1 h1.1 e he
      simp only [h3.1, Bool.not_true, Bool.false_or] at h5
      have hlt : e.on < k := by simpa [Nat.blt_eq] using h5
      cases hoe : ops[e.on]? with
      | none => exact absurd (List.getElem?_eq_none_iff.1 hoe) (by omega)
      | some o' => exact ih e.on hlt o' hoe (fun e' he' hb => hd e.on o' hoe hL e' he' hb) j (by simpa using h4)

/-- How many of the chain are listed. -/
def cnt (L : Nat → Bool) : List Nat → Nat
  | [] => 0
  | e :: es => bif L e then cnt L es + 1 else 0

def eko (l : List Oper) (rs : List AV) (j : Nat) : Option (Nat × AV) := match l[j]?, rs[j]? with
  | some o, some r => o.dst.map fun d => (d, r)
  | _, _ => none
def ekB (base : Env) : List Nat → Env
  | x :: bk => (match base.get x with | some v => (x, v) :: ekB base bk | none => ekB base bk)
  | [] => []
def ekP (l : List Oper) (rs : List AV) (tail : Env) : List Nat → Env
  | j :: pk => (match eko l rs j with | some p => p :: ekP l rs tail pk | none => ekP l rs tail pk)
  | [] => tail
def ekOf (l : List Oper) (rs : List AV) (base : Env) (pk bk : List Nat) : Env := ekP l rs (ekB base bk) pk

def Ob (P : Program) (e : En) (l : List Oper) (rs : List AV) (base : Env) (sts : Nat → List AO) (k : Nat) (o : Oper) (pk bk : List Nat) (c c' : Nat) : Prop :=
  ∀ F : Env, WL P e l.toArray [o] (ekOf l rs base pk bk ++ F) (sts c) fun env' st' => st' = sts c' ∧ ∃ pre, env' = pre ++ (ekOf l rs base pk bk ++ F) ∧
    (∀ t x, pre.get t = some x → o.dst = some t) ∧ ∀ d r, o.dst = some d → rs[k]? = some r → pre.get d = some r
def ObC (P : Program) (e : En) (l : List Oper) (rs : List AV) (base : Env) (sts : Nat → List AO) (k : Nat) (o : Oper) (pk bk : List Nat) (up : Bool) : List Nat → Prop
  | [] => True
  | c :: cs => Ob P e l rs base sts k o pk bk c (bif up then c + 1 else c) ∧ ObC P e l rs base sts k o pk bk up cs
def Obs (P : Program) (e : En) (l : List Oper) (rs : List AV) (base : Env) (sts : Nat → List AO) (es : List Nat) : Nat → List Oper → List (List Nat × List Nat × List Nat) → Prop
  | k, o :: ol, p :: ps => ObC P e l rs base sts k o p.1 p.2.1 (es.contains k) p.2.2 ∧ Obs P e l rs base sts es (k + 1) ol ps
  | _, _, _ => True

theorem ObC_get {P e l rs base sts k o pk bk up} : ∀ {cs : List Nat}, ObC P e l rs base sts k o pk bk up cs → ∀ c ∈ cs, Ob P e l rs base sts k o pk bk c (bif up then c + 1 else c)
  | c :: cs, h, c', hc => by
    rcases List.mem_cons.1 hc with rfl | hc
    · exact h.1
    · exact ObC_get h.2 c' hc
theorem Obs_get {P e l rs base sts es} : ∀ {ol : List Oper} {ps : List (List Nat × List Nat × List Nat)} {k j : Nat} {o : Oper} {p : List Nat × List Nat × List Nat}, Obs P e l rs base sts es k ol ps → ol[j]? = some o → ps[j]? = some p → ObC P e l rs base sts (k + j) o p.1 p.2.1 (es.contains (k + j)) p.2.2
  | o0 :: ol, p0 :: ps, k, 0, o, p, h, h1, h2 => by
    simp only [List.getElem?_cons_zero, Option.some.injEq] at h1 h2
    subst h1; subst h2; exact h.1
  | o0 :: ol, p0 :: ps, k, j + 1, o, p, h, h1, h2 => by
    have := Obs_get h.2 (by simpa using h1 : ol[j]? = some o) (by simpa using h2 : ps[j]? = some p)
    rw [show k + (j + 1) = k + 1 + j by omega]; exact this
  | [], _, _, _, _, _, _, h1, _ => by simp at h1
  | _ :: _, [], _, _, _, _, _, _, h2 => by simp at h2

def nodupB : List Nat → Bool
  | [] => true
  | x :: l => !(l.contains x) && nodupB l
theorem nodupB_spec : ∀ {l : List Nat}, nodupB l = true → l.Nodup
  | [], _ => List.nodup_nil
  | x :: l, h => by
    simp only [nodupB, Bool.and_eq_true, Bool.not_eq_true', List.contains_eq_mem, decide_eq_false_iff_not] at h
    exact List.nodup_cons.2 ⟨h.1, nodupB_spec h.2⟩

/-- The check of a plan. -/
def allOk (l : List Oper) (tc : List (List Nat)) (es : List Nat) (plan : List (List Nat × List Nat × List Nat)) : Bool :=
  tcOk l tc && nodupB (l.filterMap (·.dst)) && nodupB es && Nat.beq plan.length l.length &&
  ((List.range es.length).all fun i => match es[i]?, es[i + 1]? with | some x, some y => (tc.getD y []).contains x | _, _ => true) &&
  (List.range l.length).all fun k => match plan[k]? with
    | none => false
    | some (pk, bk, cs) => (pk.all fun j => (tc.getD k []).contains j) && (!(es.contains k) || cs.all fun c => es[c]? == some k) &&
      (bk.all fun x => (List.range l.length).all fun j => match l[j]? with | some o => !(o.dst == some x) || Nat.beq j k || (tc.getD j []).contains k | none => true) &&
      (List.range (es.length + 1)).all fun c => cs.contains c || (match es[c]? with | some y => (tc.getD k []).contains y | none => false) ||
        (es.take c).any fun y => Nat.beq y k || (tc.getD y []).contains k

theorem eko_spec {l : List Oper} {rs : List AV} {j t : Nat} {x : AV} (h : eko l rs j = some (t, x)) : (j, t, x) ∈ regOf l rs 0 := by
  unfold eko at h
  split at h
  · rename_i o r h1 h2
    cases hd : o.dst with
    | none => simp [hd] at h
    | some d =>
      simp only [hd, Option.map_some, Option.some.injEq, Prod.mk.injEq] at h
      obtain ⟨rfl, rfl⟩ := h
      have := regOf_mem (k := 0) h1 hd h2
      simpa using this
  · cases h
theorem ekB_spec {base : Env} {t : Nat} {x : AV} : ∀ {bk : List Nat}, (ekB base bk).get t = some x → t ∈ bk ∧ base.get t = some x
  | y :: bk, h => by
    unfold ekB at h
    split at h
    · rename_i v hv
      rw [Env.get_cons] at h
      split at h
      · rename_i htd
        simp only [Option.some.injEq] at h
        subst h; subst htd
        exact ⟨List.mem_cons_self, hv⟩
      · exact ⟨List.mem_cons_of_mem _ (ekB_spec h).1, (ekB_spec h).2⟩
    · exact ⟨List.mem_cons_of_mem _ (ekB_spec h).1, (ekB_spec h).2⟩
  | [], h => by simp [ekB, Env.get] at h
theorem ek_spec {l : List Oper} {rs : List AV} {base : Env} {t : Nat} {x : AV} {bk : List Nat} : ∀ {pk : List Nat}, (ekOf l rs base pk bk).get t = some x → (∃ j ∈ pk, (j, t, x) ∈ regOf l rs 0) ∨ (t ∈ bk ∧ base.get t = some x)
  | j :: pk, h => by
    unfold ekOf ekP at h
    split at h
    · rename_i p hp
      obtain ⟨d, r⟩ := p
      rw [Env.get_cons] at h
      split at h
      · rename_i htd
        simp only [Option.some.injEq] at h
        subst h; subst htd
        exact .inl ⟨j, List.mem_cons_self, eko_spec hp⟩
      · rcases ek_spec (pk := pk) h with ⟨j', h1, h2⟩ | h1
        · exact .inl ⟨j', List.mem_cons_of_mem _ h1, h2⟩
        · exact .inr h1
    · rcases ek_spec (pk := pk) h with ⟨j', h1, h2⟩ | h1
      · exact .inl ⟨j', List.mem_cons_of_mem _ h1, h2⟩
      · exact .inr h1
  | [], h => .inr (ekB_spec h)

theorem cnt_take {L : Nat → Bool} : ∀ {es : List Nat}, ∀ y ∈ es.take (cnt L es), L y = true
  | [], y, h => by simp [cnt] at h
  | e :: es, y, h => by
    unfold cnt at h
    cases hL : L e with
    | false => simp [hL] at h
    | true =>
      rw [hL, cond_true, List.take_succ_cons] at h
      rcases List.mem_cons.1 h with rfl | h
      · exact hL
      · exact cnt_take y h
theorem cnt_next {L : Nat → Bool} : ∀ {es : List Nat} {y : Nat}, es[cnt L es]? = some y → L y = false
  | [], y, h => by simp [cnt] at h
  | e :: es, y, h => by
    unfold cnt at h
    cases hL : L e with
    | false => simp only [hL, cond_false, List.getElem?_cons_zero, Option.some.injEq] at h; rw [← h]; exact hL
    | true => simp only [hL, cond_true, List.getElem?_cons_succ] at h; exact cnt_next h
theorem cnt_le {L : Nat → Bool} : ∀ {es : List Nat}, cnt L es ≤ es.length
  | [] => Nat.le_refl _
  | e :: es => by unfold cnt; cases L e <;> simp [cnt_le]
theorem cnt_other {L L' : Nat → Bool} {k : Nat} (h : ∀ j, j ≠ k → L' j = L j) : ∀ {es : List Nat}, k ∉ es → cnt L' es = cnt L es
  | [], _ => rfl
  | e :: es, hk => by
    have h1 : e ≠ k := fun he => hk (by rw [he]; exact List.mem_cons_self)
    unfold cnt
    rw [h e h1, cnt_other h (fun hm => hk (List.mem_cons_of_mem _ hm))]
theorem cnt_self {L L' : Nat → Bool} {k : Nat} (h : ∀ j, j ≠ k → L' j = L j) (hk : L k = false) (hk' : L' k = true) : ∀ {es : List Nat}, es.Nodup → es[cnt L es]? = some k → (∀ y, es[cnt L es + 1]? = some y → L y = false) → cnt L' es = cnt L es + 1
  | [], _, h1, _ => by simp at h1
  | e :: es, hn, h1, h2 => by
    obtain ⟨n1, n2⟩ := List.nodup_cons.1 hn
    cases hL : L e with
    | true =>
      have hek : e ≠ k := fun he => by subst he; rw [hk] at hL; cases hL
      have e1 : cnt L (e :: es) = cnt L es + 1 := by simp [cnt, hL]
      rw [e1] at h1 h2 ⊢
      have := cnt_self h hk hk' n2 (by simpa using h1) (fun y hy => h2 y (by simpa using hy))
      simp [cnt, h e hek, hL, this]
    | false =>
      have e1 : cnt L (e :: es) = 0 := by simp [cnt, hL]
      rw [e1] at h1 h2 ⊢
      simp only [List.getElem?_cons_zero, Option.some.injEq] at h1
      subst h1
      have : cnt L' es = 0 := by
        cases es with
        | nil => rfl
        | cons y es =>
          have hy := h2 y (by simp)
          have hne : y ≠ e := fun he => n1 (by rw [he]; exact List.mem_cons_self)
          simp [cnt, h y hne, hy]
      simp [cnt, hk', this]
theorem cnt_all {es : List Nat} : ∀ {L : Nat → Bool}, (∀ y ∈ es, L y = true) → cnt L es = es.length := by
  induction es with
  | nil => intros; rfl
  | cons e es ih => intro L h; simp [cnt, h e List.mem_cons_self, ih (fun y hy => h y (List.mem_cons_of_mem _ hy))]

theorem count_set : ∀ {l : List Bool} {i : Nat}, l[i]? = some false → (l.set i true).count false + 1 = l.count false
  | [], i, h => by simp at h
  | b :: l, 0, h => by simp only [List.getElem?_cons_zero, Option.some.injEq] at h; subst h; simp
  | b :: l, i + 1, h => by
    have := count_set (l := l) (i := i) (by simpa using h)
    cases b <;> simp <;> omega

section
variable {P : Program} {e : En} {l : List Oper} {rs : List AV} {base : Env} {sts : Nat → List AO} {es : List Nat}

def At (e : En) (l : List Oper) (rs : List AV) (base : Env) (sts : Nat → List AO) (es : List Nat) (L : Nat → Bool) (a : Act) (w : World) : Prop :=
  ∃ m φ, Inv e m φ (FL base L (regOf l rs 0)) (sts (cnt L es)) a w

theorem wpOp_of_WL {r : Option Nat} {Q' : Exit → Act → World → Prop} {k : Nat} {o : Oper} {env : Env} {st : List AO} {R : Env → List AO → Prop} {m φ a w} {K : Act → World → Prop} (hnd : noDefer l = true) (ho : l[k]? = some o) (h : WL P e l.toArray [o] env st R) (hi : Inv e m φ env st a w)
    (hK : ∀ a' w' env' st' m' φ', R env' st' → Inv e m' φ' env' st' a' w' → K a' w') : wpOpIn (EF r) 0 P l.toArray Q' k K a w := by
  have h1 := h m φ a w hi
  have ho' : l.toArray[k]? = some o := by simpa using ho
  unfold wpOpIn
  simp only [ho']
  unfold wpLx at h1
  have key : ∀ (a' : Act) (w' : World), wpLx P l.toArray (okPost e R) [] a' w' → K a' w' := by
    rintro a' w' ⟨_, env', st', m', φ', hR, hi'⟩
    exact hK a' w' env' st' m' φ' hR hi'
  have hd := noDefer_get hnd ho
  split
  · rename_i hw
    rw [if_pos hw] at h1
    rcases h1 with h1 | h1
    · refine Oper.wpIn_mono key (opIn_of_op hd ?_)
      unfold Oper.wp at *
      generalize (execOp a.eval o).run P w = rr at *
      cases rr with
      | ok n w' =>
        cases n <;> simp only [Oper.upon] at h1 ⊢
        case value v => exact h1
        case skip => exact h1
        case defer d => exact h1
        case enter g args =>
          refine Calls.mono h1 fun en w'' he => ?_
          cases en with
          | returned u => exact he
          | panicked c => exact absurd he.1 (by simp)
          | outgrown => obtain ⟨_, _, h0⟩ := he; exact absurd h0.1 (by simp)
        case row row args => exact h1
      | halt x w' => cases x <;> simp only [Oper.upon] at h1 ⊢; exact absurd h1.1 (by simp)
    · exact Oper.wpIn_mono key (opIn_of_rnd hd h1)
  · rename_i hw
    rw [if_neg hw] at h1
    exact ⟨fun _ _ => trivial, key _ _ h1⟩

theorem reg_nodup : ∀ {l : List Oper} {rs : List AV} {k : Nat}, (l.filterMap (·.dst)).Nodup → ((regOf l rs k).map (·.2.1)).Nodup ∧ ∀ d ∈ (regOf l rs k).map (·.2.1), d ∈ l.filterMap (·.dst)
  | [], rs, k, _ => by simp [regOf]
  | o :: l, [], k, _ => by simp [regOf]
  | o :: l, r :: rs, k, h => by
    unfold regOf
    cases hd : o.dst with
    | none =>
      simp only [List.filterMap_cons, hd] at h ⊢
      exact reg_nodup h
    | some d =>
      simp only [List.filterMap_cons, hd] at h ⊢
      obtain ⟨h1, h2⟩ := List.nodup_cons.1 h
      obtain ⟨h3, h4⟩ := reg_nodup (rs := rs) (k := k + 1) h2
      refine ⟨?_, ?_⟩
      · simp only [List.map_cons]
        exact List.nodup_cons.2 ⟨fun hm => h1 (h4 d hm), h3⟩
      · intro d' hd'
        simp only [List.map_cons] at hd'
        rcases List.mem_cons.1 hd' with rfl | hd'
        · exact List.mem_cons_self
        · exact List.mem_cons_of_mem _ (h4 d' hd')

theorem all_step {Q' : Exit → Act → World → Prop} (hnf : noDefer l = true) {tc : List (List Nat)} {plan : List (List Nat × List Nat × List Nat)} (hok : allOk l tc es plan = true) (hrs : rs.length = l.length) (hobs : Obs P e l rs base sts es 0 l plan)
    {L L' : Nat → Bool} {k : Nat} {o : Oper} (ho : l[k]? = some o) (hd : Down l L) (hLn : ∀ y, L y = true → y < l.length) (hk : L k = false) (hpre : ∀ e ∈ o.after, Region.binds .any e = true → L e.on = true)
    (hL : ∀ j, j ≠ k → L' j = L j) (hk' : L' k = true) {a : Act} {w : World} (hat : At e l rs base sts es L a w) :
    wpOpIn (EF e.rd) 0 P l.toArray Q' k (fun a' w' => At e l rs base sts es L' a' w') a w := by
  obtain ⟨m, φ, hi⟩ := hat
  simp only [allOk, Bool.and_eq_true] at hok
  obtain ⟨⟨⟨⟨⟨htc, hnd⟩, hne⟩, hpl⟩, hch⟩, hall⟩ := hok
  have hkl : k < l.length := (List.getElem?_eq_some_iff.1 ho).1
  have h1 := List.all_eq_true.1 hall k (List.mem_range.2 hkl)
  cases hp : plan[k]? with
  | none => simp [hp] at h1
  | some p =>
    obtain ⟨pk, bk, cs⟩ := p
    simp only [hp, Bool.and_eq_true] at h1
    obtain ⟨⟨⟨hpk, hself⟩, hbk⟩, hcs⟩ := h1
    have hobk := Obs_get hobs ho hp
    rw [Nat.zero_add] at hobk
    have htck := tc_listed htc hd k o ho hpre
    have htcl : ∀ (y : Nat), L y = true → k ∉ tc.getD y [] := fun y hy hm => by
      have hyl := hLn y hy
      have hoy : l[y]? = some l[y] := List.getElem?_eq_getElem hyl
      have := tc_listed htc hd y _ hoy (fun e' he' hb => hd y _ hoy hy e' he' hb) k hm
      rw [hk] at this; cases this
    -- the store is one of those that the plan names
    have hc : cnt L es ∈ cs := by
      have h2 := List.all_eq_true.1 hcs (cnt L es) (List.mem_range.2 (Nat.lt_succ_of_le cnt_le))
      simp only [Bool.or_eq_true] at h2
      rcases h2 with (h2 | h2) | h2
      · simpa using h2
      · cases hy : es[cnt L es]? with
        | none => simp [hy] at h2
        | some y =>
          simp only [hy] at h2
          have := htck y (by simpa using h2)
          rw [cnt_next hy] at this; cases this
      · obtain ⟨y, hy, h3⟩ := List.any_eq_true.1 h2
        have hLy := cnt_take y hy
        simp only [Bool.or_eq_true] at h3
        rcases h3 with h3 | h3
        · rw [Nat.eq_of_beq_eq_true h3, hk] at hLy; cases hLy
        · exact absurd (by simpa using h3) (htcl y hLy)
    have hob := ObC_get hobk _ hc
    have hcnt : cnt L' es = bif es.contains k then cnt L es + 1 else cnt L es := by
      cases hmem : es.contains k with
      | false => exact cnt_other hL (by simpa using hmem)
      | true =>
        rw [hmem] at hself
        simp only [Bool.not_true, Bool.false_or] at hself
        have h4 := List.all_eq_true.1 hself _ hc
        have h5 : es[cnt L es]? = some k := by simpa using h4
        refine cnt_self hL hk hk' (nodupB_spec hne) h5 (fun y hy => ?_)
        have hlt : cnt L es < es.length := (List.getElem?_eq_some_iff.1 h5).1
        have h6 := List.all_eq_true.1 hch (cnt L es) (List.mem_range.2 hlt)
        simp only [h5, hy] at h6
        cases hLy : L y with
        | false => rfl
        | true => exact absurd (by simpa using h6) (htcl y hLy)
    have hreg := reg_nodup (rs := rs) (k := 0) (nodupB_spec hnd)
    have regk : ∀ (j t : Nat) (x : AV), (j, t, x) ∈ regOf l rs 0 → ∃ o', l[j]? = some o' ∧ o'.dst = some t ∧ rs[j]? = some x := fun j t x hm => by
      obtain ⟨_, o', h1, h2, h3⟩ := mem_regOf hm
      exact ⟨o', by simpa using h1, h2, by simpa using h3⟩
    -- what the operation needs is there
    have hek : ∀ t x, (ekOf l rs base pk bk).get t = some x → (FL base L (regOf l rs 0)).get t = some x := fun t x hx => by
      rcases ek_spec hx with ⟨j, hj, hm⟩ | ⟨hm, hb⟩
      · exact FL_hit hreg.1 hm (htck j (by simpa using List.all_eq_true.1 hpk j hj))
      · rw [FL_miss]
        · exact hb
        · intro j r hjm
          obtain ⟨o', h2, h3, _⟩ := regk j t r hjm
          have h4 := List.all_eq_true.1 (List.all_eq_true.1 hbk t hm) j (List.mem_range.2 (List.getElem?_eq_some_iff.1 h2).1)
          simp only [h2, h3, beq_self_eq_true, Bool.not_true, Bool.false_or, Bool.or_eq_true] at h4
          rcases h4 with h4 | h4
          · rw [Nat.eq_of_beq_eq_true h4]; exact hk
          · cases hLj : L j with
            | false => rfl
            | true => exact absurd (by simpa using h4) (htcl j hLj)
    have hsub : Sub (ekOf l rs base pk bk ++ FL base L (regOf l rs 0)) (FL base L (regOf l rs 0)) := fun t x hx => by
      rw [Env.get_append] at hx
      cases hg : (ekOf l rs base pk bk).get t with
      | some y => rw [hg] at hx; simp only [Option.some.injEq] at hx; subst hx; exact ⟨y, hek t y hg, Le.refl y⟩
      | none => rw [hg] at hx; exact ⟨x, hx, Le.refl x⟩
    refine wpOp_of_WL hnf ho (hob (FL base L (regOf l rs 0))) (hi.sub hsub) ?_
    rintro a' w' env' st' m' φ' ⟨rfl, pre, rfl, hp1, hp2⟩ hi'
    refine ⟨m', φ', ?_⟩
    rw [hcnt]
    refine hi'.sub (fun t x hx => ?_)
    rw [Env.get_append, Env.get_append]
    cases hpt : pre.get t with
    | some y =>
      have hdt := hp1 t y hpt
      cases hrk : rs[k]? with
      | none => exact absurd (List.getElem?_eq_none_iff.1 hrk) (by omega)
      | some r =>
        have h2 := hp2 t r hdt hrk
        rw [hpt] at h2
        simp only [Option.some.injEq] at h2
        subst h2
        have h3 : (FL base L' (regOf l rs 0)).get t = some y := FL_hit hreg.1 (by simpa using regOf_mem (k := 0) ho hdt hrk) hk'
        rw [h3] at hx
        simp only [Option.some.injEq] at hx
        subst hx
        exact ⟨y, rfl, Le.refl y⟩
    | none =>
      have h3 : (FL base L' (regOf l rs 0)).get t = (FL base L (regOf l rs 0)).get t := FL_step hL (fun r hr => by
        obtain ⟨o', h2, h3, h4⟩ := regk k t r hr
        rw [ho] at h2
        simp only [Option.some.injEq] at h2
        subst h2
        have := hp2 t r h3 h4
        rw [hpt] at this; cases this)
      rw [h3] at hx
      cases hg : (ekOf l rs base pk bk).get t with
      | some y =>
        have := hek t y hg
        rw [hx] at this
        simp only [Option.some.injEq] at this
        subst this
        exact ⟨x, rfl, Le.refl x⟩
      | none => exact ⟨x, hx, Le.refl x⟩

def Lof (listed : Array Bool) (k : Nat) : Bool := listed.getD k false

theorem all_any (hnf : noDefer l = true) {tc : List (List Nat)} {plan : List (List Nat × List Nat × List Nat)} {Q : Exit → Act → World → Prop} (hok : allOk l tc es plan = true) (hrs : rs.length = l.length) (hobs : Obs P e l rs base sts es 0 l plan)
    (hQ : ∀ a w, At e l rs base sts es (fun k => Nat.blt k l.length) a w → Q .normal a w) :
    ∀ (f : Nat) (listed : Array Bool) (a : Act) (w : World), listed.size = l.length → Down l (Lof listed) → listed.toList.count false ≤ f → At e l rs base sts es (Lof listed) a w → wpAnyIn (EF e.rd) 0 P .any l.toArray Q f listed a w := by
  have htc : tcOk l tc = true := by simp only [allOk, Bool.and_eq_true] at hok; exact hok.1.1.1.1.1
  -- what is ready
  have rdy : ∀ (listed : Array Bool) (i : Nat), listed.size = l.length → i ∈ Region.ready .any l.toArray listed → ∃ o, l[i]? = some o ∧ Lof listed i = false ∧ listed[i]? = some false ∧ ∀ e ∈ o.after, Region.binds .any e = true → Lof listed e.on = true := by
    intro listed i hsz hi
    obtain ⟨h0, o, ho, hall⟩ := mem_ready.1 hi
    have hil : i < listed.size := by
      rcases Nat.lt_or_ge i listed.size with h | h
      · exact h
      · simp [Array.getD, Nat.not_lt.2 h] at h0
    have h1 : listed[i]? = some false := by
      rw [Array.getElem?_eq_getElem hil]
      simp [Array.getD, hil] at h0
      rw [h0]
    exact ⟨o, by simpa using ho, by simp [Lof, Array.getD_eq_getD_getElem?, h1], h1, fun e he hb => hall e he hb⟩
  -- where nothing is ready, all is listed
  have full : ∀ (listed : Array Bool), listed.size = l.length → Region.ready .any l.toArray listed = [] → Lof listed = fun k => Nat.blt k l.length := by
    intro listed hsz hr
    have key : ∀ k, k < l.length → Lof listed k = true := by
      intro k
      induction k using Nat.strongRecOn with
      | _ k ih =>
        intro hk
        cases hLk : Lof listed k with
        | true => rfl
        | false =>
          exfalso
          have hok' : l[k]? = some l[k] := List.getElem?_eq_getElem hk
          have : k ∈ Region.ready .any l.toArray listed := by
            refine mem_ready.2 ⟨?_, l[k], by simp [hk], fun e he hb => ?_⟩
            · have hks : k < listed.size := by omega
              simp only [Lof, Array.getD, hks, dif_pos] at hLk ⊢
              exact hLk
            · have h1 := List.all_eq_true.1 htc k (List.mem_range.2 hk)
              simp only [hok', Bool.and_eq_true] at h1
              have h2 := List.all_eq_true.1 h1.1 e (Array.mem_toList_iff.2 he)
              simp only [hb, Bool.not_true, Bool.false_or] at h2
              have hlt : e.on < k := by simpa [Nat.blt_eq] using h2
              exact ih e.on hlt (by omega)
          rw [hr] at this; cases this
    funext k
    rcases Nat.lt_or_ge k l.length with h | h
    · rw [key k h]; simp [Nat.blt_eq, h]
    · have : Lof listed k = false := by simp [Lof, Array.getD, Nat.not_lt.2 (by omega : listed.size ≤ k)]
      rw [this]
      cases hb : Nat.blt k l.length with
      | false => rfl
      | true => have : k < l.length := by simpa [Nat.blt_eq] using hb
                omega
  intro f
  induction f with
  | zero =>
    intro listed a w hsz hdn hcn hat
    have hr : Region.ready .any l.toArray listed = [] := by
      cases hr : Region.ready .any l.toArray listed with
      | nil => rfl
      | cons i r =>
        obtain ⟨o, _, _, h1, _⟩ := rdy listed i hsz (by rw [hr]; exact List.mem_cons_self)
        have : false ∈ listed.toList := List.mem_of_getElem? (i := i) (by simpa using h1)
        have := List.count_pos_iff.2 this
        omega
    exact ⟨hr, hQ a w (full listed hsz hr ▸ hat)⟩
  | succ f ih =>
    intro listed a w hsz hdn hcn hat
    refine ⟨fun hr => hQ a w (full listed hsz hr ▸ hat), fun i hi => ?_⟩
    obtain ⟨o, ho, hLi, hli, hpre⟩ := rdy listed i hsz hi
    have hil : i < listed.size := (Array.getElem?_eq_some_iff.1 hli).1
    have hother : ∀ j, j ≠ i → Lof (listed.setIfInBounds i true) j = Lof listed j := fun j hj => by
      simp only [Lof, Array.getD_eq_getD_getElem?, Array.getElem?_setIfInBounds_ne (Ne.symm hj)]
    have hself : Lof (listed.setIfInBounds i true) i = true := by simp [Lof, Array.getD_eq_getD_getElem?, hil]
    have hstep := all_step (Q' := Q) hnf (L' := Lof (listed.setIfInBounds i true)) hok hrs hobs ho hdn (fun y hy => by
      rcases Nat.lt_or_ge y l.length with h | h
      · exact h
      · simp [Lof, Array.getD, Nat.not_lt.2 (by omega : listed.size ≤ y)] at hy) hLi hpre hother hself hat
    refine wpOpIn_mono (fun a' w' hat' => ih _ a' w' (by simpa using hsz) ?_ ?_ hat') hstep
    · intro k ok hk hLk e he hb
      by_cases hki : k = i
      · subst hki
        rw [ho] at hk
        simp only [Option.some.injEq] at hk
        subst hk
        have := hpre e he hb
        by_cases hei : e.on = k
        · rw [hei]; exact hself
        · rw [hother _ hei]; exact this
      · rw [hother k hki] at hLk
        have := hdn k ok hk hLk e he hb
        by_cases hei : e.on = i
        · rw [hei]; exact hself
        · rw [hother _ hei]; exact this
    · have := count_set (l := listed.toList) (i := i) (by simpa using hli)
      rw [Array.toList_setIfInBounds]
      omega

/-- **A region in any order.** -/
theorem wc_region_all {k : Ko} {env : Env} {st : List AO} {id : Nat} (rs : List AV) (tc : List (List Nat)) (es : List Nat) (sts : Nat → List AO) (plan : List (List Nat × List Nat × List Nat)) (hm : P.follows .mixedOrders = true)
    (hok : allOk l tc es plan = true) (hrs : Nat.beq rs.length l.length = true) (hes : es.all (fun y => Nat.blt y l.length) = true) (hst : sts 0 = st) (hobs : Obs P e l rs env sts es 0 l plan)
    (h : WE P e .normal k (FL env (fun k => Nat.blt k l.length) (regOf l rs 0)) (sts es.length)) (hnf : noDefer l = true := by kernel_rfl) : WC P e (.region id l.toArray true) k env st := fun m φ a w hi => by
  have hQ : ∀ a' w', At e l rs env sts es (fun k => Nat.blt k l.length) a' w' → k.den P e .normal a' w' := fun a' w' ⟨m', φ', hi'⟩ => by
    rw [cnt_all (fun y hy => List.all_eq_true.1 hes y hy)] at hi'
    exact h m' φ' a' w' hi'
  have hz : ∀ j, Lof (Array.replicate l.toArray.size false) j = false := fun j => by simp [Lof, Array.getD]
  have hdn : Down l (Lof (Array.replicate l.toArray.size false)) := fun k o _ hL => by rw [hz] at hL; cases hL
  have hat : At e l rs env sts es (Lof (Array.replicate l.toArray.size false)) a { w with drawn := w.drawn + 1 } := by
    have hc : cnt (Lof (Array.replicate l.toArray.size false)) es = 0 := by
      cases es with
      | nil => rfl
      | cons y es => simp only [cnt, hz, cond_false]
    have hf : ∀ reg : List (Nat × Nat × AV), FL env (Lof (Array.replicate l.toArray.size false)) reg = env := by
      intro reg
      induction reg with
      | nil => rfl
      | cons p reg ih => obtain ⟨j, d, r⟩ := p; simp only [FL, hz, cond_false]; exact ih
    refine ⟨m, φ, ?_⟩
    rw [hc, hf, hst]
    exact hi.below ((Below.refl _ _).drew) (hi.env.mono (Pre.refl m) (Fz.refl φ w)) hi.sz rfl
  exact wpIn_region_any hm (all_any hnf (sts := sts) (base := env) hok (Nat.eq_of_beq_eq_true hrs) hobs hQ _ _ a _ (by simp) hdn (by simp) hat)

theorem WL.done1 {ops : Array Oper} {env : Env} {st' stc : List AO} {o : Oper} {d : Nat} {r : AV} {k : Nat} (hd : o.dst = some d) (hr : rs[k]? = some r) (hst : st' = stc) :
    WL P e ops [] ((d, r) :: env) st' (fun env' st'' => st'' = stc ∧ ∃ pre, env' = pre ++ env ∧ (∀ t x, pre.get t = some x → o.dst = some t) ∧ ∀ d' r', o.dst = some d' → rs[k]? = some r' → pre.get d' = some r') :=
  WL.nil ⟨hst, [(d, r)], rfl, fun t x hx => by
    rw [Env.get_cons] at hx
    split at hx
    · rename_i h; rw [h]; exact hd
    · simp [Env.get] at hx, fun d' r' hd' hr' => by
    rw [hd] at hd'; rw [hr] at hr'
    simp only [Option.some.injEq] at hd' hr'
    subst hd'; subst hr'
    simp [Env.get_cons]⟩
theorem WL.done2 {ops : Array Oper} {env : Env} {st' stc : List AO} {o : Oper} {d : Nat} {r r0 : AV} {k : Nat} (hd : o.dst = some d) (hr : rs[k]? = some r) (hst : st' = stc) :
    WL P e ops [] ((d, r) :: (d, r0) :: env) st' (fun env' st'' => st'' = stc ∧ ∃ pre, env' = pre ++ env ∧ (∀ t x, pre.get t = some x → o.dst = some t) ∧ ∀ d' r', o.dst = some d' → rs[k]? = some r' → pre.get d' = some r') :=
  WL.nil ⟨hst, [(d, r), (d, r0)], rfl, fun t x hx => by
    rw [Env.get_cons, Env.get_cons] at hx
    by_cases h : t = d
    · rw [h]; exact hd
    · simp [h, Env.get] at hx, fun d' r' hd' hr' => by
    rw [hd] at hd'; rw [hr] at hr'
    simp only [Option.some.injEq] at hd' hr'
    subst hd'; subst hr'
    simp [Env.get_cons]⟩
theorem WL.done0 {ops : Array Oper} {env : Env} {st' stc : List AO} {o : Oper} {k : Nat} (hd : o.dst = none) (hst : st' = stc) :
    WL P e ops [] env st' (fun env' st'' => st'' = stc ∧ ∃ pre, env' = pre ++ env ∧ (∀ t x, pre.get t = some x → o.dst = some t) ∧ ∀ d' r', o.dst = some d' → rs[k]? = some r' → pre.get d' = some r') :=
  WL.nil ⟨hst, [], rfl, fun t x hx => by simp [Env.get] at hx, fun d' r' hd' _ => by rw [hd] at hd'; cases hd'⟩
end
end Go.Sk
namespace Go.Sk
open Go.RowKit (Below)
section
variable {P : Program} {e : En} {ops : Array Oper} {l rest : List Oper} {env : Env} {st : List AO} {R : Env → List AO → Prop} {K : Ko}

theorem RAs_set1 {m φ w} : ∀ {xs : List AV} {vs : List Value} {i : Nat} {y : AV} {v : Value}, RAs m φ w xs vs → vs[i]? = some v → RA m φ w y v → RAs m φ w (xs.set i y) vs
  | [], vs, i, y, v, h, hi, hy => by simp only [RAs] at h; subst h; simp at hi
  | p :: xs, vs, i, y, v, h, hi, hy => by
    simp only [RAs] at h
    obtain ⟨c, cs, rfl, h1, h2⟩ := h
    cases i with
    | zero =>
      simp only [List.getElem?_cons_zero, Option.some.injEq] at hi
      subst hi
      exact RAs_cons hy h2
    | succ i => exact RAs_cons h1 (RAs_set1 h2 (by simpa using hi) hy)

theorem Inv.freeze_cell {m φ a w} {i off id ver T k T' : Nat} {cs : List AV} {ds : List (List D)} (hi : Inv e m φ env st a w) (hr : st[i]? = some (.row T' cs)) (hc : cs[off]? = some (.os id ver)) (hs : st[id]? = some (.os T k ver (ds.map fun e => e.map AV.d))) (hne : Nat.beq i id = false) :
    ∃ φ', Inv e m φ' env ((st.set id .dead).set i (.row T' (cs.set off (.d (.sl ds))))) a w := by
  have hne' : i ≠ id := fun h => by simp [h] at hne
  obtain ⟨ci, hci⟩ : ∃ c, m[i]? = some c := by
    have : i < m.length := by rw [hi.sr.len]; exact (List.getElem?_eq_some_iff.1 hr).1
    exact ⟨_, List.getElem?_eq_getElem this⟩
  obtain ⟨b, rfl, _, vs, h3, h4⟩ := hi.sr.obj i _ _ hr hci
  obtain ⟨v, g1, g2⟩ := RAs_get h4 hc
  simp only [RA] at g2
  obtain ⟨v0, y0, k1, k2, k3⟩ := g2
  obtain ⟨y', xs, e1, _⟩ := hi.sr.obj id _ _ hs k1
  simp only [Cz.tok.injEq] at e1
  obtain ⟨rfl, rfl⟩ := e1
  obtain ⟨φ', f1, f2, f3⟩ := freeze_os hi.sr hs k1
  have hv := k3 rfl
  subst hv
  have h5 := hi.go f1 f2
  have hr2 : (st.set id AO.dead)[i]? = some (.row T' cs) := by rw [List.getElem?_set_ne (Ne.symm hne')]; exact hr
  refine ⟨φ', ⟨h5.sr.alter (o := .row T' cs) hr2 rfl ?_, h5.ev, h5.env, h5.sz, h5.df⟩⟩
  rintro c hc2 ⟨b2, q1, q2, vs2, q3, q4⟩
  have hcc : c = .blk b := by rw [hci] at hc2; exact (Option.some.inj hc2).symm
  subst hcc
  simp only [Cz.blk.injEq] at q1
  subst q1
  rw [h3] at q3
  simp only [Option.some.injEq, Obj.cells.injEq, Array.mk.injEq, and_true] at q3
  have q5 : vs = vs2 := by simpa using q3
  subst q5
  obtain ⟨v', p1, p2⟩ := RAs_get q4 hc
  have hvv : v' = v := by rw [g1] at p1; exact (Option.some.inj p1).symm
  refine ⟨b, rfl, q2, vs, h3, RAs_set1 q4 g1 (by simpa [RA] using f3)⟩

theorem WC.freeze_cell {c : Code} (i off id : Nat) {ver T k T' : Nat} {cs : List AV} (ds : List (List D)) {es : List (List AV)} (hr : st[i]? = some (.row T' cs)) (hc : cs[off]? = some (.os id ver)) (hs : st[id]? = some (.os T k ver es)) (hne : Nat.beq i id = false) (hes : es = ds.map fun e => e.map AV.d)
    (h : WC P e c K env ((st.set id .dead).set i (.row T' (cs.set off (.d (.sl ds)))))) : WC P e c K env st := fun m φ a w hi => by
  subst hes
  obtain ⟨φ', hi'⟩ := hi.freeze_cell hr hc hs hne
  exact h m φ' a w hi'
theorem WL.freeze_cell (i off id : Nat) {ver T k T' : Nat} {cs : List AV} (ds : List (List D)) {es : List (List AV)} (hr : st[i]? = some (.row T' cs)) (hc : cs[off]? = some (.os id ver)) (hs : st[id]? = some (.os T k ver es)) (hne : Nat.beq i id = false) (hes : es = ds.map fun e => e.map AV.d)
    (h : WL P e ops l env ((st.set id .dead).set i (.row T' (cs.set off (.d (.sl ds))))) R) : WL P e ops l env st R := fun m φ a w hi => by
  subst hes
  obtain ⟨φ', hi'⟩ := hi.freeze_cell hr hc hs hne
  exact h m φ' a w hi'
theorem WE.freeze_cell {x : Exit} (i off id : Nat) {ver T k T' : Nat} {cs : List AV} (ds : List (List D)) {es : List (List AV)} (hr : st[i]? = some (.row T' cs)) (hc : cs[off]? = some (.os id ver)) (hs : st[id]? = some (.os T k ver es)) (hne : Nat.beq i id = false) (hes : es = ds.map fun e => e.map AV.d)
    (h : WE P e x K env ((st.set id .dead).set i (.row T' (cs.set off (.d (.sl ds)))))) : WE P e x K env st := fun m φ a w hi => by
  subst hes
  obtain ⟨φ', hi'⟩ := hi.freeze_cell hr hc hs hne
  exact h m φ' a w hi'
end
end Go.Sk
namespace Go.Sk
open Go.RowKit (Below)

/-! ### Data in all places at once -/
def OsSlots (env : Env) (id ver : Nat) : List Nat → Prop
  | [] => True
  | t :: ts => env.get t = some (.os id ver) ∧ OsSlots env id ver ts
def setCells (x : AV) : List (Nat × Nat) → List AO → List AO
  | [], st => st
  | (i, off) :: r, st => setCells x r (match st[i]? with | some (.row T cs) => st.set i (.row T (cs.set off x)) | _ => st)
def OsCells (st : List AO) (id ver : Nat) (x : AV) : List (Nat × Nat) → Prop
  | [] => True
  | (i, off) :: r => ∃ T cs, st[i]? = some (.row T cs) ∧ cs[off]? = some (.os id ver) ∧ OsCells (st.set i (.row T (cs.set off x))) id ver x r

theorem osCells_sr {m φ w} {id ver : Nat} {y : Value} {x : AV} (hm : m[id]? = some (.tok ver y)) (hx : RA m φ w x y) : ∀ (l : List (Nat × Nat)) (st : List AO), SR m φ st w → OsCells st id ver x l → SR m φ (setCells x l st) w
  | [], st, h, _ => h
  | (i, off) :: r, st, h, hc => by
    obtain ⟨T, cs, h1, h2, h3⟩ := hc
    simp only [setCells, h1]
    refine osCells_sr hm hx r _ ?_ h3
    refine h.alter (o := .row T cs) h1 rfl ?_
    rintro c hc2 ⟨b, rfl, q2, vs, q3, q4⟩
    obtain ⟨v', p1, p2⟩ := RAs_get q4 h2
    simp only [RA] at p2
    obtain ⟨v0, y0, k1, k2, k3⟩ := p2
    rw [hm] at k1
    simp only [Option.some.injEq, Cz.tok.injEq] at k1
    obtain ⟨rfl, rfl⟩ := k1
    have := k3 rfl
    subst this
    exact ⟨b, rfl, q2, vs, q3, RAs_set1 q4 p1 hx⟩

section
variable {P : Program} {e : En} {ops : Array Oper} {l rest : List Oper} {env : Env} {st : List AO} {R : Env → List AO → Prop} {K : Ko}

/-- Slots and cells that hold the slice as it is now hold data. -/
theorem Inv.freezeX {m φ a w} {id ver T k : Nat} {ds : List (List D)} (ts : List Nat) (cl : List (Nat × Nat)) (hi : Inv e m φ env st a w) (hs : st[id]? = some (.os T k ver (ds.map fun e => e.map AV.d)))
    (ht : OsSlots env id ver ts) (hc : OsCells (st.set id .dead) id ver (.d (.sl ds)) cl) :
    ∃ φ', Inv e m φ' (ts.map (fun t => (t, .d (.sl ds))) ++ env) (setCells (.d (.sl ds)) cl (st.set id .dead)) a w := by
  obtain ⟨c, hcm⟩ : ∃ c, m[id]? = some c := by
    have : id < m.length := by rw [hi.sr.len]; exact (List.getElem?_eq_some_iff.1 hs).1
    exact ⟨_, List.getElem?_eq_getElem this⟩
  obtain ⟨y, xs, rfl, _⟩ := hi.sr.obj id _ _ hs hcm
  obtain ⟨φ', f1, f2, f3⟩ := freeze_os hi.sr hs hcm
  have h3 := hi.go f1 f2
  refine ⟨φ', osCells_sr hcm (by simpa [RA] using f3) cl _ h3.sr hc, h3.ev, ?_, h3.sz, h3.df⟩
  clear hc
  refine ⟨?_, h3.env.gl⟩
  induction ts with
  | nil => exact h3.env.get
  | cons t ts ih =>
    intro s x hx
    simp only [List.map_cons, List.cons_append] at hx
    unfold Env.get at hx
    cases hb : Nat.beq s t with
    | true =>
      rw [hb] at hx
      simp only [cond_true, Option.some.injEq] at hx
      subst hx
      have : s = t := Nat.eq_of_beq_eq_true hb
      subst this
      obtain ⟨v, g1, g2⟩ := hi.env s _ ht.1
      simp only [RA] at g2
      obtain ⟨v0, y0, k1, k2, k3⟩ := g2
      rw [hcm] at k1
      simp only [Option.some.injEq, Cz.tok.injEq] at k1
      obtain ⟨rfl, rfl⟩ := k1
      have := k3 rfl
      subst this
      exact ⟨_, g1, by simpa [RA] using f3⟩
    | false => rw [hb] at hx; exact ih ht.2 s x hx

theorem WC.freezeX {c : Code} (ts : List Nat) (cl : List (Nat × Nat)) (id : Nat) {ver T k : Nat} (ds : List (List D)) {es : List (List AV)} (hs : st[id]? = some (.os T k ver es)) (hes : es = ds.map fun e => e.map AV.d) (ht : OsSlots env id ver ts) (hc : OsCells (st.set id .dead) id ver (.d (.sl ds)) cl)
    (h : WC P e c K (ts.map (fun t => (t, .d (.sl ds))) ++ env) (setCells (.d (.sl ds)) cl (st.set id .dead))) : WC P e c K env st := fun m φ a w hi => by
  subst hes
  obtain ⟨φ', hi'⟩ := hi.freezeX ts cl hs ht hc
  exact h m φ' a w hi'
theorem WL.freezeX (ts : List Nat) (cl : List (Nat × Nat)) (id : Nat) {ver T k : Nat} (ds : List (List D)) {es : List (List AV)} (hs : st[id]? = some (.os T k ver es)) (hes : es = ds.map fun e => e.map AV.d) (ht : OsSlots env id ver ts) (hc : OsCells (st.set id .dead) id ver (.d (.sl ds)) cl)
    (h : WL P e ops l (ts.map (fun t => (t, .d (.sl ds))) ++ env) (setCells (.d (.sl ds)) cl (st.set id .dead)) R) : WL P e ops l env st R := fun m φ a w hi => by
  subst hes
  obtain ⟨φ', hi'⟩ := hi.freezeX ts cl hs ht hc
  exact h m φ' a w hi'
theorem WE.freezeX {x : Exit} (ts : List Nat) (cl : List (Nat × Nat)) (id : Nat) {ver T k : Nat} (ds : List (List D)) {es : List (List AV)} (hs : st[id]? = some (.os T k ver es)) (hes : es = ds.map fun e => e.map AV.d) (ht : OsSlots env id ver ts) (hc : OsCells (st.set id .dead) id ver (.d (.sl ds)) cl)
    (h : WE P e x K (ts.map (fun t => (t, .d (.sl ds))) ++ env) (setCells (.d (.sl ds)) cl (st.set id .dead))) : WE P e x K env st := fun m φ a w hi => by
  subst hes
  obtain ⟨φ', hi'⟩ := hi.freezeX ts cl hs ht hc
  exact h m φ' a w hi'

end

/-! ### make -/
def mkOk (b : Nat) (n : Int) : Bool := decide (0 ≤ n) && decide ((b : Int) * n ≤ 281474976710656) && decide (n ≤ maxLen)

section
variable {P : Program} {env : Env} {st : List AO} {dst : Option Tmp} {ty : TypeId} {pos : String} {after : Array Edge} {guard : Option (Nat × Bool)}

theorem madeCells_flat (z : Array Value) : ∀ n : Nat, 0 < z.size → (madeCells z (n * z.size)).toList = (List.replicate n z.toList).flatten
  | 0, _ => by simp [madeCells]
  | n + 1, hz => by
    apply List.ext_getElem?
    intro j
    have ih := congrArg (fun l => l[j - z.size]?) (madeCells_flat z n hz)
    simp only [madeCells, Array.toList_map, Array.toList_range, List.getElem?_map] at ih ⊢
    rw [List.replicate_succ, List.flatten_cons]
    by_cases hj : j < z.size
    · rw [List.getElem?_append_left (by simpa using hj), List.getElem?_range (by rw [Nat.succ_mul]; omega)]
      simp [hj, Nat.mod_eq_of_lt hj]
    · rw [List.getElem?_append_right (by simpa using Nat.le_of_not_lt hj)]
      simp only [Array.length_toList]
      rw [← ih]
      by_cases hj2 : j < (n + 1) * z.size
      · rw [List.getElem?_range hj2, List.getElem?_range (by rw [Nat.succ_mul] at hj2; omega)]
        simp only [Option.map_some]
        rw [Nat.mod_eq_sub_mod (Nat.le_of_not_lt hj)]
      · rw [List.getElem?_eq_none (by simpa using Nat.le_of_not_lt hj2), List.getElem?_eq_none (by simp only [List.length_range]; rw [Nat.succ_mul] at hj2; omega)]

theorem NewOs.cast {o : Oper} {T k : Nat} {es es' : List (List AV)} (h : NewOs P env st o T k es) (he : es = es') : NewOs P env st o T k es' := he ▸ h
/-- The elements said in a weaker way. -/
def ELes : List (List AV) → List (List AV) → Prop
  | [], [] => True
  | x :: xs, y :: ys => Les x y ∧ ELes xs ys
  | _, _ => False
theorem ELes.len : ∀ {xs ys : List (List AV)}, ELes xs ys → xs.length = ys.length
  | [], [], _ => rfl
  | x :: xs, y :: ys, h => by simp [ELes.len h.2]
  | [], _ :: _, h => h.elim
  | _ :: _, [], h => h.elim
theorem Les.len : ∀ {xs ys : List AV}, Les xs ys → xs.length = ys.length
  | [], [], _ => rfl
  | x :: xs, y :: ys, h => by simp [Les.len h.2]
  | [], _ :: _, h => h.elim
  | _ :: _, [], h => h.elim
theorem Les.append : ∀ {xs ys us vs : List AV}, Les xs ys → Les us vs → Les (xs ++ us) (ys ++ vs)
  | [], [], _, _, _, k => k
  | _x :: _xs, _y :: _ys, _, _, h, k => ⟨h.1, Les.append h.2 k⟩
  | [], _ :: _, _, _, h, _ => h.elim
  | _ :: _, [], _, _, h, _ => h.elim
theorem ELes.flat : ∀ {xs ys : List (List AV)}, ELes xs ys → Les xs.flatten ys.flatten
  | [], [], _ => trivial
  | _x :: _xs, _y :: _ys, h => Les.append h.1 (ELes.flat h.2)
  | [], _ :: _, h => h.elim
  | _ :: _, [], h => h.elim
theorem ELes.lens {k : Nat} : ∀ {xs ys : List (List AV)}, ELes xs ys → (∀ e ∈ xs, e.length = k) → ∀ e ∈ ys, e.length = k
  | [], [], _, _ => fun e he => by simp at he
  | x :: xs, y :: ys, h, hk => fun e he => by
    rcases List.mem_cons.1 he with rfl | he
    · rw [← Les.len h.1]; exact hk x (by simp)
    · exact ELes.lens h.2 (fun e he => hk e (by simp [he])) e he
  | [], _ :: _, h, _ => h.elim
  | _ :: _, [], h, _ => h.elim
theorem NewOs.weak {o : Oper} {T k : Nat} {es es' : List (List AV)} (h : NewOs P env st o T k es) (he : ELes es es') : NewOs P env st o T k es' := fun m φ a w hs hE => by
  obtain ⟨v, w', h1, h2, h3, h4⟩ := h m φ a w hs hE
  refine ⟨v, w', h1, h2, ?_, h4⟩
  have := h3.alter (id := st.length) (o := .os T k 0 es) (o' := .os T k 0 es') (by simp) rfl (fun c _ => ?_)
  · simpa using this
  · rintro ⟨y, xs, r1, r2, r3, r4, r5⟩
    exact ⟨y, xs, r1, by rw [← he.len]; exact r2, (Les.ras he.flat) r3, he.lens r4, r5⟩
end
end Go.Sk
namespace Go.Sk
open Go.RowKit (Below)

/-- The content of a slice of ours turns. -/
theorem set_os {m φ st w} {id : Nat} {T k ver b len cap : Nat} {es es' : List (List AV)} {vs : List Value} (hs : SR m φ st w) (hi : st[id]? = some (.os T k ver es)) (hb : m[id]? = some (.tok ver (.slice (some ⟨b, 0, none⟩) len cap)))
    (h : RAs m φ w es'.flatten vs) (hl : es'.length = es.length) (hk : ∀ e ∈ es', e.length = k) (cur : Array Value) (hcur : w.heap[b]? = some (.cells cur T (0, 0))) (new : Array Value) (hsz : new.size = cur.size) (htk : new.toList.take (es.length * k) = vs) :
    Ev m φ w m φ (w.setRow b new) ∧ SR m φ (st.set id (.os T k ver es')) (w.setRow b new) := by
  obtain ⟨y, xs, e1, g1, g2, g3, g4⟩ := hs.obj id _ _ hi hb
  simp only [Cz.tok.injEq, true_and] at e1
  subst e1
  have h0 : φ b = 0 := g4 b rfl
  have hF : Fz φ w φ (w.setRow b new) := fun b2 off c q1 q2 => ⟨q1, by
    have hne : b2 ≠ b := fun e => by subst e; omega
    rw [cell?_congr (heap_setRow_ne hne)]; exact q2⟩
  have hsize : (w.setRow b new).heap.size = w.heap.size := size_setRow w b _
  refine ⟨⟨Pre.refl m, fun _ h => .inl h, rfl, rfl, rfl, by rw [hsize]; exact Nat.le_refl _, fun b2 hb2 hn => ⟨heap_setRow_ne (fun e => hn ⟨id, _, hb, by rw [e]; rfl⟩), rfl⟩, hF⟩, ⟨by simp [hs.len], fun i o c q1 q2 => ?_, fun b2 hb2 => hs.lt b2 (by omega), fun i j o o' c c' b2 q1 q2 l1 l2 k1 k2 e1 e2 => ?_, hs.gl.mono hF, fun b2 hb2 => by rw [hsize]; exact hs.nb b2 hb2⟩⟩
  · by_cases hii : i = id
    · subst hii
      rw [List.getElem?_set_self (lt_len hi)] at q1
      rw [hb] at q2
      simp only [Option.some.injEq] at q1 q2
      subst q1; subst q2
      refine ⟨_, vs, rfl, ?_, RAs.mono (Pre.refl m) hF _ _ h, hk, g4⟩
      obtain ⟨r1, r2⟩ := g1
      have hvl : vs.length = es.length * k := by
        have := RAs_length h
        rw [this]
        clear this h htk
        have : ∀ l : List (List AV), (∀ e ∈ l, e.length = k) → l.flatten.length = l.length * k := by
          intro l
          induction l with
          | nil => simp
          | cons x l ih => intro hh; simp only [List.flatten_cons, List.length_append, List.length_cons, ih (fun e he => hh e (by simp [he])), hh x (by simp), Nat.succ_mul]; omega
        rw [this es' hk, hl]
      rcases r2 with ⟨hv, _⟩ | ⟨g, cap', cur', hv, p1, p2, p3, p4, p5, p6⟩
      · cases hv
      · simp only [Value.slice.injEq, Option.some.injEq, Addr.mk.injEq, and_true] at hv
        obtain ⟨rfl, rfl, rfl⟩ := hv
        rw [hcur] at p2
        simp only [Option.some.injEq, Obj.cells.injEq, and_true] at p2
        subst p2
        rw [hl]
        exact ⟨hvl, .inr ⟨b, cap, new, rfl, p1, setRow_heap w b _ _ T (0, 0) hcur, p3, p4, by rw [hsz]; exact p5, htk⟩⟩
    · rw [List.getElem?_set_ne (Ne.symm hii)] at q1
      have h := hs.obj i o c q1 q2
      cases hl : o.live with
      | true =>
        refine h.congr (Pre.refl m) hF (fun b2 hb2 => ⟨heap_setRow_ne (fun e => ?_), rfl⟩)
        subst e
        exact hii (hs.inj i id o _ c _ b2 q1 hi hl rfl q2 hb hb2 rfl)
      | false => cases o <;> first | trivial | exact h | (simp [AO.live] at hl; done)
  · have back : ∀ (i : Nat) (o : AO), (st.set id (.os T k ver es'))[i]? = some o → o.live = true → ∃ o2, st[i]? = some o2 ∧ o2.live = true := by
      intro i o g l
      by_cases hii : i = id
      · subst hii; exact ⟨_, hi, rfl⟩
      · rw [List.getElem?_set_ne (Ne.symm hii)] at g; exact ⟨o, g, l⟩
    obtain ⟨p, p1, p2⟩ := back i o q1 l1
    obtain ⟨q, u1, u2⟩ := back j o' q2 l2
    exact hs.inj i j p q c c' b2 p1 u1 p2 u2 k1 k2 e1 e2

section
variable {P : Program} {env : Env} {st : List AO} {dst : Option Tmp} {ty : TypeId} {pos : String} {after : Array Edge} {guard : Option (Nat × Bool)}

theorem d_store_pe {T : TypeId} {x y : Operand} {id ver off n T' k : Nat} {es es' : List (List AV)} {r0 r : AV} {rs : List AV} (hx : opv env x = some (.pe id ver off)) (hs : st[id]? = some (.os T' k ver es)) (hy : opv env y = some r0) (hle : Le r0 r) (hk : r.okc = true) (hc : r.cells = rs) (hk1 : rs.all AV.ok1 = true)
    (hn : szOf P T = some n) (hl : rs.length = n) (hlen : off + n ≤ es.flatten.length) (hes : es'.flatten = es.flatten.take off ++ rs ++ es.flatten.drop (off + n)) (hel : es'.length = es.length) (hek : ∀ e ∈ es', e.length = k) :
    Does P env st ⟨dst, .store T x y, ty, pos, after, guard⟩ (.d (.v undef)) (st.set id (.os T' k ver es')) := fun m φ a w hsr he => by
  obtain ⟨b, len, cap, xs, g1, g2, g3, g4, g5, g6⟩ := opv_pe hsr he hx hs
  obtain ⟨us, q1, q2⟩ := RA_cells (hle _ _ _ _ (opv_ok he hy)) hk
  rw [hc] at q2
  have hul := RAs_length q2
  have hxl := RAs_length g4
  obtain ⟨r1, r2⟩ := g3
  rcases r2 with ⟨hv, _⟩ | ⟨g, cap', cur, hv, p1, p2, p3, p4, p5, p6⟩
  · cases hv
  simp only [Value.slice.injEq, Option.some.injEq, Addr.mk.injEq, and_true] at hv
  obtain ⟨rfl, rfl, rfl⟩ := hv
  have hcl : es.length * k ≤ cur.size := by rw [p5]; exact Nat.mul_le_mul_right _ p3
  have hfl : es.flatten.length = es.length * k := by omega
  have hst := run_storeCells_at P b off T' us 0 cur w p2 (by omega) (RAs_one q2 hk1)
  simp only [Nat.add_zero, hul, hl] at hst
  have hsize : us.length = n := by omega
  have hnew : RAs m φ w es'.flatten (xs.take off ++ us ++ xs.drop (off + n)) := by rw [hes]; exact RAs_append (RAs_append (RAs_take off g4) q2) (RAs_drop _ g4)
  have htk : ((cur.toList.take off ++ us ++ cur.toList.drop (off + n)).toArray.toList).take (es.length * k) = xs.take off ++ us ++ xs.drop (off + n) := by
    rw [← p6]
    apply List.ext_getElem?
    intro j
    have hcz : cur.toList.length = cur.size := by simp
    simp only [List.getElem?_take, List.getElem?_append, List.length_append, List.length_take, List.getElem?_drop, hsize, hcz]
    rw [Nat.min_eq_left (show off ≤ cur.size by omega), Nat.min_eq_left (show es.length * k ≤ cur.size by omega), Nat.min_eq_left (show off ≤ es.length * k by omega)]
    by_cases h1 : j < es.length * k
    · rw [if_pos h1]
      by_cases h2 : j < off + n
      · rw [if_pos h2, if_pos h2]
        by_cases h3 : j < off
        · simp only [if_pos h3, if_pos h1]
        · simp only [if_neg h3]
      · rw [if_neg h2, if_neg h2]
        have : off + n + (j - (off + n)) = j := by omega
        rw [this, if_pos h1]
    · rw [if_neg h1, if_neg (show ¬ j < off + n by omega)]
      have : off + n + (j - (off + n)) = j := by omega
      rw [this, if_neg h1]
  obtain ⟨k1, k2⟩ := set_os hsr hs g1 hnew hel hek cur p2 (cur.toList.take off ++ us ++ cur.toList.drop (off + n)).toArray (by simp [hsize]; omega) htk
  refine ⟨undef, _, m, φ, .inr ⟨?_, rfl⟩, k1, k2, RAv⟩
  simp [execOp, Instr.storeAt, Instr.sureAddr, g2, storeVar, q1, run_sizeOf' hn, hsize, hst]

/-! ### Over lists of data -/
theorem flat_len {α : Type} {R : α → List D} {k : Nat} (hR : ∀ x, (R x).length = k) : ∀ L : List α, (L.map (encA R)).flatten.length = L.length * k
  | [] => by simp
  | x :: L => by simp only [List.map_cons, List.flatten_cons, List.length_append, List.length_cons, flat_len hR L, Nat.succ_mul, encA, List.length_map, hR]; omega
theorem flat_at {α : Type} {R : α → List D} {k : Nat} (hR : ∀ x, (R x).length = k) : ∀ {L : List α} {i : Nat} {x : α}, L[i]? = some x → ∃ l1 l2, (L.map (encA R)).flatten = l1 ++ encA R x ++ l2 ∧ l1.length = i * k ∧ ∀ z, ((L.set i z).map (encA R)).flatten = l1 ++ encA R z ++ l2
  | [], i, x, h => by simp at h
  | y :: L, 0, x, h => by
    simp only [List.getElem?_cons_zero, Option.some.injEq] at h
    subst h
    exact ⟨[], (L.map (encA R)).flatten, by simp, by simp, fun z => by simp⟩
  | y :: L, i + 1, x, h => by
    simp only [List.getElem?_cons_succ] at h
    obtain ⟨l1, l2, h1, h2, h3⟩ := flat_at hR h
    refine ⟨encA R y ++ l1, l2, by simp [h1], ?_, fun z => ?_⟩
    · rw [List.length_append, h2, encA, List.length_map, hR, Nat.succ_mul]; omega
    · simp only [List.set_cons_succ, List.map_cons, List.flatten_cons, h3 z, List.append_assoc]

theorem y_pe {T n : Nat} {bb : Bool} {x ix : Operand} {id ver T' k : Nat} {α : Type} {R : α → List D} {L : List α} {kk : IntKind} {i : Int} {z : α} (hT : elemOf' P T = some (n, bb)) (hx : opv env x = some (.os id ver)) (hs : st[id]? = some (.os T' k ver (L.map (encA R)))) (hi : opv env ix = some (.d (.v (.int kk i)))) (h : idx L i = some z) :
    Yields P env st ⟨dst, .indexAddr T x ix, ty, pos, after, guard⟩ (.pe id ver (i.toNat * n)) :=
  y_indexAddr_os hT hx hs hi (idx_nonneg h) (by rw [List.length_map]; exact idx_lt h)

theorem y_load_peL {T : TypeId} {x : Operand} {id ver off fo T' k : Nat} {α : Type} {R : α → List D} {L : List α} {i : Int} {z : α} {r : AV} (hx : opv env x = some (.pe id ver off)) (hoff : off = i.toNat * k + fo) (hs : st[id]? = some (.os T' k ver (L.map (encA R)))) (hT : aggOf P T = some false) (hR : ∀ x, (R x).length = k) (hi : idx L i = some z) (hr : (encA R z)[fo]? = some r) :
    Yields P env st ⟨dst, .load T x, ty, pos, after, guard⟩ r := by
  refine y_load_pe hx hs hT ?_
  subst hoff
  obtain ⟨l1, l2, h1, h2, _⟩ := flat_at hR (idx_get hi)
  have hlt := lt_len hr
  rw [h1, List.getElem?_append_left (by rw [List.length_append]; omega), List.getElem?_append_right (by omega), h2]
  rw [show i.toNat * k + fo - i.toNat * k = fo from by omega, hr]

theorem y_load_peLN {T : TypeId} {x : Operand} {id ver off fo n T' k : Nat} {α : Type} {R : α → List D} {L : List α} {i : Int} {z : α} {rs : List AV} (hx : opv env x = some (.pe id ver off)) (hoff : off = i.toNat * k + fo) (hs : st[id]? = some (.os T' k ver (L.map (encA R)))) (hT : aggOf P T = some true) (hn : szOf P T = some n) (hR : ∀ x, (R x).length = k) (hi : idx L i = some z) (hr : ((encA R z).drop fo).take n = rs) (hrl : Nat.ble (fo + n) k = true) :
    Yields P env st ⟨dst, .load T x, ty, pos, after, guard⟩ (.ag rs) := by
  subst hoff
  obtain ⟨l1, l2, h1, h2, _⟩ := flat_at hR (idx_get hi)
  have hle2 := Nat.le_of_ble_eq_true hrl
  have hz : (encA R z).length = k := by rw [encA, List.length_map, hR]
  have := y_load_peN (P := P) (dst := dst) (ty := ty) (pos := pos) (after := after) (guard := guard) (n := n) hx hs hT hn (by rw [h1]; simp only [List.length_append]; omega)
  rw [h1, List.append_assoc, List.drop_append, h2, show i.toNat * k + fo - i.toNat * k = fo from by omega, List.drop_eq_nil_of_le (by omega), List.nil_append, List.drop_append, List.take_append_of_le_length (by rw [List.length_drop]; omega), hr] at this
  exact this

theorem d_store_peL {T : TypeId} {x y : Operand} {id ver off fo n T' k : Nat} {α : Type} {R : α → List D} {L : List α} {i : Int} {z : α} (z' : α) {r0 r : AV} {rs : List AV} (hx : opv env x = some (.pe id ver off)) (hoff : off = i.toNat * k + fo) (hs : st[id]? = some (.os T' k ver (L.map (encA R)))) (hy : opv env y = some r0) (hle : Le r0 r) (hk : r.okc = true) (hc : r.cells = rs) (hk1 : rs.all AV.ok1 = true)
    (hn : szOf P T = some n) (hl : rs.length = n) (hR : ∀ x, (R x).length = k) (hi : idx L i = some z) (hrl : Nat.ble (fo + n) k = true) (hz' : encA R z' = (encA R z).take fo ++ rs ++ (encA R z).drop (fo + n)) :
    Does P env st ⟨dst, .store T x y, ty, pos, after, guard⟩ (.d (.v undef)) (st.set id (.os T' k ver ((L.set i.toNat z').map (encA R)))) := by
  subst hoff
  obtain ⟨l1, l2, h1, h2, h3⟩ := flat_at hR (idx_get hi)
  have hle2 := Nat.le_of_ble_eq_true hrl
  have hz : (encA R z).length = k := by rw [encA, List.length_map, hR]
  refine d_store_pe hx hs hy hle hk hc hk1 hn hl (by rw [h1]; simp only [List.length_append]; omega) ?_ (by simp) (fun e he => by obtain ⟨x, _, rfl⟩ := List.mem_map.1 he; rw [encA, List.length_map, hR])
  have e1 : (l1 ++ encA R z ++ l2).take (i.toNat * k + fo) = l1 ++ (encA R z).take fo := by
    rw [List.append_assoc, List.take_append, List.take_of_length_le (by omega), h2, show i.toNat * k + fo - i.toNat * k = fo from by omega, List.take_append_of_le_length (by omega)]
  have e2 : (l1 ++ encA R z ++ l2).drop (i.toNat * k + fo + n) = (encA R z).drop (fo + n) ++ l2 := by
    rw [List.append_assoc, List.drop_append, List.drop_eq_nil_of_le (by omega), h2, show i.toNat * k + fo + n - i.toNat * k = fo + n from by omega, List.nil_append, List.drop_append_of_le_length (by omega)]
  rw [h1, h3, hz', e1, e2]
  simp [List.append_assoc]
end
end Go.Sk
namespace Go.Sk
open Go.RowKit (Below)

inductive LK where
  | int (k : IntKind)
  | bool
  | str

def LK.fits : LK → Value → Bool
  | .int k, .int k' _ => decide (k = k')
  | .bool, .bool _ => true
  | .str, .string _ => true
  | _, _ => false
def fitsL : List LK → List Value → Bool
  | [], [] => true
  | k :: ks, v :: vs => k.fits v && fitsL ks vs
  | _, _ => false
def eqLeaf : Value → Value → Bool
  | .int _ a, .int _ b => decide (a = b)
  | .bool a, .bool b => a == b
  | .string a, .string b => a.toList == b.toList
  | _, _ => false
def eqL : List Value → List Value → Bool
  | [], [] => true
  | x :: xs, y :: ys => eqLeaf x y && eqL xs ys
  | _, _ => false

mutual
/-- The leaves of a type. -/
def leafK (P : Program) : Nat → TypeId → Option (List LK)
  | 0, _ => none
  | d + 1, T => match P.underlying T with
    | some (.int k) => some [.int k]
    | some .bool => some [.bool]
    | some .string => some [.str]
    | some (.struct fs) => if P.stoodInHeld T then none else leafF P d fs.toList 0
    | _ => none
def leafF (P : Program) : Nat → List Field → Nat → Option (List LK)
  | _, [], _ => some []
  | 0, _ :: _, _ => none
  | d + 1, f :: fs, off => if f.name ≠ "_" ∧ f.offset = off then
      match leafK P d f.type, szOf P f.type with
      | some ks, some n => if ks.length = n ∧ (aggOf P f.type = some true ∨ (aggOf P f.type = some false ∧ n = 1)) then (leafF P d fs (off + n)).map (ks ++ ·) else none
      | _, _ => none
    else none
end

theorem fitsL_len : ∀ {ks : List LK} {vs : List Value}, fitsL ks vs = true → vs.length = ks.length
  | [], [], _ => rfl
  | k :: ks, v :: vs, h => by simp only [fitsL, Bool.and_eq_true] at h; simp [fitsL_len h.2]
  | [], _ :: _, h => by simp [fitsL] at h
  | _ :: _, [], h => by simp [fitsL] at h
theorem fitsL_append : ∀ {ks ls : List LK} {vs : List Value}, fitsL (ks ++ ls) vs = true → fitsL ks (vs.take ks.length) = true ∧ fitsL ls (vs.drop ks.length) = true
  | [], ls, vs, h => by simpa [fitsL] using h
  | k :: ks, ls, [], h => by simp [fitsL] at h
  | k :: ks, ls, v :: vs, h => by
    simp only [List.cons_append, fitsL, Bool.and_eq_true] at h
    obtain ⟨h1, h2⟩ := fitsL_append h.2
    simp [fitsL, h.1, h1, h2]
theorem eqL_append : ∀ {xs ys us vs : List Value}, xs.length = ys.length → eqL (xs ++ us) (ys ++ vs) = (eqL xs ys && eqL us vs)
  | [], [], us, vs, _ => by simp [eqL]
  | x :: xs, y :: ys, us, vs, h => by simp only [List.cons_append, eqL, eqL_append (xs := xs) (ys := ys) (by simpa using h), Bool.and_assoc]
  | [], _ :: _, _, _, h => by simp at h
  | _ :: _, [], _, _, h => by simp at h

def descAgg : TypeDesc → Bool | .struct _ => true | .array _ _ => true | _ => false
theorem aggOf_of {P : Program} {T : TypeId} {u : TypeDesc} (hu : P.underlying T = some u) : aggOf P T = some (descAgg u) := by
  unfold aggOf; rw [hu]; cases u <;> rfl
theorem aggOf_isAgg {P : Program} {T : TypeId} {b : Bool} (h : aggOf P T = some b) (w : World) : (isAgg T).run P w = .ok b w := by
  unfold aggOf at h
  cases hu : P.underlying T with
  | none => simp [hu] at h
  | some u =>
    simp only [hu, Option.map_some, Option.some.injEq] at h
    subst h
    simp only [isAgg, Sem.run_bind, run_underlying hu, Result.andThen_ok]
    cases u <;> simp
theorem run_sizeOf2 {P : Program} {T : TypeId} {n : Nat} (h : szOf P T = some n) (w : World) : (sizeOf T).run P w = .ok n w := by
  unfold szOf at h
  cases hi : P.info? T with
  | none => simp [hi] at h
  | some i =>
    simp only [hi, Option.map_some, Option.some.injEq] at h
    simp [sizeOf, typeInfo, hi, h]

theorem run_equal_leaf {P : Program} (w : World) : ∀ (d : Nat), 
    (∀ (T : TypeId) (ks : List LK) (n : Nat) (xs ys : List Value), leafK P d T = some ks → d ≤ n → fitsL ks xs = true → fitsL ks ys = true →
      (aggOf P T = some true → (Op.equalIn n T (.agg ⟨xs⟩) (.agg ⟨ys⟩)).run P w = .ok (eqL xs ys) w) ∧
      (aggOf P T = some false → ∀ x y, xs = [x] → ys = [y] → (Op.equalIn n T x y).run P w = .ok (eqL xs ys) w)) ∧
    (∀ (fs : List Field) (off : Nat) (ks : List LK) (n : Nat) (xs ys : List Value), leafF P d fs off = some ks → d ≤ n → fitsL ks (xs.drop off) = true → fitsL ks (ys.drop off) = true → xs.length = ys.length →
      (Op.eqFields n ⟨xs⟩ ⟨ys⟩ fs).run P w = .ok (eqL (xs.drop off) (ys.drop off)) w)
  | 0 => by
    constructor
    · intro T ks n xs ys h; simp [leafK] at h
    · intro fs off ks n xs ys h hn h1 h2 hl
      cases fs with
      | nil =>
        simp only [leafF, Option.some.injEq] at h
        subst h
        have a1 := fitsL_len h1
        have a2 := fitsL_len h2
        rw [List.eq_nil_of_length_eq_zero a1, List.eq_nil_of_length_eq_zero a2]
        simp [Op.eqFields, eqL]
      | cons f fs => simp [leafF] at h
  | d + 1 => by
    obtain ⟨ihK, ihF⟩ := run_equal_leaf w d
    constructor
    · intro T ks n xs ys h hn h1 h2
      obtain ⟨n, rfl⟩ : ∃ n', n = n' + 1 := ⟨n - 1, by omega⟩
      simp only [leafK] at h
      cases hu : P.underlying T with
      | none => simp [hu] at h
      | some u =>
        rw [hu] at h
        have hag := aggOf_of hu
        cases u with
        | int k =>
          simp only [Option.some.injEq] at h
          subst h
          refine ⟨fun h => by simp [hag, descAgg] at h, fun _ x y hx hy => ?_⟩
          subst hx; subst hy
          simp only [fitsL, Bool.and_true] at h1 h2
          cases x <;> simp only [LK.fits, Bool.false_eq_true] at h1
          cases y <;> simp only [LK.fits, Bool.false_eq_true] at h2
          simp only [decide_eq_true_eq] at h1 h2
          subst h1; subst h2
          rw [run_equalIn_int w n T _ k _ _ hu]
          simp [eqL, eqLeaf, Int.beq_dec]
        | bool =>
          simp only [Option.some.injEq] at h
          subst h
          refine ⟨fun h => by simp [hag, descAgg] at h, fun _ x y hx hy => ?_⟩
          subst hx; subst hy
          simp only [fitsL, Bool.and_true] at h1 h2
          cases x <;> simp only [LK.fits, Bool.false_eq_true] at h1
          cases y <;> simp only [LK.fits, Bool.false_eq_true] at h2
          rw [run_equalIn_bool' w n T _ _ hu]
          simp [eqL, eqLeaf]
        | string =>
          simp only [Option.some.injEq] at h
          subst h
          refine ⟨fun h => by simp [hag, descAgg] at h, fun _ x y hx hy => ?_⟩
          subst hx; subst hy
          simp only [fitsL, Bool.and_true] at h1 h2
          cases x <;> simp only [LK.fits, Bool.false_eq_true] at h1
          cases y <;> simp only [LK.fits, Bool.false_eq_true] at h2
          rw [run_equalIn_string w n T _ _ hu]
          simp [eqL, eqLeaf]
        | struct fs =>
          simp only at h
          split at h
          · cases h
          · rename_i hst
            refine ⟨fun _ => ?_, fun h => by simp [hag, descAgg] at h⟩
            have hf : P.fieldsOf T = fs := by simp [Program.fieldsOf, hu]
            rw [run_equalIn_struct w n T ⟨xs⟩ ⟨ys⟩ (by rw [hf, hu]) (by simpa using hst), hf]
            have := ihF fs.toList 0 ks n xs ys h (by omega) (by simpa using h1) (by simpa using h2) (by rw [fitsL_len h1, fitsL_len h2])
            simpa using this
        | _ => simp at h
    · intro fs off ks n xs ys h hn h1 h2 hl
      cases fs with
      | nil =>
        simp only [leafF, Option.some.injEq] at h
        subst h
        have a1 := fitsL_len h1
        have a2 := fitsL_len h2
        rw [List.eq_nil_of_length_eq_zero a1, List.eq_nil_of_length_eq_zero a2]
        simp [Op.eqFields, eqL]
      | cons f fs =>
        simp only [leafF] at h
        split at h
        · rename_i hc
          obtain ⟨hname, hoff⟩ := hc
          split at h
          · rename_i ks1 m hk1 hm
            split at h
            · rename_i hc2
              obtain ⟨hlen, hag⟩ := hc2
              obtain ⟨ks2, hks2, rfl⟩ := Option.map_eq_some_iff.1 h
              obtain ⟨f1, f2⟩ := fitsL_append h1
              obtain ⟨g1, g2⟩ := fitsL_append h2
              have lx := fitsL_len h1
              have ly := fitsL_len h2
              simp only [List.length_append, List.length_drop] at lx ly
              have key : ∀ zs : List Value, zs.length = xs.length → (part f.type ⟨zs⟩ f.offset).run P w = .ok (if aggOf P f.type = some true then .agg ⟨(zs.drop off).take m⟩ else ((zs.drop off)[0]?).getD undef) w := by
                intro zs hz
                rcases hag with hag | ⟨hag, hm1⟩
                · rw [if_pos hag]
                  simp only [part, Sem.run_bind, aggOf_isAgg hag, Result.andThen_ok, if_true, run_sizeOf2 hm, Sem.run_pure]
                  rw [hoff]
                  congr 2
                  apply Array.toList_inj.mp
                  simp [List.extract_eq_take_drop]
                · rw [if_neg (by rw [hag]; simp)]
                  simp only [part, Sem.run_bind, aggOf_isAgg hag, Result.andThen_ok, Bool.false_eq_true, if_false]
                  have : off < zs.length := by omega
                  simp [hoff, this]
              have hmain : (Op.equalIn n f.type (if aggOf P f.type = some true then .agg ⟨(xs.drop off).take m⟩ else ((xs.drop off)[0]?).getD undef) (if aggOf P f.type = some true then .agg ⟨(ys.drop off).take m⟩ else ((ys.drop off)[0]?).getD undef)).run P w = .ok (eqL ((xs.drop off).take m) ((ys.drop off).take m)) w := by
                obtain ⟨i1, i2⟩ := ihK f.type ks1 n _ _ hk1 (by omega) f1 g1
                rw [hlen] at i1 i2
                rcases hag with hag | ⟨hag, hm1⟩
                · rw [if_pos hag, if_pos hag]; exact i1 hag
                · rw [if_neg (by rw [hag]; simp), if_neg (by rw [hag]; simp)]
                  have ex : ∀ zs : List Value, zs.length = xs.length → (zs.drop off).take m = [((zs.drop off)[0]?).getD undef] := by
                    intro zs hz
                    have : off < zs.length := by omega
                    subst hm1
                    rw [List.drop_eq_getElem_cons this]
                    rfl
                  exact i2 hag _ _ (ex xs rfl) (ex ys hl.symm)
              have hrest := ihF fs (off + m) ks2 n xs ys hks2 (by omega) (by rw [List.drop_drop, hlen] at f2; exact f2) (by rw [List.drop_drop, hlen] at g2; exact g2) hl
              have hsplit : eqL (xs.drop off) (ys.drop off) = (eqL ((xs.drop off).take m) ((ys.drop off).take m) && eqL (xs.drop (off + m)) (ys.drop (off + m))) := by
                conv => lhs; rw [← List.take_append_drop m (xs.drop off), ← List.take_append_drop m (ys.drop off)]
                rw [eqL_append (by simp only [List.length_take, List.length_drop]; omega), List.drop_drop, List.drop_drop]
              simp only [Op.eqFields, if_pos hname, Sem.run_bind, key xs rfl, key ys hl.symm, Result.andThen_ok, hmain]
              rw [hsplit]
              cases hb : eqL ((xs.drop off).take m) ((ys.drop off).take m) with
              | false => simp
              | true => simpa using hrest
            · cases h
          · cases h
        · cases h

/-- the leaves of data -/
def leafD : D → Option Value
  | .v x => some x
  | _ => none

section
variable {P : Program} {env : Env} {st : List AO} {dst : Option Tmp} {ty : TypeId} {pos : String} {after : Array Edge} {guard : Option (Nat × Bool)}

theorem RFs_vals {φ w} : ∀ {vs cs : List Value}, RFs φ w (vs.map D.v) cs → cs = vs
  | [], cs, h => by simpa [RFs] using h
  | v :: vs, cs, h => by
    simp only [List.map_cons, RFs, RD] at h
    obtain ⟨c, cs', rfl, rfl, h⟩ := h
    rw [RFs_vals h]

def leafOk (P : Program) (T : TypeId) : Option (List LK) := bif P.eqGuardType P.depth T then none else match aggOf P T with | some true => leafK P 100 T | _ => none
theorem y_nest {x y : Operand} {T T' : TypeId} {xa ya : AV} {xs ys : List Value} {ks : List LK} {b : Bool} (hT : leafOk P T = some ks) (hx : opv env x = some xa) (hlx : Le xa (.d (.ag (xs.map D.v)))) (hy : opv env y = some ya) (hly : Le ya (.d (.ag (ys.map D.v)))) (h1 : fitsL ks xs = true) (h2 : fitsL ks ys = true) (hb : eqL xs ys = b) :
    Yields P env st ⟨dst, .binOp .neq T x y T', ty, pos, after, guard⟩ (.d (.v (.bool (!b)))) := fun m φ a w _ he => by
  unfold leafOk at hT
  cases hg : P.eqGuardType P.depth T with
  | true => rw [hg] at hT; cases hT
  | false =>
    rw [hg] at hT
    simp only [cond_false] at hT
    split at hT
    · rename_i hag
      have ex := hlx _ _ _ _ (opv_ok he hx)
      have ey := hly _ _ _ _ (opv_ok he hy)
      simp only [RA, RD] at ex ey
      obtain ⟨cs, e1, e2⟩ := ex
      obtain ⟨ds, e3, e4⟩ := ey
      have e5 := RFs_vals e2
      rw [e5] at e1
      have e6 := RFs_vals e4
      rw [e6] at e3
      refine ⟨_, RAv, fun w' _ => ?_⟩
      have := ((run_equal_leaf (P := P) w' 100).1 T ks 10000 xs ys hT (by decide) h1 h2).1 hag
      simp only [execOp, e1, e3, Sem.run_bind, run_eqGuard_agg w' .neq T x y ⟨xs⟩ ⟨ys⟩ hg, Result.andThen_ok, run_neq_struct w' T ⟨xs⟩ ⟨ys⟩, this, hb]
      rfl
    · cases hT
end
end Go.Sk
namespace Go.Sk
open Go.RowKit (Below)

theorem rens_data (js : List Nat) : ∀ l : List D, AV.rens js (l.map AV.d) = l.map AV.d
  | [] => rfl
  | x :: l => by rw [List.map_cons, AV.rens, rens_data js l]; rfl
theorem ren_os {α : Type} (js : List Nat) (T k v : Nat) (E : α → List D) (L : List α) : AO.ren js (.os T k v (L.map (encA E))) = .os T k v (L.map (encA E)) := by
  simp only [AO.ren, List.map_map]
  congr 1
  apply List.map_congr_left
  intro x _
  exact rens_data js _
theorem cons_eq {α : Type} {a b : α} {l l' : List α} (h : a = b) (k : l = l') : a :: l = b :: l' := by rw [h, k]

section
variable {P : Program} {e : En} {ops : Array Oper} {l rest : List Oper} {env : Env} {st : List AO} {R : Env → List AO → Prop} {K : Ko}
theorem WL.winy {o : Oper} {d : Nat} {f : FuncId} {c : Call} {x : Operand} {first caps as as0 : List AV} {st0 st0' : List AO} {new new' : Nat → List AO} {y : D} (js : List Nat) (hop : o.op = .call c) (hx : c.callee = .value x)
    (hf : opv env x = some (.fn (.func f) first caps)) (has : opvs env c.args.toList = some as) (hc : Ctr P f as0 st0 (WinX st0.length y new)) (hl : Les (first ++ as ++ caps) (AV.rens js as0))
    (hla : AV.lts js.length as0 = true) (hj : js.Nodup) (hren0 : st0.map (AO.ren js) = st0') (hwin : isWin js st st0') (hlt : stLt js.length st0 = true) (hlive : allLive st0 = true) (hnew : ∀ i, stLt js.length (new i) = true)
    (hren : ∀ i, (new i).map (AO.ren js) = new' i)
    (hw : Wt ops env o true) (ho : o.dst = some d) (hd : Nat.ble (d + 1) e.n = true) (h : ∀ i, WL P e ops rest ((d, .d y) :: env) (putWin js (new' i) st) R) : WL P e ops (o :: rest) env st R :=
  WL.winx js hop hx hf has hc hl hla hj (by rw [hren0]; exact hwin) hlt hlive hnew hw ho hd (fun i => by rw [hren i]; exact h i)
end
end Go.Sk
namespace Go.Sk
open Go.RowKit (Below)

section
variable {P : Program} {e : En} {ops : Array Oper} {l rest : List Oper} {env : Env} {st : List AO} {R : Env → List AO → Prop} {K : Ko}
variable {dst : Option Tmp} {ty : TypeId} {pos : String} {after : Array Edge} {guard : Option (Nat × Bool)}

theorem RD_nil {φ w} {ds : List (List D)} {y : Value} (h : RD φ w (.sl ds) y) : ∃ a l c, y = .slice a l c ∧ (a.isNone = true → ds = []) := by
  simp only [RD] at h
  rcases h with ⟨rfl, a, cp, rfl, _⟩ | ⟨b, off, k, cap, rfl, _⟩
  · exact ⟨_, _, _, rfl, fun _ => rfl⟩
  · exact ⟨_, _, _, rfl, fun h => by simp at h⟩

/-- Whether a slice is nil, its data does not say; if it is, it has no elements. -/
theorem WL.isnil {T T' E d : Nat} {x : Operand} {xr : AV} {ds : List (List D)} {bo : BinOp} (neg : Bool) (hb : bo = bif neg then .neq else .eql) (hT : P.underlying T = some (.slice E)) (hx : opv env x = some xr) (hl : Le xr (.d (.sl ds)))
    (hw : Wt ops env ⟨some d, .binOp bo T x (.const (.slice none 0 0)) T', ty, pos, after, guard⟩ true) (hd : Nat.ble (d + 1) e.n = true) (h : ∀ b : Bool, (b = true → ds = []) → WL P e ops rest ((d, .d (.v (.bool (b != neg)))) :: env) st R) :
    WL P e ops (⟨some d, .binOp bo T x (.const (.slice none 0 0)) T', ty, pos, after, guard⟩ :: rest) env st R := fun m φ a w hi => by
  have h1 := hl _ _ _ _ (opv_ok hi.env hx)
  simp only [RA] at h1
  obtain ⟨ad, ll, cc, h2, h3⟩ := RD_nil h1
  unfold wpLx
  rw [if_pos (hw _ _ _ _ hi.env)]
  refine .inl ?_
  have hrun : (execOp a.eval ⟨some d, .binOp bo T x (.const (.slice none 0 0)) T', ty, pos, after, guard⟩).run P w = .ok (.value (.bool (ad.isNone != neg))) w := by
    subst hb
    cases neg
    · have hc : a.eval (.const (.slice none 0 0)) = .slice none 0 0 := rfl
      simp [execOp, h2, hc, eqGuard, binOp, run_equal_slice_nil w T E ad ll cc hT]
    · have hc : a.eval (.const (.slice none 0 0)) = .slice none 0 0 := rfl
      simp [execOp, h2, hc, eqGuard, binOp, run_equal_slice_nil w T E ad ll cc hT]
  simp only [Oper.wp, hrun, Oper.upon]
  exact h ad.isNone h3 m φ _ w (hi.put (Nat.le_of_ble_eq_true hd) RAv)

theorem WL.cast (t : Nat) {x y : AV} (ht : env.get t = some x) (hl : Le x y) (h : WL P e ops rest ((t, y) :: env) st R) : WL P e ops rest env st R :=
  WL.sub (Sub.cons ht hl (Sub.refl env)) h
theorem boolCases (b : Bool) : b = true ∨ b = false := by cases b <;> simp

/-- A slice of no elements. -/
theorem b_buildNone {T el k by_ : Nat} (hT : eltOf P T = some (el, k, by_)) : DoesB P env st ⟨dst, .buildSlice T 0 #[], ty, pos, after, guard⟩ (.fs []) st := fun m φ a w hs he => by
  obtain ⟨i, ht, hi, rfl, rfl⟩ := eltOf_spec hT
  have hso : (sizeOf el).run P w = .ok i.size w := by simp [sizeOf, typeInfo, hi]
  have hb : Below w.heap.size w (w.alloc (.cells #[] el)) := (Below.refl _ _).alloc (Nat.le_refl _) _
  refine ⟨.slice (some ⟨w.heap.size, 0, none⟩) 0 0, w.alloc (.cells #[] el), m, φ, ?_, Ev.of_below hs hb, hs.of_below hb, ?_, hb⟩
  · simp [execOp, Instr.buildSlice, run_underlying ht, hso, Instr.fill, newRow]
    have : Array.map (fun x => (default : Value)) (Array.range 0) = #[] := by apply Array.toList_inj.mp; simp
    rw [this]
  · simp only [RA, RD]
    exact ⟨.inr ⟨w.heap.size, 0, 0, 0, rfl, Nat.le_refl _, by simp, by simp [REs]⟩, _, rfl⟩

theorem b_appendFd {T el k by_ : Nat} {zs : List Value} {s x : Operand} {xr : AV} {c : Call} {α : Type} {E R : α → List D} (L L2 : List α) (hER : ∀ x, E x = R x) (hT : eltOf P T = some (el, k, by_)) (hz : zeroOf P el = some zs) (hzl : zs.length = k) (hk : 0 < k)
    (hc : c = ⟨.builtin .append, #[s, x], #[T, T]⟩) (hs : opv env s = some (.fs (L.map E))) (hx : opv env x = some xr) (hsrc : Src st xr k (L2.map (encA R))) (hR : ∀ x, (R x).length = k) (hok : appOk by_ L L2 = true) :
    DoesB P env st ⟨dst, .call c, ty, pos, after, guard⟩ (.d (.sl ((L ++ L2).map E))) st := by
  by_cases h0 : 0 < L2.length
  · exact (n_appendLfs L L2 hER hT hz hzl hk hc hs hx hsrc hR h0 hok).data (encA_map hER _)
  · have hL2 : L2 = [] := List.eq_nil_of_length_eq_zero (by omega)
    subst hL2
    rw [List.append_nil]
    intro m φ a w hsr he
    have hv := opv_ok he hs
    obtain ⟨news, n1, n2, n3⟩ := hsrc m φ w _ hsr (opv_ok he hx)
    obtain ⟨i, ht, hi, rfl, rfl⟩ := eltOf_spec hT
    simp only [RA] at hv
    obtain ⟨hv1, a0, hv2⟩ := hv
    refine ⟨a.eval s, w, m, φ, ?_, Ev.refl m φ w, hsr, by simpa [RA] using hv1, Below.refl _ _⟩
    subst hc
    rcases n3 with ⟨n3, _⟩ | ⟨ax, cx, hxv, _⟩
    · cases a0 <;> simp [execOp, resolve, invoke, builtin, Builtin.append_, hv2, n3, run_underlying ht, sizeOf, typeInfo, hi, Builtin.lenOf, Builtin.firstCells, storeCells]
    · simp at hxv
      cases a0 <;> simp [execOp, resolve, invoke, builtin, Builtin.append_, hv2, hxv, run_underlying ht, sizeOf, typeInfo, hi, Builtin.lenOf, Builtin.firstCells, storeCells, loadCells, loadCellsFrom]
end
end Go.Sk
namespace Go.Sk
open Go.RowKit (Below)

def nilV : Value := .slice none 0 0

/-- The same object, each of its cells turned. -/
def AO.mapc (f : AV → AV) : AO → AO
  | .row T cs => .row T (cs.map f)
  | .os T k v es => .os T k v (es.map fun e => e.map f)
  | .mp es => .mp (es.map fun p => (p.1, f p.2))
  | .fam T k v ess => .fam T k v (ess.map fun es => es.map fun e => e.map f)
  | .si s p => .si s p
  | .lp s vs a b => .lp s (vs.map f) a b
  | .rsv => .rsv
  | .dead => .dead
theorem RAs.mapc {m m' : List Cz} {φ φ' : Nat → Nat} {w w' : World} {f : AV → AV} (hf : ∀ x v, RA m φ w x v → RA m' φ' w' (f x) v) : ∀ {xs : List AV} {vs : List Value}, RAs m φ w xs vs → RAs m' φ' w' (xs.map f) vs
  | [], vs, h => by simpa [RAs] using h
  | x :: xs, vs, h => by
    simp only [RAs] at h
    obtain ⟨c, cs, rfl, h2, h3⟩ := h
    exact RAs_cons (hf x c h2) (RAs.mapc hf h3)
theorem flatten_mapc (f : AV → AV) : ∀ es : List (List AV), (es.map fun e => e.map f).flatten = es.flatten.map f
  | [] => rfl
  | e :: es => by simp only [List.map_cons, List.flatten_cons, flatten_mapc f es, List.map_append]

theorem ownsRow_congr {w w' : World} {T k n : Nat} {y : Value} {xs : List Value} (h : w.ownsRow 0 T k y n xs) (hb : ∀ b, y.ownBlock = some b → w'.heap[b]? = w.heap[b]?) : w'.ownsRow 0 T k y n xs := by
  refine ⟨h.1, ?_⟩
  rcases h.2 with g | ⟨g, cap, cur, rfl, q1, q2, q3⟩
  · exact .inl g
  · exact .inr ⟨g, cap, cur, rfl, q1, (hb g rfl).trans q2, q3⟩

theorem OR.mapc {m m' : List Cz} {φ φ' : Nat → Nat} {w w' : World} {c : Cz} {o : AO} {f : AV → AV} (h : OR m φ w o c) (hf : ∀ x v, RA m φ w x v → RA m' φ' w' (f x) v) (hb : ∀ b, c.has b → w'.heap[b]? = w.heap[b]? ∧ φ' b = φ b) : OR m' φ' w' (o.mapc f) c := by
  cases o with
  | row T cs =>
    obtain ⟨b, rfl, h0, vs, h1, h2⟩ := h
    have := hb b rfl
    exact ⟨b, rfl, this.2.trans h0, vs, this.1.trans h1, RAs.mapc hf h2⟩
  | os T k ver es =>
    obtain ⟨y, xs, rfl, h1, h2, h3, h4⟩ := h
    refine ⟨y, xs, rfl, ?_, by rw [flatten_mapc]; exact RAs.mapc hf h2, fun e he => ?_, fun b hy => (hb b hy).2.trans (h4 b hy)⟩
    · rw [List.length_map]; exact ownsRow_congr h1 fun b hy => (hb b hy).1
    · obtain ⟨e', he', rfl⟩ := List.mem_map.1 he
      rw [List.length_map]; exact h3 e' he'
  | mp es =>
    obtain ⟨b, rfl, h0, l, cl, h1, h2, h3⟩ := h
    have := hb b rfl
    refine ⟨b, rfl, this.2.trans h0, l, cl, this.1.trans h1, by rw [h2]; simp, ?_⟩
    have := RAs.mapc hf h3
    rw [List.map_map] at this ⊢
    exact this
  | fam T k ver ess =>
    obtain ⟨ys, rfl, h1, h2, h3⟩ := h
    refine ⟨ys, rfl, by rw [List.length_map]; exact h1, fun j es y hj hy => ?_, h3⟩
    rw [List.getElem?_map, Option.map_eq_some_iff] at hj
    obtain ⟨es', hj', rfl⟩ := hj
    obtain ⟨xs, g1, g2, g3, g4⟩ := h2 j es' y hj' hy
    have hh : ∀ b, y.ownBlock = some b → w'.heap[b]? = w.heap[b]? ∧ φ' b = φ b := fun b hy' => hb b ⟨y, List.mem_of_getElem? hy, hy'⟩
    refine ⟨xs, by rw [List.length_map]; exact ownsRow_congr g1 fun b hy => (hh b hy).1, by rw [flatten_mapc]; exact RAs.mapc hf g2, fun e he => ?_, fun b hy' => (hh b hy').2.trans (g4 b hy')⟩
    obtain ⟨e', he', rfl⟩ := List.mem_map.1 he
    rw [List.length_map]; exact g3 e' he'
  | si s p =>
    obtain ⟨b, rfl, h0, h1⟩ := h
    have := hb b rfl
    exact ⟨b, rfl, this.2.trans h0, this.1.trans h1⟩
  | lp s vs a b =>
    obtain ⟨b, rfl, h0, r, us, h1, h2, h3⟩ := h
    have := hb b rfl
    exact ⟨b, rfl, this.2.trans h0, r, us, this.1.trans h1, h2, RAs.mapc hf h3⟩
  | rsv => exact h
  | dead => trivial

/-! ### One is taken out -/
def takeF (fid ver j nid : Nat) : AV → AV
  | .osf f i v => if f = fid ∧ v = ver then (if i = j then .os nid 0 else .osf fid i (ver + 1)) else .osf f i v
  | x => x
/-! ### One is put back -/
def putF (fid ver nid v j : Nat) : AV → AV
  | .osf f i v' => if f = fid ∧ v' = ver ∧ i ≠ j then .osf fid i (ver + 1) else .osf f i v'
  | .os n v' => if n = nid ∧ v' = v then .osf fid j (ver + 1) else .os n v'
  | x => x

/-! ### All become data -/
def frzF (fid ver : Nat) (dss : List (List (List D))) : AV → AV
  | .osf f i v => if f = fid ∧ v = ver ∧ i < dss.length then .d (.sl (dss.getD i [])) else .osf f i v
  | x => x

end Go.Sk
namespace Go.Sk
open Go.RowKit (Below)

/-- The cells of a slice whose elements are the family's. -/
def famE (fid ver n : Nat) : List (List AV) := (List.range n).map fun i => [AV.osf fid i ver]
/-- The family's elements. -/
abbrev famM {α : Type} (R : α → List D) (L : List (List α)) : List (List (List AV)) := L.map fun l => l.map (encA R)
section
variable {P : Program} {e : En} {ops : Array Oper} {l rest : List Oper} {env : Env} {st : List AO} {R : Env → List AO → Prop} {K : Ko}

/-- Steps of the store alone. -/
def Gh (e : En) (env : Env) (st : List AO) (env' : Env) (st' : List AO) : Prop := ∀ m φ a w, Inv e m φ env st a w → ∃ m' φ', Inv e m' φ' env' st' a w
theorem Gh.wl {env' : Env} {st' : List AO} (h : Gh e env st env' st') (k : WL P e ops l env' st' R) : WL P e ops l env st R := fun m φ a w hi =>
  let ⟨m', φ', hi'⟩ := h m φ a w hi
  k m' φ' a w hi'
theorem Gh.we {x : Exit} {env' : Env} {st' : List AO} (h : Gh e env st env' st') (k : WE P e x K env' st') : WE P e x K env st := fun m φ a w hi =>
  let ⟨m', φ', hi'⟩ := h m φ a w hi
  k m' φ' a w hi'

/-- A new empty slice of ours. -/
theorem gh_push_os (T k : Nat) : Gh e env st env (st ++ [.os T k 0 []]) := fun _ _ _ _ hi =>
  let ⟨h1, h2⟩ := tok_nil (T := T) (k := k) hi.sr
  ⟨_, _, hi.go h1 h2⟩
end
end Go.Sk
namespace Go.Sk
open Go.RowKit (Below)

section
variable {P : Program} {env : Env} {st : List AO} {dst : Option Tmp} {ty : TypeId} {pos : String} {after : Array Edge} {guard : Option (Nat × Bool)}

end

/-! ### A slice of ours takes the place of another -/
section
variable {P : Program} {e : En} {ops : Array Oper} {l rest : List Oper} {env : Env} {st : List AO} {R : Env → List AO → Prop} {K : Ko}

/-- The object r moves to the place k, its version with it; slots and cells that hold it as it is now follow. -/
theorem gh_give (ts : List Nat) (cl : List (Nat × Nat)) (r k : Nat) {T kk ver vk : Nat} {es esk : List (List AV)} (hr : st[r]? = some (.os T kk ver es)) (hk : st[k]? = some (.os T kk vk esk)) (hne : Nat.beq r k = false)
    (ht : OsSlots env r ver ts) (hc : OsCells ((st.set r .dead).set k (.os T kk (vk + ver + 1) es)) r ver (.os k (vk + ver + 1)) cl) :
    Gh e env st (ts.map (fun t => (t, .os k (vk + ver + 1))) ++ env) (setCells (.os k (vk + ver + 1)) cl ((st.set r .dead).set k (.os T kk (vk + ver + 1) es))) := fun m φ a w hi => by
  have hne' : r ≠ k := fun h => by simp [h] at hne
  have hrl := (List.getElem?_eq_some_iff.1 hr).1
  have hkl := (List.getElem?_eq_some_iff.1 hk).1
  have hlen := hi.sr.len
  obtain ⟨cr, hcr⟩ : ∃ c, m[r]? = some c := ⟨_, List.getElem?_eq_getElem (by rw [hlen]; exact hrl)⟩
  obtain ⟨ck, hck⟩ : ∃ c, m[k]? = some c := ⟨_, List.getElem?_eq_getElem (by rw [hlen]; exact hkl)⟩
  obtain ⟨y, xs, rfl, p1, p2, p3, p4⟩ := hi.sr.obj r _ cr hr hcr
  obtain ⟨yk, xk, rfl, _⟩ := hi.sr.obj k _ ck hk hck
  let m' := m.set k (.tok (vk + ver + 1) y)
  have hm'k : m'[k]? = some (.tok (vk + ver + 1) y) := by simp [m', hlen, hkl]
  have hoth : ∀ i, i ≠ k → m'[i]? = m[i]? := fun i hi => by simp only [m']; rw [List.getElem?_set_ne (Ne.symm hi)]
  have hpre : Pre m m' := fun i d hd => by
    by_cases hik : i = k
    · subst hik
      rw [hck] at hd
      obtain rfl := Option.some.inj hd
      exact ⟨_, hm'k, .inr ⟨_, _, rfl, by omega⟩⟩
    · exact ⟨d, by rw [hoth i hik]; exact hd, Cz.le_refl d⟩
  have hnw : ∀ b, In m' b → In m b := by
    rintro b ⟨i, d, hd, hb⟩
    by_cases hik : i = k
    · subst hik
      rw [hm'k] at hd
      obtain rfl := Option.some.inj hd
      exact ⟨r, _, hcr, hb⟩
    · rw [hoth i hik] at hd
      exact ⟨i, d, hd, hb⟩
  have hev : Ev m φ w m' φ w := ⟨hpre, fun b h => .inl (hnw b h), rfl, rfl, rfl, Nat.le_refl _, fun _ _ _ => ⟨rfl, rfl⟩, Fz.refl φ w⟩
  have hsr : SR m' φ ((st.set r .dead).set k (.os T kk (vk + ver + 1) es)) w := by
    have get : ∀ (i : Nat) (p : AO), ((st.set r .dead).set k (.os T kk (vk + ver + 1) es))[i]? = some p → (i = k ∧ p = .os T kk (vk + ver + 1) es) ∨ (i = r ∧ p = .dead) ∨ (i ≠ k ∧ i ≠ r ∧ st[i]? = some p) := by
      intro i p hp
      by_cases hik : i = k
      · subst hik
        rw [List.getElem?_set_self (by simpa using hkl)] at hp
        exact .inl ⟨rfl, (Option.some.inj hp).symm⟩
      · rw [List.getElem?_set_ne (Ne.symm hik)] at hp
        by_cases hir : i = r
        · subst hir
          rw [List.getElem?_set_self hrl] at hp
          exact .inr (.inl ⟨rfl, (Option.some.inj hp).symm⟩)
        · rw [List.getElem?_set_ne (Ne.symm hir)] at hp
          exact .inr (.inr ⟨hik, hir, hp⟩)
    refine ⟨by simp [m', hlen], fun i p d hp hd => ?_, hi.sr.lt, fun i i' p p' d d' b hp hp' l1 l2 hd hd' hb hb' => ?_, hi.sr.gl, fun b h => hi.sr.nb b (hnw b h)⟩
    · rcases get i p hp with ⟨rfl, rfl⟩ | ⟨rfl, rfl⟩ | ⟨g1, g2, g3⟩
      · rw [hm'k] at hd
        obtain rfl := Option.some.inj hd
        exact ⟨y, xs, rfl, p1, RAs.mono hpre (Fz.refl φ w) _ _ p2, p3, p4⟩
      · trivial
      · rw [hoth i g1] at hd
        exact (hi.sr.obj i p d g3 hd).congr hpre (Fz.refl φ w) (fun _ _ => ⟨rfl, rfl⟩)
    · have src : ∀ (i : Nat) (p : AO) (d : Cz), ((st.set r .dead).set k (.os T kk (vk + ver + 1) es))[i]? = some p → p.live = true → m'[i]? = some d → d.has b → ∃ (i0 : Nat) (p0 : AO) (d0 : Cz), st[i0]? = some p0 ∧ p0.live = true ∧ m[i0]? = some d0 ∧ d0.has b ∧ ((i = k ∧ i0 = r) ∨ (i = i0 ∧ i ≠ k ∧ i ≠ r)) := by
        intro i p d hp l1 hd hb
        rcases get i p hp with ⟨rfl, rfl⟩ | ⟨rfl, rfl⟩ | ⟨g1, g2, g3⟩
        · rw [hm'k] at hd
          obtain rfl := Option.some.inj hd
          exact ⟨r, _, _, hr, rfl, hcr, hb, .inl ⟨rfl, rfl⟩⟩
        · cases l1
        · rw [hoth i g1] at hd
          exact ⟨i, p, d, g3, l1, hd, hb, .inr ⟨rfl, g1, g2⟩⟩
      obtain ⟨i0, p0, d0, a1, a2, a3, a4, a5⟩ := src i p d hp l1 hd hb
      obtain ⟨i1, p1, d1, b1, b2, b3, b4, b5⟩ := src i' p' d' hp' l2 hd' hb'
      have e := hi.sr.inj i0 i1 p0 p1 d0 d1 b a1 b1 a2 b2 a3 b3 a4 b4
      rcases a5 with ⟨a6, a7⟩ | ⟨a6, a7, a8⟩ <;> rcases b5 with ⟨b6, b7⟩ | ⟨b6, b7, b8⟩ <;> omega
  have hi2 := hi.go hev hsr
  have hval : ∀ v, RA m φ w (.os r ver) v → RA m' φ w (.os k (vk + ver + 1)) v := by
    intro v hv
    simp only [RA] at hv ⊢
    obtain ⟨v0, y0, q1, q2, q3⟩ := hv
    rw [hcr] at q1
    simp only [Option.some.injEq, Cz.tok.injEq] at q1
    obtain ⟨rfl, rfl⟩ := q1
    have := q3 rfl
    subst this
    exact ⟨_, _, hm'k, Nat.le_refl _, fun _ => rfl⟩
  have hcells : ∀ (cl : List (Nat × Nat)) (s : List AO), SR m' φ s w → OsCells s r ver (.os k (vk + ver + 1)) cl → SR m' φ (setCells (.os k (vk + ver + 1)) cl s) w := by
    intro cl
    induction cl with
    | nil => intro s h _; exact h
    | cons c cl ih =>
      obtain ⟨i, off⟩ := c
      intro s h hc
      obtain ⟨T', cs, h1, h2, h3⟩ := hc
      simp only [setCells, h1]
      refine ih _ ?_ h3
      refine h.alter (o := .row T' cs) h1 rfl ?_
      rintro c hc2 ⟨b, rfl, q2, vs, q3, q4⟩
      obtain ⟨v', p1, p2⟩ := RAs_get q4 h2
      refine ⟨b, rfl, q2, vs, q3, RAs_set1 q4 p1 ?_⟩
      -- the cell holds r's slice also in m'
      simp only [RA] at p2 ⊢
      obtain ⟨v0, y0, k1, k2, k3⟩ := p2
      rw [hoth r hne', hcr] at k1
      simp only [Option.some.injEq, Cz.tok.injEq] at k1
      obtain ⟨rfl, rfl⟩ := k1
      have := k3 rfl
      subst this
      exact ⟨_, _, hm'k, Nat.le_refl _, fun _ => rfl⟩
  refine ⟨m', φ, hcells cl _ hi2.sr hc, hi2.ev, ⟨?_, hi2.env.gl⟩, hi2.sz, hi2.df⟩
  clear hc
  induction ts with
  | nil => exact hi2.env.get
  | cons t ts ih =>
    intro s x hx
    simp only [List.map_cons, List.cons_append] at hx
    unfold Env.get at hx
    cases hb : Nat.beq s t with
    | true =>
      rw [hb] at hx
      simp only [cond_true, Option.some.injEq] at hx
      subst hx
      have : s = t := Nat.eq_of_beq_eq_true hb
      subst this
      obtain ⟨v, g1, g2⟩ := hi.env s _ ht.1
      exact ⟨v, g1, hval v g2⟩
    | false => rw [hb] at hx; exact ih ht.2 s x hx

/-- What a function gives that works on k objects of ours, with results that may hang on these. -/
def WinA (k : Nat) (x : Nat → AV) (new : Nat → List AO) (r : AV) (st1 : List AO) : Prop := ∃ i, r = x i ∧ k ≤ st1.length ∧ st1.take k = new i

theorem WL.wina {o : Oper} {d : Nat} {f : FuncId} {c : Call} {x : Operand} {first caps as as0 : List AV} {st0 st0' : List AO} {new new' : Nat → List AO} {y y' : Nat → AV} (js : List Nat) (hop : o.op = .call c) (hx : c.callee = .value x)
    (hf : opv env x = some (.fn (.func f) first caps)) (has : opvs env c.args.toList = some as) (hc : Ctr P f as0 st0 (WinA st0.length y new)) (hl : Les (first ++ as ++ caps) (AV.rens js as0))
    (hla : AV.lts js.length as0 = true) (hj : js.Nodup) (hren0 : st0.map (AO.ren js) = st0') (hwin : isWin js st st0') (hlt : stLt js.length st0 = true) (hlive : allLive st0 = true) (hnew : ∀ i, stLt js.length (new i) = true)
    (hren : ∀ i, (new i).map (AO.ren js) = new' i) (hyl : ∀ i, (y i).lt js.length = true) (hy : ∀ i, (y i).ren js = y' i)
    (hw : Wt ops env o true) (ho : o.dst = some d) (hd : Nat.ble (d + 1) e.n = true) (h : ∀ i, WL P e ops rest ((d, y' i) :: env) (putWin js (new' i) st) R) : WL P e ops (o :: rest) env st R := fun m φ a w hi => by
  obtain ⟨vs, h1, h2⟩ := run_call (P := P) hi.env hop hx hf has hc.1
  unfold wpLx
  rw [if_pos (hw _ _ _ _ hi.env)]
  refine .inl ?_
  simp only [Oper.wp, h2, Oper.upon, ho]
  refine (win_call hc hi.sr h1 hl hla hj (by rw [hren0]; exact hwin) hlt hlive).mono ?_
  rintro en w' ⟨v, r, st1, m1, φ', rfl, ⟨i, rfl, q1, q2⟩, hQ, hra⟩
  obtain ⟨m', hev, hsr, hr⟩ := hQ q1 (by rw [q2]; exact hnew i)
  have := hr (hyl i)
  rw [q2, hren i] at hsr
  exact h i m' φ' _ w' (hi.ev_put hev hsr (Nat.le_of_ble_eq_true hd) (by rw [← hy i]; exact this))
theorem we_ret_wina {fn : Func} {φ0 w0 n m0} {x : Nat → AV} {r : AV} {new : Nat → List AO} {k : Nat} (i : Nat) (hr : Res P fn env st r) (hl : Le r (x i)) (hk : Nat.ble k st.length = true) (hs : SLe (st.take k) (new i)) : WE P ⟨m0, φ0, w0, n, none⟩ .ret (.fin fn (WinA k x new)) env st := by
  have hk := Nat.le_of_ble_eq_true hk
  have hwk : SLe st (new i ++ st.drop k) := by
    have : ∀ (k : Nat) (st new : List AO), SLe (st.take k) new → SLe st (new ++ st.drop k) := by
      intro k
      induction k with
      | zero =>
        intro st new h
        cases new with
        | nil => exact SLe.refl _
        | cons a l => exact h.elim
      | succ k ih =>
        intro st new h
        cases st with
        | nil =>
          cases new with
          | nil => exact trivial
          | cons a l => exact h.elim
        | cons b st =>
          cases new with
          | nil => exact h.elim
          | cons a l => exact ⟨h.1, ih st l h.2⟩
    exact this k st _ hs
  have hnl : (new i).length = k := by rw [hs.length, List.length_take]; omega
  refine we_ret_weak hr hl hwk ⟨i, rfl, ?_, ?_⟩
  · rw [List.length_append, hnl]; omega
  · rw [← hnl, List.take_left]
end
end Go.Sk
namespace Go.Sk
open Go.RowKit (Below)

section
variable {P : Program} {env : Env} {st : List AO} {dst : Option Tmp} {ty : TypeId} {pos : String} {after : Array Edge} {guard : Option (Nat × Bool)}

/-- A box that is never written: data at once. -/
theorem b_boxd {T : TypeId} {x : Operand} {r : AV} {ds : List D} (hx : opv env x = some r) (hk : r.okc = true) (hc : Les r.cells (ds.map .d)) : DoesB P env st ⟨dst, .box T x, ty, pos, after, guard⟩ (.d (.pc ds)) st := fun m φ a w hs he => by
  obtain ⟨vs, h1, h2⟩ := RA_cells (opv_ok he hx) hk
  have h2' := RFs_of_RAs (hc.ras h2)
  let w' := w.alloc (.cells ⟨vs⟩ T)
  let φ' : Nat → Nat := fun b => if b = w.heap.size then ds.length else φ b
  have hb : Below w.heap.size w w' := (Below.refl _ _).alloc (Nat.le_refl _) _
  have hF : Fz φ w φ' w' := fun b off c g1 g2 => by
    have hlt := lt_of_frozen hs g1
    refine ⟨?_, by rw [cell?_congr (hb.block b hlt)]; exact g2⟩
    show off < if b = w.heap.size then ds.length else φ b
    rw [if_neg (by omega)]; exact g1
  have hk' : ∀ b, b < w.heap.size → w'.heap[b]? = w.heap[b]? ∧ φ' b = φ b := fun b hlt => ⟨hb.block b hlt, if_neg (by omega)⟩
  have hlt : ∀ b, w'.heap.size ≤ b → φ' b = 0 := fun b h => by
    have h3 : w'.heap.size = w.heap.size + 1 := by simp [w']
    show (if b = w.heap.size then ds.length else φ b) = 0
    rw [if_neg (by omega)]; exact hs.lt b (by omega)
  refine ⟨.pointer (some ⟨w.heap.size, 0, none⟩), w', m, φ', by simp [execOp, Instr.box, newVar, newRow, h1, w'], ⟨Pre.refl m, fun _ h => .inl h, hb.os, hb.tape, hb.output, hb.size, fun b h _ => hk' b h, hF⟩, hs.of_keep hk' hF hlt, ?_, hb⟩
  simp only [RA, RD]
  refine ⟨_, 0, rfl, RPs_of_cells (RFs.mono hF _ _ h2') fun j v hj => ?_⟩
  have hjl : j < vs.length := lt_len hj
  have hvl := RFs_length h2'
  refine ⟨?_, ?_⟩
  · show 0 + j < if w.heap.size = w.heap.size then ds.length else φ w.heap.size
    rw [if_pos rfl]; omega
  · have : w'.heap[w.heap.size]? = some (.cells ⟨vs⟩ T (0, 0)) := heap_alloc_new w _
    unfold World.cell?
    simp only [this]
    simpa using hj
end

/-! ### Function values -/
theorem Le.fnc {f : Fn} {a b : List AV} {a' b' : List D} (h : Les a (a'.map .d)) (k : Les b (b'.map .d)) : Le (.fn f a b) (.d (.fnc f a' b')) := fun _ _ _ _ hh => by
  simp only [RA, RD] at hh ⊢
  obtain ⟨fs, cs, h1, h2, h3⟩ := hh
  exact ⟨fs, cs, h1, RFs_of_RAs (h.ras h2), RFs_of_RAs (k.ras h3)⟩
theorem Le.fncd (f : Fn) (a b : List D) : Le (.d (.fnc f a b)) (.fn f (a.map .d) (b.map .d)) := fun _ _ _ _ hh => by
  simp only [RA, RD] at hh ⊢
  obtain ⟨fs, cs, h1, h2, h3⟩ := hh
  exact ⟨fs, cs, h1, RAs_of_RFs h2, RAs_of_RFs h3⟩
theorem Les.app : ∀ {xs ys us vs : List AV}, Les xs ys → Les us vs → Les (xs ++ us) (ys ++ vs)
  | [], [], _, _, _, k => k
  | _x :: _xs, _y :: _ys, _, _, h, k => ⟨h.1, Les.app h.2 k⟩
  | [], _ :: _, _, _, h, _ => h.elim
  | _ :: _, [], _, _, h, _ => h.elim
theorem Les.mid {fi ca : List D} {as : List AV} {ds : List D} (h : Les as (ds.map .d)) : Les (fi.map .d ++ as ++ ca.map .d) ((fi ++ ds ++ ca).map .d) := by
  rw [List.map_append, List.map_append]
  exact Les.app (Les.app (Les.refl _) h) (Les.refl _)

/-! ### Pointers -/
def ptrD {α : Type} (R : α → List D) : Option α → D
  | none => .v (.pointer none)
  | some c => .pc (R c)
section
variable {P : Program} {env : Env} {st : List AO} {dst : Option Tmp} {ty : TypeId} {pos : String} {after : Array Edge} {guard : Option (Nat × Bool)}
end
end Go.Sk
namespace Go.Sk
open Go.RowKit (Below)

/-- The byte at a place. -/
def sIdx (s : ByteArray) (i : Int) : Option Int := if h : 0 ≤ i ∧ i < s.size then some ((s[i.toNat]'(by omega)).toNat : Int) else none
/-- A piece. -/
def sCut (s : ByteArray) (l h : Int) : Option ByteArray := bif decide (0 ≤ h) && decide (h ≤ (s.size : Int)) && decide (0 ≤ l) && decide (l ≤ h) then some (s.extract l.toNat h.toNat) else none

section
variable {P : Program} {env : Env} {st : List AO} {dst : Option Tmp} {ty : TypeId} {pos : String} {after : Array Edge} {guard : Option (Nat × Bool)}

end
end Go.Sk
namespace Go.Sk
open Go.RowKit (Below)
open Go.MapKept (IsKey sameNow_of_keys run_getObj_map run_setObj_map run_checkKey run_findKey run_keyThatStays)
section
variable {P : Program} {env : Env} {st : List AO} {dst : Option Tmp} {ty : TypeId} {pos : String} {after : Array Edge} {guard : Option (Nat × Bool)}
variable {κ α : Type} [DecidableEq κ]
end
end Go.Sk
namespace Go.Sk
open Go.RowKit (Below)

/-- Surely one cell, or a struct whose cells are known, as the store is. -/
def AV.okS (st : List AO) : AV → Bool
  | .os id ver => match st[id]? with | some (.os _ _ v _) => Nat.beq v ver | _ => false
  | x => x.okc

theorem RA_cellsS {m φ w st} {x : AV} {y : Value} (hs : SR m φ st w) (h : RA m φ w x y) (hk : x.okS st = true) : ∃ vs, y.cells = ⟨vs⟩ ∧ RAs m φ w x.cells vs := by
  cases x with
  | os id ver =>
    simp only [AV.okS] at hk
    split at hk
    · rename_i T k v es hi
      obtain rfl := Nat.eq_of_beq_eq_true hk
      exact ⟨[y], (one_os hi m φ w y hs h).2, RAs_cons h RAs_nil⟩
    · cases hk
  | u => exact RA_cells h hk
  | d z => exact RA_cells h hk
  | ag ps => exact RA_cells h hk
  | pt id off => exact RA_cells h hk
  | sr id off len cap => exact RA_cells h hk
  | fn f a b => exact RA_cells h hk
  | mp id => exact RA_cells h hk
  | tu l => exact RA_cells h hk
  | pe id v off => exact RA_cells h hk
  | ow id v off len lo => exact RA_cells h hk
  | fs es => exact RA_cells h hk
  | ifc t x => exact RA_cells h hk
  | osf id j v => exact RA_cells h hk
  | yl id => exact RA_cells h hk

def fillAVS (st : List AO) (place : Nat → Option (Nat × Nat)) (cells : List AV) : List (Nat × AV) → Option (List AV)
  | [] => some cells
  | (i, v) :: rest =>
    match place i with
    | none => none
    | some (off, size) =>
      bif Nat.beq v.cells.length size && Nat.ble (off + v.cells.length) cells.length && v.okS st then fillAVS st place (cells.take off ++ (v.cells ++ cells.drop (off + size))) rest
      else none

section
variable {P : Program} {env : Env} {st : List AO} {dst : Option Tmp} {ty : TypeId} {pos : String} {after : Array Edge} {guard : Option (Nat × Bool)}
end
end Go.Sk
namespace Go.Sk
open Go.RowKit (Below)

/-- A place for an object that an operation of a region will make. -/
theorem fill_ok {m φ w m' φ' w'} {st : List AO} {obj : AO} {id : Nat} {c : Cz} (hs : SR m φ st w) (hid : st[id]? = some .rsv) (hlt : stLt st.length (st ++ [obj]) = true) (he : Ev m φ w m' φ' w') (hs' : SR m' φ' (st ++ [obj]) w') (hc : m'[st.length]? = some c) :
    Ev m φ w ((m'.take st.length).set id c) φ' w' ∧ SR ((m'.take st.length).set id c) φ' (st.set id obj) w' ∧ ((m'.take st.length).set id c)[id]? = some c := by
  have hidl := (List.getElem?_eq_some_iff.1 hid).1
  have hml : m'.length = st.length + 1 := by rw [hs'.len]; simp
  have htl : (m'.take st.length).length = st.length := by rw [List.length_take, hml]; omega
  have hnon : m'[id]? = some .non := by
    have h1 : (st ++ [obj])[id]? = some .rsv := by rw [List.getElem?_append_left hidl]; exact hid
    obtain ⟨c', h2⟩ : ∃ c', m'[id]? = some c' := ⟨_, List.getElem?_eq_getElem (by omega)⟩
    have := hs'.obj id _ c' h1 h2
    simp only [OR] at this
    rw [h2, this]
  have hget : ∀ i, i ≠ id → i < st.length → ((m'.take st.length).set id c)[i]? = m'[i]? := fun i hi hil => by
    rw [List.getElem?_set_ne (Ne.symm hi), List.getElem?_take, if_pos hil]
  have hself : ((m'.take st.length).set id c)[id]? = some c := by rw [List.getElem?_set_self (by rw [htl]; exact hidl)]
  have hpre : Pre (m'.take st.length) ((m'.take st.length).set id c) := fun i x hx => by
    by_cases hi : i = id
    · subst hi
      rw [List.getElem?_take, if_pos hidl, hnon] at hx
      simp only [Option.some.injEq] at hx
      subst hx
      exact ⟨c, hself, trivial⟩
    · exact ⟨x, by rw [List.getElem?_set_ne (Ne.symm hi)]; exact hx, Cz.le_refl x⟩
  -- an object of the new store is one of the old
  have old : ∀ (i : Nat) (o : AO) (x : Cz), (st.set id obj)[i]? = some o → ((m'.take st.length).set id c)[i]? = some x → ∃ j, (st ++ [obj])[j]? = some o ∧ m'[j]? = some x ∧ (i = id ∧ j = st.length ∨ i ≠ id ∧ j = i ∧ i < st.length) := fun i o x h1 h2 => by
    by_cases hi : i = id
    · subst hi
      rw [List.getElem?_set_self hidl] at h1
      rw [hself] at h2
      simp only [Option.some.injEq] at h1 h2
      subst h1; subst h2
      exact ⟨st.length, by simp, hc, .inl ⟨rfl, rfl⟩⟩
    · rw [List.getElem?_set_ne (Ne.symm hi)] at h1
      have hil := (List.getElem?_eq_some_iff.1 h1).1
      rw [hget i hi hil] at h2
      exact ⟨i, by rw [List.getElem?_append_left hil]; exact h1, h2, .inr ⟨hi, rfl, hil⟩⟩
  have hF : Fz φ' w' φ' w' := Fz.refl _ _
  refine ⟨⟨fun i x hx => ?_, fun b hb => ?_, he.os, he.tape, he.output, he.size, he.keep, he.fz⟩, ⟨by rw [List.length_set, List.length_set, htl], fun i o x h1 h2 => ?_, hs'.lt, fun i j o o' x x' b h1 h2 l1 l2 g1 g2 b1 b2 => ?_, hs'.gl, fun b hb => ?_⟩, hself⟩
  rotate_right
  · obtain ⟨i, x, h1, h2⟩ := hb
    by_cases hi : i = id
    · subst hi
      rw [hself] at h1
      simp only [Option.some.injEq] at h1
      subst h1
      exact hs'.nb b ⟨_, _, hc, h2⟩
    · rw [List.getElem?_set_ne (Ne.symm hi), List.getElem?_take] at h1
      split at h1
      · exact hs'.nb b ⟨_, _, h1, h2⟩
      · cases h1
  · have hil : i < st.length := by rw [← hs.len]; exact (List.getElem?_eq_some_iff.1 hx).1
    obtain ⟨y, hy, hle⟩ := he.pre i x hx
    obtain ⟨z, hz, hle2⟩ := hpre i y (by rw [List.getElem?_take, if_pos hil]; exact hy)
    exact ⟨z, hz, Cz.le_trans hle hle2⟩
  · obtain ⟨i, x, h1, h2⟩ := hb
    by_cases hi : i = id
    · subst hi
      rw [hself] at h1
      simp only [Option.some.injEq] at h1
      subst h1
      exact he.new b ⟨_, _, hc, h2⟩
    · rw [List.getElem?_set_ne (Ne.symm hi), List.getElem?_take] at h1
      split at h1
      · exact he.new b ⟨_, _, h1, h2⟩
      · cases h1
  · obtain ⟨j, h3, h4, _⟩ := old i o x h1 h2
    have h5 := OR.take (n := st.length) (stLt_get hlt h3) (hs'.obj j o x h3 h4)
    exact h5.congr hpre (Fz.refl _ _) (fun _ _ => ⟨rfl, rfl⟩)
  · obtain ⟨i', p1, p2, p3⟩ := old i o x h1 g1
    obtain ⟨j', q1, q2, q3⟩ := old j o' x' h2 g2
    have := hs'.inj i' j' o o' x x' b p1 q1 l1 l2 p2 q2 b1 b2
    rcases p3 with ⟨rfl, rfl⟩ | ⟨hi, rfl, hil⟩ <;> rcases q3 with ⟨rfl, rfl⟩ | ⟨hj, rfl, hjl⟩
    · rfl
    · omega
    · omega
    · exact this

section
variable {P : Program} {env : Env} {st : List AO} {o : Oper}

theorem DoesB.fill {r r2 : AV} {obj : AO} (h : DoesB P env st o r (st ++ [obj])) (id : Nat) (hid : st[id]? = some .rsv) (hlt : stLt st.length (st ++ [obj]) = true)
    (hr : (∃ off, r = .pt st.length off ∧ r2 = .pt id off) ∨ (∃ v, r = .os st.length v ∧ r2 = .os id v) ∨ (r = .mp st.length ∧ r2 = .mp id)) : DoesB P env st o r2 (st.set id obj) := fun m φ a w hs he => by
  obtain ⟨v, w', m', φ', h1, h2, h3, h4, h5⟩ := h m φ a w hs he
  have hml : m'.length = st.length + 1 := by rw [h3.len]; simp
  obtain ⟨c, hc⟩ : ∃ c, m'[st.length]? = some c := ⟨_, List.getElem?_eq_getElem (by omega)⟩
  obtain ⟨g1, g2, g3⟩ := fill_ok hs hid hlt h2 h3 hc
  refine ⟨v, w', _, φ', h1, g1, g2, ?_, h5⟩
  rcases hr with ⟨off, rfl, rfl⟩ | ⟨ver, rfl, rfl⟩ | ⟨rfl, rfl⟩
  · simp only [RA] at h4 ⊢
    obtain ⟨b, q1, q2⟩ := h4
    rw [hc] at q1
    exact ⟨b, g3.trans q1, q2⟩
  · simp only [RA] at h4 ⊢
    obtain ⟨ver0, y0, q1, q2⟩ := h4
    rw [hc] at q1
    exact ⟨ver0, y0, g3.trans q1, q2⟩
  · simp only [RA] at h4 ⊢
    obtain ⟨b, q1, q2⟩ := h4
    rw [hc] at q1
    exact ⟨b, g3.trans q1, q2⟩
end

/-- A new empty slice of ours, of no cells. -/
theorem n_buildNone {P : Program} {env : Env} {st : List AO} {dst : Option Tmp} {ty : TypeId} {pos : String} {after : Array Edge} {guard : Option (Nat × Bool)} {T el k by_ : Nat} (hT : eltOf P T = some (el, k, by_)) : NewOs P env st ⟨dst, .buildSlice T 0 #[], ty, pos, after, guard⟩ el k [] := fun m φ a w hs he => by
  obtain ⟨i, ht, hi, rfl, rfl⟩ := eltOf_spec hT
  have hso : (sizeOf el).run P w = .ok i.size w := by simp [sizeOf, typeInfo, hi]
  have hb : Below w.heap.size w (w.alloc (.cells #[] el)) := (Below.refl _ _).alloc (Nat.le_refl _) _
  have hF := Fz.alloc hs (.cells #[] el)
  have hk : ∀ b, b < w.heap.size → (w.alloc (.cells #[] el)).heap[b]? = w.heap[b]? := fun b hb => heap_alloc_lt hb
  have hnew : ∀ b, (Cz.tok 0 (.slice (some ⟨w.heap.size, 0, none⟩) 0 0)).has b → w.heap.size ≤ b := fun b hb => by simp only [Cz.has, Value.ownBlock, Option.some.injEq] at hb; omega
  refine ⟨.slice (some ⟨w.heap.size, 0, none⟩) 0 0, w.alloc (.cells #[] el), ?_, Ev.push hs hF hk (by simp) rfl rfl rfl hnew, SR.push hs hF hk (by simp) ?_ hnew, hb, fun b hb => by simp only [Value.ownBlock, Option.some.injEq] at hb; omega⟩
  · simp [execOp, Instr.buildSlice, run_underlying ht, hso, Instr.fill, newRow]
    have : Array.map (fun x => (default : Value)) (Array.range 0) = #[] := by apply Array.toList_inj.mp; simp
    rw [this]
  · refine ⟨_, [], rfl, ⟨by simp, .inr ⟨w.heap.size, 0, #[], rfl, Nat.zero_le _, heap_alloc_new w _, Nat.le_refl _, Nat.zero_le _, by simp, by simp⟩⟩, by simp [RAs], by simp, fun b hb => ?_⟩
    simp only [Value.ownBlock, Option.some.injEq] at hb
    exact hs.lt _ (by omega)

/-! ### Regions -/
def upB (k : Nat) (es : List Nat) (c : List Bool) : List Bool := List.zipWith (fun e b => b || Nat.beq e k) es c
def allB : Nat → List (List Bool)
  | 0 => [[]]
  | n + 1 => (allB n).map (false :: ·) ++ (allB n).map (true :: ·)
/-- A table of stores. -/
def tblB (tbl : List (List Bool × List AO)) (c : List Bool) : List AO := match tbl with
  | [] => []
  | (k, st) :: r => bif k == c then st else tblB r c

def ObT (P : Program) (e : En) (l : List Oper) (rs : List AV) (base : Env) (s s' : List AO) (k : Nat) (o : Oper) (pk bk : List Nat) : Prop :=
  ∀ F : Env, WL P e l.toArray [o] (ekOf l rs base pk bk ++ F) s fun env' st' => st' = s' ∧ ∃ pre, env' = pre ++ (ekOf l rs base pk bk ++ F) ∧
    (∀ t x, pre.get t = some x → o.dst = some t) ∧ ∀ d r, o.dst = some d → rs[k]? = some r → pre.get d = some r
def ObCT (P : Program) (e : En) (l : List Oper) (rs : List AV) (base : Env) (sts : List Bool → List AO) (es : List Nat) (k : Nat) (o : Oper) (pk bk : List Nat) : List (List Bool) → Prop
  | [] => True
  | c :: cs => ObT P e l rs base (sts c) (sts (upB k es c)) k o pk bk ∧ ObCT P e l rs base sts es k o pk bk cs
def ObsT (P : Program) (e : En) (l : List Oper) (rs : List AV) (base : Env) (sts : List Bool → List AO) (es : List Nat) : Nat → List Oper → List (List Nat × List Nat × List (List Bool)) → Prop
  | k, o :: ol, p :: ps => ObCT P e l rs base sts es k o p.1 p.2.1 p.2.2 ∧ ObsT P e l rs base sts es (k + 1) ol ps
  | _, _, _ => True
def allOkT (l : List Oper) (tc : List (List Nat)) (es : List Nat) (plan : List (List Nat × List Nat × List (List Bool))) : Bool :=
  tcOk l tc && nodupB (l.filterMap (·.dst)) && Nat.beq plan.length l.length &&
  (List.range l.length).all fun k => match plan[k]? with
    | none => false
    | some (pk, bk, cs) => (pk.all fun j => (tc.getD k []).contains j) &&
      (bk.all fun x => (List.range l.length).all fun j => match l[j]? with | some o => !(o.dst == some x) || Nat.beq j k || (tc.getD j []).contains k | none => true) &&
      (allB es.length).all fun c => cs.contains c || (es.zip c).any fun p => (p.2 && (Nat.beq p.1 k || (tc.getD p.1 []).contains k)) || (!p.2 && (tc.getD k []).contains p.1) ||
        (p.2 && (es.zip c).any fun q => !q.2 && (tc.getD p.1 []).contains q.1)

section
variable {P : Program} {e : En} {l : List Oper} {rs : List AV} {base : Env} {sts : List Bool → List AO} {es : List Nat}

def AtT (e : En) (l : List Oper) (rs : List AV) (base : Env) (sts : List Bool → List AO) (es : List Nat) (L : Nat → Bool) (a : Act) (w : World) : Prop :=
  ∃ m φ, Inv e m φ (FL base L (regOf l rs 0)) (sts (es.map L)) a w

end
end Go.Sk
namespace Go.Sk
open Go.RowKit (Below)

theorem flatten_dropK {α : Type} {k : Nat} : ∀ (l : List (List α)) (n : Nat), (∀ e ∈ l, e.length = k) → (l.drop n).flatten = l.flatten.drop (n * k)
  | [], n, _ => by simp
  | e :: l, 0, _ => by simp
  | e :: l, n + 1, hl => by
    have he := hl e (by simp)
    have ih := flatten_dropK l n (fun e he => hl e (by simp [he]))
    have h1 : e.drop ((n + 1) * k) = [] := List.drop_of_length_le (by rw [he, Nat.succ_mul]; omega)
    have h2 : (n + 1) * k - k = n * k := by rw [Nat.succ_mul]; omega
    rw [List.drop_succ_cons, List.flatten_cons, ih, List.drop_append, he, h1, List.nil_append, h2]
theorem flatten_takeK {α : Type} {k : Nat} : ∀ (l : List (List α)) (n : Nat), (∀ e ∈ l, e.length = k) → (l.take n).flatten = l.flatten.take (n * k)
  | [], n, _ => by simp
  | e :: l, 0, _ => by simp
  | e :: l, n + 1, hl => by
    have he := hl e (by simp)
    have ih := flatten_takeK l n (fun e he => hl e (by simp [he]))
    have h1 : e.take ((n + 1) * k) = e := List.take_of_length_le (by rw [he, Nat.succ_mul]; omega)
    have h2 : (n + 1) * k - k = n * k := by rw [Nat.succ_mul]; omega
    rw [List.take_succ_cons, List.flatten_cons, List.flatten_cons, ih, List.take_append, he, h1, h2]

theorem WL.st {P : Program} {e : En} {ops : Array Oper} {rest : List Oper} {env : Env} {st st' : List AO} {R : Env → List AO → Prop} (hs : st = st') (h : WL P e ops rest env st' R) : WL P e ops rest env st R := hs ▸ h

/-- A slice that nobody looks into. -/
structure SlV where
  a : Option Addr
  n : Nat
  c : Nat
abbrev SlV.v (x : SlV) : Value := .slice x.a x.n x.c

/-- x is the piece of the object id from its element lo on, len elements. -/
def Piece (st : List AO) (x : AV) (id ver off len lo : Nat) : Prop :=
  x = .ow id ver off len lo ∨ (x = .os id ver ∧ off = 0 ∧ lo = 0 ∧ ∃ T k es, st[id]? = some (.os T k ver es) ∧ len = es.length)
theorem Piece.ow {st : List AO} {id ver off len lo : Nat} : Piece st (.ow id ver off len lo) id ver off len lo := .inl rfl
theorem Piece.os {st : List AO} {id ver len T k : Nat} {es : List (List AV)} (h : st[id]? = some (.os T k ver es)) (hl : es.length = len) : Piece st (.os id ver) id ver 0 len 0 := .inr ⟨rfl, rfl, rfl, T, k, es, h, hl.symm⟩

section
variable {P : Program} {env : Env} {st : List AO} {dst : Option Tmp} {ty : TypeId} {pos : String} {after : Array Edge} {guard : Option (Nat × Bool)}

theorem piece_val {m φ w} {x : AV} {v : Value} {id ver off len lo : Nat} {T k : Nat} {es : List (List AV)} (hs : SR m φ st w) (hx : Piece st x id ver off len lo) (h : RA m φ w x v) (hi : st[id]? = some (.os T k ver es)) :
    ∃ y xs, m[id]? = some (.tok ver y) ∧ w.ownsRow 0 T k y es.length xs ∧ RAs m φ w es.flatten xs ∧ (∀ e ∈ es, e.length = k) ∧ (∀ b, y.ownBlock = some b → φ b = 0) ∧
      ((y = .slice none 0 0 ∧ v = .slice none 0 0 ∧ len = 0) ∨ ∃ b n cap off', y = .slice (some ⟨b, 0, none⟩) n cap ∧ v = .slice (some ⟨b, off', none⟩) len (cap - lo) ∧ (off' = off ∨ len = 0)) := by
  rcases hx with rfl | ⟨rfl, rfl, rfl, T', k', es', hi', rfl⟩
  · simp only [RA] at h
    obtain ⟨v0, y0, g1, g2, g3⟩ := h
    obtain ⟨y, xs, e1, r1, r2, r3, r4⟩ := hs.obj id _ _ hi g1
    simp only [Cz.tok.injEq] at e1
    obtain ⟨rfl, rfl⟩ := e1
    exact ⟨y0, xs, g1, r1, r2, r3, r4, g3 rfl⟩
  · rw [hi] at hi'
    simp only [Option.some.injEq, AO.os.injEq, true_and] at hi'
    obtain ⟨rfl, rfl, rfl⟩ := hi'
    simp only [RA] at h
    obtain ⟨v0, y0, g1, g2, g3⟩ := h
    obtain ⟨y, xs, e1, r1, r2, r3, r4⟩ := hs.obj id _ _ hi g1
    simp only [Cz.tok.injEq] at e1
    obtain ⟨rfl, rfl⟩ := e1
    have := g3 rfl
    subst this
    refine ⟨v, xs, g1, r1, r2, r3, r4, ?_⟩
    rcases r1.2 with ⟨rfl, h0⟩ | ⟨g, cap, cur, rfl, _⟩
    · exact .inl ⟨rfl, rfl, h0⟩
    · exact .inr ⟨g, _, cap, 0, rfl, rfl, .inl rfl⟩

/-- A piece of a piece. -/
theorem y_slice_ow {T n : Nat} {bb : Bool} {x : Operand} {lo hi : Option Operand} {xr : AV} {id ver off len lo0 T' : Nat} {es : List (List AV)} {l h : Int} (hT : elemOf' P T = some (n, bb)) (hx : opv env x = some xr) (hp : Piece st xr id ver off len lo0) (hi' : st[id]? = some (.os T' n ver es))
    (hlo : BndI env lo 0 l) (hhi : BndI env hi len h) (h0 : 0 ≤ l) (h1 : l ≤ h) (h2 : h ≤ len) (hfit : lo0 + len ≤ es.length) :
    Yields P env st ⟨dst, .slice T x lo hi none, ty, pos, after, guard⟩ (.ow id ver (off + l.toNat * n) (h.toNat - l.toNat) (lo0 + l.toNat)) := fun m φ a w hsr he => by
  have hl := hlo.bnd h0
  have hh : Bnd env hi len h.toNat := hhi.bnd (by omega)
  obtain ⟨t, g1, g2, _⟩ := elemOf'_spec hT
  obtain ⟨y, xs, p1, p2, p3, p4, p5, p6⟩ := piece_val hsr hp (opv_ok he hx) hi'
  rcases p6 with ⟨rfl, q2, rfl⟩ | ⟨b, nn, cap, off', rfl, q2, q3⟩
  · have e1 : l = 0 := by omega
    have e2 : h = 0 := by omega
    subst e1; subst e2
    refine ⟨.slice none 0 0, by rw [RA]; exact ⟨_, _, p1, Nat.le_refl _, fun _ => .inl ⟨rfl, rfl, rfl⟩⟩, fun w' _ => ?_⟩
    have := run_sliceBounds (P := P) he hl hh (Nat.le_refl _) (Nat.le_refl 0) w'
    simp_all [execOp, Instr.sliceAt, run_underlying g1, Instr.slice, run_sizeOf' g2]
  · have hcap : es.length ≤ cap := by
      rcases p2.2 with ⟨hv, _⟩ | ⟨g, cap', cur, hv, _, _, r3, _⟩
      · cases hv
      · simp only [Value.slice.injEq] at hv; omega
    by_cases hcl : cap - lo0 = l.toNat
    · refine ⟨.slice (some ⟨b, off', none⟩) (h.toNat - l.toNat) (cap - lo0 - l.toNat), by simp only [RA]; exact ⟨_, _, p1, Nat.le_refl _, fun _ => .inr ⟨b, nn, cap, off', rfl, by rw [Nat.sub_sub], .inr (by omega)⟩⟩, fun w' _ => ?_⟩
      have := run_sliceBounds (P := P) (len := len) (cap := cap - lo0) he hl hh (by omega) (by omega) w'
      rw [hcl] at this ⊢
      simp [execOp, Instr.sliceAt, run_underlying g1, Instr.slice, q2, hcl, this, run_sizeOf' g2]
    · refine ⟨.slice (some ⟨b, off' + l.toNat * n, none⟩) (h.toNat - l.toNat) (cap - lo0 - l.toNat), by
        simp only [RA]
        refine ⟨_, _, p1, Nat.le_refl _, fun _ => .inr ⟨b, nn, cap, _, rfl, by rw [Nat.sub_sub], ?_⟩⟩
        rcases q3 with rfl | q3
        · exact .inl rfl
        · exact .inr (by omega), fun w' _ => ?_⟩
      have := run_sliceBounds (P := P) (len := len) (cap := cap - lo0) he hl hh (by omega) (by omega) w'
      simp [execOp, Instr.sliceAt, run_underlying g1, Instr.slice, q2, this, run_sizeOf' g2, hcl, Addr.add]

/-- What a piece holds. -/
theorem Src.ow {id ver off len lo T k : Nat} {es : List (List AV)} (hi : st[id]? = some (.os T k ver es)) (hoff : off = lo * k) (hfit : lo + len ≤ es.length) : Src st (.ow id ver off len lo) k ((es.drop lo).take len) := fun m φ w v hs h => by
  subst hoff
  obtain ⟨y, xs, p1, p2, p3, p4, p5, p6⟩ := piece_val hs Piece.ow h hi
  have hlen : ((es.drop lo).take len).length = len := by simp; omega
  have hd : ∀ e ∈ es.drop lo, e.length = k := fun e he => p4 e (List.mem_of_mem_drop he)
  refine ⟨(xs.drop (lo * k)).take (len * k), ?_, ?_, ?_⟩
  · rw [flatten_takeK _ _ hd, flatten_dropK _ _ p4]
    exact RAs_take _ (RAs_drop _ p3)
  · rw [hlen]
    have := RAs_length p3
    have hx : xs.length = es.length * k := p2.1
    rw [List.length_take, List.length_drop, hx, ← Nat.sub_mul]
    exact Nat.min_eq_left (Nat.mul_le_mul_right k (by omega))
  · rw [hlen]
    rcases p6 with ⟨_, h2, h3⟩ | ⟨b, n, cap, off', rfl, h2, h3⟩
    · exact .inl ⟨h2, h3⟩
    · refine .inr ⟨_, _, h2, fun j u hj => ?_⟩
      have hjl : j < len * k := by
        have := (List.getElem?_eq_some_iff.1 hj).1
        rw [List.length_take] at this; omega
      rw [List.getElem?_take, if_pos hjl, List.getElem?_drop] at hj
      rcases h3 with rfl | rfl
      · have := ownsRow_cell p2 hj
        rw [addr_add]; exact this
      · omega

theorem take_app_len {α : Type} {xs rest : List α} {n : Nat} (h : xs.length = n) : (xs ++ rest).take n = xs := by
  subst h; simp

def copyF {α : Type} (L : List α) (lo len : Nat) (L2 : List α) : List α := L.take lo ++ (L2.take (Nat.min L2.length len) ++ L.drop (lo + Nat.min L2.length len))
def pieceOk {α : Type} (L : List α) (lo len : Nat) : Bool := Nat.ble (lo + len) L.length

theorem y_sliceO {T n : Nat} {bb : Bool} {x : Operand} {lo hi : Option Operand} {id ver T' : Nat} {α : Type} {R : α → List D} (L : List α) {l h : Int} (hT : elemOf' P T = some (n, bb)) (hx : opv env x = some (.os id ver)) (hi' : st[id]? = some (.os T' n ver (L.map (encA R))))
    (hlo : BndI env lo 0 l) (hhi : BndI env hi L.length h) (hg : sliceOk L l h = true) :
    Yields P env st ⟨dst, .slice T x lo hi none, ty, pos, after, guard⟩ (.ow id ver (l.toNat * n) (h.toNat - l.toNat) l.toNat) := by
  simp only [sliceOk, Bool.and_eq_true, decide_eq_true_eq] at hg
  have := y_slice_ow (dst := dst) (ty := ty) (pos := pos) (after := after) (guard := guard) hT hx (Piece.os hi' (len := L.length) (by simp)) hi' hlo hhi hg.1.1 hg.1.2 hg.2 (by simp)
  simpa using this

end
end Go.Sk
namespace Go.Sk
open Go.RowKit (Below)

def AV.ok1S (st : List AO) : AV → Bool
  | .os id ver => match st[id]? with | some (.os _ _ v _) => Nat.beq v ver | _ => false
  | x => x.ok1

theorem RAs_oneS {m φ w st} (hs : SR m φ st w) : ∀ {xs : List AV} {vs : List Value}, RAs m φ w xs vs → xs.all (AV.ok1S st) = true → ∀ v ∈ vs, v.oneCell' = true
  | [], vs, h, _, v, hv => by simp only [RAs] at h; subst h; simp at hv
  | x :: xs, vs, h, hk, v, hv => by
    simp only [RAs] at h
    obtain ⟨c, cs, rfl, h2, h3⟩ := h
    simp only [List.all_cons, Bool.and_eq_true] at hk
    rcases List.mem_cons.1 hv with rfl | hv
    · have key : ∀ y : AV, RA m φ w y v → y.ok1S st = true → v.oneCell' = true := fun y hy hky => by
        cases y with
        | os id ver =>
          simp only [AV.ok1S] at hky
          split at hky
          · rename_i T k v' es hi
            obtain rfl := Nat.eq_of_beq_eq_true hky
            exact (one_os hi m φ w v hs hy).1
          · cases hky
        | _ => exact RA_one hy hky
      exact key x h2 hk.1
    · exact RAs_oneS hs h3 hk.2 v hv

section
variable {P : Program} {env : Env} {st : List AO} {dst : Option Tmp} {ty : TypeId} {pos : String} {after : Array Edge} {guard : Option (Nat × Bool)}
theorem d_storeS {T : TypeId} {x y : Operand} {id off n : Nat} {T' : TypeId} {cs : List AV} {r : AV} {rs : List AV} (hx : opv env x = some (.pt id off)) (hs : st[id]? = some (.row T' cs)) (hy : opv env y = some r) (hk : r.okS st = true) (hc : r.cells = rs) (hk1 : rs.all (AV.ok1S st) = true)
    (hn : szOf P T = some n) (hl : rs.length = n) (hlen : Nat.ble (off + n) cs.length = true) :
    Does P env st ⟨dst, .store T x y, ty, pos, after, guard⟩ (.d (.v undef)) (st.set id (.row T' (cs.take off ++ rs ++ cs.drop (off + n)))) := fun m φ a w hsr he => by
  obtain ⟨b, h1, h2⟩ := opv_pt he hx
  obtain ⟨b', hbb, _, vs, h3, h4⟩ := hsr.obj id _ _ hs h1
  simp only [Cz.blk.injEq] at hbb
  subst hbb
  obtain ⟨us, g1, g2⟩ := RA_cellsS hsr (opv_ok he hy) hk
  rw [hc] at g2
  have hul := RAs_length g2
  have hvl := RAs_length h4
  have hle := Nat.le_of_ble_eq_true hlen
  have hst := run_storeCells_at P b off T' us 0 ⟨vs⟩ w h3 (by simp; omega) (RAs_oneS hsr g2 hk1)
  simp only [Nat.add_zero, hul, hl] at hst
  have hnew : RAs m φ w (cs.take off ++ rs ++ cs.drop (off + n)) (vs.take off ++ us ++ vs.drop (off + n)) := RAs_append (RAs_append (RAs_take off h4) g2) (RAs_drop _ h4)
  obtain ⟨k1, k2⟩ := set_row hsr hs h1 hnew
  refine ⟨undef, _, m, φ, .inr ⟨?_, rfl⟩, k1, k2, RAv⟩
  have hsize : us.length = n := by omega
  simp [execOp, Instr.storeAt, Instr.sureAddr, h2, storeVar, g1, run_sizeOf' hn, hsize, hst]
end

/-! ### Short forms -/
section
variable {P : Program} {e : En} {ops : Array Oper} {rest : List Oper} {env : Env} {st : List AO} {R : Env → List AO → Prop} {ty : TypeId} {pos : String} {after : Array Edge} {d : Nat} {op : Op} {r : AV} {x : Operand} {k : Ko}
theorem WL.qn (hy : Yields P env st ⟨some d, op, ty, pos, after, none⟩ r) (hd : Nat.ble (d + 1) e.n = true) (h : WL P e ops rest ((d, r) :: env) st R) : WL P e ops (⟨some d, op, ty, pos, after, none⟩ :: rest) env st R := WL.q hy (Wt.none rfl) rfl hd h
theorem WL.mv (hx : opv env x = some r) (hd : Nat.ble (d + 1) e.n = true) (h : WL P e ops rest ((d, r) :: env) st R) : WL P e ops (⟨some d, .move x, ty, pos, after, none⟩ :: rest) env st R := WL.q (y_move hx) (Wt.none rfl) rfl hd h
theorem WL.as (hx : opv env x = some r) (hd : Nat.ble (d + 1) e.n = true) (h : WL P e ops rest ((d, r) :: env) st R) : WL P e ops (⟨some d, .assign x, ty, pos, after, none⟩ :: rest) env st R := WL.q (y_assign hx) (Wt.none rfl) rfl hd h
theorem wc_sr {id : Nat} {l : List Oper} {y : Code} (h : WL P e l.toArray l env st (fun env' st' => WE P e .normal (.seq y k) env' st')) (hd : noDefer l = true := by kernel_rfl) : WC P e (.seq (.region id l.toArray false) y) k env st := wc_seq (wc_region h hd)
theorem WL.ns {y : Code} (h : WC P e y k env st) : WL P e ops [] env st (fun env' st' => WE P e .normal (.seq y k) env' st') := WL.nil (we_seq h)
theorem WL.qy {j t : Nat} {b : Bool} (hy : Yields P env st ⟨some d, op, ty, pos, after, some (j, b)⟩ r) (hj : (ops[j]?).bind (·.dst) = some t) (hx : env.get t = some (.d (.v (.bool b)))) (hd : Nat.ble (d + 1) e.n = true) (h : WL P e ops rest ((d, r) :: env) st R) : WL P e ops (⟨some d, op, ty, pos, after, some (j, b)⟩ :: rest) env st R := WL.q hy (Wt.yes rfl hj hx) rfl hd h
theorem WQ.qn {n : Nat} {RQ : Env → Prop} (hy : Yields P env st ⟨some d, op, ty, pos, after, none⟩ r) (hd : Nat.ble (d + 1) n = true) (h : WQ P n ops rest ((d, r) :: env) st RQ) : WQ P n ops (⟨some d, op, ty, pos, after, none⟩ :: rest) env st RQ := WQ.q (Yields.quiet hy) (Wt.none rfl) rfl hd h
theorem WQ.qy {n j t : Nat} {b : Bool} {RQ : Env → Prop} (hy : Yields P env st ⟨some d, op, ty, pos, after, some (j, b)⟩ r) (hj : (ops[j]?).bind (·.dst) = some t) (hx : env.get t = some (.d (.v (.bool b)))) (hd : Nat.ble (d + 1) n = true) (h : WQ P n ops rest ((d, r) :: env) st RQ) : WQ P n ops (⟨some d, op, ty, pos, after, some (j, b)⟩ :: rest) env st RQ := WQ.q (Yields.quiet hy) (Wt.yes rfl hj hx) rfl hd h
end
end Go.Sk
namespace Go.Sk
section
variable {e : En} {env : Env} {st : List AO}
theorem gh_nil_os (t T k : Nat) (ht : env.get t = some (.d (.v (.slice none 0 0)))) : Gh e env st ((t, .os st.length 0) :: env) (st ++ [.os T k 0 []]) := fun _m φ _a _w hi =>
  let ⟨m', hi'⟩ := hi.nil_os (T := T) (k := k) ht
  ⟨m', φ, hi'⟩

end
end Go.Sk
namespace Go.Sk
open Go.RowKit (Below)

/-- The entry's round is that of the object id. -/
def Rd (e : En) (id : Nat) : Prop := ∃ l, e.rd = some l ∧ e.m[id]? = some (.blk l)

theorem fold_get : ∀ (ps : List Nat) (vals : List Value) (tm : Array Value), ps.Nodup → (∀ p ∈ ps, p < tm.size) →
    ((List.zip ps vals).foldl (fun tmps (x : Nat × Value) => tmps.setIfInBounds x.1 x.2) tm).size = tm.size ∧
    (∀ (i p : Nat) (v : Value), ps[i]? = some p → vals[i]? = some v → ((List.zip ps vals).foldl (fun tmps (x : Nat × Value) => tmps.setIfInBounds x.1 x.2) tm)[p]? = some v) ∧
    (∀ t, t ∉ ps → ((List.zip ps vals).foldl (fun tmps (x : Nat × Value) => tmps.setIfInBounds x.1 x.2) tm)[t]? = tm[t]?)
  | [], vals, tm, _, _ => by simp
  | p :: ps, [], tm, _, _ => by simp
  | p :: ps, v :: vals, tm, hn, hlt => by
    obtain ⟨n1, n2⟩ := List.nodup_cons.1 hn
    simp only [List.zip_cons_cons, List.foldl_cons]
    obtain ⟨h1, h2, h3⟩ := fold_get ps vals (tm.setIfInBounds p v) n2 (fun q hq => by simpa using hlt q (List.mem_cons_of_mem _ hq))
    refine ⟨by rw [h1]; simp, fun i q u hi hv => ?_, fun t ht => ?_⟩
    · cases i with
      | zero =>
        simp only [List.getElem?_cons_zero, Option.some.injEq] at hi hv
        subst hi; subst hv
        rw [h3 _ n1]
        simp [hlt p List.mem_cons_self]
      | succ i => exact h2 i q u (by simpa using hi) (by simpa using hv)
    · have h4 : t ≠ p := fun h => ht (by rw [h]; exact List.mem_cons_self)
      rw [h3 t (fun h => ht (List.mem_cons_of_mem _ h)), Array.getElem?_setIfInBounds_ne (Ne.symm h4)]

theorem zip_get : ∀ {ts : List Nat} {vs : List AV} {t : Nat} {x : AV}, Env.get (List.zip ts vs) t = some x → ∃ i : Nat, ts[i]? = some t ∧ vs[i]? = some x
  | [], vs, t, x, h => by simp [Env.get] at h
  | k :: ts, [], t, x, h => by simp [Env.get] at h
  | k :: ts, v :: vs, t, x, h => by
    simp only [List.zip_cons_cons] at h
    rw [Env.get_cons] at h
    split at h
    · rename_i ht
      simp only [Option.some.injEq] at h
      subst h; subst ht
      exact ⟨0, by simp, by simp⟩
    · obtain ⟨i, h1, h2⟩ := zip_get h
      exact ⟨i + 1, by simpa using h1, by simpa using h2⟩
theorem get_append {a b : Env} {t : Nat} : Env.get (a ++ b) t = match Env.get a t with | some x => some x | none => Env.get b t := by
  induction a with
  | nil => simp [Env.get]
  | cons p a ih =>
    obtain ⟨k, v⟩ := p
    rw [List.cons_append, Env.get_cons, Env.get_cons]
    split
    · rfl
    · exact ih
theorem zip_none : ∀ {ts : List Nat} {vs : List AV} {t : Nat}, ts.length = vs.length → Env.get (List.zip ts vs) t = none → t ∉ ts
  | [], vs, t, _, _ => by simp
  | k :: ts, [], t, hl, h => by simp at hl
  | k :: ts, v :: vs, t, hl, h => by
    simp only [List.zip_cons_cons] at h
    rw [Env.get_cons] at h
    split at h
    · cases h
    · rename_i hk
      have := zip_none (by simpa using hl) h
      simp [hk, this]

theorem set_self {α : Type} {m : List α} {i : Nat} {c : α} (h : m[i]? = some c) : m.set i c = m := by
  apply List.ext_getElem?
  intro j
  by_cases hj : j = i
  · subst hj; rw [List.getElem?_set_self (List.getElem?_eq_some_iff.1 h).1, h]
  · rw [List.getElem?_set_ne (Ne.symm hj)]

/-- The record of a loop turns. -/
theorem set_lp {m : List Cz} {φ : Nat → Nat} {st : List AO} {w : World} {id l : Nat} {o : AO} {r r' : Loop} (hs : SR m φ st w) (hi : st[id]? = some o) (hl : o.live = true) (hc : m[id]? = some (.blk l)) (hh : w.heap[l]? = some (.loop r)) {o' : AO} (hlv : o'.live = true ∨ (∀ b, (Cz.blk l).has b → (Cz.blk l).has b))
    (ho : ∀ w', w'.heap[l]? = some (.loop r') → Fz φ w φ w' → OR m φ w' o' (.blk l)) :
    Ev m φ w m φ (w.putObj l (.loop r')) ∧ SR m φ (st.set id o') (w.putObj l (.loop r')) := by
  have hlt := heap_lt hh
  have hF : Fz φ w φ (w.putObj l (.loop r')) := fun b off c h1 h2 => by
    refine ⟨h1, ?_⟩
    have hb : b ≠ l := fun h => by subst h; simp [World.cell?, hh] at h2
    rw [cell?_congr (putObj_other hb)]; exact h2
  have hm := set_self hc
  have := set_obj (m := m) (φ := φ) (φ' := φ) (st := st) (w := w) (w' := w.putObj l (.loop r')) (o' := o') (c' := .blk l) hs hi hl hc (Cz.le_refl _) rfl rfl rfl (by simp) (fun b _ hb => ⟨putObj_other (fun h => hb h.symm), rfl⟩) hF (fun b hb => hs.lt b (by simpa using hb)) (fun b h => .inl h)
    (by rw [hm]; exact ho _ (World.putObj_heap_same hlt) hF) hlv
  rwa [hm] at this

section
variable {P : Program} {e : En} {ops : Array Oper} {rest : List Oper} {o : Oper} {env : Env} {st : List AO} {R : Env → List AO → Prop} {d : Nat} {k : Ko}

theorem run_yieldcall {m φ w a} {c : Call} {x : Operand} {id l : Nat} {as : List AV} {r : Loop} (h : EnvOk m φ w env a) (hop : o.op = .call c) (hx : c.callee = .value x) (hf : opv env x = some (.yl id)) (has : opvs env c.args.toList = some as)
    (hm : m[id]? = some (.blk l)) (hh : w.heap[l]? = some (.loop r)) (hp : as.length = r.params.size) :
    ∃ vs, RAs m φ w as vs ∧ (execOp a.eval o).run P w = .ok (.round l r.fn ((r.params.zip ⟨vs⟩).foldl (fun tmps (t, a) => tmps.setIfInBounds t a) r.tmps) r.assign r.body) w := by
  have hv := opv_ok h hf
  simp only [RA] at hv
  obtain ⟨b, h1, h2⟩ := hv
  rw [hm] at h1
  simp only [Option.some.injEq, Cz.blk.injEq] at h1
  subst h1
  have h4 := opvs_ok h has
  refine ⟨c.args.toList.map a.eval, h4, ?_⟩
  have e1 : (#[] ++ c.args.map a.eval : Array Value) = ⟨c.args.toList.map a.eval⟩ := by
    apply Array.toList_inj.mp; simp
  have hl := RAs_length h4
  simp only [execOp, hop, resolve, hx, h2, Deferred.ofValue, Sem.run_bind, Sem.run_pure, Result.andThen_ok, invoke, e1]
  exact run_yield hh (by simpa [hl] using hp)

theorem WL.yield0 {c : Call} {x : Operand} {id : Nat} {as : List AV} {s : LpS} {vs : List AV} {pd : Option Code} (Q : AV → List AO → Prop) (hop : o.op = .call c) (hx : c.callee = .value x) (hf : opv env x = some (.yl id)) (has : opvs env c.args.toList = some as)
    (hs : st[id]? = some (.lp s vs .ready pd)) (hp : Nat.beq as.length s.ps.length = true) (hps : nodupB s.ps = true) (hpn : (s.ps.all fun p => Nat.blt p s.n) = true) (hts : Nat.beq s.ts.length vs.length = true)
    (hr : ∀ e' : En, e'.n = s.n → Rd e' id → e'.m.length = st.length → WC P e' s.asg (.asg s.body (.rend Q)) (List.zip s.ps as ++ List.zip s.ts vs) st)
    (hw : Wt ops env o true) (ho : o.dst = some d) (hd : Nat.ble (d + 1) e.n = true) (h : ∀ r st', Q r st' → WL P e ops rest ((d, r) :: env) st' R) : WL P e ops (o :: rest) env st R := fun m φ a w hi => by
  have hidl := (List.getElem?_eq_some_iff.1 hs).1
  obtain ⟨c0, hc0⟩ : ∃ c, m[id]? = some c := ⟨_, List.getElem?_eq_getElem (by rw [hi.sr.len]; exact hidl)⟩
  obtain ⟨b, rfl, h0, r, us, g1, ⟨g2, g3, g4, g5, g6, g7, g8⟩, g9⟩ := hi.sr.obj id _ c0 hs hc0
  have hp' := Nat.eq_of_beq_eq_true hp
  obtain ⟨vals, k1, k2⟩ := run_yieldcall (P := P) hi.env hop hx hf has hc0 g1 (by rw [hp', g3]; simp)
  unfold wpLx
  rw [if_pos (hw _ _ _ _ hi.env)]
  refine .inr ⟨b, r.fn, _, r.assign, r.body, w, k2, ?_⟩
  have hvl := RAs_length k1
  have hz : (r.params.zip (⟨vals⟩ : Array Value)).foldl (fun tmps (t, a) => tmps.setIfInBounds t a) r.tmps = (List.zip s.ps vals).foldl (fun tmps (x : Nat × Value) => tmps.setIfInBounds x.1 x.2) r.tmps := by
    rw [← Array.foldl_toList, Array.toList_zip, g3]
  obtain ⟨f1, f2, f3⟩ := fold_get s.ps vals r.tmps (nodupB_spec hps) (fun p hp => by
    have := List.all_eq_true.1 hpn p hp
    rw [g2]; simpa [Nat.blt_eq] using this)
  rw [hz]
  let e' : En := ⟨m, φ, w, s.n, some b⟩
  have hinv : Inv e' m φ (List.zip s.ps as ++ List.zip s.ts vs) st { tmps := (List.zip s.ps vals).foldl (fun tmps (x : Nat × Value) => tmps.setIfInBounds x.1 x.2) r.tmps, defers := [] } w := by
    refine ⟨hi.sr, Ev.refl m φ w, ⟨fun t y hy => ?_, hi.sr.gl⟩, by rw [f1]; exact g2, trivial⟩
    rw [get_append] at hy
    cases hz : Env.get (List.zip s.ps as) t with
    | some z =>
      rw [hz] at hy
      simp only [Option.some.injEq] at hy
      subst hy
      obtain ⟨i, q1, q2⟩ := zip_get hz
      obtain ⟨v, q3, q4⟩ := RAs_get k1 q2
      exact ⟨v, f2 i t v q1 q3, q4⟩
    | none =>
      rw [hz] at hy
      have hnt := zip_none (by rw [hp']) hz
      obtain ⟨i, q1, q2⟩ := zip_get hy
      obtain ⟨v, q3, q4⟩ := RAs_get g9 q2
      exact ⟨v, by rw [f3 t hnt]; exact g8 i t v q1 q3, q4⟩
  have hwc := hr e' rfl ⟨b, rfl, hc0⟩ hi.sr.len m φ _ w hinv
  have hround : RoundIn Fence.wide 0 P b r.fn ((List.zip s.ps vals).foldl (fun tmps (x : Nat × Value) => tmps.setIfInBounds x.1 x.2) r.tmps) r.assign r.body w (endPost e' Q) := by
    refine roundIn_of_wpIn trivial ?_
    rw [g4, g5]
    exact hwc
  refine hround.mono ?_
  rintro en w'' ⟨v, r', st', m', φ', rfl, hQ, hev, hsr, hra⟩
  refine ⟨v, rfl, ?_⟩
  rw [ho]
  exact h r' st' hQ m' φ' _ w'' (hi.ev_put hev hsr (Nat.le_of_ble_eq_true hd) hra)

theorem we_asg {body : Code} {id : Nat} {s : LpS} {vs : List AV} {pd : Option Code} (hrd : Rd e id) (hs : st[id]? = some (.lp s vs .ready pd)) (h : WC P e body k env (st.set id (.lp s vs .busy pd))) : WE P e .normal (.asg body k) env st := fun m φ a w hi => by
  obtain ⟨l, h1, h2⟩ := hrd
  have hc := hi.ev.pre.blk h2
  obtain ⟨b, hb, h0, r, us, g1, g2, g3⟩ := hi.sr.obj id _ _ hs hc
  simp only [Cz.blk.injEq] at hb
  subst hb
  obtain ⟨q1, q2⟩ := set_lp (r' := { r with state := .busy }) (o' := .lp s vs .busy pd) hi.sr hs rfl hc g1 (.inl rfl) (fun w' e1 hF => ⟨l, rfl, h0, _, us, e1, ⟨g2.1, g2.2.1, g2.2.2.1, g2.2.2.2.1, rfl, g2.2.2.2.2.2.1, g2.2.2.2.2.2.2⟩, RAs.mono (Pre.refl m) hF _ _ g3⟩)
  have := h m φ a _ (hi.go q1 q2)
  have hst : r.state = .ready := g2.2.2.2.2.1
  show (match e.rd with | some l => ∃ w₂, (Instr.beginRound l).run P w = .ok () w₂ ∧ body.wpIn (EF e.rd) 0 P (k.den P e) a w₂ | none => False)
  rw [h1]
  exact ⟨_, run_beginRound g1 hst, by rw [h1] at this; exact this⟩

theorem rend_gen {Q : AV → List AO → Prop} {id : Nat} {s : LpS} {vs : List AV} {pd : Option Code} (jump : Option Code) (hrd : Rd e id) (hs : st[id]? = some (.lp s vs .busy pd))
    (hQ : Q (.d (.v (.bool jump.isNone))) (st.set id (.lp s vs (if jump.isNone then .ready else .done) jump))) {m φ a w} (hi : Inv e m φ env st a w) :
    ∃ l, e.rd = some l ∧ ∃ v w', (Instr.endRound l jump).run P w = .ok v w' ∧ endPost e Q (.returned v) w' := by
  obtain ⟨l, h1, h2⟩ := hrd
  have hc := hi.ev.pre.blk h2
  obtain ⟨b, hb, h0, r, us, g1, g2, g3⟩ := hi.sr.obj id _ _ hs hc
  simp only [Cz.blk.injEq] at hb
  subst hb
  obtain ⟨q1, q2⟩ := set_lp (r' := { r with state := if jump.isNone then .ready else .done, pending := jump }) (o' := .lp s vs (if jump.isNone then .ready else .done) jump) hi.sr hs rfl hc g1 (.inl rfl) (fun w' e1 hF => ⟨l, rfl, h0, _, us, e1, ⟨g2.1, g2.2.1, g2.2.2.1, g2.2.2.2.1, rfl, rfl, g2.2.2.2.2.2.2⟩, RAs.mono (Pre.refl m) hF _ _ g3⟩)
  exact ⟨l, h1, _, _, run_endRound jump g1, _, _, _, m, φ, rfl, hQ, hi.ev.trans q1, q2, by simp [RA, RD]⟩

theorem we_rend {Q : AV → List AO → Prop} {id : Nat} {s : LpS} {vs : List AV} {pd : Option Code} (hrd : Rd e id) (hs : st[id]? = some (.lp s vs .busy pd))
    (hQ : Q (.d (.v (.bool true))) (st.set id (.lp s vs .ready none))) : WE P e .normal (.rend Q) env st := fun m φ a w hi => by
  obtain ⟨l, h1, h2⟩ := rend_gen (P := P) none hrd hs hQ hi
  show (match e.rd with | some l => roundPost P l (endPost e Q) | none => fun _ _ _ => False) .normal a w
  rw [h1]; exact h2
theorem we_rend_ret {Q : AV → List AO → Prop} {id : Nat} {s : LpS} {vs : List AV} {pd : Option Code} (hrd : Rd e id) (hs : st[id]? = some (.lp s vs .busy pd))
    (hQ : Q (.d (.v (.bool false))) (st.set id (.lp s vs .done (some .ret)))) : WE P e .ret (.rend Q) env st := fun m φ a w hi => by
  obtain ⟨l, h1, h2⟩ := rend_gen (P := P) (some .ret) hrd hs hQ hi
  show (match e.rd with | some l => roundPost P l (endPost e Q) | none => fun _ _ _ => False) .ret a w
  rw [h1]; exact h2
/-! ### The statement -/
def RangeEnd (P : Program) (e : En) (k : Ko) (env : Env) (id : Nat) (st' : List AO) : Prop :=
  ∃ st2 s vs stt pend, SLe st' st2 ∧ st2[id]? = some (.lp s vs stt pend) ∧ stt ≠ .busy ∧
    match pend with
    | none => WE P e .normal k env (st2.set id .dead)
    | some .ret => WE P e .ret k env (st2.set id .dead)
    | some (.exit i) => WE P e (.exit i) k env (st2.set id .dead)
    | _ => False

theorem tmps_get {m φ w} {a : Act} (he : EnvOk m φ w env a) : ∀ {ts : List Nat} {vs : List AV}, opvs env (ts.map .tmp) = some vs → ∃ us, RAs m φ w vs us ∧ ∀ (i t : Nat) (u : Value), ts[i]? = some t → us[i]? = some u → a.tmps[t]? = some u
  | [], vs, h => by simp only [List.map_nil, opvs, Option.some.injEq] at h; subst h; exact ⟨[], RAs_nil, fun i t u h => by simp at h⟩
  | t :: ts, vs, h => by
    simp only [List.map_cons, opvs] at h
    split at h
    · rename_i y ys h1 h2
      simp only [Option.some.injEq] at h
      subst h
      obtain ⟨us, g1, g2⟩ := tmps_get he h2
      obtain ⟨v, q1, q2⟩ := he.get t y h1
      refine ⟨v :: us, RAs_cons q2 g1, fun i t' u hi hu => ?_⟩
      cases i with
      | zero =>
        simp only [List.getElem?_cons_zero, Option.some.injEq] at hi hu
        subst hi; subst hu; exact q1
      | succ i => exact g2 i t' u (by simpa using hi) (by simpa using hu)
    · cases h

theorem run_rangecall {m φ w a} {f : FuncId} {g : Operand} {first caps : List AV} {l : Nat} (h : EnvOk m φ w env a) (hf : opv env g = some (.fn (.func f) first caps)) (hc : CanCall P f) :
    ∃ fs cs, RAs m φ w first fs ∧ RAs m φ w caps cs ∧ ∃ d : Deferred, (∀ w', (resolve a.eval (rangeCall g l) 0).run P w' = .ok d w') ∧ ∀ w', (invoke d.target d.args).run P w' = .ok (.enter f ⟨fs ++ .func (.yield l) #[] #[] :: cs⟩) w' := by
  have hv := opv_ok h hf
  simp only [RA] at hv
  obtain ⟨fs, cs, h1, h2, h3⟩ := hv
  obtain ⟨fn, g1, g2, g3⟩ := hc
  refine ⟨fs, cs, h2, h3, ⟨.fn (.func f) ⟨cs⟩, ⟨fs⟩ ++ #[.func (.yield l) #[] #[]]⟩, fun w' => ?_, fun w' => ?_⟩
  · have e0 : (a.eval (.const (.func (.yield l) #[] #[]))) = .func (.yield l) #[] #[] := rfl
    simp only [rangeCall, resolve, h1, Deferred.ofValue, Sem.run_bind, Sem.run_pure, Result.andThen_ok, List.map_toArray, List.map_cons, List.map_nil, e0]
  · have e1 : (⟨fs⟩ ++ #[.func (.yield l) #[] #[]] ++ ⟨cs⟩ : Array Value) = ⟨fs ++ .func (.yield l) #[] #[] :: cs⟩ := by
      apply Array.toList_inj.mp; simp
    simp only [invoke, callFunc, Sem.run_bind, run_program, g1, g2, Bool.false_eq_true, ite_false, g3, Sem.run_pure, Result.andThen_ok, e1]

theorem wc_range0 {g : Operand} {ps : Array Tmp} {asg body : Code} {f : FuncId} {first caps : List AV} (ts : List Nat) {vs : List AV} (Q : AV → List AO → Prop) (hrd : e.rd = none) (hg : opv env g = some (.fn (.func f) first caps)) (hts : opvs env (ts.map .tmp) = some vs)
    (hc : Ctr P f (first ++ .yl st.length :: caps) (st ++ [.lp ⟨e.n, ts, ps.toList, asg, body⟩ vs .ready none]) Q)
    (h : ∀ r st', Q r st' → RangeEnd P e k env st.length st') : WC P e (.rangeFunc g ps asg body) k env st := fun m φ a w hi => by
  refine wpIn_rangeFunc fun fn _ => ?_
  obtain ⟨fs, cs, h1, h2, d, h3, h4⟩ := run_rangecall (P := P) (l := w.heap.size + 1) hi.env hg hc.1
  rw [hrd]
  refine ⟨_, _, _, d, _, f, _, _, run_enterLoop_outer fn a.tmps ps asg body, h3 _, fun _ _ => trivial, h4 _, fun hx => by simp [EF] at hx, callsIn_EF.2 ?_⟩
  obtain ⟨us, u1, u2⟩ := tmps_get hi.env hts
  let L : Loop := { state := .ready, pending := none, fn, tmps := a.tmps, params := ps, assign := asg, body, defers := w.heap.size }
  let w1 : World := (w.alloc (.deferred (some []))).alloc (.loop L)
  have hs1 : (w.alloc (.deferred (some []))).heap.size = w.heap.size + 1 := World.size_alloc _ _
  have hsz1 : w1.heap.size = w.heap.size + 2 := by show ((w.alloc _).alloc _).heap.size = _; rw [World.size_alloc, hs1]
  have hk1 : ∀ b, b < w.heap.size → w1.heap[b]? = w.heap[b]? := fun b hb => by
    show ((w.alloc _).alloc _).heap[b]? = _
    rw [heap_alloc_lt (by rw [hs1]; omega), heap_alloc_lt hb]
  have hl1 : w1.heap[w.heap.size + 1]? = some (.loop L) := by
    have := World.alloc_heap_new (w.alloc (.deferred (some []))) (.loop L)
    rwa [hs1] at this
  have hd1 : w1.heap[w.heap.size]? = some (.deferred (some [])) := by
    show ((w.alloc _).alloc _).heap[w.heap.size]? = _
    rw [heap_alloc_lt (by rw [hs1]; omega)]; exact World.alloc_heap_new w _
  have hF1 : Fz φ w φ w1 := fun b off c q1 q2 => ⟨q1, by rw [cell?_congr (hk1 b (lt_of_frozen hi.sr q1))]; exact q2⟩
  let m1 := m ++ [Cz.blk (w.heap.size + 1)]
  have hpre : Pre m m1 := Pre.append m _
  have hml : m.length = st.length := hi.sr.len
  have hsr1 : SR m1 φ (st ++ [.lp ⟨e.n, ts, ps.toList, asg, body⟩ vs .ready none]) w1 :=
    hi.sr.push hF1 hk1 (by omega) ⟨_, rfl, hi.sr.lt _ (by omega), L, us, hl1, ⟨hi.sz, by simp [L], rfl, rfl, rfl, rfl, u2⟩, RAs.mono hpre hF1 _ _ u1⟩ (fun b hb => by simp only [Cz.has] at hb; omega)
  have hev1 : Ev m φ w m1 φ w1 := by
    refine ⟨hpre, ?_, rfl, rfl, rfl, by omega, fun b hb _ => ⟨hk1 b hb, rfl⟩, hF1⟩
    rintro b ⟨i, c, q1, q2⟩
    rw [getElem?_snoc] at q1
    split at q1
    · exact .inl ⟨i, c, q1, q2⟩
    · split at q1
      · simp only [Option.some.injEq] at q1
        subst q1
        simp only [Cz.has] at q2
        exact .inr (by omega)
      · cases q1
  have hra : RAs m1 φ w1 (first ++ .yl st.length :: caps) (fs ++ .func (.yield (w.heap.size + 1)) #[] #[] :: cs) := by
    refine RAs_append (RAs.mono hpre hF1 _ _ h1) (RAs_cons ?_ (RAs.mono hpre hF1 _ _ h2))
    simp only [RA]
    exact ⟨_, by rw [← hml]; simp [m1], rfl⟩
  refine (hc.2 m1 φ w1 _ hsr1 hra).mono ?_
  rintro en w' ⟨v, r, st', m', φ', rfl, hQ, hev, hsr, _⟩
  obtain ⟨st2, s, vs2, stt, pend, e1, e2, e3, e4⟩ := h r st' hQ
  have hsr2 := hsr.weak e1
  have hm1 : m1[st.length]? = some (.blk (w.heap.size + 1)) := by rw [← hml]; simp [m1]
  have hcm := hev.pre.blk hm1
  obtain ⟨b, hb, p0, r2, us2, p1, p2, p3⟩ := hsr2.obj st.length _ _ e2 hcm
  simp only [Cz.blk.injEq] at hb
  subst hb
  obtain ⟨q1, q2⟩ := set_lp (r' := { r2 with state := .exhausted }) (o' := .dead) hsr2 e2 rfl hcm p1 (.inr fun _ h => h) (fun w' _ _ => trivial)
  have hst : r2.state = stt := p2.2.2.2.2.1
  have hpd : r2.pending = pend := p2.2.2.2.2.2.1
  refine ⟨_, _, run_endLoop p1 (by rw [hst]; exact e3), ?_⟩
  have hmark : Marks e.w.heap.size m1 w1 ({ target := .collected w.heap.size, args := #[] } :: a.defers) := by
    refine ⟨⟨w.heap.size, rfl, hd1, ?_, hi.ev.size, ?_⟩, hi.df.ev hev1⟩
    · rintro ⟨i, c, q1, q2⟩
      rw [getElem?_snoc] at q1
      split at q1
      · exact absurd (hi.sr.nb _ ⟨i, c, q1, q2⟩) (Nat.lt_irrefl _)
      · split at q1
        · simp only [Option.some.injEq] at q1
          subst q1
          simp only [Cz.has] at q2
          omega
        · cases q1
    · have : ∀ (ds : List Deferred), Marks e.w.heap.size m w ds → ∀ d' ∈ ds, d'.target ≠ .collected w.heap.size := by
        intro ds
        induction ds with
        | nil => intro _ d' hd'; cases hd'
        | cons d0 ds ih =>
          rintro ⟨⟨r0, t1, t2, _⟩, hds⟩ d' hd'
          rcases List.mem_cons.1 hd' with rfl | hd'
          · rw [t1]
            intro hh
            simp only [Target.collected.injEq] at hh
            have := heap_lt t2
            omega
          · exact ih hds d' hd'
      exact this _ hi.df
  have hinv : Inv e m' φ' env (st2.set st.length .dead) { a with defers := [{ target := .collected w.heap.size, args := #[] }] ++ a.defers } (w'.putObj (w.heap.size + 1) (.loop { r2 with state := .exhausted })) := by
    refine ⟨q2, ((hi.ev.trans hev1).trans hev).trans q1, ?_, hi.sz, (hmark.ev hev).ev q1⟩
    have h5 := ((hi.env.mono hpre hF1).mono hev.pre hev.fz).mono q1.pre q1.fz
    exact ⟨h5.get, h5.gl⟩
  generalize hw4 : (w'.putObj (w.heap.size + 1) (.loop { r2 with state := .exhausted })) = w4 at hinv ⊢
  rw [hpd]
  cases pend with
  | none => exact e4 m' φ' _ _ hinv
  | some c =>
    cases c with
    | ret => exact wpIn_ret (e4 m' φ' _ _ hinv)
    | exit i => exact wpIn_exit (e4 m' φ' _ _ hinv)
    | _ => exact e4.elim

/-! ### As they are printed -/
theorem Le.tu {xs ys : List AV} (h : Les xs ys) : Le (.tu xs) (.tu ys) := fun _ _ _ _ hh => by
  simp only [RA] at hh ⊢
  obtain ⟨cs, h1, h2⟩ := hh
  exact ⟨cs, h1, h.ras h2⟩
theorem WL.weak {l : List Oper} {st' : List AO} (h : SLe st st') (hc : WL P e ops l env st' R) : WL P e ops l env st R := fun m φ a w hi => hc m φ a w (hi.weak h)
theorem WL.wk {l : List Oper} {env' : Env} {st' : List AO} (hs : Sub env' env) (h : SLe st st') (hc : WL P e ops l env' st' R) : WL P e ops l env st R := WL.sub hs (WL.weak h hc)

theorem wc_range {g : Operand} {ps : Array Tmp} {asg body : Code} {f : FuncId} {first caps us : List AV} (ts : List Nat) {vs : List AV} (id : Nat) (Q : LpS → AV → List AO → Prop) (hrd : e.rd = none) (hg : opv env g = some (.fn (.func f) first caps)) (hts : opvs env (ts.map .tmp) = some vs) (hid : Nat.beq st.length id = true) (has : first ++ .yl id :: caps = us)
    (hc : ∀ s, s = LpS.mk e.n ts ps.toList asg body → Ctr P f us (st ++ [.lp s vs .ready none]) (Q s))
    (h : ∀ s r st', Q s r st' → RangeEnd P e k env id st') : WC P e (.rangeFunc g ps asg body) k env st := by
  obtain rfl := Nat.eq_of_beq_eq_true hid
  subst has
  exact wc_range0 ts (Q _) hrd hg hts (hc _ rfl) (h _)

theorem WL.yield {c : Call} {x : Operand} {id n : Nat} {as : List AV} {s : LpS} {vs : List AV} {pd : Option Code} {ts ps : List Nat} {asg body : Code} {env0 : Env} (Q : AV → List AO → Prop) (hsd : s = ⟨n, ts, ps, asg, body⟩) (hop : o.op = .call c) (hx : c.callee = .value x) (hf : opv env x = some (.yl id)) (has : opvs env c.args.toList = some as)
    (hs : st[id]? = some (.lp s vs .ready pd)) (hp : (Nat.beq as.length ps.length && nodupB ps && (ps.all fun p => Nat.blt p n) && Nat.beq ts.length vs.length) = true) (he : List.zip ps as ++ List.zip ts vs = env0)
    (hr : ∀ e' : En, e'.n = n → Rd e' id → e'.m.length = st.length → WC P e' asg (.asg body (.rend Q)) env0 st)
    (hw : Wt ops env o true) (ho : o.dst = some d) (hd : Nat.ble (d + 1) e.n = true) (h : ∀ r st', Q r st' → WL P e ops rest ((d, r) :: env) st' R) : WL P e ops (o :: rest) env st R := by
  subst hsd
  subst he
  simp only [Bool.and_eq_true] at hp
  exact WL.yield0 Q hop hx hf has hs hp.1.1.1 hp.1.1.2 hp.1.2 hp.2 hr hw ho hd h
theorem WL.inl {f : FuncId} {c : Call} {x : Operand} {first caps as us : List AV} (Q : AV → List AO → Prop) (hop : o.op = .call c) (hx : c.callee = .value x)
    (hf : opv env x = some (.fn (.func f) first caps)) (has : opvs env c.args.toList = some as) (he : first ++ as ++ caps = us) (hc : Ctr P f us st Q)
    (hw : Wt ops env o true) (ho : o.dst = some d) (hd : Nat.ble (d + 1) e.n = true) (h : ∀ r st', Q r st' → WL P e ops rest ((d, r) :: env) st' R) : WL P e ops (o :: rest) env st R := by
  subst he
  exact WL.call hop hx hf has hc (Les.refl _) hw ho hd h
end
end Go.Sk
namespace Go.Sk
open Go.RowKit (Below)

/-- n cells, by their number. -/
def vecC (n : Nat) (f : Nat → D) : List D := (List.range n).map f
def vecA (n : Nat) (f : Nat → AV) : List AV := (List.range n).map f
def vset {α : Type} (F : Nat → α) (i : Nat) (v : α) : Nat → α := fun j => bif Nat.beq j i then v else F j
def vecOk (n : Nat) (i : Int) : Bool := decide (0 ≤ i) && Nat.blt i.toNat n

theorem vecOk_spec {n : Nat} {i : Int} (h : vecOk n i = true) : 0 ≤ i ∧ i.toNat < n := by
  simpa [vecOk] using h
theorem vecOk_0 {n : Nat} {i : Int} (h : vecOk n i = true) : 0 ≤ i := (vecOk_spec h).1
theorem vecOk_1 {n : Nat} {i : Int} (h : vecOk n i = true) : i < n := by
  have := vecOk_spec h; omega
theorem vecC_get {n : Nat} {ps : List D} {f : Nat → D} {i : Int} (h : ps = vecC n f) (hg : vecOk n i = true) : ps[i.toNat * 1]? = some (f i.toNat) := by
  subst h
  have := (vecOk_spec hg).2
  simp [vecC, this]
theorem vecA_get {n : Nat} {ps : List AV} {f : Nat → AV} {i : Int} (h : ps = vecA n f) (hg : vecOk n i = true) : ps[i.toNat * 1]? = some (f i.toNat) := by
  subst h
  have := (vecOk_spec hg).2
  simp [vecA, this]
theorem vset_app {α β : Type} (A : α → β) (F : Nat → α) (i j : Nat) (v : α) : A (vset F i v j) = if j = i then A v else A (F j) := by
  unfold vset
  by_cases h : j = i
  · subst h; simp
  · have : Nat.beq j i = false := by
      cases hb : Nat.beq j i with
      | false => rfl
      | true => exact absurd (Nat.eq_of_beq_eq_true hb) h
    simp [this, h]
theorem vecA_set {α : Type} (A : α → AV) (n : Nat) (F : Nat → α) (i : Nat) (v : α) : (vecA n fun j => A (F j)).set i (A v) = vecA n fun j => A (vset F i v j) := by
  apply List.ext_getElem?
  intro j
  by_cases hj : j < n
  · by_cases h : j = i
    · subst h; simp [vecA, hj, vset_app]
    · rw [vecA, List.getElem?_set_ne (Ne.symm h), vecA, List.getElem?_map, List.getElem?_map]
      simp [hj, vset_app, h]
  · simp [vecA, hj, Nat.not_lt.1 hj]
theorem take_set_drop {α : Type} (l : List α) (i : Nat) (x : α) (h : i < l.length) : l.take i ++ [x] ++ l.drop (i + 1) = l.set i x := by
  rw [List.set_eq_take_append_cons_drop, if_pos h, List.append_assoc]; rfl

section
variable {P : Program} {e : En} {ops : Array Oper} {env : Env} {st : List AO} {R : Env → List AO → Prop} {dst : Option Tmp} {ty : TypeId} {pos : String} {after : Array Edge} {guard : Option (Nat × Bool)}

theorem y_indexV {T len : Nat} {x ix : Operand} {ps : List D} (f : Nat → D) {kk : IntKind} {i : Int} (hT : arrOf P T = some (len, 1, false)) (hx : opv env x = some (.d (.ag ps))) (hi : opv env ix = some (.d (.v (.int kk i))))
    (h : ps = vecC len f) (hg : vecOk len i = true) : Yields P env st ⟨dst, .index T x ix, ty, pos, after, guard⟩ (.d (f i.toNat)) := y_index hT hx hi (vecOk_0 hg) (vecOk_1 hg) (vecC_get h hg)
theorem y_indexVa {T len : Nat} {x ix : Operand} {ps : List AV} (f : Nat → AV) {kk : IntKind} {i : Int} (hT : arrOf P T = some (len, 1, false)) (hx : opv env x = some (.ag ps)) (hi : opv env ix = some (.d (.v (.int kk i))))
    (h : ps = vecA len f) (hg : vecOk len i = true) : Yields P env st ⟨dst, .index T x ix, ty, pos, after, guard⟩ (f i.toNat) := y_indexa hT hx hi (vecOk_0 hg) (vecOk_1 hg) (vecA_get h hg)

theorem row_get {cs : List AV} (off n : Nat) {f : Nat → AV} {i : Int} (h : (cs.drop off).take n = vecA n f) (hg : vecOk n i = true) : cs[off + i.toNat * 1]? = some (f i.toNat) := by
  have h2 := vecA_get h hg
  have h3 := (vecOk_spec hg).2
  rw [List.getElem?_take, if_pos (by omega), List.getElem?_drop] at h2
  exact h2
/-- a load from an element -/
theorem y_loadV {T : TypeId} {x : Operand} {id off n : Nat} {T' : TypeId} {cs : List AV} (f : Nat → AV) {i : Int} (hx : opv env x = some (.pt id (off + i.toNat * 1))) (hs : st[id]? = some (.row T' cs)) (hT : aggOf P T = some false) (h : (cs.drop off).take n = vecA n f) (hg : vecOk n i = true) :
    Yields P env st ⟨dst, .load T x, ty, pos, after, guard⟩ (f i.toNat) := y_load hx hs hT (row_get off n h hg)
/-- a store to an element -/
theorem d_storeV {α : Type} {T : TypeId} {x y : Operand} {id off n : Nat} {T' : TypeId} {cs cs' : List AV} (A : α → AV) (F : Nat → α) (v : α) {i : Int} (hx : opv env x = some (.pt id (off + i.toNat * 1))) (hs : st[id]? = some (.row T' cs)) (hy : opv env y = some (A v))
    (hone : ∀ m φ w u, SR m φ st w → RA m φ w (A v) u → u.oneCell' = true ∧ u.cells = #[u]) (hn : szOf P T = some 1) (hlen : Nat.ble (off + n) cs.length = true) (h : cs = cs.take off ++ (vecA n (fun j => A (F j)) ++ cs.drop (off + n))) (hg : vecOk n i = true)
    (hc : cs' = cs.take off ++ (vecA n (fun j => A (vset F i.toNat v j)) ++ cs.drop (off + n))) :
    Does P env st ⟨dst, .store T x y, ty, pos, after, guard⟩ (.d (.v undef)) (st.set id (.row T' cs')) := by
  have h3 := (vecOk_spec hg).2
  have hle := Nat.le_of_ble_eq_true hlen
  have := d_store1 (P := P) (dst := dst) (ty := ty) (pos := pos) (after := after) (guard := guard) hx hs hy hone hn (by
    apply Nat.ble_eq_true_of_le; omega)
  have e1 : cs.take (off + i.toNat * 1) ++ [A v] ++ cs.drop (off + i.toNat * 1 + 1) = cs' := by
    rw [take_set_drop _ _ _ (by omega), hc]
    have hl : (cs.take off).length = off := by rw [List.length_take]; omega
    conv => lhs; rw [h]
    rw [List.set_append_right _ _ (by rw [hl]; omega), hl]
    have e2 : off + i.toNat * 1 - off = i.toNat := by omega
    rw [e2, List.set_append_left _ _ (by simp [vecA]; exact h3), vecA_set]
  rw [e1] at this
  exact this
theorem one_ok {x : AV} (h : x.ok1 = true) : ∀ m φ w u, SR m φ st w → RA m φ w x u → u.oneCell' = true ∧ u.cells = #[u] := fun _ _ _ _ _ hr => ⟨RA_one hr h, cells_one (RA_one hr h)⟩

theorem RPs_one {φ w} : ∀ {xs : List D} {b off i : Nat} {x : D}, RPs φ w xs b off → xs[i]? = some x → RPs φ w [x] b (off + i) := fun h hx => by
  obtain ⟨h1, v, h2, h3⟩ := RPs_get h hx
  simp only [RPs]
  exact ⟨⟨h1, v, h2, h3⟩, trivial⟩
theorem y_indexAddrVc {T len : Nat} {bb : Bool} {x ix : Operand} {ps : List D} (f : Nat → D) {kk : IntKind} {i : Int} (hT : arrOf P T = some (len, 1, bb)) (hx : opv env x = some (.d (.pc ps))) (hi : opv env ix = some (.d (.v (.int kk i))))
    (h : ps.take len = vecC len f) (hg : vecOk len i = true) : Yields P env st ⟨dst, .indexAddr T x ix, ty, pos, after, guard⟩ (.d (.pc [f i.toNat])) := fun m φ a w _ he => by
  obtain ⟨b, off, h2, h3⟩ := opv_pc he hx
  have h4 := vecC_get h hg
  have h5 := (vecOk_spec hg).2
  rw [List.getElem?_take, if_pos (by omega), Nat.mul_one] at h4
  refine ⟨_, by simp only [RA, RD]; exact ⟨b, _, rfl, RPs_one h3 h4⟩, fun w' _ => ?_⟩
  have := run_indexAt_arr (P := P) (kk := kk) (b := b) (off := off) hT (vecOk_0 hg) (vecOk_1 hg) w'
  rw [Nat.mul_one] at this
  simp [execOp, h2, opv_v he hi, this]
theorem REs_singles {φ w} : ∀ {ps : List D} {b off : Nat}, RPs φ w ps b off → REs φ w (ps.map fun d => [d]) 1 b off
  | [], _, _, _ => by simp [REs]
  | p :: ps, b, off, h => by
    simp only [RPs] at h
    simp only [List.map_cons, REs, RPs]
    exact ⟨⟨h.1, trivial⟩, REs_singles h.2⟩
theorem RPs_take {φ w} : ∀ {ps : List D} {b off : Nat} (n : Nat), RPs φ w ps b off → RPs φ w (ps.take n) b off
  | [], _, _, _, _ => by simp [RPs]
  | p :: ps, b, off, 0, h => by simp [RPs]
  | p :: ps, b, off, n + 1, h => by
    simp only [RPs] at h
    simp only [List.take_succ_cons, RPs]
    exact ⟨h.1, RPs_take n h.2⟩
/-- an array that stays, as a slice -/
theorem y_sliceArr {T len : Nat} {bb : Bool} {x : Operand} {ps : List D} (hT : arrOf P T = some (len, 1, bb)) (hx : opv env x = some (.d (.pc ps))) (hl : Nat.ble len ps.length = true) :
    Yields P env st ⟨dst, .slice T x none none none, ty, pos, after, guard⟩ (.d (.sl ((ps.take len).map fun d => [d]))) := fun m φ a w _ he => by
  obtain ⟨b, off, h2, h3⟩ := opv_pc he hx
  obtain ⟨t, g1, g2, g3⟩ := arrOf_spec hT
  have hl := Nat.le_of_ble_eq_true hl
  refine ⟨.slice (some ⟨b, off, none⟩) len len, ?_, fun w' _ => ?_⟩
  · simp only [RA, RD]
    refine .inr ⟨b, off, 1, len, by simp; omega, by simp; omega, fun e he => ?_, REs_singles (RPs_take len h3)⟩
    obtain ⟨d, _, rfl⟩ := List.mem_map.1 he
    rfl
  · by_cases h0 : len = 0
    · subst h0; simp [execOp, Instr.sliceAt, run_underlying g1, Instr.slice, h2, Instr.sliceBounds, Instr.sureAddr, run_sizeOf' g2, Addr.add]
    · simp [execOp, Instr.sliceAt, run_underlying g1, Instr.slice, h2, Instr.sliceBounds, Instr.sureAddr, run_sizeOf' g2, Addr.add]
end
end Go.Sk
namespace Go.Sk
theorem Does.nil {P : Program} {env : Env} {st st' : List AO} {o : Oper} {r : AV} (t T k : Nat) (ht : env.get t = some (.d (.v (.slice none 0 0)))) (h : Does P ((t, .os st.length 0) :: env) (st ++ [.os T k 0 []]) o r st') : Does P env st o r st' := fun m φ a w hs he => by
  obtain ⟨h1, h2⟩ := tok_nil (T := T) (k := k) hs
  have h3 := he.mono h1.pre h1.fz
  obtain ⟨v, w', m', φ', g1, g2, g3⟩ := h _ _ a w h2 ⟨fun s x hx => by
    unfold Env.get at hx
    cases hb : Nat.beq s t with
    | true =>
      rw [hb] at hx
      simp only [cond_true, Option.some.injEq] at hx
      subst hx
      have : s = t := Nat.eq_of_beq_eq_true hb
      subst this
      obtain ⟨v, g1, g2⟩ := he s _ ht
      simp only [RA, RD] at g2
      subst g2
      refine ⟨_, g1, ?_⟩
      simp only [RA]
      exact ⟨0, _, by rw [← hs.len]; simp, Nat.le_refl _, fun _ => rfl⟩
    | false => rw [hb] at hx; exact h3 s x hx, h3.gl⟩
  exact ⟨v, w', m', φ', g1, h1.trans g2, g3⟩
end Go.Sk
namespace Go.Sk
open Go.RowKit (Below)

theorem zeroCells_flat (z : Array Value) (n : Nat) (h : 0 < z.size) : (Builtin.zeroCells z n).toList = (List.replicate n z.toList).flatten := by
  rw [← madeCells_flat z n h]
  rfl
theorem RAs_zeros {m φ w} (zs : List Value) : ∀ n : Nat, RAs m φ w (List.replicate n (zs.map fun z => AV.d (.v z))).flatten (List.replicate n zs).flatten
  | 0 => by simp [RAs]
  | n + 1 => by
    have h0 : ∀ l : List Value, RAs m φ w (l.map fun z => AV.d (.v z)) l := fun l => by
      induction l with
      | nil => simp [RAs]
      | cons v l ih => exact RAs_cons (by simp [RA, RD]) ih
    rw [List.replicate_succ, List.replicate_succ, List.flatten_cons, List.flatten_cons]
    exact RAs_append (h0 zs) (RAs_zeros zs n)

section
variable {P : Program} {env : Env} {st : List AO} {dst : Option Tmp} {ty : TypeId} {pos : String} {after : Array Edge} {guard : Option (Nat × Bool)}

theorem d_clear {T e k by_ : Nat} {zs : List Value} {d : Operand} {dr : AV} {id ver off len lo : Nat} {es : List (List AV)} {c : Call} (hT : eltOf P T = some (e, k, by_)) (hz : zeroOf P e = some zs) (hzl : zs.length = k) (hk : 0 < k) (hzk : ∀ v ∈ zs, v.oneCell' = true)
    (hc : c = ⟨.builtin .clear, #[d], #[T]⟩) (hd : opv env d = some dr) (hp : Piece st dr id ver off len lo) (hoff : off = lo * k) (hi : st[id]? = some (.os e k ver es)) (hfit : lo + len ≤ es.length) :
    Does P env st ⟨dst, .call c, ty, pos, after, guard⟩ .u (st.set id (.os e k ver (es.take lo ++ (List.replicate len (zs.map fun z => AV.d (.v z)) ++ es.drop (lo + len))))) := fun m φ a w hs he => by
  subst hoff; subst hc
  obtain ⟨i, ht, hi', rfl, rfl⟩ := eltOf_spec hT
  obtain ⟨z, hz1, hz2⟩ := zeroOf_spec hz hi'
  obtain ⟨y, xs, p1, p2, p3, p4, p5, p6⟩ := piece_val hs hp (opv_ok he hd) hi
  have idl := (List.getElem?_eq_some_iff.1 hi).1
  by_cases hn0 : len = 0
  · subst hn0
    have e1 : es.take lo ++ (List.replicate 0 (zs.map fun z => AV.d (.v z)) ++ es.drop (lo + 0)) = es := by simp
    rw [e1]
    have e2 : st.set id (.os e i.size ver es) = st := by
      obtain ⟨hl, hg⟩ := List.getElem?_eq_some_iff.1 hi
      rw [← hg, List.set_getElem_self]
    rw [e2]
    refine ⟨.tuple #[], w, m, φ, .inl ?_, Ev.refl _ _ _, hs, by simp [RA]⟩
    rcases p6 with ⟨_, q2, _⟩ | ⟨b, nn, cap, off', _, q2, _⟩
    · simp [execOp, resolve, invoke, builtin, Builtin.clear_, run_underlying ht, q2]
    · simp [execOp, resolve, invoke, builtin, Builtin.clear_, run_underlying ht, q2]
  · rcases p6 with ⟨_, _, h⟩ | ⟨b, nn, cap, off', rfl, q2, q3⟩
    · omega
    have q3 : off' = lo * i.size := by
      rcases q3 with h | h
      · exact h
      · omega
    subst q3
    obtain ⟨hxl, r2⟩ := p2
    rcases r2 with ⟨hv, _⟩ | ⟨g, cap', cur, hv, _, r3, r4, r5, r6, r7⟩
    · cases hv
    simp only [Value.slice.injEq, Option.some.injEq, Addr.mk.injEq, and_true] at hv
    obtain ⟨rfl, rfl, rfl⟩ := hv
    have hzc : (Builtin.zeroCells z.cells len).toList = (List.replicate len zs).flatten := by
      rw [zeroCells_flat _ _ (by rw [hz2]; simpa [hzl] using hk), hz2]
    have hnl : ((List.replicate len zs).flatten).length = len * i.size := by simp [hzl]
    generalize hnews : (List.replicate len zs).flatten = news at *
    have hcl : xs.length ≤ cur.toList.length := by
      have hcz : cur.toList.length = cap * i.size := by rw [Array.length_toList]; exact r6
      rw [hxl, hcz]; exact Nat.mul_le_mul_right _ r4
    have hcur : cur.toList = xs ++ cur.toList.drop (es.length * i.size) := by
      conv => lhs; rw [← List.take_append_drop (es.length * i.size) cur.toList, r7]
    generalize cur.toList.drop (es.length * i.size) = rest at hcur
    have hlok : lo * i.size + len * i.size ≤ xs.length := by rw [hxl, ← Nat.add_mul]; exact Nat.mul_le_mul_right _ (by omega)
    have hvs : (xs.take (lo * i.size) ++ (news ++ xs.drop ((lo + len) * i.size))).length = es.length * i.size := by
      rw [List.length_append, List.length_append, hnl, List.length_take, List.length_drop, hxl, Nat.add_mul]
      rw [hxl] at hlok
      omega
    have hnew : cur.toList.take (lo * i.size) ++ news ++ cur.toList.drop (lo * i.size + news.length) = (xs.take (lo * i.size) ++ (news ++ xs.drop ((lo + len) * i.size))) ++ rest := by
      rw [hnl, hcur, List.take_append_of_le_length (by omega), List.drop_append_of_le_length (by omega), Nat.add_mul]
      simp
    have hok1 : ∀ v ∈ news, v.oneCell' = true := fun v hv => by
      rw [← hnews] at hv
      obtain ⟨l, hl, hvl⟩ := List.mem_flatten.1 hv
      rw [List.eq_of_mem_replicate hl] at hvl
      exact hzk v hvl
    have hst := run_storeCells_at P b (lo * i.size) e news 0 cur w r3 (by rw [hnl]; have : cur.size = cur.toList.length := (Array.length_toList).symm; omega) hok1
    rw [Nat.add_zero] at hst
    rw [hnew] at hst
    obtain ⟨k1, k2⟩ := set_os (es' := es.take lo ++ (List.replicate len (zs.map fun z => AV.d (.v z)) ++ es.drop (lo + len))) (vs := xs.take (lo * i.size) ++ (news ++ xs.drop ((lo + len) * i.size))) hs hi p1 (by
        rw [List.flatten_append, List.flatten_append, flatten_takeK _ _ p4, flatten_dropK _ _ p4]
        exact RAs_append (RAs_take _ p3) (RAs_append (by rw [← hnews]; exact RAs_zeros zs len) (RAs_drop _ p3))) (by simp; omega) (fun f hf => by
        rcases List.mem_append.1 hf with h | h
        · exact p4 f (List.mem_of_mem_take h)
        · rcases List.mem_append.1 h with h | h
          · rw [List.eq_of_mem_replicate h, List.length_map, hzl]
          · exact p4 f (List.mem_of_mem_drop h)) cur r3 ((xs.take (lo * i.size) ++ (news ++ xs.drop ((lo + len) * i.size))) ++ rest).toArray (by
        have : cur.size = cur.toList.length := (Array.length_toList).symm
        rw [this, hcur, List.size_toArray]; simp only [List.length_append (bs := rest)]; rw [hvs, hxl]) (by simpa using take_app_len hvs)
    refine ⟨.tuple #[], _, m, φ, .inl ?_, k1, k2, by simp [RA]⟩
    obtain ⟨n', rfl⟩ : ∃ n', len = n' + 1 := ⟨len - 1, by omega⟩
    simp only [execOp, resolve, invoke, builtin, q2]
    simp [Builtin.clear_, run_underlying ht, zeroValue, typeInfo, hi', hz1, hzc, hst, q2]

def clearF {α : Type} (L : List α) (lo len : Nat) (x0 : α) : List α := L.take lo ++ (List.replicate len x0 ++ L.drop (lo + len))
theorem d_clearL {T e k by_ : Nat} {zs : List Value} {d : Operand} {dr : AV} {id ver off len lo : Nat} {α : Type} {R : α → List D} (L : List α) (x0 : α) {c : Call} (hT : eltOf P T = some (e, k, by_)) (hz : zeroOf P e = some zs) (hzl : zs.length = k) (hk : 0 < k) (hzk : zs.all Value.oneCell' = true) (hx0 : R x0 = zs.map D.v)
    (hc : c = ⟨.builtin .clear, #[d], #[T]⟩) (hd : opv env d = some dr) (hp : Piece st dr id ver off len lo) (hoff : off = lo * k) (hi : st[id]? = some (.os e k ver (L.map (encA R)))) (hg : pieceOk L lo len = true) :
    Does P env st ⟨dst, .call c, ty, pos, after, guard⟩ .u (st.set id (.os e k ver ((clearF L lo len x0).map (encA R)))) := by
  have := d_clear (by_ := by_) (dst := dst) (ty := ty) (pos := pos) (after := after) (guard := guard) hT hz hzl hk (fun v hv => List.all_eq_true.1 hzk v hv) hc hd hp hoff hi (by simpa using Nat.le_of_ble_eq_true hg)
  have e : (clearF L lo len x0).map (encA R) = (L.map (encA R)).take lo ++ (List.replicate len (zs.map fun z => AV.d (.v z)) ++ (L.map (encA R)).drop (lo + len)) := by
    simp [clearF, List.map_take, List.map_drop, encA, hx0, List.map_map, Function.comp_def]
  rw [e]; exact this
end
end Go.Sk
namespace Go.Sk
open Go.RowKit (Below)
theorem WL.borrow {P : Program} {e : En} {ops : Array Oper} {o1 o2 : Oper} {rest : List Oper} {env : Env} {st : List AO} {R : Env → List AO → Prop} {t d : Nat} {f : FuncId} {c : Call} {x : Operand} {first caps as : List AV} {ds : List D} {y x1 : D} {r1 : AV} {val : Value} {T k ver : Nat}
    (id : Nat) (cl : List (Nat × Nat)) (dsl : List (List D)) {es : List (List AV)} (hs : st[id]? = some (.os T k ver es)) (hes : es = dsl.map fun e => e.map AV.d) (hcl : OsCells (st.set id .dead) id ver (.d (.sl dsl)) cl)
    (h1 : Yields P env (setCells (.d (.sl dsl)) cl (st.set id .dead)) o1 r1) (hl1 : Le r1 (.d x1)) (hw1 : Wt ops env o1 true) (ho1 : o1.dst = some t) (hd1 : Nat.ble (t + 1) e.n = true) (htn : env.get t = none)
    (hop : o2.op = .call c) (hx : c.callee = .value x) (hf : opv ((t, .d x1) :: env) x = some (.fn (.func f) first caps)) (has : opvs ((t, .d x1) :: env) c.args.toList = some as) (hc : Pu P f ds y) (hl : Les (first ++ as ++ caps) (ds.map .d))
    (hw2 : Wt ops ((t, .d x1) :: env) o2 true) (ho2 : o2.dst = some d) (hd2 : Nat.ble (d + 1) e.n = true) (hg : y.gnd = some val)
    (h : WL P e ops rest ((d, .d y) :: env) st R) : WL P e ops (o1 :: o2 :: rest) env st R := fun m φ a w hi => by
  subst hes
  obtain ⟨φ1, hi1⟩ := hi.freezeX [] cl hs trivial hcl
  obtain ⟨v, g1, g2⟩ := h1 m φ1 a w hi1.sr hi1.env
  unfold wpLx
  rw [if_pos (hw1 _ _ _ _ hi.env)]
  refine .inl ?_
  simp only [Oper.wp, g2 w (Below.refl _ _), Oper.upon, ho1]
  have hi2 : Inv e m φ1 ((t, .d x1) :: env) _ (a.put (some t) v) w := hi1.put (Nat.le_of_ble_eq_true hd1) (hl1 _ _ _ _ g1)
  obtain ⟨vs, k1, k2⟩ := run_call (P := P) hi2.env hop hx hf has hc.1
  unfold wpLx
  rw [if_pos (hw2 _ _ _ _ hi2.env)]
  refine .inl ?_
  simp only [Oper.wp, k2, Oper.upon, ho2]
  refine (pure_call hc hi2.sr k1 hl).mono ?_
  rintro en w' ⟨v2, φ', rfl, hev, hsr, hra, hb⟩
  have hv2 := RD_gnd hra hg
  subst hv2
  refine h m φ _ w' ?_
  have hsz := hi.sz
  have he0 : EnvOk m φ w ((t, .u) :: env) (a.put (some t) v) := hi.env.put (by rw [hsz]; exact Nat.le_of_ble_eq_true hd1) (by simp [RA])
  have he : EnvOk m φ w env (a.put (some t) v) := ⟨fun s z hz => he0.get s z (by
    unfold Env.get
    have : Nat.beq s t = false := by
      cases hb : Nat.beq s t with
      | false => rfl
      | true =>
        have := Nat.eq_of_beq_eq_true hb
        subst this
        rw [htn] at hz; cases hz
    rw [this]; exact hz), hi.env.gl⟩
  have hpsz : (a.put (some t) v).tmps.size = e.n := by rw [Act.put_sz]; exact hsz
  refine hi.below hb (he.put (by rw [hpsz]; exact Nat.le_of_ble_eq_true hd2) (by simpa [RA] using gnd_RD hg)) (by rw [Act.put_sz]; exact hpsz) (by rw [Act.put_df, Act.put_df])
end Go.Sk
namespace Go.Sk
open Go.RowKit (Below)

def eqI : List Int → List Int → Bool
  | [], [] => true
  | x :: xs, y :: ys => decide (x = y) && eqI xs ys
  | _, _ => false
theorem all_range_eqI : ∀ (xs ys : List Int), xs.length = ys.length → ((List.range xs.length).all fun i => decide (xs.getD i 0 = ys.getD i 0)) = eqI xs ys
  | [], [], _ => rfl
  | x :: xs, y :: ys, h => by
    have ih := all_range_eqI xs ys (by simpa using h)
    rw [List.length_cons, List.range_succ_eq_map, List.all_cons, List.all_map]
    simp only [List.getD_cons_zero, Function.comp_def, List.getD_cons_succ, ih]
    rfl
  | [], _ :: _, h => by simp at h
  | _ :: _, [], h => by simp at h

section
variable {P : Program} {env : Env} {st : List AO} {dst : Option Tmp} {ty : TypeId} {pos : String} {after : Array Edge} {guard : Option (Nat × Bool)}
theorem run_equalIn_ints (w : World) (d : Nat) (t e : TypeId) (n : Nat) (k : IntKind) (ht : P.underlying t = some (.array n e)) (he : P.underlying e = some (.int k)) (hsz : ∀ w, (sizeOf e).run P w = .ok 1 w)
    (xs ys : List Int) (hx : xs.length = n) (hy : ys.length = n) :
    (Op.equalIn (d + 2) t (.agg (xs.map (Value.int k)).toArray) (.agg (ys.map (Value.int k)).toArray)).run P w = .ok (eqI xs ys) w := by
  rw [← all_range_eqI xs ys (hx.trans hy.symm), hx, List.range_eq_range', Op.equalIn]
  simp only [Sem.run_bind, run_underlying ht, Result.andThen_ok, hsz, Std.Legacy.Range.forIn_eq_forIn_range', Std.Legacy.Range.size, Nat.sub_zero, Nat.add_sub_cancel, Nat.div_one]
  have hl : ∀ i ∈ List.range' 0 n 1, i < n := fun i hi => by simpa using (List.mem_range'_1.1 hi).2
  generalize List.range' 0 n 1 = l at hl ⊢
  induction l with
  | nil => simp
  | cons i l ih =>
    have hi : i < n := hl i (by simp)
    have px : (part e (xs.map (Value.int k)).toArray (i * 1)).run P w = .ok (Value.int k (xs.getD i 0)) w := by
      simp [part, isAgg, run_underlying he, List.getD, List.getElem?_eq_getElem (show i < xs.length by omega)]
    have py : (part e (ys.map (Value.int k)).toArray (i * 1)).run P w = .ok (Value.int k (ys.getD i 0)) w := by
      simp [part, isAgg, run_underlying he, List.getD, List.getElem?_eq_getElem (show i < ys.length by omega)]
    have pe : (Op.equalIn (d + 1) e (Value.int k (xs.getD i 0)) (Value.int k (ys.getD i 0))).run P w = .ok (decide (xs.getD i 0 = ys.getD i 0)) w := by
      simp [Op.equalIn, run_underlying he]
      rfl
    simp only [List.forIn_cons, Sem.run_bind, px, py, pe, Result.andThen_ok, List.all_cons]
    cases hb : decide (xs.getD i 0 = ys.getD i 0)
    · simp
    · simp only [Bool.not_true, Bool.false_eq_true, if_false, Sem.run_pure, Result.andThen_ok, Bool.true_and]
      exact ih fun j hj => hl j (by simp [hj])

theorem y_eqarr {x y : Operand} {T T' e n : Nat} {k : IntKind} {xa ya : AV} (xs ys : List Int) {b : Bool} (hT : P.underlying T = some (.array n e)) (he : P.underlying e = some (.int k)) (hs : szOf P e = some 1) (hg : P.eqGuardType P.depth T = false)
    (hx : opv env x = some xa) (hlx : Le xa (.d (.ag (xs.map fun z => D.v (.int k z))))) (hy : opv env y = some ya) (hly : Le ya (.d (.ag (ys.map fun z => D.v (.int k z))))) (h1 : xs.length = n) (h2 : ys.length = n) (hb : eqI xs ys = b) :
    Yields P env st ⟨dst, .binOp .eql T x y T', ty, pos, after, guard⟩ (.d (.v (.bool b))) := fun m φ a w _ hee => by
  have ex := hlx _ _ _ _ (opv_ok hee hx)
  have ey := hly _ _ _ _ (opv_ok hee hy)
  simp only [RA, RD] at ex ey
  obtain ⟨cs, e1, e2⟩ := ex
  obtain ⟨ds, e3, e4⟩ := ey
  have e5 : cs = xs.map (Value.int k) := RFs_vals (vs := xs.map (Value.int k)) (by simpa [List.map_map, Function.comp_def] using e2)
  have e6 : ds = ys.map (Value.int k) := RFs_vals (vs := ys.map (Value.int k)) (by simpa [List.map_map, Function.comp_def] using e4)
  rw [e5] at e1
  rw [e6] at e3
  refine ⟨_, RAv, fun w' _ => ?_⟩
  have := run_equalIn_ints (P := P) w' 9998 T e n k hT he (fun w => run_sizeOf2 hs w) xs ys h1 h2
  simp only [execOp, e1, e3, Sem.run_bind, run_eqGuard_agg w' .eql T x y _ _ hg, Result.andThen_ok, run_eql_struct w' T _ _, this, hb]
  rfl
end
end Go.Sk
