/-
  Is a slice nil; slices of no elements; what is appended to a slice without spare places, as data.
-/
import Derived.WalkKit
import Derived.Deep.Quiet
import Derived.Orders
import Derived.MapKept
import Derived.Laws.StructEq
import Derived.Laws.Cover3
import Derived.Test.YtjjgmpmhfodmeaaSa
namespace Go.Sk
open Go.RowKit (Below)

theorem SR.alter {m φ st w} {id : Nat} {o o' : AO} (hs : SR m φ st w) (hi : st[id]? = some o) (hl : o.live = true) (h : ∀ c, m[id]? = some c → OR m φ w o c → OR m φ w o' c) : SR m φ (st.set id o') w where
  len := by rw [List.length_set]; exact hs.len
  obj i p c h1 h2 := by
    by_cases hii : i = id
    · subst hii
      rw [List.getElem?_set_self (List.getElem?_eq_some_iff.1 hi).1] at h1
      simp only [Option.some.injEq] at h1
      subst h1
      exact h c h2 (hs.obj i o c hi h2)
    · rw [List.getElem?_set_ne (Ne.symm hii)] at h1
      exact hs.obj i p c h1 h2
  lt := hs.lt
  inj i j p q c c' b h1 h2 l1 l2 := by
    have back : ∀ (i : Nat) (p : AO), (st.set id o')[i]? = some p → p.live = true → ∃ p2, st[i]? = some p2 ∧ p2.live = true := by
      intro i p g l
      by_cases hii : i = id
      · subst hii; exact ⟨_, hi, hl⟩
      · rw [List.getElem?_set_ne (Ne.symm hii)] at g; exact ⟨p, g, l⟩
    obtain ⟨p2, p3, p4⟩ := back i p h1 l1
    obtain ⟨q2, q3, q4⟩ := back j q h2 l2
    exact hs.inj i j p2 q2 c c' b p3 q3 p4 q4

theorem RAs_set {m φ w} : ∀ {xs : List AV} {vs : List Value} {i : Nat} {x y : AV}, RAs m φ w xs vs → xs[i]? = some x → (∀ v, RA m φ w x v → RA m φ w y v) → RAs m φ w (xs.set i y) vs
  | [], vs, i, x, y, _, hi, _ => by simp at hi
  | p :: xs, vs, i, x, y, h, hi, hy => by
    simp only [RAs] at h
    obtain ⟨c, cs, rfl, h1, h2⟩ := h
    cases i with
    | zero =>
      simp only [List.getElem?_cons_zero, Option.some.injEq] at hi
      subst hi
      exact RAs_cons (hy c h1) h2
    | succ i => exact RAs_cons h1 (RAs_set h2 (by simpa using hi) hy)

section
variable {P : Program} {e : En} {ops : Array Oper} {l rest : List Oper} {env : Env} {st : List AO} {R : Env → List AO → Prop} {K : Ko}
  {dst : Option Tmp} {ty : TypeId} {pos : String} {after : Array Edge} {guard : Option (Nat × Bool)}

/-- A cell that holds nil becomes a slice of ours. -/
theorem Inv.nil_cell {m φ a w} {id off T k T' : Nat} {cs : List AV} (hi : Inv e m φ env st a w) (hs : st[id]? = some (.row T' cs)) (hc : cs[off]? = some (.d (.v (.slice none 0 0)))) :
    ∃ m', Inv e m' φ env ((st ++ [AO.os T k 0 []]).set id (.row T' (cs.set off (.os st.length 0)))) a w := by
  obtain ⟨h1, h2⟩ := tok_nil (T := T) (k := k) hi.sr
  have h3 := hi.go h1 h2
  have hid : id < st.length := (List.getElem?_eq_some_iff.1 hs).1
  refine ⟨_, ⟨h3.sr.alter (o := .row T' cs) (by rw [List.getElem?_append_left hid]; exact hs) rfl ?_, h3.ev, h3.env, h3.sz, h3.df⟩⟩
  rintro c _ ⟨b, g1, g2, vs, g3, g4⟩
  refine ⟨b, g1, g2, vs, g3, RAs_set g4 hc (fun v hv => ?_)⟩
  simp only [RA, RD] at hv ⊢
  subst hv
  exact ⟨0, _, by rw [← hi.sr.len]; simp, Nat.le_refl _, fun _ => rfl⟩
theorem WL.nil_cell (id off T k : Nat) {T' : TypeId} {cs : List AV} (hs : st[id]? = some (.row T' cs)) (hc : cs[off]? = some (.d (.v (.slice none 0 0)))) (h : WL P e ops l env ((st ++ [AO.os T k 0 []]).set id (.row T' (cs.set off (.os st.length 0)))) R) : WL P e ops l env st R := fun _m φ a w hi =>
  let ⟨m', hi'⟩ := hi.nil_cell (T := T) (k := k) hs hc
  h m' φ a w hi'

/-- One cell is stored, whatever it holds, if it is one cell. -/
theorem d_store1 {T : TypeId} {x y : Operand} {id off : Nat} {T' : TypeId} {cs : List AV} {r : AV} (hx : opv env x = some (.pt id off)) (hs : st[id]? = some (.row T' cs)) (hy : opv env y = some r)
    (hone : ∀ m φ w v, SR m φ st w → RA m φ w r v → v.oneCell' = true ∧ v.cells = #[v]) (hn : szOf P T = some 1) (hlen : Nat.ble (off + 1) cs.length = true) :
    Does P env st ⟨dst, .store T x y, ty, pos, after, guard⟩ (.d (.v undef)) (st.set id (.row T' (cs.take off ++ [r] ++ cs.drop (off + 1)))) := fun m φ a w hsr he => by
  obtain ⟨b, h1, h2⟩ := opv_pt he hx
  obtain ⟨b', hbb, _, vs, h3, h4⟩ := hsr.obj id _ _ hs h1
  simp only [Cz.blk.injEq] at hbb
  subst hbb
  have g2 := opv_ok he hy
  obtain ⟨o1, o2⟩ := hone m φ w _ hsr g2
  have hvl := RAs_length h4
  have hle := Nat.le_of_ble_eq_true hlen
  have g2' : RAs m φ w [r] [a.eval y] := RAs_cons g2 RAs_nil
  have hst := run_storeCells_at P b off T' [a.eval y] 0 ⟨vs⟩ w h3 (by simp; omega) (by simpa using o1)
  simp only [Nat.add_zero, List.length_singleton] at hst
  have hnew : RAs m φ w (cs.take off ++ [r] ++ cs.drop (off + 1)) (vs.take off ++ [a.eval y] ++ vs.drop (off + 1)) := RAs_append (RAs_append (RAs_take off h4) g2') (RAs_drop _ h4)
  obtain ⟨k1, k2⟩ := set_row hsr hs h1 hnew
  refine ⟨undef, _, m, φ, .inr ⟨?_, rfl⟩, k1, k2, RAv⟩
  simp [execOp, Instr.storeAt, Instr.sureAddr, h2, storeVar, o2, run_sizeOf' hn, hst]
theorem one_os {id ver T k : Nat} {es : List (List AV)} (hs : st[id]? = some (.os T k ver es)) : ∀ m φ w v, SR m φ st w → RA m φ w (.os id ver) v → v.oneCell' = true ∧ v.cells = #[v] := fun m φ w v hsr h => by
  simp only [RA] at h
  obtain ⟨v0, y0, h1, _, h3⟩ := h
  obtain ⟨y, xs, q1, q2, _⟩ := hsr.obj id _ _ hs h1
  simp only [Cz.tok.injEq] at q1
  obtain ⟨rfl, rfl⟩ := q1
  have := h3 rfl
  subst this
  rcases q2.2 with ⟨rfl, _⟩ | ⟨g, cap, cur, rfl, _⟩ <;> exact ⟨rfl, rfl⟩

theorem lts_map (n : Nat) : ∀ ds : List D, AV.lts n (ds.map AV.d) = true
  | [] => rfl
  | d :: ds => by rw [List.map_cons, AV.lts, lts_map n ds]; rfl
theorem lts_append (n : Nat) : ∀ xs ys : List AV, AV.lts n xs = true → AV.lts n ys = true → AV.lts n (xs ++ ys) = true
  | [], ys, _, h => h
  | x :: xs, ys, h, k => by
    simp only [AV.lts, Bool.and_eq_true] at h
    rw [List.cons_append, AV.lts, h.1, lts_append n xs ys h.2 k]; rfl
theorem lt_os {α : Type} (n T k v : Nat) (E : α → List D) : ∀ L : List α, AO.lt n (.os T k v (L.map (encA E))) = true
  | [] => rfl
  | x :: L => by
    have := lt_os n T k v E L
    simp only [AO.lt] at this ⊢
    rw [List.map_cons, List.flatten_cons]
    exact lts_append n _ _ (lts_map n _) this
theorem lt_mp {κ α : Type} [DecidableEq κ] (n : Nat) (kf : κ → Value) (g : α → D) : ∀ L : List (κ × α), AO.lt n (.mp (L.map fun p => (kf p.1, AV.d (g p.2)))) = true
  | [] => rfl
  | x :: L => by
    have := lt_mp n kf g L
    simp only [AO.lt] at this ⊢
    rw [List.map_cons, List.map_cons, AV.lts, this]; rfl
theorem stLt_cons {n : Nat} {o : AO} {l : List AO} (h : o.lt n = true) (k : stLt n l = true) : stLt n (o :: l) = true := by rw [stLt, h, k]; rfl

/-- A group that changes the store; what it changes is no longer known. -/
theorem WL.grpS (k : Nat) (st2 : List AO) {t d : Nat} {x z : Bool} (hx : env.get t = some (.d (.v (.bool x))))
    (h1 : x = true → WL P e ops (l.take k) ((t, .d (.v (.bool true))) :: env) st (fun env' st' => SLe st' st2 ∧ GrpJ env t true d z env'))
    (h0 : x = false → WL P e ops (l.take k) ((t, .d (.v (.bool false))) :: env) st (fun env' st' => SLe st' st2 ∧ GrpJ env t false d z env'))
    (hr : WL P e ops (l.drop k) ((d, .d (.v (.bool z))) :: env) st2 R) : WL P e ops l env st R := by
  rw [← List.take_append_drop k l]
  refine WL.cut (fun env' st' => SLe st' st2 ∧ GrpJ env t x d z env') ?_ ?_
  · cases x
    · exact WL.sub (Sub.one hx (Sub.refl env)) (h0 rfl)
    · exact WL.sub (Sub.one hx (Sub.refl env)) (h1 rfl)
  · rintro env' st' ⟨hs, hJ⟩
    exact fun m φ a w hi => WL.sub (hJ.sub hx rfl) hr m φ a w (hi.weak hs)

/-- The same where the new contents hang on something (a version). -/
def WinX (k : Nat) (x : D) (new : Nat → List AO) (r : AV) (st1 : List AO) : Prop := ∃ i, WinQ k x (new i) r st1

theorem WL.winx {o : Oper} {d : Nat} {f : FuncId} {c : Call} {x : Operand} {first caps as as0 : List AV} {st0 : List AO} {new : Nat → List AO} {y : D} (js : List Nat) (hop : o.op = .call c) (hx : c.callee = .value x)
    (hf : opv env x = some (.fn (.func f) first caps)) (has : opvs env c.args.toList = some as) (hc : Ctr P f as0 st0 (WinX st0.length y new)) (hl : Les (first ++ as ++ caps) (AV.rens js as0))
    (hla : AV.lts js.length as0 = true) (hj : js.Nodup) (hwin : isWin js st (st0.map (AO.ren js))) (hlt : stLt js.length st0 = true) (hlive : allLive st0 = true) (hnew : ∀ i, stLt js.length (new i) = true)
    (hw : Wt ops env o true) (ho : o.dst = some d) (hd : Nat.ble (d + 1) e.n = true) (h : ∀ i, WL P e ops rest ((d, .d y) :: env) (putWin js ((new i).map (AO.ren js)) st) R) : WL P e ops (o :: rest) env st R := fun m φ a w hi => by
  obtain ⟨vs, h1, h2⟩ := run_call (P := P) hi.env hop hx hf has hc.1
  unfold wpList
  rw [if_pos (hw _ _ _ _ hi.env)]
  refine .inl ?_
  simp only [Oper.wp, h2, Oper.upon, ho]
  refine (win_call hc hi.sr h1 hl hla hj hwin hlt hlive).mono ?_
  rintro en w' ⟨v, r, st1, m1, φ', rfl, ⟨i, rfl, q1, q2⟩, hQ, hra⟩
  obtain ⟨m', hev, hsr, hr⟩ := hQ q1 (by rw [q2]; exact hnew i)
  have := hr rfl
  rw [q2] at hsr
  exact h i m' φ' _ w' (hi.ev_put hev hsr (Nat.le_of_ble_eq_true hd) (by simpa [AV.ren] using this))
theorem we_ret_winx {fn : Func} {φ0 w0 n m0} {x : D} {r : AV} {new : Nat → List AO} {k : Nat} (i : Nat) (hr : Res P fn env st r) (hl : Le r (.d x)) (hk : Nat.ble k st.length = true) (hs : SLe (st.take k) (new i)) : WE P ⟨m0, φ0, w0, n⟩ .ret (.fin fn (WinX k x new)) env st := fun m φ a w hi => by
  have := we_ret_win (φ0 := φ0) (w0 := w0) (n := n) (m0 := m0) hr hl (Nat.le_of_ble_eq_true hk) hs m φ a w hi
  obtain ⟨h1, v, h2, v', r', st', m', φ', h3, h4, h5⟩ := this
  exact ⟨h1, v, h2, v', r', st', m', φ', h3, ⟨i, h4⟩, h5⟩
end
end Go.Sk
/-
  Maps of our own: keys of one plain kind, the entries in the order of their insertion.
-/
namespace Go.Sk
open Go.RowKit (Below)
open Go.MapKept (IsKey sameNow_of_keys run_getObj_map run_setObj_map run_checkKey run_findKey run_keyThatStays)

def mpGet {κ α : Type} [DecidableEq κ] : List (κ × α) → κ → Option α
  | [], _ => none
  | p :: r, k => if p.1 = k then some p.2 else mpGet r k
def mpPut {κ α : Type} [DecidableEq κ] : List (κ × α) → κ → α → List (κ × α)
  | [], k, v => [(k, v)]
  | p :: r, k, v => if p.1 = k then (k, v) :: r else p :: mpPut r k v

structure KeyF {κ : Type} (d : TypeDesc) (kf : κ → Value) : Prop where
  key : ∀ a, IsKey d (kf a)
  inj : ∀ a b, kf a = kf b → a = b
theorem KeyF.int (k : IntKind) : KeyF (.int k) (fun x : Int => .int k x) := ⟨fun _ => rfl, fun a b h => by injection h⟩
theorem KeyF.str : KeyF .string (fun x : ByteArray => .string x) := ⟨fun _ => trivial, fun a b h => by injection h⟩

section
variable {κ α : Type} [DecidableEq κ] {d : TypeDesc} {kf : κ → Value}

theorem findNow_mp (hK : KeyF d kf) (k : κ) : ∀ (L : List (κ × α)) (l : List MapEntry) (i : Nat), l.map (·.key) = L.map (fun p => kf p.1) →
    (mpGet L k = none ∧ Instr.findNow d (kf k) l i = some none ∧ ∀ v, mpPut L k v = L ++ [(k, v)]) ∨
    ∃ j e x, l[j]? = some e ∧ L[j]? = some (k, x) ∧ mpGet L k = some x ∧ e.key = kf k ∧ Instr.findNow d (kf k) l i = some (some (i + j, e.val)) ∧ ∀ v, mpPut L k v = L.set j (k, v)
  | [], [], i, _ => .inl ⟨rfl, rfl, fun _ => rfl⟩
  | p :: L, e :: l, i, h => by
    simp only [List.map_cons, List.cons.injEq] at h
    obtain ⟨r, hr, hiff⟩ := sameNow_of_keys (hK.key k) (h.1 ▸ hK.key p.1 : IsKey d e.key)
    by_cases hp : p.1 = k
    · refine .inr ⟨0, e, p.2, rfl, by simp [← hp], by simp [mpGet, hp], by rw [h.1, hp], ?_, fun v => by simp [mpPut, hp]⟩
      have : r = true := hiff.2 (by rw [h.1, hp])
      simp [Instr.findNow, hr, this]
    · have hne : r = false := by
        cases r with
        | false => rfl
        | true => exact absurd (hK.inj _ _ ((hiff.1 rfl).trans h.1)).symm hp
      rcases findNow_mp hK k L l (i + 1) h.2 with ⟨h1, h2, h3⟩ | ⟨j, e', x, h1, h2, h3, h4, h5, h6⟩
      · exact .inl ⟨by simp [mpGet, hp, h1], by simp [Instr.findNow, hr, hne, h2], fun v => by simp [mpPut, hp, h3]⟩
      · exact .inr ⟨j + 1, e', x, by simpa using h1, by simpa using h2, by simp [mpGet, hp, h3], h4, by simp [Instr.findNow, hr, hne, h5]; omega, fun v => by simp [mpPut, hp, h6]⟩
  | [], _ :: _, _, h => by simp at h
  | _ :: _, [], _, h => by simp at h
end

theorem RAs_set2 {m φ w} : ∀ {xs : List AV} {vs : List Value} {i : Nat} {y : AV} {u : Value}, RAs m φ w xs vs → RA m φ w y u → RAs m φ w (xs.set i y) (vs.set i u)
  | [], vs, i, y, u, h, _ => by simp only [RAs] at h; subst h; simp [RAs]
  | p :: xs, vs, i, y, u, h, hy => by
    simp only [RAs] at h
    obtain ⟨c, cs, rfl, h1, h2⟩ := h
    cases i with
    | zero => exact RAs_cons hy h2
    | succ i => exact RAs_cons h1 (RAs_set2 h2 hy)

section
variable {P : Program} {env : Env} {st : List AO} {dst : Option Tmp} {ty : TypeId} {pos : String} {after : Array Edge} {guard : Option (Nat × Bool)}
variable {κ α : Type}

abbrev mpO (kf : κ → Value) (g : α → AV) (L : List (κ × α)) : AO := .mp (L.map fun p => (kf p.1, g p.2))

theorem b_makeMap {T : TypeId} (kf : κ → Value) (g : α → AV) : DoesB P env st ⟨dst, .makeMap T none, ty, pos, after, guard⟩ (.mp st.length) (st ++ [mpO kf g []]) := fun m φ a w hs he => by
  have hF := Fz.alloc hs (.map #[] 0)
  have hk : ∀ b, b < w.heap.size → (w.alloc (.map #[] 0)).heap[b]? = w.heap[b]? := fun b hb => heap_alloc_lt hb
  have hnew : ∀ b, (Cz.blk w.heap.size).bl = some b → w.heap.size ≤ b := fun b hb => by simp only [Cz.bl, Option.some.injEq] at hb; omega
  refine ⟨.map (some w.heap.size), w.alloc (.map #[] 0), m ++ [.blk w.heap.size], φ, rfl, Ev.push hs hF hk (by simp) rfl rfl rfl hnew, SR.push hs hF hk (by simp) ?_ hnew, ?_, (Below.refl _ _).alloc (Nat.le_refl _) _⟩
  · exact ⟨w.heap.size, rfl, hs.lt _ (Nat.le_refl _), [], 0, heap_alloc_new w _, rfl, RAs_nil⟩
  · simp only [RA]; exact ⟨_, by rw [← hs.len]; simp, rfl⟩

variable [DecidableEq κ]

theorem opv_mp {m φ w a} {x : Operand} {id : Nat} (he : EnvOk m φ w env a) (h : opv env x = some (.mp id)) : ∃ b, m[id]? = some (.blk b) ∧ a.eval x = .map (some b) := by
  have := opv_ok he h; simpa [RA] using this

theorem mapSet {m φ w} {id b : Nat} {es es' : List (Value × AV)} {l : List MapEntry} {clock' : Nat} (hs : SR m φ st w) (hi : st[id]? = some (.mp es)) (hb : m[id]? = some (.blk b)) (hkeys : l.map (·.key) = es'.map (·.1)) (hv : RAs m φ w (es'.map (·.2)) (l.map (·.val))) :
    Ev m φ w m φ { w with heap := w.heap.setIfInBounds b (.map ⟨l⟩ clock') } ∧ SR m φ (st.set id (.mp es')) { w with heap := w.heap.setIfInBounds b (.map ⟨l⟩ clock') } := by
  obtain ⟨b', hbb, h0, l0, cl0, h1, h2, h3⟩ := hs.obj id _ _ hi hb
  simp only [Cz.blk.injEq] at hbb
  subst hbb
  have hlt := heap_lt h1
  have hne : ∀ b2, b2 ≠ b → (w.heap.setIfInBounds b (.map ⟨l⟩ clock'))[b2]? = w.heap[b2]? := fun b2 hn => by simp [Ne.symm hn]
  have hF : Fz φ w φ { w with heap := w.heap.setIfInBounds b (.map ⟨l⟩ clock') } := fun b2 off c g1 g2 => ⟨g1, by
    have hn : b2 ≠ b := fun e => by subst e; omega
    rw [cell?_congr (w' := { w with heap := w.heap.setIfInBounds b (.map ⟨l⟩ clock') }) (hne b2 hn)]; exact g2⟩
  have hset : m.set id (.blk b) = m := by
    apply List.ext_getElem?
    intro i
    by_cases hii : id = i
    · subst hii; rw [List.getElem?_set_self (List.getElem?_eq_some_iff.1 hb).1, hb]
    · rw [List.getElem?_set_ne hii]
  have := set_obj (w' := { w with heap := w.heap.setIfInBounds b (.map ⟨l⟩ clock') }) (φ' := φ) (o' := .mp es') (c' := .blk b) hs hi rfl hb rfl rfl rfl rfl (by simp) (fun b2 hb2 hn => ⟨hne b2 (fun e => hn (by rw [e]; rfl)), rfl⟩) hF (fun b2 hb2 => hs.lt b2 (by simpa using hb2)) (fun b2 hb2 => .inl hb2)
    (by rw [hset]; exact ⟨b, rfl, h0, l, clock', by simp [hlt], hkeys, RAs.mono (Pre.refl m) hF _ _ hv⟩)
  rwa [hset] at this

theorem run_mapUpdate {w : World} {T kt et : TypeId} {d : TypeDesc} {kf : κ → Value} {b : Nat} {l : List MapEntry} {clock : Nat} {k : κ} {u : Value} {L : List (κ × α)} (hT : P.underlying T = some (.map kt et)) (hd : P.underlying kt = some d) (hK : KeyF d kf) (hb : w.heap[b]? = some (.map ⟨l⟩ clock))
    (hl : l.map (·.key) = L.map (fun p => kf p.1)) (v : α) : ∃ l' clock', (Instr.mapUpdate T (.map (some b)) (kf k) u).run P w = .ok () { w with heap := w.heap.setIfInBounds b (.map ⟨l'⟩ clock') } ∧
      l'.map (·.key) = (mpPut L k v).map (fun p => kf p.1) ∧ ((mpPut L k v = L ++ [(k, v)] ∧ l'.map (·.val) = l.map (·.val) ++ [u]) ∨ ∃ j, mpPut L k v = L.set j (k, v) ∧ l'.map (·.val) = (l.map (·.val)).set j u) := by
  rcases findNow_mp hK k L l 0 hl with ⟨h1, h2, h3⟩ | ⟨j, e, x, h1, h2, h3, h4, h5, h6⟩
  · refine ⟨l ++ [⟨kf k, u, clock⟩], clock + 1, ?_, by rw [h3 v]; simp [hl], .inl ⟨h3 v, by simp⟩⟩
    simp [Instr.mapUpdate, run_underlying hT, MapKept.run_getObj_map hb, run_checkKey hd (hK.key k), run_findKey hd h2, MapKept.run_setObj_map _ hb, Result.andThen]
  · have hj : (⟨l⟩ : Array MapEntry)[j]? = some e := by simpa using h1
    refine ⟨l.modify j (fun e' => { e' with key := kf k, val := u }), clock, ?_, ?_, .inr ⟨j, h6 v, ?_⟩⟩
    · simp [Instr.mapUpdate, run_underlying hT, MapKept.run_getObj_map hb, run_checkKey hd (hK.key k), run_findKey hd (by simpa using h5), h1, h4, run_keyThatStays (hK.key k), MapKept.run_setObj_map _ hb, Result.andThen]
    · rw [h6 v]
      apply List.ext_getElem?
      intro i
      have hi := congrArg (fun z => z[i]?) hl
      simp only [List.getElem?_map] at hi
      rw [List.getElem?_map, List.getElem?_map, List.getElem?_modify, List.getElem?_set]
      by_cases hij : j = i
      · subst hij
        simp [h1, (List.getElem?_eq_some_iff.1 h2).1]
      · simp [hij]; simpa using hi
    · apply List.ext_getElem?
      intro i
      rw [List.getElem?_map, List.getElem?_modify, List.getElem?_set]
      by_cases hij : j = i
      · subst hij
        simp [(List.getElem?_eq_some_iff.1 h1).1]
      · simp [hij]

theorem d_mapUpdate {T kt et : TypeId} {d : TypeDesc} {o : Oper} {x ki v : Operand} {id : Nat} (kf : κ → Value) (g : α → AV) (L : List (κ × α)) {k : κ} {u : α} (ho : (o = ⟨dst, .insert T x ki v, ty, pos, after, guard⟩) ∨ (o = ⟨dst, .mapUpdate T x ki v, ty, pos, after, guard⟩)) (hT : P.underlying T = some (.map kt et)) (hd : P.underlying kt = some d) (hK : KeyF d kf)
    (hx : opv env x = some (.mp id)) (hi : st[id]? = some (mpO kf g L)) (hk : opv env ki = some (.d (.v (kf k)))) (hv : opv env v = some (g u)) :
    Does P env st o (.d (.v undef)) (st.set id (mpO kf g (mpPut L k u))) := fun m φ a w hs he => by
  obtain ⟨b, h1, h2⟩ := opv_mp he hx
  obtain ⟨b', hbb, h0, l, cl, g1, g2, g3⟩ := hs.obj id _ _ hi h1
  simp only [Cz.blk.injEq] at hbb
  subst hbb
  have hkeys : l.map (·.key) = L.map (fun p => kf p.1) := by rw [g2]; simp
  obtain ⟨l', clock', r1, r2, r3⟩ := run_mapUpdate (P := P) (k := k) (u := a.eval v) (w := w) hT hd hK g1 hkeys u
  have hru := opv_ok he hv
  have hvals : RAs m φ w (((mpPut L k u).map fun p => (kf p.1, g p.2)).map (·.2)) (l'.map (·.val)) := by
    rw [List.map_map] at g3 ⊢
    rcases r3 with ⟨e1, e2⟩ | ⟨j, e1, e2⟩
    · rw [e1, e2, List.map_append]; exact RAs_append g3 (RAs_cons hru RAs_nil)
    · rw [e1, e2, List.map_set]; exact RAs_set2 g3 hru
  obtain ⟨k1, k2⟩ := mapSet (clock' := clock') hs hi h1 (by rw [r2]; simp) hvals
  refine ⟨undef, _, m, φ, .inr ⟨?_, rfl⟩, k1, k2, RAv⟩
  have hkv := opv_v he hk
  rcases ho with rfl | rfl <;> simp [execOp, h2, hkv, r1]

theorem y_lookup {T kt et : TypeId} {d : TypeDesc} {x ki : Operand} {id : Nat} (kf : κ → Value) (g : α → AV) (L : List (κ × α)) {k : κ} {z : α} {zv : Value} (hT : P.underlying T = some (.map kt et)) (hd : P.underlying kt = some d) (hK : KeyF d kf)
    (hx : opv env x = some (.mp id)) (hi : st[id]? = some (mpO kf g L)) (hk : opv env ki = some (.d (.v (kf k)))) (hz : (P.info? et).bind (·.zero) = some zv) (hgz : g z = .d (.v zv)) :
    Yields P env st ⟨dst, .lookup T x ki false, ty, pos, after, guard⟩ (g ((mpGet L k).getD z)) := fun m φ a w hs he => by
  obtain ⟨b, h1, h2⟩ := opv_mp he hx
  obtain ⟨b', hbb, h0, l, cl, g1, g2, g3⟩ := hs.obj id _ _ hi h1
  simp only [Cz.blk.injEq] at hbb
  subst hbb
  have hkeys : l.map (·.key) = L.map (fun p => kf p.1) := by rw [g2]; simp
  have hkv := opv_v he hk
  have hlt := heap_lt g1
  cases hinf : P.info? et with
  | none => simp [hinf] at hz
  | some i =>
    simp only [hinf, Option.bind_some] at hz
    rcases findNow_mp hK k L l 0 hkeys with ⟨q1, q2, _⟩ | ⟨j, e, y, q1, q2, q3, q4, q5, _⟩
    · refine ⟨zv, by rw [q1, Option.getD_none, hgz]; exact RAv, fun w' hb => ?_⟩
      have g1' : w'.heap[b]? = some (.map ⟨l⟩ cl) := by rw [hb.block b hlt]; exact g1
      simp [execOp, Instr.lookup, h2, hkv, run_underlying hT, MapKept.run_getObj_map g1', run_checkKey hd (hK.key k), run_findKey hd q2, zeroValue, typeInfo, hinf, hz, Result.andThen]
    · have hval : RA m φ w (g y) e.val := by
        have : (((L.map fun p => (kf p.1, g p.2)).map (·.2)))[j]? = some (g y) := by simp [q2]
        obtain ⟨v', hv1, hv2⟩ := RAs_get g3 this
        simp only [List.getElem?_map, q1, Option.map_some, Option.some.injEq] at hv1
        rw [hv1]; exact hv2
      refine ⟨e.val, by rw [q3, Option.getD_some]; exact hval, fun w' hb => ?_⟩
      have g1' : w'.heap[b]? = some (.map ⟨l⟩ cl) := by rw [hb.block b hlt]; exact g1
      simp [execOp, Instr.lookup, h2, hkv, run_underlying hT, MapKept.run_getObj_map g1', run_checkKey hd (hK.key k), run_findKey hd q5, Result.andThen]
end
end Go.Sk
/-
  Regions that draw their order, of any kind: each operation is shown alone, over what its predecessors surely have left.
-/
namespace Go.Sk
open Go.RowKit (Below)

theorem WL.drop {P : Program} {e : En} {ops : Array Oper} {l : List Oper} {env : Env} {st : List AO} {R : Env → List AO → Prop} (n : Nat) (he : Env.lt n env = true) (ho : stLt n (st.take n) = true) (hm : e.m.length ≤ n) (h : WL P e ops l env (st.take n) R) : WL P e ops l env st R := fun m φ a w hi =>
  h (m.take n) φ a w (hi.drop n he ho hm)

def FL (base : Env) (L : Nat → Bool) : List (Nat × Nat × AV) → Env
  | [] => base
  | (k, d, r) :: rest => bif L k then (d, r) :: FL base L rest else FL base L rest
def regOf : List Oper → List AV → Nat → List (Nat × Nat × AV)
  | o :: l, r :: rs, k => (match o.dst with | some d => (k, d, r) :: regOf l rs (k + 1) | none => regOf l rs (k + 1))
  | _, _, _ => []

theorem Env.get_cons (k : Nat) (v : AV) (r : Env) (t : Nat) : Env.get ((k, v) :: r) t = if t = k then some v else Env.get r t := by
  conv => lhs; unfold Env.get
  by_cases h : t = k
  · subst h; simp
  · have : Nat.beq t k = false := by
      cases hb : Nat.beq t k with
      | false => rfl
      | true => exact absurd (Nat.eq_of_beq_eq_true hb) h
    rw [this, if_neg h]; rfl

theorem FL_hit {base : Env} {L : Nat → Bool} {k d : Nat} {r : AV} : ∀ {reg : List (Nat × Nat × AV)}, (reg.map (·.2.1)).Nodup → (k, d, r) ∈ reg → L k = true → (FL base L reg).get d = some r
  | (j, d', r') :: reg, hn, hm, hL => by
    simp only [List.map_cons, List.nodup_cons] at hn
    rcases List.mem_cons.1 hm with h | h
    · simp only [Prod.mk.injEq] at h
      obtain ⟨rfl, rfl, rfl⟩ := h
      simp [FL, hL, Env.get_cons]
    · have hne : d ≠ d' := fun he => hn.1 (by subst he; exact List.mem_map.2 ⟨_, h, rfl⟩)
      have := FL_hit (base := base) hn.2 h hL
      unfold FL
      cases L j
      · exact this
      · rw [cond_true, Env.get_cons, if_neg hne]; exact this
theorem FL_miss {base : Env} {L : Nat → Bool} {t : Nat} : ∀ {reg : List (Nat × Nat × AV)}, (∀ k r, (k, t, r) ∈ reg → L k = false) → (FL base L reg).get t = base.get t
  | [], _ => rfl
  | (j, d', r') :: reg, h => by
    have ih := FL_miss (base := base) (L := L) (t := t) (reg := reg) (fun k r hm => h k r (List.mem_cons_of_mem _ hm))
    unfold FL
    cases hL : L j
    · exact ih
    · have hne : t ≠ d' := fun he => by
        have := h j r' (by rw [he]; exact List.mem_cons_self)
        rw [hL] at this; cases this
      rw [cond_true, Env.get_cons, if_neg hne]; exact ih
theorem FL_step {base : Env} {L L' : Nat → Bool} {k t : Nat} : ∀ {reg : List (Nat × Nat × AV)}, (∀ j, j ≠ k → L' j = L j) → (∀ r, (k, t, r) ∉ reg) → (FL base L' reg).get t = (FL base L reg).get t
  | [], _, _ => rfl
  | (j, d', r') :: reg, h, hk => by
    have ih := FL_step (base := base) (reg := reg) h (fun r hr => hk r (List.mem_cons_of_mem _ hr))
    unfold FL
    by_cases hjk : j = k
    · subst hjk
      have hne : t ≠ d' := fun he => hk r' (by rw [he]; exact List.mem_cons_self)
      cases L' j <;> cases L j <;> simp only [cond_true, cond_false, Env.get_cons, if_neg hne, ih]
    · rw [h j hjk]
      cases L j
      · exact ih
      · rw [cond_true, cond_true, Env.get_cons, Env.get_cons, ih]

theorem mem_regOf : ∀ {l : List Oper} {rs : List AV} {k j d : Nat} {r : AV}, (j, d, r) ∈ regOf l rs k → k ≤ j ∧ ∃ o, l[j - k]? = some o ∧ o.dst = some d ∧ rs[j - k]? = some r
  | [], rs, k, j, d, r, h => by simp [regOf] at h
  | o :: l, [], k, j, d, r, h => by simp [regOf] at h
  | o :: l, r0 :: rs, k, j, d, r, h => by
    unfold regOf at h
    have key : (j, d, r) ∈ regOf l rs (k + 1) → k ≤ j ∧ ∃ o', (o :: l)[j - k]? = some o' ∧ o'.dst = some d ∧ (r0 :: rs)[j - k]? = some r := fun h => by
      obtain ⟨h1, o', h2, h3, h4⟩ := mem_regOf h
      have : j - k = (j - (k + 1)) + 1 := by omega
      exact ⟨by omega, o', by rw [this]; simpa using h2, h3, by rw [this]; simpa using h4⟩
    split at h
    · rename_i d0 hd
      rcases List.mem_cons.1 h with h | h
      · simp only [Prod.mk.injEq] at h
        obtain ⟨rfl, rfl, rfl⟩ := h
        exact ⟨Nat.le_refl _, o, by simp, hd, by simp⟩
      · exact key h
    · exact key h
theorem regOf_mem : ∀ {l : List Oper} {rs : List AV} {k j d : Nat} {r : AV} {o : Oper}, l[j]? = some o → o.dst = some d → rs[j]? = some r → (k + j, d, r) ∈ regOf l rs k
  | [], rs, k, j, d, r, o, h, _, _ => by simp at h
  | o0 :: l, [], k, j, d, r, o, _, _, h => by simp at h
  | o0 :: l, r0 :: rs, k, 0, d, r, o, h1, h2, h3 => by
    simp only [List.getElem?_cons_zero, Option.some.injEq] at h1 h3
    subst h1; subst h3
    simp [regOf, h2]
  | o0 :: l, r0 :: rs, k, j + 1, d, r, o, h1, h2, h3 => by
    have := regOf_mem (k := k + 1) (by simpa using h1 : l[j]? = some o) h2 (by simpa using h3 : rs[j]? = some r)
    rw [show k + (j + 1) = k + 1 + j by omega]
    unfold regOf
    split
    · exact List.mem_cons_of_mem _ this
    · exact this

/-- The edges go down, and tc names predecessors only. -/
def tcOk (ops : List Oper) (tc : List (List Nat)) : Bool :=
  (List.range ops.length).all fun k => match ops[k]? with
    | none => false
    | some o => (o.after.toList.all fun e => !(Region.binds .any e) || Nat.blt e.on k) &&
      (tc.getD k []).all fun j => o.after.toList.any fun e => Region.binds .any e && (Nat.beq e.on j || (tc.getD e.on []).contains j)

def Down (ops : List Oper) (L : Nat → Bool) : Prop := ∀ (k : Nat) (o : Oper), ops[k]? = some o → L k = true → ∀ e ∈ o.after, Region.binds .any e = true → L e.on = true

theorem tc_listed {ops : List Oper} {tc : List (List Nat)} (hok : tcOk ops tc = true) {L : Nat → Bool} (hd : Down ops L) : ∀ (k : Nat) (o : Oper), ops[k]? = some o → (∀ e ∈ o.after, Region.binds .any e = true → L e.on = true) → ∀ j ∈ tc.getD k [], L j = true := by
  intro k
  induction k using Nat.strongRecOn with
  | _ k ih =>
    intro o ho hall j hj
    have hk : k < ops.length := (List.getElem?_eq_some_iff.1 ho).1
    have h1 := List.all_eq_true.1 hok k (List.mem_range.2 hk)
    simp only [ho, Bool.and_eq_true] at h1
    have h2 := List.any_eq_true.1 (List.all_eq_true.1 h1.2 j hj)
    obtain ⟨e, he, h3⟩ := h2
    simp only [Bool.and_eq_true, Bool.or_eq_true] at h3
    have hea : e ∈ o.after := Array.mem_toList_iff.1 he
    have hL := hall e hea h3.1
    rcases h3.2 with h4 | h4
    · rw [← Nat.eq_of_beq_eq_true h4]; exact hL
    · have h5 := List.all_eq_true.1 h1.1 e he
      simp only [h3.1, Bool.not_true, Bool.false_or] at h5
      have hlt : e.on < k := by simpa [Nat.blt_eq] using h5
      cases hoe : ops[e.on]? with
      | none => exact absurd (List.getElem?_eq_none_iff.1 hoe) (by omega)
      | some o' => exact ih e.on hlt o' hoe (fun e' he' hb => hd e.on o' hoe hL e' he' hb) j (by simpa using h4)

/-- How many of the chain are listed. -/
def cnt (L : Nat → Bool) : List Nat → Nat
  | [] => 0
  | e :: es => bif L e then cnt L es + 1 else 0

def eko (l : List Oper) (rs : List AV) (j : Nat) : Option (Nat × AV) := match l[j]?, rs[j]? with
  | some o, some r => o.dst.map fun d => (d, r)
  | _, _ => none
def ekB (base : Env) : List Nat → Env
  | x :: bk => (match base.get x with | some v => (x, v) :: ekB base bk | none => ekB base bk)
  | [] => []
def ekP (l : List Oper) (rs : List AV) (tail : Env) : List Nat → Env
  | j :: pk => (match eko l rs j with | some p => p :: ekP l rs tail pk | none => ekP l rs tail pk)
  | [] => tail
def ekOf (l : List Oper) (rs : List AV) (base : Env) (pk bk : List Nat) : Env := ekP l rs (ekB base bk) pk

def Ob (P : Program) (e : En) (l : List Oper) (rs : List AV) (base : Env) (sts : Nat → List AO) (k : Nat) (o : Oper) (pk bk : List Nat) (c c' : Nat) : Prop :=
  ∀ F : Env, WL P e l.toArray [o] (ekOf l rs base pk bk ++ F) (sts c) fun env' st' => st' = sts c' ∧ ∃ pre, env' = pre ++ (ekOf l rs base pk bk ++ F) ∧
    (∀ t x, pre.get t = some x → o.dst = some t) ∧ ∀ d r, o.dst = some d → rs[k]? = some r → pre.get d = some r
def ObC (P : Program) (e : En) (l : List Oper) (rs : List AV) (base : Env) (sts : Nat → List AO) (k : Nat) (o : Oper) (pk bk : List Nat) (up : Bool) : List Nat → Prop
  | [] => True
  | c :: cs => Ob P e l rs base sts k o pk bk c (bif up then c + 1 else c) ∧ ObC P e l rs base sts k o pk bk up cs
def Obs (P : Program) (e : En) (l : List Oper) (rs : List AV) (base : Env) (sts : Nat → List AO) (es : List Nat) : Nat → List Oper → List (List Nat × List Nat × List Nat) → Prop
  | k, o :: ol, p :: ps => ObC P e l rs base sts k o p.1 p.2.1 (es.contains k) p.2.2 ∧ Obs P e l rs base sts es (k + 1) ol ps
  | _, _, _ => True

theorem ObC_get {P e l rs base sts k o pk bk up} : ∀ {cs : List Nat}, ObC P e l rs base sts k o pk bk up cs → ∀ c ∈ cs, Ob P e l rs base sts k o pk bk c (bif up then c + 1 else c)
  | c :: cs, h, c', hc => by
    rcases List.mem_cons.1 hc with rfl | hc
    · exact h.1
    · exact ObC_get h.2 c' hc
theorem Obs_get {P e l rs base sts es} : ∀ {ol : List Oper} {ps : List (List Nat × List Nat × List Nat)} {k j : Nat} {o : Oper} {p : List Nat × List Nat × List Nat}, Obs P e l rs base sts es k ol ps → ol[j]? = some o → ps[j]? = some p → ObC P e l rs base sts (k + j) o p.1 p.2.1 (es.contains (k + j)) p.2.2
  | o0 :: ol, p0 :: ps, k, 0, o, p, h, h1, h2 => by
    simp only [List.getElem?_cons_zero, Option.some.injEq] at h1 h2
    subst h1; subst h2; exact h.1
  | o0 :: ol, p0 :: ps, k, j + 1, o, p, h, h1, h2 => by
    have := Obs_get h.2 (by simpa using h1 : ol[j]? = some o) (by simpa using h2 : ps[j]? = some p)
    rw [show k + (j + 1) = k + 1 + j by omega]; exact this
  | [], _, _, _, _, _, _, h1, _ => by simp at h1
  | _ :: _, [], _, _, _, _, _, _, h2 => by simp at h2

def nodupB : List Nat → Bool
  | [] => true
  | x :: l => !(l.contains x) && nodupB l
theorem nodupB_spec : ∀ {l : List Nat}, nodupB l = true → l.Nodup
  | [], _ => List.nodup_nil
  | x :: l, h => by
    simp only [nodupB, Bool.and_eq_true, Bool.not_eq_true', List.contains_eq_mem, decide_eq_false_iff_not] at h
    exact List.nodup_cons.2 ⟨h.1, nodupB_spec h.2⟩

/-- The check of a plan. -/
def allOk (l : List Oper) (tc : List (List Nat)) (es : List Nat) (plan : List (List Nat × List Nat × List Nat)) : Bool :=
  tcOk l tc && nodupB (l.filterMap (·.dst)) && nodupB es && Nat.beq plan.length l.length &&
  ((List.range es.length).all fun i => match es[i]?, es[i + 1]? with | some x, some y => (tc.getD y []).contains x | _, _ => true) &&
  (List.range l.length).all fun k => match plan[k]? with
    | none => false
    | some (pk, bk, cs) => (pk.all fun j => (tc.getD k []).contains j) && (!(es.contains k) || cs.all fun c => es[c]? == some k) &&
      (bk.all fun x => (List.range l.length).all fun j => match l[j]? with | some o => !(o.dst == some x) || Nat.beq j k || (tc.getD j []).contains k | none => true) &&
      (List.range (es.length + 1)).all fun c => cs.contains c || (match es[c]? with | some y => (tc.getD k []).contains y | none => false) ||
        (es.take c).any fun y => Nat.beq y k || (tc.getD y []).contains k

theorem eko_spec {l : List Oper} {rs : List AV} {j t : Nat} {x : AV} (h : eko l rs j = some (t, x)) : (j, t, x) ∈ regOf l rs 0 := by
  unfold eko at h
  split at h
  · rename_i o r h1 h2
    cases hd : o.dst with
    | none => simp [hd] at h
    | some d =>
      simp only [hd, Option.map_some, Option.some.injEq, Prod.mk.injEq] at h
      obtain ⟨rfl, rfl⟩ := h
      have := regOf_mem (k := 0) h1 hd h2
      simpa using this
  · cases h
theorem ekB_spec {base : Env} {t : Nat} {x : AV} : ∀ {bk : List Nat}, (ekB base bk).get t = some x → t ∈ bk ∧ base.get t = some x
  | y :: bk, h => by
    unfold ekB at h
    split at h
    · rename_i v hv
      rw [Env.get_cons] at h
      split at h
      · rename_i htd
        simp only [Option.some.injEq] at h
        subst h; subst htd
        exact ⟨List.mem_cons_self, hv⟩
      · exact ⟨List.mem_cons_of_mem _ (ekB_spec h).1, (ekB_spec h).2⟩
    · exact ⟨List.mem_cons_of_mem _ (ekB_spec h).1, (ekB_spec h).2⟩
  | [], h => by simp [ekB, Env.get] at h
theorem ek_spec {l : List Oper} {rs : List AV} {base : Env} {t : Nat} {x : AV} {bk : List Nat} : ∀ {pk : List Nat}, (ekOf l rs base pk bk).get t = some x → (∃ j ∈ pk, (j, t, x) ∈ regOf l rs 0) ∨ (t ∈ bk ∧ base.get t = some x)
  | j :: pk, h => by
    unfold ekOf ekP at h
    split at h
    · rename_i p hp
      obtain ⟨d, r⟩ := p
      rw [Env.get_cons] at h
      split at h
      · rename_i htd
        simp only [Option.some.injEq] at h
        subst h; subst htd
        exact .inl ⟨j, List.mem_cons_self, eko_spec hp⟩
      · rcases ek_spec (pk := pk) h with ⟨j', h1, h2⟩ | h1
        · exact .inl ⟨j', List.mem_cons_of_mem _ h1, h2⟩
        · exact .inr h1
    · rcases ek_spec (pk := pk) h with ⟨j', h1, h2⟩ | h1
      · exact .inl ⟨j', List.mem_cons_of_mem _ h1, h2⟩
      · exact .inr h1
  | [], h => .inr (ekB_spec h)

theorem cnt_take {L : Nat → Bool} : ∀ {es : List Nat}, ∀ y ∈ es.take (cnt L es), L y = true
  | [], y, h => by simp [cnt] at h
  | e :: es, y, h => by
    unfold cnt at h
    cases hL : L e with
    | false => simp [hL] at h
    | true =>
      rw [hL, cond_true, List.take_succ_cons] at h
      rcases List.mem_cons.1 h with rfl | h
      · exact hL
      · exact cnt_take y h
theorem cnt_next {L : Nat → Bool} : ∀ {es : List Nat} {y : Nat}, es[cnt L es]? = some y → L y = false
  | [], y, h => by simp [cnt] at h
  | e :: es, y, h => by
    unfold cnt at h
    cases hL : L e with
    | false => simp only [hL, cond_false, List.getElem?_cons_zero, Option.some.injEq] at h; rw [← h]; exact hL
    | true => simp only [hL, cond_true, List.getElem?_cons_succ] at h; exact cnt_next h
theorem cnt_le {L : Nat → Bool} : ∀ {es : List Nat}, cnt L es ≤ es.length
  | [] => Nat.le_refl _
  | e :: es => by unfold cnt; cases L e <;> simp [cnt_le]
theorem cnt_other {L L' : Nat → Bool} {k : Nat} (h : ∀ j, j ≠ k → L' j = L j) : ∀ {es : List Nat}, k ∉ es → cnt L' es = cnt L es
  | [], _ => rfl
  | e :: es, hk => by
    have h1 : e ≠ k := fun he => hk (by rw [he]; exact List.mem_cons_self)
    unfold cnt
    rw [h e h1, cnt_other h (fun hm => hk (List.mem_cons_of_mem _ hm))]
theorem cnt_self {L L' : Nat → Bool} {k : Nat} (h : ∀ j, j ≠ k → L' j = L j) (hk : L k = false) (hk' : L' k = true) : ∀ {es : List Nat}, es.Nodup → es[cnt L es]? = some k → (∀ y, es[cnt L es + 1]? = some y → L y = false) → cnt L' es = cnt L es + 1
  | [], _, h1, _ => by simp at h1
  | e :: es, hn, h1, h2 => by
    obtain ⟨n1, n2⟩ := List.nodup_cons.1 hn
    cases hL : L e with
    | true =>
      have hek : e ≠ k := fun he => by subst he; rw [hk] at hL; cases hL
      have e1 : cnt L (e :: es) = cnt L es + 1 := by simp [cnt, hL]
      rw [e1] at h1 h2 ⊢
      have := cnt_self h hk hk' n2 (by simpa using h1) (fun y hy => h2 y (by simpa using hy))
      simp [cnt, h e hek, hL, this]
    | false =>
      have e1 : cnt L (e :: es) = 0 := by simp [cnt, hL]
      rw [e1] at h1 h2 ⊢
      simp only [List.getElem?_cons_zero, Option.some.injEq] at h1
      subst h1
      have : cnt L' es = 0 := by
        cases es with
        | nil => rfl
        | cons y es =>
          have hy := h2 y (by simp)
          have hne : y ≠ e := fun he => n1 (by rw [he]; exact List.mem_cons_self)
          simp [cnt, h y hne, hy]
      simp [cnt, hk', this]
theorem cnt_all {es : List Nat} : ∀ {L : Nat → Bool}, (∀ y ∈ es, L y = true) → cnt L es = es.length := by
  induction es with
  | nil => intros; rfl
  | cons e es ih => intro L h; simp [cnt, h e List.mem_cons_self, ih (fun y hy => h y (List.mem_cons_of_mem _ hy))]

theorem count_set : ∀ {l : List Bool} {i : Nat}, l[i]? = some false → (l.set i true).count false + 1 = l.count false
  | [], i, h => by simp at h
  | b :: l, 0, h => by simp only [List.getElem?_cons_zero, Option.some.injEq] at h; subst h; simp
  | b :: l, i + 1, h => by
    have := count_set (l := l) (i := i) (by simpa using h)
    cases b <;> simp <;> omega

section
variable {P : Program} {e : En} {l : List Oper} {rs : List AV} {base : Env} {sts : Nat → List AO} {es : List Nat}

def At (e : En) (l : List Oper) (rs : List AV) (base : Env) (sts : Nat → List AO) (es : List Nat) (L : Nat → Bool) (a : Act) (w : World) : Prop :=
  ∃ m φ, Inv e m φ (FL base L (regOf l rs 0)) (sts (cnt L es)) a w

theorem wpOp_of_WL {k : Nat} {o : Oper} {env : Env} {st : List AO} {R : Env → List AO → Prop} {m φ a w} {K : Act → World → Prop} (ho : l[k]? = some o) (h : WL P e l.toArray [o] env st R) (hi : Inv e m φ env st a w)
    (hK : ∀ a' w' env' st' m' φ', R env' st' → Inv e m' φ' env' st' a' w' → K a' w') : wpOp P l.toArray QF k K a w := by
  have h1 := h m φ a w hi
  have ho' : l.toArray[k]? = some o := by simpa using ho
  unfold wpOp
  simp only [ho']
  unfold wpList at h1
  have key : ∀ (a' : Act) (w' : World), wpList P l.toArray (okPost e R) [] a' w' → K a' w' := by
    rintro a' w' ⟨_, env', st', m', φ', hR, hi'⟩
    exact hK a' w' env' st' m' φ' hR hi'
  split
  · rename_i hw
    rw [if_pos hw] at h1
    rcases h1 with h1 | ⟨_, a0, w0, h0⟩
    · refine .inl ?_
      unfold Oper.wp at *
      generalize (execOp a.eval o).run P w = rr at *
      cases rr with
      | ok n w' =>
        cases n <;> simp only [Oper.upon] at h1 ⊢
        case value v => exact key _ _ h1
        case skip => exact key _ _ h1
        case defer d => exact key _ _ h1
        case enter g args =>
          refine Calls.mono h1 fun en w'' he => ?_
          cases en with
          | returned u => exact key _ _ he
          | panicked c => exact absurd he.1 (by simp)
          | outgrown => obtain ⟨_, _, h0⟩ := he; exact absurd h0.1 (by simp)
        case row row args => exact Rows.mono h1 fun u w'' he => key _ _ he
      | halt x w' => cases x <;> simp only [Oper.upon] at h1 ⊢; exact absurd h1.1 (by simp)
    · exact absurd h0.1 (by simp)
  · rename_i hw
    rw [if_neg hw] at h1
    exact key _ _ h1

theorem reg_nodup : ∀ {l : List Oper} {rs : List AV} {k : Nat}, (l.filterMap (·.dst)).Nodup → ((regOf l rs k).map (·.2.1)).Nodup ∧ ∀ d ∈ (regOf l rs k).map (·.2.1), d ∈ l.filterMap (·.dst)
  | [], rs, k, _ => by simp [regOf]
  | o :: l, [], k, _ => by simp [regOf]
  | o :: l, r :: rs, k, h => by
    unfold regOf
    cases hd : o.dst with
    | none =>
      simp only [List.filterMap_cons, hd] at h ⊢
      exact reg_nodup h
    | some d =>
      simp only [List.filterMap_cons, hd] at h ⊢
      obtain ⟨h1, h2⟩ := List.nodup_cons.1 h
      obtain ⟨h3, h4⟩ := reg_nodup (rs := rs) (k := k + 1) h2
      refine ⟨?_, ?_⟩
      · simp only [List.map_cons]
        exact List.nodup_cons.2 ⟨fun hm => h1 (h4 d hm), h3⟩
      · intro d' hd'
        simp only [List.map_cons] at hd'
        rcases List.mem_cons.1 hd' with rfl | hd'
        · exact List.mem_cons_self
        · exact List.mem_cons_of_mem _ (h4 d' hd')

theorem all_step {tc : List (List Nat)} {plan : List (List Nat × List Nat × List Nat)} (hok : allOk l tc es plan = true) (hrs : rs.length = l.length) (hobs : Obs P e l rs base sts es 0 l plan)
    {L L' : Nat → Bool} {k : Nat} {o : Oper} (ho : l[k]? = some o) (hd : Down l L) (hLn : ∀ y, L y = true → y < l.length) (hk : L k = false) (hpre : ∀ e ∈ o.after, Region.binds .any e = true → L e.on = true)
    (hL : ∀ j, j ≠ k → L' j = L j) (hk' : L' k = true) {a : Act} {w : World} (hat : At e l rs base sts es L a w) :
    wpOp P l.toArray QF k (fun a' w' => At e l rs base sts es L' a' w') a w := by
  obtain ⟨m, φ, hi⟩ := hat
  simp only [allOk, Bool.and_eq_true] at hok
  obtain ⟨⟨⟨⟨⟨htc, hnd⟩, hne⟩, hpl⟩, hch⟩, hall⟩ := hok
  have hkl : k < l.length := (List.getElem?_eq_some_iff.1 ho).1
  have h1 := List.all_eq_true.1 hall k (List.mem_range.2 hkl)
  cases hp : plan[k]? with
  | none => simp [hp] at h1
  | some p =>
    obtain ⟨pk, bk, cs⟩ := p
    simp only [hp, Bool.and_eq_true] at h1
    obtain ⟨⟨⟨hpk, hself⟩, hbk⟩, hcs⟩ := h1
    have hobk := Obs_get hobs ho hp
    rw [Nat.zero_add] at hobk
    have htck := tc_listed htc hd k o ho hpre
    have htcl : ∀ (y : Nat), L y = true → k ∉ tc.getD y [] := fun y hy hm => by
      have hyl := hLn y hy
      have hoy : l[y]? = some l[y] := List.getElem?_eq_getElem hyl
      have := tc_listed htc hd y _ hoy (fun e' he' hb => hd y _ hoy hy e' he' hb) k hm
      rw [hk] at this; cases this
    -- the store is one of those that the plan names
    have hc : cnt L es ∈ cs := by
      have h2 := List.all_eq_true.1 hcs (cnt L es) (List.mem_range.2 (Nat.lt_succ_of_le cnt_le))
      simp only [Bool.or_eq_true] at h2
      rcases h2 with (h2 | h2) | h2
      · simpa using h2
      · cases hy : es[cnt L es]? with
        | none => simp [hy] at h2
        | some y =>
          simp only [hy] at h2
          have := htck y (by simpa using h2)
          rw [cnt_next hy] at this; cases this
      · obtain ⟨y, hy, h3⟩ := List.any_eq_true.1 h2
        have hLy := cnt_take y hy
        simp only [Bool.or_eq_true] at h3
        rcases h3 with h3 | h3
        · rw [Nat.eq_of_beq_eq_true h3, hk] at hLy; cases hLy
        · exact absurd (by simpa using h3) (htcl y hLy)
    have hob := ObC_get hobk _ hc
    have hcnt : cnt L' es = bif es.contains k then cnt L es + 1 else cnt L es := by
      cases hmem : es.contains k with
      | false => exact cnt_other hL (by simpa using hmem)
      | true =>
        rw [hmem] at hself
        simp only [Bool.not_true, Bool.false_or] at hself
        have h4 := List.all_eq_true.1 hself _ hc
        have h5 : es[cnt L es]? = some k := by simpa using h4
        refine cnt_self hL hk hk' (nodupB_spec hne) h5 (fun y hy => ?_)
        have hlt : cnt L es < es.length := (List.getElem?_eq_some_iff.1 h5).1
        have h6 := List.all_eq_true.1 hch (cnt L es) (List.mem_range.2 hlt)
        simp only [h5, hy] at h6
        cases hLy : L y with
        | false => rfl
        | true => exact absurd (by simpa using h6) (htcl y hLy)
    have hreg := reg_nodup (rs := rs) (k := 0) (nodupB_spec hnd)
    have regk : ∀ (j t : Nat) (x : AV), (j, t, x) ∈ regOf l rs 0 → ∃ o', l[j]? = some o' ∧ o'.dst = some t ∧ rs[j]? = some x := fun j t x hm => by
      obtain ⟨_, o', h1, h2, h3⟩ := mem_regOf hm
      exact ⟨o', by simpa using h1, h2, by simpa using h3⟩
    -- what the operation needs is there
    have hek : ∀ t x, (ekOf l rs base pk bk).get t = some x → (FL base L (regOf l rs 0)).get t = some x := fun t x hx => by
      rcases ek_spec hx with ⟨j, hj, hm⟩ | ⟨hm, hb⟩
      · exact FL_hit hreg.1 hm (htck j (by simpa using List.all_eq_true.1 hpk j hj))
      · rw [FL_miss]
        · exact hb
        · intro j r hjm
          obtain ⟨o', h2, h3, _⟩ := regk j t r hjm
          have h4 := List.all_eq_true.1 (List.all_eq_true.1 hbk t hm) j (List.mem_range.2 (List.getElem?_eq_some_iff.1 h2).1)
          simp only [h2, h3, beq_self_eq_true, Bool.not_true, Bool.false_or, Bool.or_eq_true] at h4
          rcases h4 with h4 | h4
          · rw [Nat.eq_of_beq_eq_true h4]; exact hk
          · cases hLj : L j with
            | false => rfl
            | true => exact absurd (by simpa using h4) (htcl j hLj)
    have hsub : Sub (ekOf l rs base pk bk ++ FL base L (regOf l rs 0)) (FL base L (regOf l rs 0)) := fun t x hx => by
      rw [Env.get_append] at hx
      cases hg : (ekOf l rs base pk bk).get t with
      | some y => rw [hg] at hx; simp only [Option.some.injEq] at hx; subst hx; exact ⟨y, hek t y hg, Le.refl y⟩
      | none => rw [hg] at hx; exact ⟨x, hx, Le.refl x⟩
    refine wpOp_of_WL ho (hob (FL base L (regOf l rs 0))) (hi.sub hsub) ?_
    rintro a' w' env' st' m' φ' ⟨rfl, pre, rfl, hp1, hp2⟩ hi'
    refine ⟨m', φ', ?_⟩
    rw [hcnt]
    refine hi'.sub (fun t x hx => ?_)
    rw [Env.get_append, Env.get_append]
    cases hpt : pre.get t with
    | some y =>
      have hdt := hp1 t y hpt
      cases hrk : rs[k]? with
      | none => exact absurd (List.getElem?_eq_none_iff.1 hrk) (by omega)
      | some r =>
        have h2 := hp2 t r hdt hrk
        rw [hpt] at h2
        simp only [Option.some.injEq] at h2
        subst h2
        have h3 : (FL base L' (regOf l rs 0)).get t = some y := FL_hit hreg.1 (by simpa using regOf_mem (k := 0) ho hdt hrk) hk'
        rw [h3] at hx
        simp only [Option.some.injEq] at hx
        subst hx
        exact ⟨y, rfl, Le.refl y⟩
    | none =>
      have h3 : (FL base L' (regOf l rs 0)).get t = (FL base L (regOf l rs 0)).get t := FL_step hL (fun r hr => by
        obtain ⟨o', h2, h3, h4⟩ := regk k t r hr
        rw [ho] at h2
        simp only [Option.some.injEq] at h2
        subst h2
        have := hp2 t r h3 h4
        rw [hpt] at this; cases this)
      rw [h3] at hx
      cases hg : (ekOf l rs base pk bk).get t with
      | some y =>
        have := hek t y hg
        rw [hx] at this
        simp only [Option.some.injEq] at this
        subst this
        exact ⟨x, rfl, Le.refl x⟩
      | none => exact ⟨x, hx, Le.refl x⟩

def Lof (listed : Array Bool) (k : Nat) : Bool := listed.getD k false

theorem all_any {tc : List (List Nat)} {plan : List (List Nat × List Nat × List Nat)} {Q : Exit → Act → World → Prop} (hok : allOk l tc es plan = true) (hrs : rs.length = l.length) (hobs : Obs P e l rs base sts es 0 l plan)
    (hQ : ∀ a w, At e l rs base sts es (fun k => Nat.blt k l.length) a w → Q .normal a w) :
    ∀ (f : Nat) (listed : Array Bool) (a : Act) (w : World), listed.size = l.length → Down l (Lof listed) → listed.toList.count false ≤ f → At e l rs base sts es (Lof listed) a w → wpAny P .any l.toArray Q f listed a w := by
  have htc : tcOk l tc = true := by simp only [allOk, Bool.and_eq_true] at hok; exact hok.1.1.1.1.1
  -- what is ready
  have rdy : ∀ (listed : Array Bool) (i : Nat), listed.size = l.length → i ∈ Region.ready .any l.toArray listed → ∃ o, l[i]? = some o ∧ Lof listed i = false ∧ listed[i]? = some false ∧ ∀ e ∈ o.after, Region.binds .any e = true → Lof listed e.on = true := by
    intro listed i hsz hi
    obtain ⟨h0, o, ho, hall⟩ := mem_ready.1 hi
    have hil : i < listed.size := by
      rcases Nat.lt_or_ge i listed.size with h | h
      · exact h
      · simp [Array.getD, Nat.not_lt.2 h] at h0
    have h1 : listed[i]? = some false := by
      rw [Array.getElem?_eq_getElem hil]
      simp [Array.getD, hil] at h0
      rw [h0]
    exact ⟨o, by simpa using ho, by simp [Lof, Array.getD_eq_getD_getElem?, h1], h1, fun e he hb => hall e he hb⟩
  -- where nothing is ready, all is listed
  have full : ∀ (listed : Array Bool), listed.size = l.length → Region.ready .any l.toArray listed = [] → Lof listed = fun k => Nat.blt k l.length := by
    intro listed hsz hr
    have key : ∀ k, k < l.length → Lof listed k = true := by
      intro k
      induction k using Nat.strongRecOn with
      | _ k ih =>
        intro hk
        cases hLk : Lof listed k with
        | true => rfl
        | false =>
          exfalso
          have hok' : l[k]? = some l[k] := List.getElem?_eq_getElem hk
          have : k ∈ Region.ready .any l.toArray listed := by
            refine mem_ready.2 ⟨?_, l[k], by simp [hk], fun e he hb => ?_⟩
            · have hks : k < listed.size := by omega
              simp only [Lof, Array.getD, hks, dif_pos] at hLk ⊢
              exact hLk
            · have h1 := List.all_eq_true.1 htc k (List.mem_range.2 hk)
              simp only [hok', Bool.and_eq_true] at h1
              have h2 := List.all_eq_true.1 h1.1 e (Array.mem_toList_iff.2 he)
              simp only [hb, Bool.not_true, Bool.false_or] at h2
              have hlt : e.on < k := by simpa [Nat.blt_eq] using h2
              exact ih e.on hlt (by omega)
          rw [hr] at this; cases this
    funext k
    rcases Nat.lt_or_ge k l.length with h | h
    · rw [key k h]; simp [Nat.blt_eq, h]
    · have : Lof listed k = false := by simp [Lof, Array.getD, Nat.not_lt.2 (by omega : listed.size ≤ k)]
      rw [this]
      cases hb : Nat.blt k l.length with
      | false => rfl
      | true => have : k < l.length := by simpa [Nat.blt_eq] using hb
                omega
  intro f
  induction f with
  | zero =>
    intro listed a w hsz hdn hcn hat
    have hr : Region.ready .any l.toArray listed = [] := by
      cases hr : Region.ready .any l.toArray listed with
      | nil => rfl
      | cons i r =>
        obtain ⟨o, _, _, h1, _⟩ := rdy listed i hsz (by rw [hr]; exact List.mem_cons_self)
        have : false ∈ listed.toList := List.mem_of_getElem? (i := i) (by simpa using h1)
        have := List.count_pos_iff.2 this
        omega
    exact ⟨hr, hQ a w (full listed hsz hr ▸ hat)⟩
  | succ f ih =>
    intro listed a w hsz hdn hcn hat
    refine ⟨fun hr => hQ a w (full listed hsz hr ▸ hat), fun i hi => ?_⟩
    obtain ⟨o, ho, hLi, hli, hpre⟩ := rdy listed i hsz hi
    have hil : i < listed.size := (Array.getElem?_eq_some_iff.1 hli).1
    have hother : ∀ j, j ≠ i → Lof (listed.setIfInBounds i true) j = Lof listed j := fun j hj => by
      simp only [Lof, Array.getD_eq_getD_getElem?, Array.getElem?_setIfInBounds_ne (Ne.symm hj)]
    have hself : Lof (listed.setIfInBounds i true) i = true := by simp [Lof, Array.getD_eq_getD_getElem?, hil]
    have hstep := all_step (L' := Lof (listed.setIfInBounds i true)) hok hrs hobs ho hdn (fun y hy => by
      rcases Nat.lt_or_ge y l.length with h | h
      · exact h
      · simp [Lof, Array.getD, Nat.not_lt.2 (by omega : listed.size ≤ y)] at hy) hLi hpre hother hself hat
    refine wpOp_QF (fun a' w' hat' => ih _ a' w' (by simpa using hsz) ?_ ?_ hat') hstep
    · intro k ok hk hLk e he hb
      by_cases hki : k = i
      · subst hki
        rw [ho] at hk
        simp only [Option.some.injEq] at hk
        subst hk
        have := hpre e he hb
        by_cases hei : e.on = k
        · rw [hei]; exact hself
        · rw [hother _ hei]; exact this
      · rw [hother k hki] at hLk
        have := hdn k ok hk hLk e he hb
        by_cases hei : e.on = i
        · rw [hei]; exact hself
        · rw [hother _ hei]; exact this
    · have := count_set (l := listed.toList) (i := i) (by simpa using hli)
      rw [Array.toList_setIfInBounds]
      omega

/-- **A region in any order.** -/
theorem wc_region_all {k : Ko} {env : Env} {st : List AO} {id : Nat} (rs : List AV) (tc : List (List Nat)) (es : List Nat) (sts : Nat → List AO) (plan : List (List Nat × List Nat × List Nat)) (hm : P.follows .mixedOrders = true)
    (hok : allOk l tc es plan = true) (hrs : Nat.beq rs.length l.length = true) (hes : es.all (fun y => Nat.blt y l.length) = true) (hst : sts 0 = st) (hobs : Obs P e l rs env sts es 0 l plan)
    (h : WE P e .normal k (FL env (fun k => Nat.blt k l.length) (regOf l rs 0)) (sts es.length)) : WC P e (.region id l.toArray true) k env st := fun m φ a w hi => by
  have hQ : ∀ a' w', At e l rs env sts es (fun k => Nat.blt k l.length) a' w' → k.den P e .normal a' w' := fun a' w' ⟨m', φ', hi'⟩ => by
    rw [cnt_all (fun y hy => List.all_eq_true.1 hes y hy)] at hi'
    exact h m' φ' a' w' hi'
  have hz : ∀ j, Lof (Array.replicate l.toArray.size false) j = false := fun j => by simp [Lof, Array.getD]
  have hdn : Down l (Lof (Array.replicate l.toArray.size false)) := fun k o _ hL => by rw [hz] at hL; cases hL
  have hat : At e l rs env sts es (Lof (Array.replicate l.toArray.size false)) a { w with drawn := w.drawn + 1 } := by
    have hc : cnt (Lof (Array.replicate l.toArray.size false)) es = 0 := by
      cases es with
      | nil => rfl
      | cons y es => simp only [cnt, hz, cond_false]
    have hf : ∀ reg : List (Nat × Nat × AV), FL env (Lof (Array.replicate l.toArray.size false)) reg = env := by
      intro reg
      induction reg with
      | nil => rfl
      | cons p reg ih => obtain ⟨j, d, r⟩ := p; simp only [FL, hz, cond_false]; exact ih
    refine ⟨m, φ, ?_⟩
    rw [hc, hf, hst]
    exact hi.below ((Below.refl _ _).drew) (hi.env.mono (Pre.refl m) (Fz.refl φ w)) hi.sz hi.df
  exact wp_region_any hm (all_any (sts := sts) (base := env) hok (Nat.eq_of_beq_eq_true hrs) hobs hQ _ _ a _ (by simp) hdn (by simp) hat)

theorem WL.done1 {ops : Array Oper} {env : Env} {st' stc : List AO} {o : Oper} {d : Nat} {r : AV} {k : Nat} (hd : o.dst = some d) (hr : rs[k]? = some r) (hst : st' = stc) :
    WL P e ops [] ((d, r) :: env) st' (fun env' st'' => st'' = stc ∧ ∃ pre, env' = pre ++ env ∧ (∀ t x, pre.get t = some x → o.dst = some t) ∧ ∀ d' r', o.dst = some d' → rs[k]? = some r' → pre.get d' = some r') :=
  WL.nil ⟨hst, [(d, r)], rfl, fun t x hx => by
    rw [Env.get_cons] at hx
    split at hx
    · rename_i h; rw [h]; exact hd
    · simp [Env.get] at hx, fun d' r' hd' hr' => by
    rw [hd] at hd'; rw [hr] at hr'
    simp only [Option.some.injEq] at hd' hr'
    subst hd'; subst hr'
    simp [Env.get_cons]⟩
theorem WL.done2 {ops : Array Oper} {env : Env} {st' stc : List AO} {o : Oper} {d : Nat} {r r0 : AV} {k : Nat} (hd : o.dst = some d) (hr : rs[k]? = some r) (hst : st' = stc) :
    WL P e ops [] ((d, r) :: (d, r0) :: env) st' (fun env' st'' => st'' = stc ∧ ∃ pre, env' = pre ++ env ∧ (∀ t x, pre.get t = some x → o.dst = some t) ∧ ∀ d' r', o.dst = some d' → rs[k]? = some r' → pre.get d' = some r') :=
  WL.nil ⟨hst, [(d, r), (d, r0)], rfl, fun t x hx => by
    rw [Env.get_cons, Env.get_cons] at hx
    by_cases h : t = d
    · rw [h]; exact hd
    · simp [h, Env.get] at hx, fun d' r' hd' hr' => by
    rw [hd] at hd'; rw [hr] at hr'
    simp only [Option.some.injEq] at hd' hr'
    subst hd'; subst hr'
    simp [Env.get_cons]⟩
theorem WL.done0 {ops : Array Oper} {env : Env} {st' stc : List AO} {o : Oper} {k : Nat} (hd : o.dst = none) (hst : st' = stc) :
    WL P e ops [] env st' (fun env' st'' => st'' = stc ∧ ∃ pre, env' = pre ++ env ∧ (∀ t x, pre.get t = some x → o.dst = some t) ∧ ∀ d' r', o.dst = some d' → rs[k]? = some r' → pre.get d' = some r') :=
  WL.nil ⟨hst, [], rfl, fun t x hx => by simp [Env.get] at hx, fun d' r' hd' _ => by rw [hd] at hd'; cases hd'⟩
end
end Go.Sk
/-
  Own slices in cells: they become data; nil in a cell becomes one.
-/
namespace Go.Sk
open Go.RowKit (Below)
section
variable {P : Program} {e : En} {ops : Array Oper} {l rest : List Oper} {env : Env} {st : List AO} {R : Env → List AO → Prop} {K : Ko}

theorem RAs_set1 {m φ w} : ∀ {xs : List AV} {vs : List Value} {i : Nat} {y : AV} {v : Value}, RAs m φ w xs vs → vs[i]? = some v → RA m φ w y v → RAs m φ w (xs.set i y) vs
  | [], vs, i, y, v, h, hi, hy => by simp only [RAs] at h; subst h; simp at hi
  | p :: xs, vs, i, y, v, h, hi, hy => by
    simp only [RAs] at h
    obtain ⟨c, cs, rfl, h1, h2⟩ := h
    cases i with
    | zero =>
      simp only [List.getElem?_cons_zero, Option.some.injEq] at hi
      subst hi
      exact RAs_cons hy h2
    | succ i => exact RAs_cons h1 (RAs_set1 h2 (by simpa using hi) hy)

theorem Inv.freeze_cell {m φ a w} {i off id ver T k T' : Nat} {cs : List AV} {ds : List (List D)} (hi : Inv e m φ env st a w) (hr : st[i]? = some (.row T' cs)) (hc : cs[off]? = some (.os id ver)) (hs : st[id]? = some (.os T k ver (ds.map fun e => e.map AV.d))) (hne : Nat.beq i id = false) :
    ∃ φ', Inv e m φ' env ((st.set id .dead).set i (.row T' (cs.set off (.d (.sl ds))))) a w := by
  have hne' : i ≠ id := fun h => by simp [h] at hne
  obtain ⟨ci, hci⟩ : ∃ c, m[i]? = some c := by
    have : i < m.length := by rw [hi.sr.len]; exact (List.getElem?_eq_some_iff.1 hr).1
    exact ⟨_, List.getElem?_eq_getElem this⟩
  obtain ⟨b, rfl, _, vs, h3, h4⟩ := hi.sr.obj i _ _ hr hci
  obtain ⟨v, g1, g2⟩ := RAs_get h4 hc
  simp only [RA] at g2
  obtain ⟨v0, y0, k1, k2, k3⟩ := g2
  obtain ⟨y', xs, e1, _⟩ := hi.sr.obj id _ _ hs k1
  simp only [Cz.tok.injEq] at e1
  obtain ⟨rfl, rfl⟩ := e1
  obtain ⟨φ', f1, f2, f3⟩ := freeze_os hi.sr hs k1
  have hv := k3 rfl
  subst hv
  have h5 := hi.go f1 f2
  have hr2 : (st.set id AO.dead)[i]? = some (.row T' cs) := by rw [List.getElem?_set_ne (Ne.symm hne')]; exact hr
  refine ⟨φ', ⟨h5.sr.alter (o := .row T' cs) hr2 rfl ?_, h5.ev, h5.env, h5.sz, h5.df⟩⟩
  rintro c hc2 ⟨b2, q1, q2, vs2, q3, q4⟩
  have hcc : c = .blk b := by rw [hci] at hc2; exact (Option.some.inj hc2).symm
  subst hcc
  simp only [Cz.blk.injEq] at q1
  subst q1
  rw [h3] at q3
  simp only [Option.some.injEq, Obj.cells.injEq, Array.mk.injEq, and_true] at q3
  have q5 : vs = vs2 := by simpa using q3
  subst q5
  obtain ⟨v', p1, p2⟩ := RAs_get q4 hc
  have hvv : v' = v := by rw [g1] at p1; exact (Option.some.inj p1).symm
  refine ⟨b, rfl, q2, vs, h3, RAs_set1 q4 g1 (by simpa [RA] using f3)⟩

theorem WC.freeze_cell {c : Code} (i off id : Nat) {ver T k T' : Nat} {cs : List AV} (ds : List (List D)) {es : List (List AV)} (hr : st[i]? = some (.row T' cs)) (hc : cs[off]? = some (.os id ver)) (hs : st[id]? = some (.os T k ver es)) (hne : Nat.beq i id = false) (hes : es = ds.map fun e => e.map AV.d)
    (h : WC P e c K env ((st.set id .dead).set i (.row T' (cs.set off (.d (.sl ds)))))) : WC P e c K env st := fun m φ a w hi => by
  subst hes
  obtain ⟨φ', hi'⟩ := hi.freeze_cell hr hc hs hne
  exact h m φ' a w hi'
theorem WL.freeze_cell (i off id : Nat) {ver T k T' : Nat} {cs : List AV} (ds : List (List D)) {es : List (List AV)} (hr : st[i]? = some (.row T' cs)) (hc : cs[off]? = some (.os id ver)) (hs : st[id]? = some (.os T k ver es)) (hne : Nat.beq i id = false) (hes : es = ds.map fun e => e.map AV.d)
    (h : WL P e ops l env ((st.set id .dead).set i (.row T' (cs.set off (.d (.sl ds))))) R) : WL P e ops l env st R := fun m φ a w hi => by
  subst hes
  obtain ⟨φ', hi'⟩ := hi.freeze_cell hr hc hs hne
  exact h m φ' a w hi'
theorem WE.freeze_cell {x : Exit} (i off id : Nat) {ver T k T' : Nat} {cs : List AV} (ds : List (List D)) {es : List (List AV)} (hr : st[i]? = some (.row T' cs)) (hc : cs[off]? = some (.os id ver)) (hs : st[id]? = some (.os T k ver es)) (hne : Nat.beq i id = false) (hes : es = ds.map fun e => e.map AV.d)
    (h : WE P e x K env ((st.set id .dead).set i (.row T' (cs.set off (.d (.sl ds)))))) : WE P e x K env st := fun m φ a w hi => by
  subst hes
  obtain ⟨φ', hi'⟩ := hi.freeze_cell hr hc hs hne
  exact h m φ' a w hi'
theorem WC.nil_cell {c : Code} (id off T k : Nat) {T' : TypeId} {cs : List AV} (hs : st[id]? = some (.row T' cs)) (hc : cs[off]? = some (.d (.v (.slice none 0 0)))) (h : WC P e c K env ((st ++ [AO.os T k 0 []]).set id (.row T' (cs.set off (.os st.length 0))))) : WC P e c K env st := fun _m φ a w hi =>
  let ⟨m', hi'⟩ := hi.nil_cell (T := T) (k := k) hs hc
  h m' φ a w hi'

theorem Inv.freeze_sc {m φ a w} {t i off id ver T k T' : Nat} {cs : List AV} {ds : List (List D)} (hi : Inv e m φ env st a w) (ht : env.get t = some (.os id ver)) (hr : st[i]? = some (.row T' cs)) (hc : cs[off]? = some (.os id ver)) (hs : st[id]? = some (.os T k ver (ds.map fun e => e.map AV.d))) (hne : Nat.beq i id = false) :
    ∃ φ', Inv e m φ' ((t, .d (.sl ds)) :: env) ((st.set id .dead).set i (.row T' (cs.set off (.d (.sl ds))))) a w := by
  obtain ⟨v, g1, g2⟩ := hi.env t _ ht
  have hne' : i ≠ id := fun h => by simp [h] at hne
  obtain ⟨ci, hci⟩ : ∃ c, m[i]? = some c := by
    have : i < m.length := by rw [hi.sr.len]; exact (List.getElem?_eq_some_iff.1 hr).1
    exact ⟨_, List.getElem?_eq_getElem this⟩
  obtain ⟨b, rfl, _, vs, h3, h4⟩ := hi.sr.obj i _ _ hr hci
  obtain ⟨v, g1', g2'⟩ := RAs_get h4 hc
  simp only [RA] at g2 g2'
  obtain ⟨v0, y0, k1, k2, k3⟩ := g2'
  obtain ⟨v0', y0', k1', k2', k3'⟩ := g2
  rw [k1] at k1'
  simp only [Option.some.injEq, Cz.tok.injEq] at k1'
  obtain ⟨rfl, rfl⟩ := k1'
  obtain ⟨y', xs, e1, _⟩ := hi.sr.obj id _ _ hs k1
  simp only [Cz.tok.injEq] at e1
  obtain ⟨rfl, rfl⟩ := e1
  obtain ⟨φ', hi'⟩ := hi.freeze_cell hr hc hs hne
  obtain ⟨vv, w1, w2⟩ := hi'.sr.obj i (.row T' (cs.set off (.d (.sl ds)))) _ (by rw [List.getElem?_set_self]; rw [List.length_set]; exact (List.getElem?_eq_some_iff.1 hr).1) hci
  obtain ⟨_, vs2, w3, w4⟩ := w2
  simp only [Cz.blk.injEq] at w1
  subst w1
  rw [h3] at w3
  have q5 : vs = vs2 := by simpa using w3
  subst q5
  obtain ⟨v', p1, p2⟩ := RAs_get (i := off) w4 (by rw [List.getElem?_set_self]; exact (List.getElem?_eq_some_iff.1 hc).1)
  have hvv : v' = v := by rw [g1'] at p1; exact (Option.some.inj p1).symm
  subst hvv
  have e3 := k3 rfl
  have e4 := k3' rfl
  refine ⟨φ', hi'.sr, hi'.ev, fun s x hx => ?_, hi'.sz, hi'.df⟩
  unfold Env.get at hx
  cases hb : Nat.beq s t with
  | true =>
    rw [hb] at hx
    simp only [cond_true, Option.some.injEq] at hx
    subst hx
    have : s = t := Nat.eq_of_beq_eq_true hb
    subst this
    exact ⟨_, g1, by rw [e4, ← e3]; exact p2⟩
  | false => rw [hb] at hx; exact hi'.env s x hx
theorem WC.freeze_sc {c : Code} (t i off id : Nat) {ver T k T' : Nat} {cs : List AV} (ds : List (List D)) {es : List (List AV)} (ht : env.get t = some (.os id ver)) (hr : st[i]? = some (.row T' cs)) (hc : cs[off]? = some (.os id ver)) (hs : st[id]? = some (.os T k ver es)) (hne : Nat.beq i id = false) (hes : es = ds.map fun e => e.map AV.d)
    (h : WC P e c K ((t, .d (.sl ds)) :: env) ((st.set id .dead).set i (.row T' (cs.set off (.d (.sl ds)))))) : WC P e c K env st := fun m φ a w hi => by
  subst hes
  obtain ⟨φ', hi'⟩ := hi.freeze_sc ht hr hc hs hne
  exact h m φ' a w hi'
theorem WL.freeze_sc (t i off id : Nat) {ver T k T' : Nat} {cs : List AV} (ds : List (List D)) {es : List (List AV)} (ht : env.get t = some (.os id ver)) (hr : st[i]? = some (.row T' cs)) (hc : cs[off]? = some (.os id ver)) (hs : st[id]? = some (.os T k ver es)) (hne : Nat.beq i id = false) (hes : es = ds.map fun e => e.map AV.d)
    (h : WL P e ops l ((t, .d (.sl ds)) :: env) ((st.set id .dead).set i (.row T' (cs.set off (.d (.sl ds))))) R) : WL P e ops l env st R := fun m φ a w hi => by
  subst hes
  obtain ⟨φ', hi'⟩ := hi.freeze_sc ht hr hc hs hne
  exact h m φ' a w hi'
theorem WE.freeze_sc {x : Exit} (t i off id : Nat) {ver T k T' : Nat} {cs : List AV} (ds : List (List D)) {es : List (List AV)} (ht : env.get t = some (.os id ver)) (hr : st[i]? = some (.row T' cs)) (hc : cs[off]? = some (.os id ver)) (hs : st[id]? = some (.os T k ver es)) (hne : Nat.beq i id = false) (hes : es = ds.map fun e => e.map AV.d)
    (h : WE P e x K ((t, .d (.sl ds)) :: env) ((st.set id .dead).set i (.row T' (cs.set off (.d (.sl ds)))))) : WE P e x K env st := fun m φ a w hi => by
  subst hes
  obtain ⟨φ', hi'⟩ := hi.freeze_sc ht hr hc hs hne
  exact h m φ' a w hi'

end
end Go.Sk
/-
  Slices of our own: made at a length, their elements read and written through pointers, cut short; they become data in all places at once.
-/
namespace Go.Sk
open Go.RowKit (Below)

/-! ### Data in all places at once -/
def OsSlots (env : Env) (id ver : Nat) : List Nat → Prop
  | [] => True
  | t :: ts => env.get t = some (.os id ver) ∧ OsSlots env id ver ts
def setCells (x : AV) : List (Nat × Nat) → List AO → List AO
  | [], st => st
  | (i, off) :: r, st => setCells x r (match st[i]? with | some (.row T cs) => st.set i (.row T (cs.set off x)) | _ => st)
def OsCells (st : List AO) (id ver : Nat) (x : AV) : List (Nat × Nat) → Prop
  | [] => True
  | (i, off) :: r => ∃ T cs, st[i]? = some (.row T cs) ∧ cs[off]? = some (.os id ver) ∧ OsCells (st.set i (.row T (cs.set off x))) id ver x r

theorem osCells_sr {m φ w} {id ver : Nat} {y : Value} {x : AV} (hm : m[id]? = some (.tok ver y)) (hx : RA m φ w x y) : ∀ (l : List (Nat × Nat)) (st : List AO), SR m φ st w → OsCells st id ver x l → SR m φ (setCells x l st) w
  | [], st, h, _ => h
  | (i, off) :: r, st, h, hc => by
    obtain ⟨T, cs, h1, h2, h3⟩ := hc
    simp only [setCells, h1]
    refine osCells_sr hm hx r _ ?_ h3
    refine h.alter (o := .row T cs) h1 rfl ?_
    rintro c hc2 ⟨b, rfl, q2, vs, q3, q4⟩
    obtain ⟨v', p1, p2⟩ := RAs_get q4 h2
    simp only [RA] at p2
    obtain ⟨v0, y0, k1, k2, k3⟩ := p2
    rw [hm] at k1
    simp only [Option.some.injEq, Cz.tok.injEq] at k1
    obtain ⟨rfl, rfl⟩ := k1
    have := k3 rfl
    subst this
    exact ⟨b, rfl, q2, vs, q3, RAs_set1 q4 p1 hx⟩

section
variable {P : Program} {e : En} {ops : Array Oper} {l rest : List Oper} {env : Env} {st : List AO} {R : Env → List AO → Prop} {K : Ko}

/-- Slots and cells that hold the slice as it is now hold data. -/
theorem Inv.freezeX {m φ a w} {id ver T k : Nat} {ds : List (List D)} (ts : List Nat) (cl : List (Nat × Nat)) (hi : Inv e m φ env st a w) (hs : st[id]? = some (.os T k ver (ds.map fun e => e.map AV.d)))
    (ht : OsSlots env id ver ts) (hc : OsCells (st.set id .dead) id ver (.d (.sl ds)) cl) :
    ∃ φ', Inv e m φ' (ts.map (fun t => (t, .d (.sl ds))) ++ env) (setCells (.d (.sl ds)) cl (st.set id .dead)) a w := by
  obtain ⟨c, hcm⟩ : ∃ c, m[id]? = some c := by
    have : id < m.length := by rw [hi.sr.len]; exact (List.getElem?_eq_some_iff.1 hs).1
    exact ⟨_, List.getElem?_eq_getElem this⟩
  obtain ⟨y, xs, rfl, _⟩ := hi.sr.obj id _ _ hs hcm
  obtain ⟨φ', f1, f2, f3⟩ := freeze_os hi.sr hs hcm
  have h3 := hi.go f1 f2
  refine ⟨φ', osCells_sr hcm (by simpa [RA] using f3) cl _ h3.sr hc, h3.ev, ?_, h3.sz, h3.df⟩
  clear hc
  induction ts with
  | nil => exact h3.env
  | cons t ts ih =>
    intro s x hx
    simp only [List.map_cons, List.cons_append] at hx
    unfold Env.get at hx
    cases hb : Nat.beq s t with
    | true =>
      rw [hb] at hx
      simp only [cond_true, Option.some.injEq] at hx
      subst hx
      have : s = t := Nat.eq_of_beq_eq_true hb
      subst this
      obtain ⟨v, g1, g2⟩ := hi.env s _ ht.1
      simp only [RA] at g2
      obtain ⟨v0, y0, k1, k2, k3⟩ := g2
      rw [hcm] at k1
      simp only [Option.some.injEq, Cz.tok.injEq] at k1
      obtain ⟨rfl, rfl⟩ := k1
      have := k3 rfl
      subst this
      exact ⟨_, g1, by simpa [RA] using f3⟩
    | false => rw [hb] at hx; exact ih ht.2 s x hx

theorem WC.freezeX {c : Code} (ts : List Nat) (cl : List (Nat × Nat)) (id : Nat) {ver T k : Nat} (ds : List (List D)) {es : List (List AV)} (hs : st[id]? = some (.os T k ver es)) (hes : es = ds.map fun e => e.map AV.d) (ht : OsSlots env id ver ts) (hc : OsCells (st.set id .dead) id ver (.d (.sl ds)) cl)
    (h : WC P e c K (ts.map (fun t => (t, .d (.sl ds))) ++ env) (setCells (.d (.sl ds)) cl (st.set id .dead))) : WC P e c K env st := fun m φ a w hi => by
  subst hes
  obtain ⟨φ', hi'⟩ := hi.freezeX ts cl hs ht hc
  exact h m φ' a w hi'
theorem WL.freezeX (ts : List Nat) (cl : List (Nat × Nat)) (id : Nat) {ver T k : Nat} (ds : List (List D)) {es : List (List AV)} (hs : st[id]? = some (.os T k ver es)) (hes : es = ds.map fun e => e.map AV.d) (ht : OsSlots env id ver ts) (hc : OsCells (st.set id .dead) id ver (.d (.sl ds)) cl)
    (h : WL P e ops l (ts.map (fun t => (t, .d (.sl ds))) ++ env) (setCells (.d (.sl ds)) cl (st.set id .dead)) R) : WL P e ops l env st R := fun m φ a w hi => by
  subst hes
  obtain ⟨φ', hi'⟩ := hi.freezeX ts cl hs ht hc
  exact h m φ' a w hi'
theorem WE.freezeX {x : Exit} (ts : List Nat) (cl : List (Nat × Nat)) (id : Nat) {ver T k : Nat} (ds : List (List D)) {es : List (List AV)} (hs : st[id]? = some (.os T k ver es)) (hes : es = ds.map fun e => e.map AV.d) (ht : OsSlots env id ver ts) (hc : OsCells (st.set id .dead) id ver (.d (.sl ds)) cl)
    (h : WE P e x K (ts.map (fun t => (t, .d (.sl ds))) ++ env) (setCells (.d (.sl ds)) cl (st.set id .dead))) : WE P e x K env st := fun m φ a w hi => by
  subst hes
  obtain ⟨φ', hi'⟩ := hi.freezeX ts cl hs ht hc
  exact h m φ' a w hi'

end

/-! ### make -/
def mkOk (b : Nat) (n : Int) : Bool := decide (0 ≤ n) && decide ((b : Int) * n ≤ 281474976710656) && decide (n ≤ maxLen)

section
variable {P : Program} {env : Env} {st : List AO} {dst : Option Tmp} {ty : TypeId} {pos : String} {after : Array Edge} {guard : Option (Nat × Bool)}

theorem madeCells_flat (z : Array Value) : ∀ n : Nat, 0 < z.size → (madeCells z (n * z.size)).toList = (List.replicate n z.toList).flatten
  | 0, _ => by simp [madeCells]
  | n + 1, hz => by
    apply List.ext_getElem?
    intro j
    have ih := congrArg (fun l => l[j - z.size]?) (madeCells_flat z n hz)
    simp only [madeCells, Array.toList_map, Array.toList_range, List.getElem?_map] at ih ⊢
    rw [List.replicate_succ, List.flatten_cons]
    by_cases hj : j < z.size
    · rw [List.getElem?_append_left (by simpa using hj), List.getElem?_range (by rw [Nat.succ_mul]; omega)]
      simp [hj, Nat.mod_eq_of_lt hj]
    · rw [List.getElem?_append_right (by simpa using Nat.le_of_not_lt hj)]
      simp only [Array.length_toList]
      rw [← ih]
      by_cases hj2 : j < (n + 1) * z.size
      · rw [List.getElem?_range hj2, List.getElem?_range (by rw [Nat.succ_mul] at hj2; omega)]
        simp only [Option.map_some]
        rw [Nat.mod_eq_sub_mod (Nat.le_of_not_lt hj)]
      · rw [List.getElem?_eq_none (by simpa using Nat.le_of_not_lt hj2), List.getElem?_eq_none (by simp only [List.length_range]; rw [Nat.succ_mul] at hj2; omega)]

theorem n_makeSlice {T e k by_ : Nat} {kl kc : IntKind} {n : Int} {x y : Operand} {zs : List Value} (hT : eltOf P T = some (e, k, by_)) (hz : zeroOf P e = some zs) (hzl : zs.length = k) (hk : 0 < k)
    (hx : opv env x = some (.d (.v (.int kl n)))) (hy : opv env y = some (.d (.v (.int kc n)))) (hok : mkOk by_ n = true) :
    NewOs P env st ⟨dst, .makeSlice T x y, ty, pos, after, guard⟩ e k (List.replicate n.toNat (zs.map fun z => .d (.v z))) := fun m φ a w hs he => by
  obtain ⟨i, ht, hi, rfl, rfl⟩ := eltOf_spec hT
  obtain ⟨z, hz1, hz2⟩ := zeroOf_spec hz hi
  simp only [mkOk, Bool.and_eq_true, decide_eq_true_eq] at hok
  obtain ⟨⟨k0, k1⟩, k2⟩ := hok
  have hr := run_make (P := P) w T e i z ht hi hz1 kl kc n n k0 (Int.le_refl _) k1 (by simp only [maxLen] at k2; omega)
  have hzs : z.cells.size = i.size := by rw [hz2]; simpa using hzl
  have hfl : (madeCells z.cells (n.toNat * i.size)).toList = (List.replicate n.toNat zs).flatten := by
    have := madeCells_flat z.cells n.toNat (by omega)
    rw [hzs] at this
    rw [this, hz2]
  have hF := Fz.alloc hs (.cells (madeCells z.cells (n.toNat * i.size)) e)
  have hkk : ∀ b, b < w.heap.size → (w.alloc (.cells (madeCells z.cells (n.toNat * i.size)) e)).heap[b]? = w.heap[b]? := fun b hb => heap_alloc_lt hb
  have hnew : ∀ b, (Cz.tok 0 (.slice (some ⟨w.heap.size, 0, none⟩) n.toNat n.toNat)).bl = some b → w.heap.size ≤ b := fun b hb => by simp only [Cz.bl, Value.ownBlock, Option.some.injEq] at hb; omega
  refine ⟨_, _, by simp only [execOp, opv_v he hx, opv_v he hy]; rw [Sem.run_bind, hr]; rfl, Ev.push hs hF hkk (by simp) rfl rfl rfl hnew, SR.push hs hF hkk (by simp) ?_ hnew, (Below.refl _ _).alloc (Nat.le_refl _) _, fun b hb => by simp only [Value.ownBlock, Option.some.injEq] at hb; omega⟩
  have hl2 : (List.replicate n.toNat zs).flatten.length = n.toNat * i.size := by rw [← hfl]; simp [size_madeCells]
  have hras : ∀ j : Nat, RAs (m ++ [Cz.tok 0 (.slice (some ⟨w.heap.size, 0, none⟩) n.toNat n.toNat)]) φ (w.alloc (.cells (madeCells z.cells (n.toNat * i.size)) e)) (List.replicate j (zs.map fun z => AV.d (.v z))).flatten (List.replicate j zs).flatten := by
    intro j
    induction j with
    | zero => exact RAs_nil
    | succ j ih => rw [List.replicate_succ, List.replicate_succ, List.flatten_cons, List.flatten_cons]; exact RAs_append (RAs_consts zs) ih
  refine ⟨_, (List.replicate n.toNat zs).flatten, rfl, ⟨by rw [hl2]; simp, .inr ⟨w.heap.size, n.toNat, _, by simp, Nat.zero_le _, heap_alloc_new w _, by simp, by omega, size_madeCells _ _, ?_⟩⟩, hras _, fun f hf => ?_, fun b hb => ?_⟩
  · rw [hfl, List.take_of_length_le (by rw [hl2]; simp)]
  · rw [(List.mem_replicate.1 hf).2]; simpa using hzl
  · simp only [Value.ownBlock, Option.some.injEq] at hb
    exact hs.lt b (by omega)

theorem NewOs.cast {o : Oper} {T k : Nat} {es es' : List (List AV)} (h : NewOs P env st o T k es) (he : es = es') : NewOs P env st o T k es' := he ▸ h
/-- The elements said in a weaker way. -/
def ELes : List (List AV) → List (List AV) → Prop
  | [], [] => True
  | x :: xs, y :: ys => Les x y ∧ ELes xs ys
  | _, _ => False
theorem ELes.len : ∀ {xs ys : List (List AV)}, ELes xs ys → xs.length = ys.length
  | [], [], _ => rfl
  | x :: xs, y :: ys, h => by simp [ELes.len h.2]
  | [], _ :: _, h => h.elim
  | _ :: _, [], h => h.elim
theorem Les.len : ∀ {xs ys : List AV}, Les xs ys → xs.length = ys.length
  | [], [], _ => rfl
  | x :: xs, y :: ys, h => by simp [Les.len h.2]
  | [], _ :: _, h => h.elim
  | _ :: _, [], h => h.elim
theorem Les.append : ∀ {xs ys us vs : List AV}, Les xs ys → Les us vs → Les (xs ++ us) (ys ++ vs)
  | [], [], _, _, _, k => k
  | _x :: _xs, _y :: _ys, _, _, h, k => ⟨h.1, Les.append h.2 k⟩
  | [], _ :: _, _, _, h, _ => h.elim
  | _ :: _, [], _, _, h, _ => h.elim
theorem ELes.flat : ∀ {xs ys : List (List AV)}, ELes xs ys → Les xs.flatten ys.flatten
  | [], [], _ => trivial
  | _x :: _xs, _y :: _ys, h => Les.append h.1 (ELes.flat h.2)
  | [], _ :: _, h => h.elim
  | _ :: _, [], h => h.elim
theorem ELes.lens {k : Nat} : ∀ {xs ys : List (List AV)}, ELes xs ys → (∀ e ∈ xs, e.length = k) → ∀ e ∈ ys, e.length = k
  | [], [], _, _ => fun e he => by simp at he
  | x :: xs, y :: ys, h, hk => fun e he => by
    rcases List.mem_cons.1 he with rfl | he
    · rw [← Les.len h.1]; exact hk x (by simp)
    · exact ELes.lens h.2 (fun e he => hk e (by simp [he])) e he
  | [], _ :: _, h, _ => h.elim
  | _ :: _, [], h, _ => h.elim
theorem NewOs.weak {o : Oper} {T k : Nat} {es es' : List (List AV)} (h : NewOs P env st o T k es) (he : ELes es es') : NewOs P env st o T k es' := fun m φ a w hs hE => by
  obtain ⟨v, w', h1, h2, h3, h4⟩ := h m φ a w hs hE
  refine ⟨v, w', h1, h2, ?_, h4⟩
  have := h3.alter (id := st.length) (o := .os T k 0 es) (o' := .os T k 0 es') (by simp) rfl (fun c _ => ?_)
  · simpa using this
  · rintro ⟨y, xs, r1, r2, r3, r4, r5⟩
    exact ⟨y, xs, r1, by rw [← he.len]; exact r2, (Les.ras he.flat) r3, he.lens r4, r5⟩
theorem replicate_le {α : Type} {R : α → List D} {z : α} {zs : List AV} (h : Les zs (encA R z)) : ∀ n : Nat, ELes (List.replicate n zs) ((List.replicate n z).map (encA R))
  | 0 => trivial
  | n + 1 => ⟨h, replicate_le h n⟩
theorem replicate_encA {α : Type} {R : α → List D} {n : Nat} {z : α} {zs : List Value} (h : encA R z = zs.map fun z => .d (.v z)) : List.replicate n (zs.map fun z => AV.d (.v z)) = (List.replicate n z).map (encA R) := by
  rw [List.map_replicate, h]
end
end Go.Sk
/-
  Elements of slices of our own: read and written through pointers; a slice cut short.
-/
namespace Go.Sk
open Go.RowKit (Below)

/-- The content of a slice of ours turns. -/
theorem set_os {m φ st w} {id : Nat} {T k ver b len cap : Nat} {es es' : List (List AV)} {vs : List Value} (hs : SR m φ st w) (hi : st[id]? = some (.os T k ver es)) (hb : m[id]? = some (.tok ver (.slice (some ⟨b, 0, none⟩) len cap)))
    (h : RAs m φ w es'.flatten vs) (hl : es'.length = es.length) (hk : ∀ e ∈ es', e.length = k) (cur : Array Value) (hcur : w.heap[b]? = some (.cells cur T (0, 0))) (new : Array Value) (hsz : new.size = cur.size) (htk : new.toList.take (es.length * k) = vs) :
    Ev m φ w m φ (w.setRow b new) ∧ SR m φ (st.set id (.os T k ver es')) (w.setRow b new) := by
  obtain ⟨y, xs, e1, g1, g2, g3, g4⟩ := hs.obj id _ _ hi hb
  simp only [Cz.tok.injEq, true_and] at e1
  subst e1
  have h0 : φ b = 0 := g4 b rfl
  have hF : Fz φ w φ (w.setRow b new) := fun b2 off c q1 q2 => ⟨q1, by
    have hne : b2 ≠ b := fun e => by subst e; omega
    rw [cell?_congr (heap_setRow_ne hne)]; exact q2⟩
  have hsize : (w.setRow b new).heap.size = w.heap.size := size_setRow w b _
  refine ⟨⟨Pre.refl m, fun _ h => .inl h, rfl, rfl, rfl, by rw [hsize]; exact Nat.le_refl _, fun b2 hb2 hn => ⟨heap_setRow_ne (fun e => hn ⟨id, _, hb, by rw [e]; rfl⟩), rfl⟩, hF⟩, ⟨by simp [hs.len], fun i o c q1 q2 => ?_, fun b2 hb2 => hs.lt b2 (by omega), fun i j o o' c c' b2 q1 q2 l1 l2 k1 k2 e1 e2 => ?_⟩⟩
  · by_cases hii : i = id
    · subst hii
      rw [List.getElem?_set_self (lt_len hi)] at q1
      rw [hb] at q2
      simp only [Option.some.injEq] at q1 q2
      subst q1; subst q2
      refine ⟨_, vs, rfl, ?_, RAs.mono (Pre.refl m) hF _ _ h, hk, g4⟩
      obtain ⟨r1, r2⟩ := g1
      have hvl : vs.length = es.length * k := by
        have := RAs_length h
        rw [this]
        clear this h htk
        have : ∀ l : List (List AV), (∀ e ∈ l, e.length = k) → l.flatten.length = l.length * k := by
          intro l
          induction l with
          | nil => simp
          | cons x l ih => intro hh; simp only [List.flatten_cons, List.length_append, List.length_cons, ih (fun e he => hh e (by simp [he])), hh x (by simp), Nat.succ_mul]; omega
        rw [this es' hk, hl]
      rcases r2 with ⟨hv, _⟩ | ⟨g, cap', cur', hv, p1, p2, p3, p4, p5, p6⟩
      · cases hv
      · simp only [Value.slice.injEq, Option.some.injEq, Addr.mk.injEq, and_true] at hv
        obtain ⟨rfl, rfl, rfl⟩ := hv
        rw [hcur] at p2
        simp only [Option.some.injEq, Obj.cells.injEq, and_true] at p2
        subst p2
        rw [hl]
        exact ⟨hvl, .inr ⟨b, cap, new, rfl, p1, setRow_heap w b _ _ T (0, 0) hcur, p3, p4, by rw [hsz]; exact p5, htk⟩⟩
    · rw [List.getElem?_set_ne (Ne.symm hii)] at q1
      have h := hs.obj i o c q1 q2
      cases hl : o.live with
      | true =>
        refine h.congr (Pre.refl m) hF (fun b2 hb2 => ⟨heap_setRow_ne (fun e => ?_), rfl⟩)
        subst e
        exact hii (hs.inj i id o _ c _ b2 q1 hi hl rfl q2 hb hb2 rfl)
      | false => cases o <;> simp [AO.live] at hl; trivial
  · have back : ∀ (i : Nat) (o : AO), (st.set id (.os T k ver es'))[i]? = some o → o.live = true → ∃ o2, st[i]? = some o2 ∧ o2.live = true := by
      intro i o g l
      by_cases hii : i = id
      · subst hii; exact ⟨_, hi, rfl⟩
      · rw [List.getElem?_set_ne (Ne.symm hii)] at g; exact ⟨o, g, l⟩
    obtain ⟨p, p1, p2⟩ := back i o q1 l1
    obtain ⟨q, u1, u2⟩ := back j o' q2 l2
    exact hs.inj i j p q c c' b2 p1 u1 p2 u2 k1 k2 e1 e2

section
variable {P : Program} {env : Env} {st : List AO} {dst : Option Tmp} {ty : TypeId} {pos : String} {after : Array Edge} {guard : Option (Nat × Bool)}

theorem d_store_pe {T : TypeId} {x y : Operand} {id ver off n T' k : Nat} {es es' : List (List AV)} {r0 r : AV} {rs : List AV} (hx : opv env x = some (.pe id ver off)) (hs : st[id]? = some (.os T' k ver es)) (hy : opv env y = some r0) (hle : Le r0 r) (hk : r.okc = true) (hc : r.cells = rs) (hk1 : rs.all AV.ok1 = true)
    (hn : szOf P T = some n) (hl : rs.length = n) (hlen : off + n ≤ es.flatten.length) (hes : es'.flatten = es.flatten.take off ++ rs ++ es.flatten.drop (off + n)) (hel : es'.length = es.length) (hek : ∀ e ∈ es', e.length = k) :
    Does P env st ⟨dst, .store T x y, ty, pos, after, guard⟩ (.d (.v undef)) (st.set id (.os T' k ver es')) := fun m φ a w hsr he => by
  obtain ⟨b, len, cap, xs, g1, g2, g3, g4, g5, g6⟩ := opv_pe hsr he hx hs
  obtain ⟨us, q1, q2⟩ := RA_cells (hle _ _ _ _ (opv_ok he hy)) hk
  rw [hc] at q2
  have hul := RAs_length q2
  have hxl := RAs_length g4
  obtain ⟨r1, r2⟩ := g3
  rcases r2 with ⟨hv, _⟩ | ⟨g, cap', cur, hv, p1, p2, p3, p4, p5, p6⟩
  · cases hv
  simp only [Value.slice.injEq, Option.some.injEq, Addr.mk.injEq, and_true] at hv
  obtain ⟨rfl, rfl, rfl⟩ := hv
  have hcl : es.length * k ≤ cur.size := by rw [p5]; exact Nat.mul_le_mul_right _ p3
  have hfl : es.flatten.length = es.length * k := by omega
  have hst := run_storeCells_at P b off T' us 0 cur w p2 (by omega) (RAs_one q2 hk1)
  simp only [Nat.add_zero, hul, hl] at hst
  have hsize : us.length = n := by omega
  have hnew : RAs m φ w es'.flatten (xs.take off ++ us ++ xs.drop (off + n)) := by rw [hes]; exact RAs_append (RAs_append (RAs_take off g4) q2) (RAs_drop _ g4)
  have htk : ((cur.toList.take off ++ us ++ cur.toList.drop (off + n)).toArray.toList).take (es.length * k) = xs.take off ++ us ++ xs.drop (off + n) := by
    rw [← p6]
    apply List.ext_getElem?
    intro j
    have hcz : cur.toList.length = cur.size := by simp
    simp only [List.getElem?_take, List.getElem?_append, List.length_append, List.length_take, List.getElem?_drop, hsize, hcz]
    rw [Nat.min_eq_left (show off ≤ cur.size by omega), Nat.min_eq_left (show es.length * k ≤ cur.size by omega), Nat.min_eq_left (show off ≤ es.length * k by omega)]
    by_cases h1 : j < es.length * k
    · rw [if_pos h1]
      by_cases h2 : j < off + n
      · rw [if_pos h2, if_pos h2]
        by_cases h3 : j < off
        · simp only [if_pos h3, if_pos h1]
        · simp only [if_neg h3]
      · rw [if_neg h2, if_neg h2]
        have : off + n + (j - (off + n)) = j := by omega
        rw [this, if_pos h1]
    · rw [if_neg h1, if_neg (show ¬ j < off + n by omega)]
      have : off + n + (j - (off + n)) = j := by omega
      rw [this, if_neg h1]
  obtain ⟨k1, k2⟩ := set_os hsr hs g1 hnew hel hek cur p2 (cur.toList.take off ++ us ++ cur.toList.drop (off + n)).toArray (by simp [hsize]; omega) htk
  refine ⟨undef, _, m, φ, .inr ⟨?_, rfl⟩, k1, k2, RAv⟩
  simp [execOp, Instr.storeAt, Instr.sureAddr, g2, storeVar, q1, run_sizeOf' hn, hsize, hst]

/-! ### Over lists of data -/
theorem flat_len {α : Type} {R : α → List D} {k : Nat} (hR : ∀ x, (R x).length = k) : ∀ L : List α, (L.map (encA R)).flatten.length = L.length * k
  | [] => by simp
  | x :: L => by simp only [List.map_cons, List.flatten_cons, List.length_append, List.length_cons, flat_len hR L, Nat.succ_mul, encA, List.length_map, hR]; omega
theorem flat_at {α : Type} {R : α → List D} {k : Nat} (hR : ∀ x, (R x).length = k) : ∀ {L : List α} {i : Nat} {x : α}, L[i]? = some x → ∃ l1 l2, (L.map (encA R)).flatten = l1 ++ encA R x ++ l2 ∧ l1.length = i * k ∧ ∀ z, ((L.set i z).map (encA R)).flatten = l1 ++ encA R z ++ l2
  | [], i, x, h => by simp at h
  | y :: L, 0, x, h => by
    simp only [List.getElem?_cons_zero, Option.some.injEq] at h
    subst h
    exact ⟨[], (L.map (encA R)).flatten, by simp, by simp, fun z => by simp⟩
  | y :: L, i + 1, x, h => by
    simp only [List.getElem?_cons_succ] at h
    obtain ⟨l1, l2, h1, h2, h3⟩ := flat_at hR h
    refine ⟨encA R y ++ l1, l2, by simp [h1], ?_, fun z => ?_⟩
    · rw [List.length_append, h2, encA, List.length_map, hR, Nat.succ_mul]; omega
    · simp only [List.set_cons_succ, List.map_cons, List.flatten_cons, h3 z, List.append_assoc]

theorem y_pe {T n : Nat} {bb : Bool} {x ix : Operand} {id ver T' k : Nat} {α : Type} {R : α → List D} {L : List α} {kk : IntKind} {i : Int} {z : α} (hT : elemOf' P T = some (n, bb)) (hx : opv env x = some (.os id ver)) (hs : st[id]? = some (.os T' k ver (L.map (encA R)))) (hi : opv env ix = some (.d (.v (.int kk i)))) (h : idx L i = some z) :
    Yields P env st ⟨dst, .indexAddr T x ix, ty, pos, after, guard⟩ (.pe id ver (i.toNat * n)) :=
  y_indexAddr_os hT hx hs hi (idx_nonneg h) (by rw [List.length_map]; exact idx_lt h)

theorem y_fieldAddr_pe {S i fo n : Nat} {bb : Bool} {x : Operand} {id ver off T k : Nat} {es : List (List AV)} (hf : fieldOf P S i = some (fo, n + 1, bb)) (hx : opv env x = some (.pe id ver off)) (hs : st[id]? = some (.os T k ver es)) : Yields P env st ⟨dst, .fieldAddr S x i, ty, pos, after, guard⟩ (.pe id ver (off + fo)) := fun m φ a w hsr he => by
  obtain ⟨b, len, cap, xs, g1, g2, _⟩ := opv_pe hsr he hx hs
  exact ⟨_, by simp only [RA]; exact ⟨_, _, g1, Nat.le_refl _, fun _ => ⟨b, len, cap, rfl, rfl⟩⟩, fun w' _ => by simp [execOp, g2, run_fieldAt hf]⟩

theorem y_load_peL {T : TypeId} {x : Operand} {id ver off fo T' k : Nat} {α : Type} {R : α → List D} {L : List α} {i : Int} {z : α} {r : AV} (hx : opv env x = some (.pe id ver off)) (hoff : off = i.toNat * k + fo) (hs : st[id]? = some (.os T' k ver (L.map (encA R)))) (hT : aggOf P T = some false) (hR : ∀ x, (R x).length = k) (hi : idx L i = some z) (hr : (encA R z)[fo]? = some r) :
    Yields P env st ⟨dst, .load T x, ty, pos, after, guard⟩ r := by
  refine y_load_pe hx hs hT ?_
  subst hoff
  obtain ⟨l1, l2, h1, h2, _⟩ := flat_at hR (idx_get hi)
  have hlt := lt_len hr
  rw [h1, List.getElem?_append_left (by rw [List.length_append]; omega), List.getElem?_append_right (by omega), h2]
  rw [show i.toNat * k + fo - i.toNat * k = fo from by omega, hr]

theorem y_load_peLN {T : TypeId} {x : Operand} {id ver off fo n T' k : Nat} {α : Type} {R : α → List D} {L : List α} {i : Int} {z : α} {rs : List AV} (hx : opv env x = some (.pe id ver off)) (hoff : off = i.toNat * k + fo) (hs : st[id]? = some (.os T' k ver (L.map (encA R)))) (hT : aggOf P T = some true) (hn : szOf P T = some n) (hR : ∀ x, (R x).length = k) (hi : idx L i = some z) (hr : ((encA R z).drop fo).take n = rs) (hrl : Nat.ble (fo + n) k = true) :
    Yields P env st ⟨dst, .load T x, ty, pos, after, guard⟩ (.ag rs) := by
  subst hoff
  obtain ⟨l1, l2, h1, h2, _⟩ := flat_at hR (idx_get hi)
  have hle2 := Nat.le_of_ble_eq_true hrl
  have hz : (encA R z).length = k := by rw [encA, List.length_map, hR]
  have := y_load_peN (P := P) (dst := dst) (ty := ty) (pos := pos) (after := after) (guard := guard) (n := n) hx hs hT hn (by rw [h1]; simp only [List.length_append]; omega)
  rw [h1, List.append_assoc, List.drop_append, h2, show i.toNat * k + fo - i.toNat * k = fo from by omega, List.drop_eq_nil_of_le (by omega), List.nil_append, List.drop_append, List.take_append_of_le_length (by rw [List.length_drop]; omega), hr] at this
  exact this

theorem d_store_peL {T : TypeId} {x y : Operand} {id ver off fo n T' k : Nat} {α : Type} {R : α → List D} {L : List α} {i : Int} {z : α} (z' : α) {r0 r : AV} {rs : List AV} (hx : opv env x = some (.pe id ver off)) (hoff : off = i.toNat * k + fo) (hs : st[id]? = some (.os T' k ver (L.map (encA R)))) (hy : opv env y = some r0) (hle : Le r0 r) (hk : r.okc = true) (hc : r.cells = rs) (hk1 : rs.all AV.ok1 = true)
    (hn : szOf P T = some n) (hl : rs.length = n) (hR : ∀ x, (R x).length = k) (hi : idx L i = some z) (hrl : Nat.ble (fo + n) k = true) (hz' : encA R z' = (encA R z).take fo ++ rs ++ (encA R z).drop (fo + n)) :
    Does P env st ⟨dst, .store T x y, ty, pos, after, guard⟩ (.d (.v undef)) (st.set id (.os T' k ver ((L.set i.toNat z').map (encA R)))) := by
  subst hoff
  obtain ⟨l1, l2, h1, h2, h3⟩ := flat_at hR (idx_get hi)
  have hle2 := Nat.le_of_ble_eq_true hrl
  have hz : (encA R z).length = k := by rw [encA, List.length_map, hR]
  refine d_store_pe hx hs hy hle hk hc hk1 hn hl (by rw [h1]; simp only [List.length_append]; omega) ?_ (by simp) (fun e he => by obtain ⟨x, _, rfl⟩ := List.mem_map.1 he; rw [encA, List.length_map, hR])
  have e1 : (l1 ++ encA R z ++ l2).take (i.toNat * k + fo) = l1 ++ (encA R z).take fo := by
    rw [List.append_assoc, List.take_append, List.take_of_length_le (by omega), h2, show i.toNat * k + fo - i.toNat * k = fo from by omega, List.take_append_of_le_length (by omega)]
  have e2 : (l1 ++ encA R z ++ l2).drop (i.toNat * k + fo + n) = (encA R z).drop (fo + n) ++ l2 := by
    rw [List.append_assoc, List.drop_append, List.drop_eq_nil_of_le (by omega), h2, show i.toNat * k + fo + n - i.toNat * k = fo + n from by omega, List.nil_append, List.drop_append_of_le_length (by omega)]
  rw [h1, h3, hz', e1, e2]
  simp [List.append_assoc]
end
end Go.Sk
/-
  Equality of structs: leaf by leaf.
-/
namespace Go.Sk
open Go.RowKit (Below)

inductive LK where
  | int (k : IntKind)
  | bool
  | str

def LK.fits : LK → Value → Bool
  | .int k, .int k' _ => decide (k = k')
  | .bool, .bool _ => true
  | .str, .string _ => true
  | _, _ => false
def fitsL : List LK → List Value → Bool
  | [], [] => true
  | k :: ks, v :: vs => k.fits v && fitsL ks vs
  | _, _ => false
def eqLeaf : Value → Value → Bool
  | .int _ a, .int _ b => decide (a = b)
  | .bool a, .bool b => a == b
  | .string a, .string b => a.toList == b.toList
  | _, _ => false
def eqL : List Value → List Value → Bool
  | [], [] => true
  | x :: xs, y :: ys => eqLeaf x y && eqL xs ys
  | _, _ => false

mutual
/-- The leaves of a type. -/
def leafK (P : Program) : Nat → TypeId → Option (List LK)
  | 0, _ => none
  | d + 1, T => match P.underlying T with
    | some (.int k) => some [.int k]
    | some .bool => some [.bool]
    | some .string => some [.str]
    | some (.struct fs) => if P.stoodInHeld T then none else leafF P d fs.toList 0
    | _ => none
def leafF (P : Program) : Nat → List Field → Nat → Option (List LK)
  | _, [], _ => some []
  | 0, _ :: _, _ => none
  | d + 1, f :: fs, off => if f.name ≠ "_" ∧ f.offset = off then
      match leafK P d f.type, szOf P f.type with
      | some ks, some n => if ks.length = n ∧ (aggOf P f.type = some true ∨ (aggOf P f.type = some false ∧ n = 1)) then (leafF P d fs (off + n)).map (ks ++ ·) else none
      | _, _ => none
    else none
end

theorem fitsL_len : ∀ {ks : List LK} {vs : List Value}, fitsL ks vs = true → vs.length = ks.length
  | [], [], _ => rfl
  | k :: ks, v :: vs, h => by simp only [fitsL, Bool.and_eq_true] at h; simp [fitsL_len h.2]
  | [], _ :: _, h => by simp [fitsL] at h
  | _ :: _, [], h => by simp [fitsL] at h
theorem fitsL_append : ∀ {ks ls : List LK} {vs : List Value}, fitsL (ks ++ ls) vs = true → fitsL ks (vs.take ks.length) = true ∧ fitsL ls (vs.drop ks.length) = true
  | [], ls, vs, h => by simpa [fitsL] using h
  | k :: ks, ls, [], h => by simp [fitsL] at h
  | k :: ks, ls, v :: vs, h => by
    simp only [List.cons_append, fitsL, Bool.and_eq_true] at h
    obtain ⟨h1, h2⟩ := fitsL_append h.2
    simp [fitsL, h.1, h1, h2]
theorem eqL_append : ∀ {xs ys us vs : List Value}, xs.length = ys.length → eqL (xs ++ us) (ys ++ vs) = (eqL xs ys && eqL us vs)
  | [], [], us, vs, _ => by simp [eqL]
  | x :: xs, y :: ys, us, vs, h => by simp only [List.cons_append, eqL, eqL_append (xs := xs) (ys := ys) (by simpa using h), Bool.and_assoc]
  | [], _ :: _, _, _, h => by simp at h
  | _ :: _, [], _, _, h => by simp at h

def descAgg : TypeDesc → Bool | .struct _ => true | .array _ _ => true | _ => false
theorem aggOf_of {P : Program} {T : TypeId} {u : TypeDesc} (hu : P.underlying T = some u) : aggOf P T = some (descAgg u) := by
  unfold aggOf; rw [hu]; cases u <;> rfl
theorem aggOf_isAgg {P : Program} {T : TypeId} {b : Bool} (h : aggOf P T = some b) (w : World) : (isAgg T).run P w = .ok b w := by
  unfold aggOf at h
  cases hu : P.underlying T with
  | none => simp [hu] at h
  | some u =>
    simp only [hu, Option.map_some, Option.some.injEq] at h
    subst h
    simp only [isAgg, Sem.run_bind, run_underlying hu, Result.andThen_ok]
    cases u <;> simp
theorem run_sizeOf2 {P : Program} {T : TypeId} {n : Nat} (h : szOf P T = some n) (w : World) : (sizeOf T).run P w = .ok n w := by
  unfold szOf at h
  cases hi : P.info? T with
  | none => simp [hi] at h
  | some i =>
    simp only [hi, Option.map_some, Option.some.injEq] at h
    simp [sizeOf, typeInfo, hi, h]

theorem run_equal_leaf {P : Program} (w : World) : ∀ (d : Nat), 
    (∀ (T : TypeId) (ks : List LK) (n : Nat) (xs ys : List Value), leafK P d T = some ks → d ≤ n → fitsL ks xs = true → fitsL ks ys = true →
      (aggOf P T = some true → (Op.equalIn n T (.agg ⟨xs⟩) (.agg ⟨ys⟩)).run P w = .ok (eqL xs ys) w) ∧
      (aggOf P T = some false → ∀ x y, xs = [x] → ys = [y] → (Op.equalIn n T x y).run P w = .ok (eqL xs ys) w)) ∧
    (∀ (fs : List Field) (off : Nat) (ks : List LK) (n : Nat) (xs ys : List Value), leafF P d fs off = some ks → d ≤ n → fitsL ks (xs.drop off) = true → fitsL ks (ys.drop off) = true → xs.length = ys.length →
      (Op.eqFields n ⟨xs⟩ ⟨ys⟩ fs).run P w = .ok (eqL (xs.drop off) (ys.drop off)) w)
  | 0 => by
    constructor
    · intro T ks n xs ys h; simp [leafK] at h
    · intro fs off ks n xs ys h hn h1 h2 hl
      cases fs with
      | nil =>
        simp only [leafF, Option.some.injEq] at h
        subst h
        have a1 := fitsL_len h1
        have a2 := fitsL_len h2
        rw [List.eq_nil_of_length_eq_zero a1, List.eq_nil_of_length_eq_zero a2]
        simp [Op.eqFields, eqL]
      | cons f fs => simp [leafF] at h
  | d + 1 => by
    obtain ⟨ihK, ihF⟩ := run_equal_leaf w d
    constructor
    · intro T ks n xs ys h hn h1 h2
      obtain ⟨n, rfl⟩ : ∃ n', n = n' + 1 := ⟨n - 1, by omega⟩
      simp only [leafK] at h
      cases hu : P.underlying T with
      | none => simp [hu] at h
      | some u =>
        rw [hu] at h
        have hag := aggOf_of hu
        cases u with
        | int k =>
          simp only [Option.some.injEq] at h
          subst h
          refine ⟨fun h => by simp [hag, descAgg] at h, fun _ x y hx hy => ?_⟩
          subst hx; subst hy
          simp only [fitsL, Bool.and_true] at h1 h2
          cases x <;> simp only [LK.fits, Bool.false_eq_true] at h1
          cases y <;> simp only [LK.fits, Bool.false_eq_true] at h2
          simp only [decide_eq_true_eq] at h1 h2
          subst h1; subst h2
          rw [run_equalIn_int w n T _ k _ _ hu]
          simp [eqL, eqLeaf, Int.beq_dec]
        | bool =>
          simp only [Option.some.injEq] at h
          subst h
          refine ⟨fun h => by simp [hag, descAgg] at h, fun _ x y hx hy => ?_⟩
          subst hx; subst hy
          simp only [fitsL, Bool.and_true] at h1 h2
          cases x <;> simp only [LK.fits, Bool.false_eq_true] at h1
          cases y <;> simp only [LK.fits, Bool.false_eq_true] at h2
          rw [run_equalIn_bool' w n T _ _ hu]
          simp [eqL, eqLeaf]
        | string =>
          simp only [Option.some.injEq] at h
          subst h
          refine ⟨fun h => by simp [hag, descAgg] at h, fun _ x y hx hy => ?_⟩
          subst hx; subst hy
          simp only [fitsL, Bool.and_true] at h1 h2
          cases x <;> simp only [LK.fits, Bool.false_eq_true] at h1
          cases y <;> simp only [LK.fits, Bool.false_eq_true] at h2
          rw [run_equalIn_string w n T _ _ hu]
          simp [eqL, eqLeaf]
        | struct fs =>
          simp only at h
          split at h
          · cases h
          · rename_i hst
            refine ⟨fun _ => ?_, fun h => by simp [hag, descAgg] at h⟩
            have hf : P.fieldsOf T = fs := by simp [Program.fieldsOf, hu]
            rw [run_equalIn_struct w n T ⟨xs⟩ ⟨ys⟩ (by rw [hf, hu]) (by simpa using hst), hf]
            have := ihF fs.toList 0 ks n xs ys h (by omega) (by simpa using h1) (by simpa using h2) (by rw [fitsL_len h1, fitsL_len h2])
            simpa using this
        | _ => simp at h
    · intro fs off ks n xs ys h hn h1 h2 hl
      cases fs with
      | nil =>
        simp only [leafF, Option.some.injEq] at h
        subst h
        have a1 := fitsL_len h1
        have a2 := fitsL_len h2
        rw [List.eq_nil_of_length_eq_zero a1, List.eq_nil_of_length_eq_zero a2]
        simp [Op.eqFields, eqL]
      | cons f fs =>
        simp only [leafF] at h
        split at h
        · rename_i hc
          obtain ⟨hname, hoff⟩ := hc
          split at h
          · rename_i ks1 m hk1 hm
            split at h
            · rename_i hc2
              obtain ⟨hlen, hag⟩ := hc2
              obtain ⟨ks2, hks2, rfl⟩ := Option.map_eq_some_iff.1 h
              obtain ⟨f1, f2⟩ := fitsL_append h1
              obtain ⟨g1, g2⟩ := fitsL_append h2
              have lx := fitsL_len h1
              have ly := fitsL_len h2
              simp only [List.length_append, List.length_drop] at lx ly
              have key : ∀ zs : List Value, zs.length = xs.length → (part f.type ⟨zs⟩ f.offset).run P w = .ok (if aggOf P f.type = some true then .agg ⟨(zs.drop off).take m⟩ else ((zs.drop off)[0]?).getD undef) w := by
                intro zs hz
                rcases hag with hag | ⟨hag, hm1⟩
                · rw [if_pos hag]
                  simp only [part, Sem.run_bind, aggOf_isAgg hag, Result.andThen_ok, if_true, run_sizeOf2 hm, Sem.run_pure]
                  rw [hoff]
                  congr 2
                  apply Array.toList_inj.mp
                  simp [List.extract_eq_take_drop]
                · rw [if_neg (by rw [hag]; simp)]
                  simp only [part, Sem.run_bind, aggOf_isAgg hag, Result.andThen_ok, Bool.false_eq_true, if_false]
                  have : off < zs.length := by omega
                  simp [hoff, this]
              have hmain : (Op.equalIn n f.type (if aggOf P f.type = some true then .agg ⟨(xs.drop off).take m⟩ else ((xs.drop off)[0]?).getD undef) (if aggOf P f.type = some true then .agg ⟨(ys.drop off).take m⟩ else ((ys.drop off)[0]?).getD undef)).run P w = .ok (eqL ((xs.drop off).take m) ((ys.drop off).take m)) w := by
                obtain ⟨i1, i2⟩ := ihK f.type ks1 n _ _ hk1 (by omega) f1 g1
                rw [hlen] at i1 i2
                rcases hag with hag | ⟨hag, hm1⟩
                · rw [if_pos hag, if_pos hag]; exact i1 hag
                · rw [if_neg (by rw [hag]; simp), if_neg (by rw [hag]; simp)]
                  have ex : ∀ zs : List Value, zs.length = xs.length → (zs.drop off).take m = [((zs.drop off)[0]?).getD undef] := by
                    intro zs hz
                    have : off < zs.length := by omega
                    subst hm1
                    rw [List.drop_eq_getElem_cons this]
                    rfl
                  exact i2 hag _ _ (ex xs rfl) (ex ys hl.symm)
              have hrest := ihF fs (off + m) ks2 n xs ys hks2 (by omega) (by rw [List.drop_drop, hlen] at f2; exact f2) (by rw [List.drop_drop, hlen] at g2; exact g2) hl
              have hsplit : eqL (xs.drop off) (ys.drop off) = (eqL ((xs.drop off).take m) ((ys.drop off).take m) && eqL (xs.drop (off + m)) (ys.drop (off + m))) := by
                conv => lhs; rw [← List.take_append_drop m (xs.drop off), ← List.take_append_drop m (ys.drop off)]
                rw [eqL_append (by simp only [List.length_take, List.length_drop]; omega), List.drop_drop, List.drop_drop]
              simp only [Op.eqFields, if_pos hname, Sem.run_bind, key xs rfl, key ys hl.symm, Result.andThen_ok, hmain]
              rw [hsplit]
              cases hb : eqL ((xs.drop off).take m) ((ys.drop off).take m) with
              | false => simp
              | true => simpa using hrest
            · cases h
          · cases h
        · cases h

/-- the leaves of data -/
def leafD : D → Option Value
  | .v x => some x
  | _ => none

section
variable {P : Program} {env : Env} {st : List AO} {dst : Option Tmp} {ty : TypeId} {pos : String} {after : Array Edge} {guard : Option (Nat × Bool)}

theorem RFs_vals {φ w} : ∀ {vs cs : List Value}, RFs φ w (vs.map D.v) cs → cs = vs
  | [], cs, h => by simpa [RFs] using h
  | v :: vs, cs, h => by
    simp only [List.map_cons, RFs, RD] at h
    obtain ⟨c, cs', rfl, rfl, h⟩ := h
    rw [RFs_vals h]

def leafOk (P : Program) (T : TypeId) : Option (List LK) := bif P.eqGuardType P.depth T then none else match aggOf P T with | some true => leafK P 100 T | _ => none
theorem y_eqst {x y : Operand} {T T' : TypeId} {xa ya : AV} {xs ys : List Value} {ks : List LK} {b : Bool} (hT : leafOk P T = some ks) (hx : opv env x = some xa) (hlx : Le xa (.d (.ag (xs.map D.v)))) (hy : opv env y = some ya) (hly : Le ya (.d (.ag (ys.map D.v)))) (h1 : fitsL ks xs = true) (h2 : fitsL ks ys = true) (hb : eqL xs ys = b) :
    Yields P env st ⟨dst, .binOp .eql T x y T', ty, pos, after, guard⟩ (.d (.v (.bool b))) := fun m φ a w _ he => by
  unfold leafOk at hT
  cases hg : P.eqGuardType P.depth T with
  | true => rw [hg] at hT; cases hT
  | false =>
    rw [hg] at hT
    simp only [cond_false] at hT
    split at hT
    · rename_i hag
      have ex := hlx _ _ _ _ (opv_ok he hx)
      have ey := hly _ _ _ _ (opv_ok he hy)
      simp only [RA, RD] at ex ey
      obtain ⟨cs, e1, e2⟩ := ex
      obtain ⟨ds, e3, e4⟩ := ey
      have e5 := RFs_vals e2
      rw [e5] at e1
      have e6 := RFs_vals e4
      rw [e6] at e3
      refine ⟨_, RAv, fun w' _ => ?_⟩
      have := ((run_equal_leaf (P := P) w' 100).1 T ks 10000 xs ys hT (by decide) h1 h2).1 hag
      simp only [execOp, e1, e3, Sem.run_bind, run_eqGuard_agg w' .eql T x y ⟨xs⟩ ⟨ys⟩ hg, Result.andThen_ok, run_eql_struct w' T ⟨xs⟩ ⟨ys⟩, this, hb]
      rfl
    · cases hT
theorem y_nest {x y : Operand} {T T' : TypeId} {xa ya : AV} {xs ys : List Value} {ks : List LK} {b : Bool} (hT : leafOk P T = some ks) (hx : opv env x = some xa) (hlx : Le xa (.d (.ag (xs.map D.v)))) (hy : opv env y = some ya) (hly : Le ya (.d (.ag (ys.map D.v)))) (h1 : fitsL ks xs = true) (h2 : fitsL ks ys = true) (hb : eqL xs ys = b) :
    Yields P env st ⟨dst, .binOp .neq T x y T', ty, pos, after, guard⟩ (.d (.v (.bool (!b)))) := fun m φ a w _ he => by
  unfold leafOk at hT
  cases hg : P.eqGuardType P.depth T with
  | true => rw [hg] at hT; cases hT
  | false =>
    rw [hg] at hT
    simp only [cond_false] at hT
    split at hT
    · rename_i hag
      have ex := hlx _ _ _ _ (opv_ok he hx)
      have ey := hly _ _ _ _ (opv_ok he hy)
      simp only [RA, RD] at ex ey
      obtain ⟨cs, e1, e2⟩ := ex
      obtain ⟨ds, e3, e4⟩ := ey
      have e5 := RFs_vals e2
      rw [e5] at e1
      have e6 := RFs_vals e4
      rw [e6] at e3
      refine ⟨_, RAv, fun w' _ => ?_⟩
      have := ((run_equal_leaf (P := P) w' 100).1 T ks 10000 xs ys hT (by decide) h1 h2).1 hag
      simp only [execOp, e1, e3, Sem.run_bind, run_eqGuard_agg w' .neq T x y ⟨xs⟩ ⟨ys⟩ hg, Result.andThen_ok, run_neq_struct w' T ⟨xs⟩ ⟨ys⟩, this, hb]
      rfl
    · cases hT
end
end Go.Sk
/-
  Calls with lent objects, among them slices of our own: the renamed stores said anew.
-/
namespace Go.Sk
open Go.RowKit (Below)

theorem rens_data (js : List Nat) : ∀ l : List D, AV.rens js (l.map AV.d) = l.map AV.d
  | [] => rfl
  | x :: l => by rw [List.map_cons, AV.rens, rens_data js l]; rfl
theorem ren_os {α : Type} (js : List Nat) (T k v : Nat) (E : α → List D) (L : List α) : AO.ren js (.os T k v (L.map (encA E))) = .os T k v (L.map (encA E)) := by
  simp only [AO.ren, List.map_map]
  congr 1
  apply List.map_congr_left
  intro x _
  exact rens_data js _
theorem ren_mp {κ α : Type} (js : List Nat) (kf : κ → Value) (g : α → D) (L : List (κ × α)) : AO.ren js (.mp (L.map fun p => (kf p.1, AV.d (g p.2)))) = .mp (L.map fun p => (kf p.1, AV.d (g p.2))) := by
  simp only [AO.ren, List.map_map]
  congr 1
theorem cons_eq {α : Type} {a b : α} {l l' : List α} (h : a = b) (k : l = l') : a :: l = b :: l' := by rw [h, k]

section
variable {P : Program} {e : En} {ops : Array Oper} {l rest : List Oper} {env : Env} {st : List AO} {R : Env → List AO → Prop} {K : Ko}
theorem WL.winy {o : Oper} {d : Nat} {f : FuncId} {c : Call} {x : Operand} {first caps as as0 : List AV} {st0 st0' : List AO} {new new' : Nat → List AO} {y : D} (js : List Nat) (hop : o.op = .call c) (hx : c.callee = .value x)
    (hf : opv env x = some (.fn (.func f) first caps)) (has : opvs env c.args.toList = some as) (hc : Ctr P f as0 st0 (WinX st0.length y new)) (hl : Les (first ++ as ++ caps) (AV.rens js as0))
    (hla : AV.lts js.length as0 = true) (hj : js.Nodup) (hren0 : st0.map (AO.ren js) = st0') (hwin : isWin js st st0') (hlt : stLt js.length st0 = true) (hlive : allLive st0 = true) (hnew : ∀ i, stLt js.length (new i) = true)
    (hren : ∀ i, (new i).map (AO.ren js) = new' i)
    (hw : Wt ops env o true) (ho : o.dst = some d) (hd : Nat.ble (d + 1) e.n = true) (h : ∀ i, WL P e ops rest ((d, .d y) :: env) (putWin js (new' i) st) R) : WL P e ops (o :: rest) env st R :=
  WL.winx js hop hx hf has hc hl hla hj (by rw [hren0]; exact hwin) hlt hlive hnew hw ho hd (fun i => by rw [hren i]; exact h i)
end
end Go.Sk
/-
  Is a slice nil; slices of no elements; what is appended to a slice without spare places, as data.
-/
namespace Go.Sk
open Go.RowKit (Below)

section
variable {P : Program} {e : En} {ops : Array Oper} {l rest : List Oper} {env : Env} {st : List AO} {R : Env → List AO → Prop} {K : Ko}
variable {dst : Option Tmp} {ty : TypeId} {pos : String} {after : Array Edge} {guard : Option (Nat × Bool)}

theorem RD_nil {φ w} {ds : List (List D)} {y : Value} (h : RD φ w (.sl ds) y) : ∃ a l c, y = .slice a l c ∧ (a.isNone = true → ds = []) := by
  simp only [RD] at h
  rcases h with ⟨rfl, a, cp, rfl, _⟩ | ⟨b, off, k, cap, rfl, _⟩
  · exact ⟨_, _, _, rfl, fun _ => rfl⟩
  · exact ⟨_, _, _, rfl, fun h => by simp at h⟩

/-- Whether a slice is nil, its data does not say; if it is, it has no elements. -/
theorem WL.isnil {T T' E d : Nat} {x : Operand} {xr : AV} {ds : List (List D)} {bo : BinOp} (neg : Bool) (hb : bo = bif neg then .neq else .eql) (hT : P.underlying T = some (.slice E)) (hx : opv env x = some xr) (hl : Le xr (.d (.sl ds)))
    (hw : Wt ops env ⟨some d, .binOp bo T x (.const (.slice none 0 0)) T', ty, pos, after, guard⟩ true) (hd : Nat.ble (d + 1) e.n = true) (h : ∀ b : Bool, (b = true → ds = []) → WL P e ops rest ((d, .d (.v (.bool (b != neg)))) :: env) st R) :
    WL P e ops (⟨some d, .binOp bo T x (.const (.slice none 0 0)) T', ty, pos, after, guard⟩ :: rest) env st R := fun m φ a w hi => by
  have h1 := hl _ _ _ _ (opv_ok hi.env hx)
  simp only [RA] at h1
  obtain ⟨ad, ll, cc, h2, h3⟩ := RD_nil h1
  unfold wpList
  rw [if_pos (hw _ _ _ _ hi.env)]
  refine .inl ?_
  have hrun : (execOp a.eval ⟨some d, .binOp bo T x (.const (.slice none 0 0)) T', ty, pos, after, guard⟩).run P w = .ok (.value (.bool (ad.isNone != neg))) w := by
    subst hb
    cases neg
    · have hc : a.eval (.const (.slice none 0 0)) = .slice none 0 0 := rfl
      simp [execOp, h2, hc, eqGuard, binOp, run_equal_slice_nil w T E ad ll cc hT]
    · have hc : a.eval (.const (.slice none 0 0)) = .slice none 0 0 := rfl
      simp [execOp, h2, hc, eqGuard, binOp, run_equal_slice_nil w T E ad ll cc hT]
  simp only [Oper.wp, hrun, Oper.upon]
  exact h ad.isNone h3 m φ _ w (hi.put (Nat.le_of_ble_eq_true hd) RAv)

theorem WL.cast (t : Nat) {x y : AV} (ht : env.get t = some x) (hl : Le x y) (h : WL P e ops rest ((t, y) :: env) st R) : WL P e ops rest env st R :=
  WL.sub (Sub.cons ht hl (Sub.refl env)) h
theorem boolCases (b : Bool) : b = true ∨ b = false := by cases b <;> simp

/-- A slice of no elements. -/
theorem b_buildNone {T el k by_ : Nat} (hT : eltOf P T = some (el, k, by_)) : DoesB P env st ⟨dst, .buildSlice T 0 #[], ty, pos, after, guard⟩ (.fs []) st := fun m φ a w hs he => by
  obtain ⟨i, ht, hi, rfl, rfl⟩ := eltOf_spec hT
  have hso : (sizeOf el).run P w = .ok i.size w := by simp [sizeOf, typeInfo, hi]
  have hb : Below w.heap.size w (w.alloc (.cells #[] el)) := (Below.refl _ _).alloc (Nat.le_refl _) _
  refine ⟨.slice (some ⟨w.heap.size, 0, none⟩) 0 0, w.alloc (.cells #[] el), m, φ, ?_, Ev.of_below hs hb, hs.of_below hb, ?_, hb⟩
  · simp [execOp, Instr.buildSlice, run_underlying ht, hso, Instr.fill, newRow]
    have : Array.map (fun x => (default : Value)) (Array.range 0) = #[] := by apply Array.toList_inj.mp; simp
    rw [this]
  · simp only [RA, RD]
    exact ⟨.inr ⟨w.heap.size, 0, 0, 0, rfl, Nat.le_refl _, by simp, by simp [REs]⟩, _, rfl⟩

theorem b_appendFd {T el k by_ : Nat} {zs : List Value} {s x : Operand} {xr : AV} {c : Call} {α : Type} {E R : α → List D} (L L2 : List α) (hER : ∀ x, E x = R x) (hT : eltOf P T = some (el, k, by_)) (hz : zeroOf P el = some zs) (hzl : zs.length = k) (hk : 0 < k)
    (hc : c = ⟨.builtin .append, #[s, x], #[T, T]⟩) (hs : opv env s = some (.fs (L.map E))) (hx : opv env x = some xr) (hsrc : Src st xr k (L2.map (encA R))) (hR : ∀ x, (R x).length = k) (hok : appOk by_ L L2 = true) :
    DoesB P env st ⟨dst, .call c, ty, pos, after, guard⟩ (.d (.sl ((L ++ L2).map E))) st := by
  by_cases h0 : 0 < L2.length
  · exact (n_appendLfs L L2 hER hT hz hzl hk hc hs hx hsrc hR h0 hok).data (encA_map hER _)
  · have hL2 : L2 = [] := List.eq_nil_of_length_eq_zero (by omega)
    subst hL2
    rw [List.append_nil]
    intro m φ a w hsr he
    have hv := opv_ok he hs
    obtain ⟨news, n1, n2, n3⟩ := hsrc m φ w _ hsr (opv_ok he hx)
    obtain ⟨i, ht, hi, rfl, rfl⟩ := eltOf_spec hT
    simp only [RA] at hv
    obtain ⟨hv1, a0, hv2⟩ := hv
    refine ⟨a.eval s, w, m, φ, ?_, Ev.refl m φ w, hsr, by simpa [RA] using hv1, Below.refl _ _⟩
    subst hc
    rcases n3 with ⟨n3, _⟩ | ⟨ax, cx, hxv, _⟩
    · cases a0 <;> simp [execOp, resolve, invoke, builtin, Builtin.append_, hv2, n3, run_underlying ht, sizeOf, typeInfo, hi, Builtin.lenOf, Builtin.firstCells, storeCells]
    · simp at hxv
      cases a0 <;> simp [execOp, resolve, invoke, builtin, Builtin.append_, hv2, hxv, run_underlying ht, sizeOf, typeInfo, hi, Builtin.lenOf, Builtin.firstCells, storeCells, loadCells, loadCellsFrom]
end
end Go.Sk
