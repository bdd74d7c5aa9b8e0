/-
  From a contract over data to a law's row: the arguments read as data, the call leaves what was there.
-/
import Derived.ProofKit
import Derived.SizedLaws
import Derived.LaidMore
import Derived.OpenShut
import Derived.Stop.Joined
import Derived.Test.YteafckpdbmncfaaDoorSb
namespace Go.Sk
open Go.RowKit (Below)
open Go.ChangeShapes Go.WideShapes Go.ChangeAt Go.RowKit

theorem trodAll_len {H : Type} {enc : TypeId × Value → H} {P : Program} {w : World} {base : Nat} {spare : Nat → Bool} {held : Bool} : ∀ {ts : List TypeId} {vs : List Value} {ds : List (DataW H)} {ps : List MemPlace}, DataW.TrodAll enc P w base spare held ts vs ds ps → ds.length = ts.length ∧ vs.length = ts.length
  | [], [], [], _, _ => ⟨rfl, rfl⟩
  | t :: ts, v :: vs, d :: ds, ps, h => by
    obtain ⟨p, q, _, h2, _⟩ := h
    have := trodAll_len h2
    simp [this.1, this.2]
  | [], [], _ :: _, _, h => h.elim
  | [], _ :: _, _, _, h => h.elim
  | _ :: _, [], _, _, h => h.elim
  | _ :: _, _ :: _, [], _, h => h.elim

theorem below_trodAll {H : Type} {enc : TypeId × Value → H} {P : Program} (hl : laidOutB P = true) {W W' : World} (hb : Below W.heap.size W W') : ∀ {ts : List TypeId} {vs : List Value} {ds : List (DataW H)} {ps : List MemPlace},
    (ts.all fun t => P.readableRec t && decide (t < P.types.size)) = true → DataW.TrodAll enc P W 0 (fun _ => true) true ts vs ds ps → (∀ x ∈ ps, x.block < W.heap.size) → DataW.TrodAll enc P W' 0 (fun b => decide (b < W.heap.size)) true ts vs ds ps
  | [], [], [], ps, _, h, _ => h
  | t :: ts, v :: vs, d :: ds, ps, ht, h, hlt => by
    obtain ⟨p, q, h1, h2, rfl⟩ := h
    simp only [List.all_cons, Bool.and_eq_true, decide_eq_true_eq] at ht
    exact ⟨p, q, Below.trod hl ht.1.1 ht.1.2 h1 hb (fun x hx => hlt x (by simp [hx])), below_trodAll hl hb ht.2 h2 (fun x hx => hlt x (by simp [hx])), rfl⟩
  | [], [], _ :: _, _, _, h, _ => h.elim
  | [], _ :: _, _, _, _, h, _ => h.elim
  | _ :: _, [], _, _, _, h, _ => h.elim
  | _ :: _, _ :: _, [], _, _, h, _ => h.elim

/-- What lies there: it will not be written. -/
def allCells (W : World) (b : Nat) : Nat := match W.heap[b]? with | some (.cells c _ _) => c.size | _ => 0
theorem sr_start (W : World) (hg : Gl (allCells W) W) : SR [] (allCells W) [] W where
  len := rfl
  obj i o c h := by simp at h
  lt b hb := by simp [allCells, hb]
  inj i j o o' c c' b h := by simp at h
  gl := hg

theorem calls_of_pu {P : Program} {f : FuncId} {ds : List D} {W : World} {vs : List Value} (hg : Gl (allCells W) W) (h : Pu P f ds (.b true)) (ha : RAs [] (allCells W) W (ds.map .d) vs) : Calls P f ⟨vs⟩ W fun e W' => e = .returned (.bool true) ∧ Below W.heap.size W W' := by
  refine (h.2 [] (allCells W) W vs (sr_start W hg) ha).mono ?_
  rintro en w' ⟨v, r, st', m', φ', rfl, ⟨rfl, rfl⟩, hev, _, hra⟩
  simp only [RA, RD] at hra
  subst hra
  exact ⟨rfl, hev.os, hev.tape, hev.output, hev.size, fun b hb => (hev.keep b hb (by rintro ⟨i, c, h, _⟩; simp at h)).1⟩
end Go.Sk
namespace Go.Sk
open Go.RowKit (Below)

section
variable {H : Type} {enc : TypeId × Value → H} {P : Program} {W : World} {spare : Nat → Bool} {held : Bool}

/-- the reading of one type: whatever cells read, they are those of some x -/
def Reads (enc : TypeId × Value → H) (P : Program) (W : World) (spare : Nat → Bool) (held : Bool) (fuel : Nat) (T : TypeId) {α : Type} (E : α → List D) (G : α → Prop) : Prop :=
  ∀ cs y, DataW.trod enc P W 0 spare held fuel T cs = some y → ∃ x, RFs (allCells W) W (E x) cs ∧ G x

theorem Reads.zero {T : TypeId} {α : Type} {E : α → List D} {G : α → Prop} : Reads enc P W spare held 0 T E G := fun cs y h => by simp [DataW.trod] at h

/-! ### Structs -/
theorem trodAll_nil' {vs : List Value} {ds : List (DataW H)} {ps : List MemPlace} (h : DataW.TrodAll enc P W 0 spare held [] vs ds ps) : vs = [] := by
  cases vs with
  | nil => rfl
  | cons v vs => cases ds <;> exact h.elim
end
end Go.Sk
namespace Go.Sk
open Go.RowKit (Below)
open Go.ChangeShapes Go.WideShapes Go.ChangeAt Go.RowKit

theorem RFs_mapv {φ w} {α : Type} (f : α → Value) : ∀ l : List α, RFs φ w (l.map fun x => D.v (f x)) (l.map f)
  | [] => by simp [RFs]
  | x :: l => by
    simp only [List.map_cons, RFs]
    exact ⟨f x, l.map f, rfl, by simp [RD], RFs_mapv f l⟩

/-- A table of integers that is laid. -/
theorem table_laid {P : Program} {w : World} {name : String} {g n f : Nat} {t e : TypeId} {k : IntKind} {cs : Array Value} {sp : Nat → Bool} {tab : List Int} {p : List MemPlace} (hu : P.underlying t = some (.array n e)) (he : P.underlying e = some (.int k)) (hce : P.cellsOf e = 1) (hct : P.cellsOf t = n)
    (hg : P.globalNamed name = some g) (hv : w.var? P name = some cs) (hd : DataW.trod (fun _ => ()) P w 0 sp false f t cs.toList = some (.agg (tab.map fun n => .lit (.int k n)), p)) : RPs (allCells w) w (tab.map (D.i k)) g 0 := by
  obtain ⟨xs, m, rfl, hx, hlen, hn, hel⟩ := DataW.trod_array hu hd
  simp only [Prod.mk.injEq, DataW.agg.injEq] at hx
  have htl : tab.length = n := by
    have := congrArg List.length hx.1
    simp only [List.length_map] at this
    omega
  rw [hct] at hlen
  have hcell : ∀ i v, (tab.map (Value.int k))[i]? = some v → cs[i]? = some v := fun i v hi => by
    rw [List.getElem?_map, Option.map_eq_some_iff] at hi
    obtain ⟨z, hz, rfl⟩ := hi
    have hin : i < n := by rw [← htl]; exact (List.getElem?_eq_some_iff.1 hz).1
    have h1 := hel i hin
    have hxi : i < xs.length := by omega
    rw [List.getElem?_eq_getElem hxi] at h1
    obtain ⟨n', e1, e2, _⟩ := DataW.trod_int he h1
    rw [hce, Nat.mul_one] at e1
    have h2 : (tab.map fun n => (DataW.lit (.int k n) : DataW Unit))[i]? = some (xs[i]).1 := by rw [hx.1, List.getElem?_map, List.getElem?_eq_getElem hxi]; rfl
    rw [List.getElem?_map, hz, e2] at h2
    simp only [Option.map_some, Option.some.injEq, DataW.lit.injEq, Lit.int.injEq, true_and] at h2
    subst h2
    have h3 : cs.toList[i]? = some (.int k z) := by
      have h4 : (cs.toList.drop i).take 1 = [Value.int k z] := e1
      have h5 : ((cs.toList.drop i).take 1)[0]? = some (Value.int k z) := by rw [h4]; rfl
      rw [List.getElem?_take, if_pos (by omega), List.getElem?_drop] at h5
      simpa using h5
    simpa using h3
  have hall : allCells w g = cs.size := by
    have h := hv
    simp only [World.var?, hg, Option.bind_some] at h
    unfold allCells
    split at h
    · rename_i c _ _ hh
      simp only [Option.some.injEq] at h
      subst h
      rw [hh]
    · cases h
  have hm : tab.map (D.i k) = tab.map fun x => D.v (Value.int k x) := rfl
  rw [hm]
  refine RPs_of_cells (vs := tab.map (Value.int k)) (RFs_mapv _ _) (fun j v hj => ?_)
  have h1 := hcell j v hj
  rw [Nat.zero_add, World.var?_cell hg hv, hall]
  exact ⟨(Array.getElem?_eq_some_iff.1 h1).1, h1⟩

theorem law_lifted_x {H : Type} {enc : TypeId × Value → H} {C : Checked} {os : Os} {f : FuncId} {fn : Func} {s : ChangeSpec} {conds : List PathCond} {tb : TypeId} (n : Nat) (X : World → Prop) (hX : ∀ w w' : World, w.heap = w'.heap → X w → X w') (own : ownKnob C.prog.godebug = none) (started : os.Started) (noInit : C.prog.inits.idxOf? f = none) (hfn : C.prog.funcs[f]? = some fn)
    (witness : ∃ (w : World) (tape : Tape) (i : Input), w.os = os ∧ (w.forCall tape i).Shaped C.prog ∧ i.vars = [] ∧ Input.okWide C.prog (w.forCall tape i) .any w.heap.size f i ∧
      ((s.pre enc C.prog fn conds false (w.forCall tape i).memory i.args ∧ X (w.forCall tape i).memory) ∧ sizedMet enc C.prog fn (OpenSpec.ofChange s) false (w.forCall tape i).memory i.args) ∧ ({} : Assume).holds C.prog (lone (Frame.enter C.prog f i.args .normal) [] (w.forCall tape i)))
    (hvars : s.vars = []) (hn : fn.params.size = n) (hres : fn.resultTypes = #[tb]) (hb : C.prog.underlying tb = some .bool)
    (hspec : ∀ ds : List (DataW H), ds.length = n → s.fn H ds = { results := [.lit (.bool true)], args := ds }) (hl : laidOutB C.prog = true)
    (htypes : (fn.params.toList.all fun t => C.prog.readableRec t && decide (t < C.prog.types.size)) = true)
    (hwalk : ∀ (W : World) (base : Nat) (args : Array Value) (ds : List (DataW H)) (p : List MemPlace), X W → (∀ (j : Nat) t v, fn.params[j]? = some t → args[j]? = some v → Value.okWide C.prog W .any base t v) →
      DataW.TrodAll enc C.prog W 0 (fun _ => true) true fn.params.toList args.toList ds p → (DataW.weightsEach C.prog fn.params.toList ds).all (· ≤ reachBytes) = true →
      Calls C.prog f args W fun e W' => e = .returned (.bool true) ∧ Below W.heap.size W W') :
    ReturnsInHanded {} C os f .any (fun w args => (s.pre enc C.prog fn conds false w args ∧ X w) ∧ sizedMet enc C.prog fn (OpenSpec.ofChange s) false w args) (s.post enc C.prog fn false true false false) := by
  refine returnsInHanded_of_change_and (X := fun w _ => X w) (fun w w' _ hh h => hX w w' hh h) own started noInit hfn witness ?_
  intro W base args ds gs before hval hW _ hsz hXW _
  have hW' := hW
  obtain ⟨p, q, hA, hV, rfl, _, _⟩ := hW
  rw [hvars] at hV
  obtain ⟨rfl, rfl⟩ := trodVars_none hV
  have hvt : s.plain.varTypes C.prog = [] := by simp [DataSpec.varTypes, ChangeSpec.plain, hvars]
  rw [hvt] at hsz
  simp only [List.append_nil] at hsz hW'
  have hlt : ∀ y ∈ p, y.block < W.heap.size := fun y hy => by simpa using hW'.lt y (by simp [hy])
  have hdl : ds.length = n := by rw [(trodAll_len hA).1]; simpa using hn
  refine (hwalk W base args ds p hXW hval hA hsz).mono fun e W' ⟨he, hbel⟩ => ?_
  subst he
  refine ⟨_, rfl, ds, [], p, [], p, [], ?_, ?_, ?_, ?_, hbel.frame _, fun h => by cases h⟩
  · simpa using hW'
  · simp only [List.append_nil, hspec ds hdl, hres]
    exact trodAll_mk1 (shut_bool hb _)
  · simp only [List.append_nil, hspec ds hdl]
    exact below_trodAll hl hbel htypes hA hlt
  · simp only [List.append_nil, hspec ds hdl, hvars]
    rfl
end Go.Sk
namespace Go.Sk
section
variable {e : En} {env : Env} {st : List AO}
end
end Go.Sk
namespace Go.Sk
open Go.RowKit (Below)

def viewL (f : AV → Option D) : List AV → Option (List D)
  | [] => some []
  | x :: l => match f x, viewL f l with | some d, some ds => some (d :: ds) | _, _ => none
def viewLL (f : AV → Option D) : List (List AV) → Option (List (List D))
  | [] => some []
  | x :: l => match viewL f x, viewLL f l with | some d, some ds => some (d :: ds) | _, _ => none
def view (st : List AO) : Nat → AV → Option D
  | 0, _ => none
  | n + 1, x => match x with
    | .d x => some x
    | .ag ps => (viewL (view st n) ps).map .ag
    | .os id ver => match st[id]? with
      | some (.os _ _ ver' es) => bif Nat.beq ver ver' then (viewLL (view st n) es).map .sl else none
      | _ => none
    | .ow id ver off len lo => match st[id]? with
      | some (.os _ k ver' es) => bif Nat.beq ver ver' && (Nat.beq off (lo * k) && Nat.ble (lo + len) es.length) then (viewLL (view st n) ((es.drop lo).take len)).map .sl else none
      | _ => none
    | _ => none
theorem viewL_ok {m φ w} {φ' : Nat → Nat} {f : AV → Option D} (hf : ∀ x v d, RA m φ w x v → f x = some d → RD φ' w d v) : ∀ {xs : List AV} {vs : List Value} {ds : List D}, RAs m φ w xs vs → viewL f xs = some ds → RFs φ' w ds vs
  | [], vs, ds, h, hv => by
    simp only [viewL, Option.some.injEq] at hv
    subst hv
    simpa [RAs, RFs] using h
  | x :: xs, vs, ds, h, hv => by
    simp only [RAs] at h
    obtain ⟨c, cs, rfl, h1, h2⟩ := h
    simp only [viewL] at hv
    split at hv
    · rename_i d ds' e1 e2
      simp only [Option.some.injEq] at hv
      subst hv
      simp only [RFs]
      exact ⟨c, cs, rfl, hf _ _ _ h1 e1, viewL_ok hf h2 e2⟩
    · cases hv
theorem viewL_len {f : AV → Option D} : ∀ {xs : List AV} {ds : List D}, viewL f xs = some ds → ds.length = xs.length
  | [], ds, hv => by simp only [viewL, Option.some.injEq] at hv; subst hv; rfl
  | x :: xs, ds, hv => by
    simp only [viewL] at hv
    split at hv
    · rename_i d ds' e1 e2
      simp only [Option.some.injEq] at hv
      subst hv
      simp [viewL_len e2]
    · cases hv
theorem viewL_app {f : AV → Option D} : ∀ {xs ys : List AV} {ds es : List D}, viewL f xs = some ds → viewL f ys = some es → viewL f (xs ++ ys) = some (ds ++ es)
  | [], ys, ds, es, h, k => by simp only [viewL, Option.some.injEq] at h; subst h; exact k
  | x :: xs, ys, ds, es, h, k => by
    simp only [viewL] at h
    split at h
    · rename_i d ds' e1 e2
      simp only [Option.some.injEq] at h
      subst h
      simp only [List.cons_append, viewL, e1, viewL_app e2 k]
    · cases h
theorem viewLL_ok {f : AV → Option D} {k : Nat} : ∀ {es : List (List AV)} {ds : List (List D)}, viewLL f es = some ds → (∀ e ∈ es, e.length = k) → viewL f es.flatten = some ds.flatten ∧ ds.length = es.length ∧ ∀ e ∈ ds, e.length = k
  | [], ds, hv, _ => by simp only [viewLL, Option.some.injEq] at hv; subst hv; exact ⟨rfl, rfl, fun e he => by cases he⟩
  | x :: xs, ds, hv, hk => by
    simp only [viewLL] at hv
    split at hv
    · rename_i d ds' e1 e2
      simp only [Option.some.injEq] at hv
      subst hv
      obtain ⟨h1, h2, h3⟩ := viewLL_ok e2 (fun e he => hk e (List.mem_cons_of_mem _ he))
      refine ⟨by rw [List.flatten_cons, List.flatten_cons]; exact viewL_app e1 h1, by simp [h2], fun e he => ?_⟩
      rcases List.mem_cons.1 he with rfl | he
      · rw [viewL_len e1]; exact hk x List.mem_cons_self
      · exact h3 e he
    · cases hv
theorem fz_all {φ : Nat → Nat} {w : World} : Fz φ w (allCells w) w := fun _ _ _ _ h => ⟨cell_lt' h, h⟩
where
  cell_lt' {w : World} {b off : Nat} {c : Value} (h : w.cell? ⟨b, off, none⟩ = some c) : off < allCells w b := by
    unfold World.cell? at h
    unfold allCells
    split at h
    · rename_i cs t fr hh
      simp only at hh
      rw [hh]
      simp only [Option.isSome_none, Bool.false_eq_true, if_false] at h
      exact (Array.getElem?_eq_some_iff.1 h).1
    · cases h
theorem view_ok {m φ st w} (hs : SR m φ st w) : ∀ (n : Nat) (x : AV) (v : Value) (d : D), RA m φ w x v → view st n x = some d → RD (allCells w) w d v
  | 0, x, v, d, _, hv => by simp [view] at hv
  | n + 1, x, v, d, h, hv => by
    have ih := view_ok hs n
    cases x with
    | d x =>
      simp only [view, Option.some.injEq] at hv
      subst hv
      simp only [RA] at h
      exact RD.mono fz_all _ _ h
    | ag ps =>
      simp only [view, Option.map_eq_some_iff] at hv
      obtain ⟨ds, h1, rfl⟩ := hv
      simp only [RA] at h
      obtain ⟨cs, rfl, h2⟩ := h
      simp only [RD]
      exact ⟨cs, rfl, viewL_ok ih h2 h1⟩
    | os id ver =>
      simp only [view] at hv
      split at hv
      · rename_i T k ver' es hi
        cases hb : Nat.beq ver ver' with
        | false => rw [hb] at hv; cases hv
        | true =>
          rw [hb, cond_true, Option.map_eq_some_iff] at hv
          obtain ⟨ds, hd, rfl⟩ := hv
          have hver := Nat.eq_of_beq_eq_true hb
          subst hver
          simp only [RA] at h
          obtain ⟨v0, y0, g1, g2, g3⟩ := h
          obtain ⟨y', xs, e1, h1, h2, h3, h4⟩ := hs.obj id _ _ hi g1
          simp only [Cz.tok.injEq] at e1
          obtain ⟨rfl, rfl⟩ := e1
          have hy := g3 rfl
          subst hy
          obtain ⟨f1, f2, f3⟩ := viewLL_ok hd h3
          have h2' : RFs (allCells w) w ds.flatten xs := viewL_ok ih h2 f1
          simp only [RD]
          rw [← f2] at h1
          rcases h1.2 with ⟨rfl, hn⟩ | ⟨g, cap, cur, rfl, _, hg, hnc, _, _, _⟩
          · exact .inl ⟨List.eq_nil_of_length_eq_zero hn, none, 0, rfl, fun _ => rfl⟩
          · refine .inr ⟨g, 0, k, cap, rfl, hnc, f3, REs_of_cells f3 h2' fun j v hj => ?_⟩
            have := ownsRow_cell h1 hj
            rw [Nat.zero_add]
            exact ⟨fz_all.cell_lt' this, this⟩
      · cases hv
    | ow id ver off len lo =>
      simp only [view] at hv
      split at hv
      · rename_i T k ver' es hi
        cases hb : (Nat.beq ver ver' && (Nat.beq off (lo * k) && Nat.ble (lo + len) es.length)) with
        | false => rw [hb] at hv; cases hv
        | true =>
          rw [hb, cond_true, Option.map_eq_some_iff] at hv
          obtain ⟨ds, hd, rfl⟩ := hv
          rw [Bool.and_eq_true, Bool.and_eq_true] at hb
          obtain ⟨hb1, hb2, hb3⟩ := hb
          have hver := Nat.eq_of_beq_eq_true hb1
          have hoff := Nat.eq_of_beq_eq_true hb2
          have hfit := Nat.le_of_ble_eq_true hb3
          subst hver; subst hoff
          obtain ⟨y, xs, g1, h1, h2, h3, h4, h5⟩ := piece_val hs Piece.ow h hi
          have h3' : ∀ e ∈ (es.drop lo).take len, e.length = k := fun e he => h3 e (List.mem_of_mem_drop (List.mem_of_mem_take he))
          obtain ⟨f1, f2, f3⟩ := viewLL_ok hd h3'
          have hfl : ((es.drop lo).take len).flatten = (es.flatten.drop (lo * k)).take (len * k) := by
            rw [flatten_takeK _ _ (fun e he => h3 e (List.mem_of_mem_drop he)), flatten_dropK _ _ h3]
          have h2' : RAs m φ w ((es.drop lo).take len).flatten ((xs.drop (lo * k)).take (len * k)) := by
            rw [hfl]; exact RAs_take _ (RAs_drop _ h2)
          have h2'' : RFs (allCells w) w ds.flatten ((xs.drop (lo * k)).take (len * k)) := viewL_ok ih h2' f1
          have hlen : ds.length = len := by rw [f2, List.length_take, List.length_drop]; omega
          have hxl := h1.1
          simp only [RD]
          rcases h5 with ⟨_, rfl, rfl⟩ | ⟨b, nn, cap, off', rfl, rfl, ho⟩
          · exact .inl ⟨List.eq_nil_of_length_eq_zero hlen, none, 0, rfl, fun _ => rfl⟩
          · by_cases h0 : len = 0
            · subst h0
              exact .inl ⟨List.eq_nil_of_length_eq_zero hlen, _, _, rfl, fun h => by cases h⟩
            · have ho2 : off' = lo * k := ho.resolve_right h0
              subst ho2
              have hcap : nn = es.length ∧ nn ≤ cap := by
                rcases h1.2 with ⟨e1, _⟩ | ⟨g, cap', cur, e1, _, _, hnc, _, _, _⟩
                · cases e1
                · simp only [Value.slice.injEq] at e1; obtain ⟨_, rfl, rfl⟩ := e1; exact ⟨rfl, hnc⟩
              refine .inr ⟨b, lo * k, k, cap - lo, by rw [hlen], by omega, f3, REs_of_cells f3 h2'' fun j v hj => ?_⟩
              have hj2 : xs[lo * k + j]? = some v := by
                rw [List.getElem?_take] at hj
                split at hj
                · rw [List.getElem?_drop] at hj; exact hj
                · cases hj
              have := ownsRow_cell h1 hj2
              exact ⟨fz_all.cell_lt' this, this⟩
      · cases hv
    | _ => simp [view] at hv

theorem one_ow {st : List AO} {id ver off len lo T k : Nat} {es : List (List AV)} (hs : st[id]? = some (.os T k ver es)) : ∀ m φ w v, SR m φ st w → RA m φ w (.ow id ver off len lo) v → v.oneCell' = true ∧ v.cells = #[v] := fun m φ w v hsr h => by
  obtain ⟨y, xs, g1, h1, h2, h3, h4, h5⟩ := piece_val hsr Piece.ow h hs
  rcases h5 with ⟨_, rfl, _⟩ | ⟨b, nn, cap, off', rfl, rfl, _⟩ <;> exact ⟨rfl, rfl⟩
section
variable {P : Program} {env : Env} {st : List AO} {dst : Option Tmp} {ty : TypeId} {pos : String} {after : Array Edge} {guard : Option (Nat × Bool)}
theorem y_indexAddr_ow {T n : Nat} {bb : Bool} {x ix : Operand} {id ver off len lo T' k : Nat} {es : List (List AV)} {kk : IntKind} {i : Int} (hT : elemOf' P T = some (n, bb)) (hx : opv env x = some (.ow id ver off len lo)) (hs : st[id]? = some (.os T' k ver es)) (hi : opv env ix = some (.d (.v (.int kk i))))
    (h0 : 0 ≤ i) (h1 : i < len) : Yields P env st ⟨dst, .indexAddr T x ix, ty, pos, after, guard⟩ (.pe id ver (off + i.toNat * n)) := fun m φ a w hsr he => by
  obtain ⟨y, xs, g1, g2, _, _, _, g5⟩ := piece_val hsr Piece.ow (opv_ok he hx) hs
  rcases g5 with ⟨_, _, rfl⟩ | ⟨b, nn, cap, off', rfl, hv, ho⟩
  · omega
  · have ho2 : off' = off := ho.resolve_right (by omega)
    subst ho2
    refine ⟨.pointer (some ⟨b, off' + i.toNat * n, none⟩), by simp only [RA]; exact ⟨_, _, g1, Nat.le_refl _, fun _ => ⟨b, _, cap, rfl, rfl⟩⟩, fun w' _ => ?_⟩
    simp [execOp, hv, opv_v he hi, run_indexAt_slice hT h0 h1]
end

section
variable {P : Program} {e : En} {ops : Array Oper} {o : Oper} {rest : List Oper} {env : Env} {st : List AO} {R : Env → List AO → Prop} {d : Nat}
theorem view_call {f : FuncId} {m φ w} {as : List AV} {vs : List Value} {ds : List D} {y : D} {val : Value} (n : Nat) (hc : Pu P f ds y) (hg : y.gnd = some val) (hs : SR m φ st w) (ha : RAs m φ w as vs) (hv : viewL (view st n) as = some ds) :
    Calls P f ⟨vs⟩ w fun en w' => en = .returned val ∧ Below w.heap.size w w' := by
  have h1 : RFs (allCells w) w ds vs := viewL_ok (view_ok hs n) ha hv
  have hsr : SR [] (allCells w) [] w := sr_start w (hs.gl.mono fz_all)
  refine (hc.2 [] (allCells w) w vs hsr (RAs_of_RFs h1)).mono ?_
  rintro en w' ⟨v, r, st', m', φ', rfl, ⟨rfl, rfl⟩, hev, _, hra⟩
  have hv2 := RD_gnd (by simpa [RA] using hra) hg
  subst hv2
  exact ⟨rfl, hev.os, hev.tape, hev.output, hev.size, fun b hb => (hev.keep b hb (by simp [In])).1⟩
/-- A call that looks at what is ours; its result is one very value. -/
theorem WL.bor {f : FuncId} {c : Call} {x : Operand} {first caps as : List AV} {ds : List D} {y : D} {val : Value} (n : Nat) (hop : o.op = .call c) (hx : c.callee = .value x)
    (hf : opv env x = some (.fn (.func f) first caps)) (has : opvs env c.args.toList = some as) (hv : viewL (view st n) (first ++ as ++ caps) = some ds) (hc : Pu P f ds y) (hg : y.gnd = some val)
    (hw : Wt ops env o true) (ho : o.dst = some d) (hd : Nat.ble (d + 1) e.n = true) (h : WL P e ops rest ((d, .d y) :: env) st R) : WL P e ops (o :: rest) env st R := fun m φ a w hi => by
  obtain ⟨vs, h1, h2⟩ := run_call (P := P) hi.env hop hx hf has hc.1
  unfold wpList
  rw [if_pos (hw _ _ _ _ hi.env)]
  refine .inl ?_
  simp only [Oper.wp, h2, Oper.upon, ho]
  refine (view_call n hc hg hi.sr h1 hv).mono ?_
  rintro en w' ⟨rfl, hb⟩
  have hsz := hi.sz
  refine h m φ _ w' (hi.below hb (hi.env.put (by rw [hsz]; exact Nat.le_of_ble_eq_true hd) (by simpa [RA] using gnd_RD hg)) (by rw [Act.put_sz]; exact hsz) (by rw [Act.put_df]; exact hi.df))
theorem WL.borL {f : FuncId} {c : Call} {x : Operand} {first caps as as2 : List AV} {ds : List D} {y : D} {val : Value} (n : Nat) (hop : o.op = .call c) (hx : c.callee = .value x)
    (hf : opv env x = some (.fn (.func f) first caps)) (has : opvs env c.args.toList = some as) (hle : Les (first ++ as ++ caps) as2) (hv : viewL (view st n) as2 = some ds) (hc : Pu P f ds y) (hg : y.gnd = some val)
    (hw : Wt ops env o true) (ho : o.dst = some d) (hd : Nat.ble (d + 1) e.n = true) (h : WL P e ops rest ((d, .d y) :: env) st R) : WL P e ops (o :: rest) env st R := fun m φ a w hi => by
  obtain ⟨vs, h1, h2⟩ := run_call (P := P) hi.env hop hx hf has hc.1
  unfold wpList
  rw [if_pos (hw _ _ _ _ hi.env)]
  refine .inl ?_
  simp only [Oper.wp, h2, Oper.upon, ho]
  refine (view_call n hc hg hi.sr (hle.ras h1) hv).mono ?_
  rintro en w' ⟨rfl, hb⟩
  have hsz := hi.sz
  refine h m φ _ w' (hi.below hb (hi.env.put (by rw [hsz]; exact Nat.le_of_ble_eq_true hd) (by simpa [RA] using gnd_RD hg)) (by rw [Act.put_sz]; exact hsz) (by rw [Act.put_df]; exact hi.df))
theorem view_call0 {f : FuncId} {m φ w} {as : List AV} {vs : List Value} {ds : List D} (n : Nat) (hc : Pu P f ds (.sl [])) (hs : SR m φ st w) (ha : RAs m φ w as vs) (hv : viewL (view st n) as = some ds) :
    Calls P f ⟨vs⟩ w fun en w' => ∃ v, en = .returned v ∧ RD φ w' (.sl []) v ∧ Below w.heap.size w w' := by
  have h1 : RFs (allCells w) w ds vs := viewL_ok (view_ok hs n) ha hv
  have hsr : SR [] (allCells w) [] w := sr_start w (hs.gl.mono fz_all)
  refine (hc.2 [] (allCells w) w vs hsr (RAs_of_RFs h1)).mono ?_
  rintro en w' ⟨v, r, st', m', φ', rfl, ⟨rfl, rfl⟩, hev, _, hra⟩
  refine ⟨v, rfl, ?_, hev.os, hev.tape, hev.output, hev.size, fun b hb => (hev.keep b hb (by simp [In])).1⟩
  simp only [RA, RD] at hra ⊢
  rcases hra with h | ⟨b, off, k, cap, h1, h2, h3, h4⟩
  · exact .inl h
  · exact .inl ⟨trivial, _, _, h1, fun h => by cases h⟩
/-- .. its result is an empty slice. -/
theorem WL.bor0 {f : FuncId} {c : Call} {x : Operand} {first caps as : List AV} {ds : List D} (n : Nat) (hop : o.op = .call c) (hx : c.callee = .value x)
    (hf : opv env x = some (.fn (.func f) first caps)) (has : opvs env c.args.toList = some as) (hv : viewL (view st n) (first ++ as ++ caps) = some ds) (hc : Pu P f ds (.sl []))
    (hw : Wt ops env o true) (ho : o.dst = some d) (hd : Nat.ble (d + 1) e.n = true) (h : WL P e ops rest ((d, .d (.sl [])) :: env) st R) : WL P e ops (o :: rest) env st R := fun m φ a w hi => by
  obtain ⟨vs, h1, h2⟩ := run_call (P := P) hi.env hop hx hf has hc.1
  unfold wpList
  rw [if_pos (hw _ _ _ _ hi.env)]
  refine .inl ?_
  simp only [Oper.wp, h2, Oper.upon, ho]
  refine (view_call0 n hc hi.sr h1 hv).mono ?_
  rintro en w' ⟨v, rfl, hr, hb⟩
  have hsz := hi.sz
  have hi2 := hi.below hb hi.env hsz hi.df
  exact h m φ _ w' (hi2.put (Nat.le_of_ble_eq_true hd) (by simpa [RA] using hr))
theorem YieldsQ.bor {f : FuncId} {c : Call} {x : Operand} {first caps as : List AV} {ds : List D} {y : D} {v : Value} (n : Nat) (hg : y.gnd = some v) (hop : o.op = .call c) (hx : c.callee = .value x)
    (hf : opv env x = some (.fn (.func f) first caps)) (has : opvs env c.args.toList = some as) (hv : viewL (view st n) (first ++ as ++ caps) = some ds) (hc : Pu P f ds y) : YieldsQ P env st o (.d y) := fun m φ a w hs he => by
  obtain ⟨vs, h1, h2⟩ := run_call (P := P) he hop hx hf has hc.1
  refine ⟨v, by simp only [RA]; exact gnd_RD hg, fun w' hb => ?_⟩
  simp only [Oper.quietAt, h2, Oper.quietUpon, true_and]
  have hs' := hs.of_below hb
  have h1' := RAs.mono (Pre.refl m) (Fz.of_below hs hb) _ _ h1
  refine (view_call n hc hg hs' h1' hv).mono ?_
  rintro en w'' ⟨rfl, hb'⟩
  exact ⟨rfl, hb.trans (hb'.mono hb.size)⟩
end
end Go.Sk
