/-
  The library's sort and its compaction of integers, as contracts over a slice of our own.
-/
import Derived.Sort.OwnSortedInts
import Derived.Shelf.Slices.CompactI
import Derived.ProofKit
import Derived.SizedLaws
import Derived.Test.YtjjgmpmhfodmeaaSb
namespace Go.Sk
open Go.RowKit (Below)
open Go.Sort (Holds putRow grow)

abbrev EI (x : Int) : List D := [.i .i64 x]
def iv (L : List Int) : List Value := L.map (Value.int .i64)

theorem RAs_ints {m φ w} : ∀ {L : List Int} {vs : List Value}, RAs m φ w (L.map (encA EI)).flatten vs ↔ vs = iv L
  | [], vs => by simp [RAs, iv]
  | x :: L, vs => by
    simp only [List.map_cons, List.flatten_cons, encA, List.map_nil, List.cons_append, List.nil_append, RAs, RA, RD, iv]
    constructor
    · rintro ⟨c, cs, rfl, rfl, h⟩
      rw [(RAs_ints (L := L)).1 h, iv]
    · rintro rfl
      exact ⟨_, _, rfl, rfl, (RAs_ints (L := L)).2 rfl⟩

theorem ints_len (L : List Int) : ∀ e ∈ L.map (encA EI), e.length = 1 := fun e he => by
  obtain ⟨x, _, rfl⟩ := List.mem_map.1 he
  rfl

/-- A call that turns the elements of a slice of ours and leaves all else. -/
theorem ctr_turn {P : Program} {f : FuncId} {T ver : Nat} {L L' : List Int} (hcan : CanCall P f) (_hlen : L'.length = L.length)
    (h : ∀ (w : World) (y : Value), w.ownsRow 0 T 1 y L.length (iv L) → Calls P f ⟨[y]⟩ w fun e w' => e = .returned (.tuple #[]) ∧ w'.ownsRow 0 T 1 y L'.length (iv L') ∧ w.grownBy w' y.ownBlock) :
    Ctr P f [.os 0 ver] [.os T 1 ver (L.map (encA EI))] (WinX 1 (.tu []) fun _ => [.os T 1 ver (L'.map (encA EI))]) := by
  refine ⟨hcan, fun m φ w vs hs ha => ?_⟩
  simp only [RAs] at ha
  obtain ⟨y, _, rfl, h1, rfl⟩ := ha
  simp only [RA] at h1
  obtain ⟨v0, y0, g1, g2, g3⟩ := h1
  obtain ⟨y1, xs, e1, r1, r2, r3, r4⟩ := hs.obj 0 _ _ rfl g1
  simp only [Cz.tok.injEq] at e1
  obtain ⟨rfl, rfl⟩ := e1
  have := g3 rfl
  subst this
  have hx := RAs_ints.1 r2
  subst hx
  rw [List.length_map] at r1
  refine (h w y r1).mono ?_
  rintro e w' ⟨rfl, k1, k2⟩
  have hF : Fz φ w φ w' := fun b off cc q1 q2 => ⟨q1, by
    have hlt := lt_of_frozen hs q1
    have hne : some b ≠ y.ownBlock := fun e => by have := r4 b e.symm; omega
    rw [cell?_congr (k2.block b hlt hne)]; exact q2⟩
  have hm : m.set 0 (.tok v0 y) = m := by
    apply List.ext_getElem?
    intro i
    by_cases hi : i = 0
    · subst hi
      rw [List.getElem?_set_self (lt_len g1), g1]
    · rw [List.getElem?_set_ne (Ne.symm hi)]
  obtain ⟨q1, q2⟩ := set_obj (o' := .os T 1 v0 (L'.map (encA EI))) (c' := .tok v0 y) (φ' := φ) hs (id := 0) rfl rfl g1 (Cz.le_refl _) k2.os k2.tape k2.output k2.size
    (fun b hb hn => ⟨k2.block b hb (fun e => hn (by simp [Cz.has, ← e])), rfl⟩) hF (fun b hb => hs.lt b (Nat.le_trans k2.size hb)) (fun b hb => .inl hb)
    ⟨y, _, rfl, by rw [List.length_map]; exact k1, RAs_ints.2 rfl, ints_len L', r4⟩
  rw [hm] at q1 q2
  exact ⟨.tuple #[], .d (.tu []), [.os T 1 v0 (L'.map (encA EI))], m, φ, rfl, ⟨v0, rfl, by simp, rfl⟩, q1, q2, by simp [RA, RD, RFs]⟩

theorem holds_own {w : World} {T g cap n : Nat} {L : List Int} (h : w.ownsRow 0 T 1 (.slice (some ⟨g, 0, none⟩) n cap) n (iv L)) (hn : n = L.length) : Holds (Value.int .i64) w g 0 L.toArray := fun j hj => by
  subst hn
  rcases h.2 with ⟨hv, _⟩ | ⟨g', cap', cur, hv, _, hh, _⟩
  · cases hv
  · cases hv
    have hj' : j < L.length := by simpa using hj
    refine ⟨?_, ?_⟩
    · have := h.cellAt j (by omega)
      rw [Nat.zero_add, this]
      simp [iv, hj']
    · simp [World.frozen?, hh]

theorem ctr_sort {P : Program} {f : FuncId} {T ver : Nat} {L : List Int} (hcan : CanCall P f)
    (hs : ∀ (blk off cap : Nat) (zs : List Int) (w : World), Holds (Value.int .i64) w blk off zs.toArray → blk < w.heap.size → zs.length < 4611686018427387904 →
      Calls P f #[.slice (some ⟨blk, off, none⟩) zs.length cap] w fun e w' => e = .returned (.tuple #[]) ∧ ∃ n os, w' = grow (putRow (Value.int .i64) (Sort.ahead w n) blk off (zs.mergeSort fun x y => decide (x ≤ y)).toArray) os)
    (hn : ∀ (p : Option Addr) (cap : Nat) (w : World), Calls P f #[.slice p 0 cap] w fun e w' => e = .returned (.tuple #[]) ∧ w' = w) (hl : L.length < 4611686018427387904) :
    Ctr P f [.os 0 ver] [.os T 1 ver (L.map (encA EI))] (WinX 1 (.tu []) fun _ => [.os T 1 ver ((L.mergeSort fun x y => decide (x ≤ y)).map (encA EI))]) := by
  refine ctr_turn hcan (by simp) (fun w y hown => ?_)
  have hown' := hown
  obtain ⟨h1, h2⟩ := hown
  rcases h2 with ⟨rfl, h2⟩ | ⟨g, cap, cur, rfl, _, p2, p3, p4, p5, p6⟩
  · have : L = [] := List.eq_nil_of_length_eq_zero h2
    subst this
    refine (hn none 0 w).mono ?_
    rintro e w' ⟨rfl, rfl⟩
    exact ⟨rfl, by simpa [iv] using World.ownsRow_nil w' 0 T 1, World.grownBy.refl _ _⟩
  · refine (hs g 0 cap L w (holds_own hown' rfl) (Array.getElem?_eq_some_iff.1 p2).1 hl).mono ?_
    rintro e w' ⟨rfl, n, os, rfl⟩
    have := ownsRow_sortedI (w := w) (base := 0) (n := n) (os := os) (ss := L) (ts := L.mergeSort fun x y => decide (x ≤ y)) (by simp) (Nat.zero_le g) p2 p3 p4 p5
    exact ⟨rfl, by simpa [iv] using this, grownBy_sortedI _⟩


/-- A call that hands back a part of a slice of ours; what it was handed is gone. -/
theorem ctr_cut {P : Program} {f : FuncId} {T ver : Nat} {L L' : List Int} (hcan : CanCall P f)
    (h : ∀ (w : World) (y : Value), w.ownsRow 0 T 1 y L.length (iv L) → Calls P f ⟨[y]⟩ w fun e w' => ∃ y', e = .returned y' ∧ y'.ownBlock = y.ownBlock ∧ w'.ownsRow 0 T 1 y' L'.length (iv L') ∧ w.grownBy w' y.ownBlock) :
    Ctr P f [.os 0 ver] [.os T 1 ver (L.map (encA EI))] (WinX 1 (.sl (L'.map EI)) fun _ => [.dead]) := by
  refine ⟨hcan, fun m φ w vs hs ha => ?_⟩
  simp only [RAs] at ha
  obtain ⟨y, _, rfl, h1, rfl⟩ := ha
  simp only [RA] at h1
  obtain ⟨v0, y0, g1, g2, g3⟩ := h1
  obtain ⟨y1, xs, e1, r1, r2, r3, r4⟩ := hs.obj 0 _ _ rfl g1
  simp only [Cz.tok.injEq] at e1
  obtain ⟨rfl, rfl⟩ := e1
  have := g3 rfl
  subst this
  have hx := RAs_ints.1 r2
  subst hx
  rw [List.length_map] at r1
  refine (h w y r1).mono ?_
  rintro e w' ⟨y', rfl, k0, k1, k2⟩
  have hF : Fz φ w φ w' := fun b off cc q1 q2 => ⟨q1, by
    have hlt := lt_of_frozen hs q1
    have hne : some b ≠ y.ownBlock := fun e => by have := r4 b e.symm; omega
    rw [cell?_congr (k2.block b hlt hne)]; exact q2⟩
  obtain ⟨q1, q2⟩ := set_obj (o' := .os T 1 (v0 + 1) (L'.map (encA EI))) (c' := .tok (v0 + 1) y') (φ' := φ) hs (id := 0) rfl rfl g1 (Cz.tok_le _ _ _) k2.os k2.tape k2.output k2.size
    (fun b hb hn => ⟨k2.block b hb (fun e => hn (by simp [Cz.has, ← e])), rfl⟩) hF (fun b hb => hs.lt b (Nat.le_trans k2.size hb)) (fun b hb => .inl (by simpa [Cz.has, k0] using hb))
    ⟨y', _, rfl, by rw [List.length_map]; exact k1, RAs_ints.2 rfl, ints_len L', fun b hb => r4 b (by rw [← k0]; exact hb)⟩
  have hst : ([AO.os T 1 v0 (L.map (encA EI))].set 0 (.os T 1 (v0 + 1) (L'.map (encA EI)))) = [.os T 1 (v0 + 1) ((L'.map EI).map fun e => e.map AV.d)] := by simp [List.map_map, encA, Function.comp_def]
  rw [hst] at q2
  obtain ⟨φ', f1, f2, f3⟩ := freeze_os (id := 0) (y := y') q2 rfl (by rw [List.getElem?_set_self (lt_len g1)])
  exact ⟨y', .d (.sl (L'.map EI)), [.dead], _, φ', rfl, ⟨0, rfl, by simp, rfl⟩, q1.trans f1, f2, by simpa [RA] using f3⟩

theorem take_putCells (cur : Array Value) (n : Nat) (ts zs : List Int) (_hn : n ≤ cur.size) (h : ts.length + zs.length ≤ cur.size) : (Sort.putCells (Value.int .i64) 0 (ts ++ zs).toArray cur).toList.take ts.length = iv ts := by
  apply List.ext_getElem?
  intro j
  by_cases hj : j < ts.length
  · rw [List.getElem?_take_of_lt hj, Array.getElem?_toList]
    simp [Sort.putCells, iv, hj, show j < cur.size by omega, show j < ts.length + zs.length by omega, List.getElem_append_left hj]
  · rw [List.getElem?_take_eq_none (by omega), List.getElem?_eq_none (by simp [iv]; omega)]

theorem ctr_compact {P : Program} {f : FuncId} {T ver : Nat} {L : List Int} (hcan : CanCall P f)
    (hs : ∀ (blk off cap : Nat) (zs : List Int) (w : World), Holds (Value.int .i64) w blk off zs.toArray → zs.length ≤ 9223372036854775807 → zs.length ≤ cap →
      Calls P f #[.slice (some ⟨blk, off, none⟩) zs.length cap] w fun e w' => e = .returned (.slice (some ⟨blk, off, none⟩) (Lib.compact zs).length cap) ∧ ∃ q, w' = putRow (Value.int .i64) (Sort.ahead w q) blk off (Lib.compact zs ++ List.replicate (zs.length - (Lib.compact zs).length) 0).toArray)
    (hn : ∀ (p : Option Addr) (cap : Nat) (w : World), Calls P f #[.slice p 0 cap] w fun e w' => e = .returned (.slice p 0 cap) ∧ w' = w) (hc : (Lib.compact L).length ≤ L.length) :
    Ctr P f [.os 0 ver] [.os T 1 ver (L.map (encA EI))] (WinX 1 (.sl ((Lib.compact L).map EI)) fun _ => [.dead]) := by
  refine ctr_cut hcan (fun w y hown => ?_)
  have hown' := hown
  obtain ⟨h1, h2⟩ := hown
  rcases h2 with ⟨rfl, h2⟩ | ⟨g, cap, cur, rfl, _, p2, p3, p4, p5, p6⟩
  · have : L = [] := List.eq_nil_of_length_eq_zero h2
    subst this
    have hc0 : Lib.compact ([] : List Int) = [] := List.eq_nil_of_length_eq_zero (by simpa using hc)
    refine (hn none 0 w).mono ?_
    rintro e w' ⟨rfl, rfl⟩
    exact ⟨_, rfl, rfl, by rw [hc0]; exact World.ownsRow_nil w' 0 T 1, World.grownBy.refl _ _⟩
  · refine (hs g 0 cap L w (holds_own hown' rfl) (by simp only [maxLen] at p4; omega) p3).mono ?_
    rintro e w' ⟨rfl, q, rfl⟩
    refine ⟨_, rfl, rfl, ⟨by simp [iv], .inr ⟨g, cap, Sort.putCells (Value.int .i64) 0 (Lib.compact L ++ List.replicate (L.length - (Lib.compact L).length) 0).toArray cur, rfl, Nat.zero_le _, ?_, by omega, p4, ?_, ?_⟩⟩, ?_⟩
    · have := heap_sortedI (w := w) (g := g) (n := q) (os := #[]) (Lib.compact L ++ List.replicate (L.length - (Lib.compact L).length) 0).toArray p2
      simpa using this
    · simp [Sort.putCells, p5]
    · rw [Nat.mul_one]
      exact take_putCells cur 0 _ _ (Nat.zero_le _) (by rw [List.length_replicate]; omega)
    · have := grownBy_sortedI (w := w) (g := g) (n := q) (os := #[]) (Lib.compact L ++ List.replicate (L.length - (Lib.compact L).length) 0).toArray
      show w.grownBy _ (some g)
      simpa using this
end Go.Sk
namespace Go.Sk
open Go.RowKit (Below)
open Go.ChangeShapes Go.WideShapes Go.ChangeAt Go.RowKit

theorem trodAll_len {H : Type} {enc : TypeId × Value → H} {P : Program} {w : World} {base : Nat} {spare : Nat → Bool} {held : Bool} : ∀ {ts : List TypeId} {vs : List Value} {ds : List (DataW H)} {ps : List MemPlace}, DataW.TrodAll enc P w base spare held ts vs ds ps → ds.length = ts.length ∧ vs.length = ts.length
  | [], [], [], _, _ => ⟨rfl, rfl⟩
  | t :: ts, v :: vs, d :: ds, ps, h => by
    obtain ⟨p, q, _, h2, _⟩ := h
    have := trodAll_len h2
    simp [this.1, this.2]
  | [], [], _ :: _, _, h => h.elim
  | [], _ :: _, _, _, h => h.elim
  | _ :: _, [], _, _, h => h.elim
  | _ :: _, _ :: _, [], _, h => h.elim

theorem below_trodAll {H : Type} {enc : TypeId × Value → H} {P : Program} (hl : laidOutB P = true) {W W' : World} (hb : Below W.heap.size W W') : ∀ {ts : List TypeId} {vs : List Value} {ds : List (DataW H)} {ps : List MemPlace},
    (ts.all fun t => P.readableRec t && decide (t < P.types.size)) = true → DataW.TrodAll enc P W 0 (fun _ => true) true ts vs ds ps → (∀ x ∈ ps, x.block < W.heap.size) → DataW.TrodAll enc P W' 0 (fun b => decide (b < W.heap.size)) true ts vs ds ps
  | [], [], [], ps, _, h, _ => h
  | t :: ts, v :: vs, d :: ds, ps, ht, h, hlt => by
    obtain ⟨p, q, h1, h2, rfl⟩ := h
    simp only [List.all_cons, Bool.and_eq_true, decide_eq_true_eq] at ht
    exact ⟨p, q, Below.trod hl ht.1.1 ht.1.2 h1 hb (fun x hx => hlt x (by simp [hx])), below_trodAll hl hb ht.2 h2 (fun x hx => hlt x (by simp [hx])), rfl⟩
  | [], [], _ :: _, _, _, h, _ => h.elim
  | [], _ :: _, _, _, _, h, _ => h.elim
  | _ :: _, [], _, _, _, h, _ => h.elim
  | _ :: _, _ :: _, [], _, _, h, _ => h.elim

theorem law_lifted {H : Type} {enc : TypeId × Value → H} {C : Checked} {os : Os} {f : FuncId} {fn : Func} {s : ChangeSpec} {conds : List PathCond} {tb : TypeId} (n : Nat) (own : ownKnob C.prog.godebug = none) (started : os.Started) (noInit : C.prog.inits.idxOf? f = none) (hfn : C.prog.funcs[f]? = some fn)
    (witness : ∃ (w : World) (tape : Tape) (i : Input), w.os = os ∧ (w.forCall tape i).Shaped C.prog ∧ i.vars = [] ∧ Input.okWide C.prog (w.forCall tape i) .any w.heap.size f i ∧
      s.pre6 enc C.prog fn conds false (w.forCall tape i).memory i.args ∧ ({} : Assume).holds C.prog (lone (Frame.enter C.prog f i.args .normal) [] (w.forCall tape i)))
    (hvars : s.vars = []) (hn : fn.params.size = n) (hres : fn.resultTypes = #[tb]) (hb : C.prog.underlying tb = some .bool)
    (hspec : ∀ ds : List (DataW H), ds.length = n → s.fn H ds = { results := [.lit (.bool true)], args := ds }) (hl : laidOutB C.prog = true)
    (htypes : (fn.params.toList.all fun t => C.prog.readableRec t && decide (t < C.prog.types.size)) = true)
    (hwalk : ∀ (W : World) (base : Nat) (args : Array Value) (ds : List (DataW H)) (p : List MemPlace), (∀ (j : Nat) t v, fn.params[j]? = some t → args[j]? = some v → Value.okWide C.prog W .any base t v) →
      DataW.TrodAll enc C.prog W 0 (fun _ => true) true fn.params.toList args.toList ds p → (DataW.weightsEach C.prog fn.params.toList ds).all (· ≤ reachBytes) = true →
      Calls C.prog f args W fun e W' => e = .returned (.bool true) ∧ Below W.heap.size W W') :
    ReturnsInHanded {} C os f .any (s.pre6 enc C.prog fn conds false) (s.post enc C.prog fn false true false false) := by
  refine returnsInHanded_of_change_sized own started noInit hfn witness ?_
  intro W base args ds gs before hval hW _ hsz _
  have hW' := hW
  obtain ⟨p, q, hA, hV, rfl, _, _⟩ := hW
  rw [hvars] at hV
  obtain ⟨rfl, rfl⟩ := trodVars_none hV
  have hvt : s.plain.varTypes C.prog = [] := by simp [DataSpec.varTypes, ChangeSpec.plain, hvars]
  rw [hvt] at hsz
  simp only [List.append_nil] at hsz hW'
  have hlt : ∀ y ∈ p, y.block < W.heap.size := fun y hy => by simpa using hW'.lt y (by simp [hy])
  have hdl : ds.length = n := by rw [(trodAll_len hA).1]; simpa using hn
  refine (hwalk W base args ds p hval hA hsz).mono fun e W' ⟨he, hbel⟩ => ?_
  subst he
  refine ⟨_, rfl, ds, [], p, [], p, [], ?_, ?_, ?_, ?_, hbel.frame _, fun h => by cases h⟩
  · simpa using hW'
  · simp only [List.append_nil, hspec ds hdl, hres]
    exact trodAll_mk1 (shut_bool hb _)
  · simp only [List.append_nil, hspec ds hdl]
    exact below_trodAll hl hbel htypes hA hlt
  · simp only [List.append_nil, hspec ds hdl, hvars]
    rfl

/-- What lies there: it will not be written. -/
def allCells (W : World) (b : Nat) : Nat := match W.heap[b]? with | some (.cells c _ _) => c.size | _ => 0
theorem sr_start (W : World) (hg : Gl (allCells W) W) : SR [] (allCells W) [] W where
  len := rfl
  obj i o c h := by simp at h
  lt b hb := by simp [allCells, hb]
  inj i j o o' c c' b h := by simp at h
  gl := hg

theorem calls_of_pu {P : Program} {f : FuncId} {ds : List D} {W : World} {vs : List Value} (hg : Gl (allCells W) W) (h : Pu P f ds (.b true)) (ha : RAs [] (allCells W) W (ds.map .d) vs) : Calls P f ⟨vs⟩ W fun e W' => e = .returned (.bool true) ∧ Below W.heap.size W W' := by
  refine (h.2 [] (allCells W) W vs (sr_start W hg) ha).mono ?_
  rintro en w' ⟨v, r, st', m', φ', rfl, ⟨rfl, rfl⟩, hev, _, hra⟩
  simp only [RA, RD] at hra
  subst hra
  exact ⟨rfl, hev.os, hev.tape, hev.output, hev.size, fun b hb => (hev.keep b hb (by rintro ⟨i, c, h, _⟩; simp at h)).1⟩
end Go.Sk
namespace Go.Sk
open Go.RowKit (Below)

section
variable {H : Type} {enc : TypeId × Value → H} {P : Program} {W : World} {spare : Nat → Bool} {held : Bool}

theorem cell_lt {W : World} {b off : Nat} {c : Value} (h : W.cell? ⟨b, off, none⟩ = some c) : off < allCells W b := by
  unfold World.cell? at h
  unfold allCells
  split at h
  · rename_i cs t fr hh
    simp only at hh
    rw [hh]
    simp only [Option.isSome_none, Bool.false_eq_true, if_false] at h
    exact (Array.getElem?_eq_some_iff.1 h).1
  · cases h

/-- the reading of one type: whatever cells read, they are those of some x -/
def Reads (enc : TypeId × Value → H) (P : Program) (W : World) (spare : Nat → Bool) (held : Bool) (fuel : Nat) (T : TypeId) {α : Type} (E : α → List D) (G : α → Prop) : Prop :=
  ∀ cs y, DataW.trod enc P W 0 spare held fuel T cs = some y → ∃ x, RFs (allCells W) W (E x) cs ∧ G x

theorem Reads.zero {T : TypeId} {α : Type} {E : α → List D} {G : α → Prop} : Reads enc P W spare held 0 T E G := fun cs y h => by simp [DataW.trod] at h

theorem reads_int {T : TypeId} {k : IntKind} (hT : P.underlying T = some (.int k)) : ∀ fuel, Reads enc P W spare held fuel T (fun n : Int => [.i k n]) (fun n => k.min ≤ n ∧ n ≤ k.max)
  | 0 => Reads.zero
  | fuel + 1 => fun cs y h => by
    rcases cs with _ | ⟨v, _ | ⟨v2, r⟩⟩
    · simp [DataW.trod, hT] at h
    · cases v <;> simp only [DataW.trod, hT, reduceCtorEq] at h
      rename_i k' n
      split at h
      · rename_i hc
        obtain ⟨rfl, hw⟩ := hc
        refine ⟨n, by simp [RFs, RD], ?_⟩
        simpa [Lit.wf, IntKind.has] using hw
      · cases h
    · simp [DataW.trod, hT] at h

theorem mapM_some {α β : Type} {f : α → Option β} : ∀ {l : List α} {r : List β}, l.mapM f = some r → ∀ (i : Nat) (a : α), l[i]? = some a → ∃ b, f a = some b ∧ r[i]? = some b
  | [], r, h, i, a, ha => by simp at ha
  | x :: l, r, h, i, a, ha => by
    rw [List.mapM_cons] at h
    cases hx : f x with
    | none => simp [hx] at h
    | some b =>
      cases hl : l.mapM f with
      | none => simp [hx, hl] at h
      | some bs =>
        simp only [hx, hl, Option.bind_eq_bind, Option.bind_some, Option.pure_def, Option.some.injEq] at h
        subst h
        cases i with
        | zero => simp only [List.getElem?_cons_zero, Option.some.injEq] at ha; subst ha; exact ⟨b, hx, rfl⟩
        | succ i => obtain ⟨c, h1, h2⟩ := mapM_some hl i a (by simpa using ha); exact ⟨c, h1, by simpa using h2⟩

theorem rfs_app {φ w} : ∀ {xs : List D} {vs : List Value} {ys : List D} {us : List Value}, RFs φ w xs vs → RFs φ w ys us → RFs φ w (xs ++ ys) (vs ++ us)
  | [], vs, ys, us, h, k => by simp only [RFs] at h; subst h; exact k
  | x :: xs, vs, ys, us, h, k => by
    simp only [RFs] at h
    obtain ⟨c, cs, rfl, h1, h2⟩ := h
    simp only [List.cons_append, RFs]
    exact ⟨c, cs ++ us, rfl, h1, rfs_app h2 k⟩

/-- the cells of a slice's elements -/
theorem reads_elems {e : TypeId} {α : Type} {E : α → List D} {G : α → Prop} {fuel k : Nat} {b off : Nat} (hk : P.cellsOf e = k) (hE : ∀ x, (E x).length = k) (he : Reads enc P W spare held fuel e E G) :
    ∀ n : Nat, (∀ i, i < n → ∃ y, (W.cells? 0 (Addr.add ⟨b, off, none⟩ (i * P.cellsOf e)) (P.cellsOf e)).bind (DataW.trod enc P W 0 spare held fuel e) = some y) → ∃ L : List α, L.length = n ∧ REs (allCells W) W (L.map E) k b off ∧ ∀ x ∈ L, G x := by
  intro n
  induction n generalizing off with
  | zero => intro _; exact ⟨[], rfl, by simp [REs], by simp⟩
  | succ n ih =>
    intro h
    obtain ⟨y, hy⟩ := h 0 (Nat.succ_pos n)
    obtain ⟨cs, h1, h2⟩ := Option.bind_eq_some_iff.1 hy
    obtain ⟨x, hx, gx⟩ := he cs y h2
    obtain ⟨L, l1, l2, l3⟩ := ih (off := off + k) (fun i hi => by
      obtain ⟨y, hy⟩ := h (i + 1) (by omega)
      refine ⟨y, ?_⟩
      rw [← hy, hk]
      rw [addr_add, addr_add, Nat.succ_mul, show off + (i * k + k) = off + k + i * k from by omega])
    refine ⟨x :: L, by simp [l1], ?_, fun z hz => by rcases List.mem_cons.1 hz with rfl | hz <;> first | exact gx | exact l3 z hz⟩
    simp only [List.map_cons, REs]
    refine ⟨?_, l2⟩
    have hcs : ∀ j, j < k → W.cell? ⟨b, off + j, none⟩ = cs[j]? := by
      unfold World.cells? at h1
      simp only [Nat.zero_le, if_true, Nat.zero_mul] at h1
      intro j hj
      obtain ⟨c, c1, c2⟩ := mapM_some h1 j j (by rw [hk]; exact List.getElem?_range hj)
      rw [c2, ← c1, addr_add, addr_add]
      simp
    have hlen : (E x).length = k := hE x
    clear ih h l1 l2 l3 h1 h2 hy
    generalize E x = ps at hx hlen
    have key : ∀ (ps : List D) (cs : List Value) (o : Nat), RFs (allCells W) W ps cs → (∀ j, j < ps.length → W.cell? ⟨b, o + j, none⟩ = cs[j]?) → RPs (allCells W) W ps b o := by
      intro ps
      induction ps with
      | nil => intro cs o _ _; simp [RPs]
      | cons p ps ih =>
        intro cs o h1 h2
        simp only [RFs] at h1
        obtain ⟨c, cs', rfl, h3, h4⟩ := h1
        have h0 := h2 0 (by simp)
        simp only [Nat.add_zero, List.getElem?_cons_zero] at h0
        simp only [RPs]
        exact ⟨⟨cell_lt h0, c, h0, h3⟩, ih cs' (o + 1) h4 (fun j hj => by have := h2 (j + 1) (by simpa using hj); rw [show o + 1 + j = o + (j + 1) from by omega, this]; simp)⟩
    exact key ps cs off hx (fun j hj => hcs j (by omega))

theorem reads_slice {T e : TypeId} {α : Type} {E : α → List D} {G : α → Prop} {k : Nat} (hT : P.underlying T = some (.slice e)) (hk : P.cellsOf e = k) (hk0 : 0 < k) (hE : ∀ x, (E x).length = k) {fuel : Nat} (he : Reads enc P W spare held fuel e E G) :
    Reads enc P W spare held (fuel + 1) T (fun L : List α => [.sl (L.map E)]) (fun L => (∀ x ∈ L, G x) ∧ L.length ≤ maxLen) := fun cs y h => by
  rcases cs with _ | ⟨v, _ | ⟨v2, r⟩⟩
  · simp [DataW.trod, hT] at h
  · cases v <;> simp only [DataW.trod, hT, reduceCtorEq] at h
    rename_i a len cap
    cases a with
    | none =>
      rcases len with _ | len <;> rcases cap with _ | cap <;> simp only [reduceCtorEq] at h
      exact ⟨[], by simp only [RFs, RD]; exact ⟨_, [], rfl, .inl ⟨rfl, none, 0, rfl, fun _ => rfl⟩, rfl⟩, by simp⟩
    | some a =>
      have h' : (if 0 ≤ a.block ∧ len ≤ cap ∧ cap ≤ maxLen then
        ((List.range len).mapM fun i => (W.cells? 0 (a.add (i * P.cellsOf e)) (P.cellsOf e)).bind (DataW.trod enc P W 0 spare held fuel e)).bind fun elems =>
          (if spare a.block then (List.range (cap - len)).mapM fun j => (W.cells? 0 (a.add ((len + j) * P.cellsOf e)) (P.cellsOf e)).bind (DataW.trod enc P W 0 spare held fuel e) else some []).map fun rest =>
            (DataW.slice (elems.map (·.1)) (rest.map (·.1)), MemPlace.row a ((elems.length + rest.length) * P.cellsOf e) ++ (elems ++ rest).flatMap (·.2)) else none) = some y := by simpa [DataW.trod, hT] using h
      clear h
      split at h'
      · rename_i hc
        obtain ⟨elems, h1, h2⟩ := Option.bind_eq_some_iff.1 h'
        have hm := fun i hi => mapM_some h1 i i (List.getElem?_range (n := len) hi)
        by_cases hl : len = 0
        · subst hl
          exact ⟨[], by simp only [RFs, RD]; exact ⟨_, [], rfl, .inl ⟨rfl, some a, cap, rfl, fun h => by cases h⟩, rfl⟩, by simp, by simp⟩
        · have hs : a.spot = none := by
            obtain ⟨b, h3, _⟩ := hm 0 (by omega)
            obtain ⟨cs, h4, _⟩ := Option.bind_eq_some_iff.1 h3
            unfold World.cells? at h4
            simp only [Nat.zero_le, if_true] at h4
            obtain ⟨c, c1, _⟩ := mapM_some h4 0 0 (by rw [hk]; exact List.getElem?_range hk0)
            have := World.cell?_spot c1
            simpa [Addr.add] using this
          obtain ⟨b, off, sp⟩ := a
          simp only at hs
          subst hs
          obtain ⟨L, l1, l2, l3⟩ := reads_elems hk hE he len (fun i hi => by obtain ⟨z, h3, _⟩ := hm i hi; exact ⟨z, h3⟩)
          refine ⟨L, ?_, l3, by omega⟩
          simp only [RFs, RD]
          refine ⟨_, [], rfl, .inr ⟨b, off, k, cap, by rw [List.length_map, l1], by rw [List.length_map, l1]; exact hc.2.1, fun x hx => ?_, l2⟩, rfl⟩
          obtain ⟨z, _, rfl⟩ := List.mem_map.1 hx
          exact hE z
      · cases h'
  · simp [DataW.trod, hT] at h

/-! ### Structs -/
/-- field by field: from the cell off on -/
theorem rfs_chain {φ w} {cs : List Value} {off n m : Nat} {E F : List D} (h : RFs φ w E ((cs.drop off).take n)) (hm : m = off + n) (k : RFs φ w F (cs.drop m)) : RFs φ w (E ++ F) (cs.drop off) := by
  subst hm
  have := rfs_app h k
  rwa [← List.drop_drop, List.take_append_drop] at this
theorem rfs_stop {φ w} {cs : List Value} {off : Nat} (h : cs.length = off) : RFs φ w [] (cs.drop off) := by
  rw [List.drop_of_length_le (by omega)]
  rfl

/-- A struct: each field reads. -/
theorem reads_struct {T : TypeId} {fs : Array Field} {α : Type} {E : α → List D} {G : α → Prop} {fuel : Nat} {n : Nat} (hT : P.underlying T = some (.struct fs)) (hn : P.cellsOf T = n)
    (h : ∀ cs : List Value, cs.length = n → (∀ (i : Nat) f, fs[i]? = some f → ∃ y, DataW.trod enc P W 0 spare held fuel f.type ((cs.drop f.offset).take (P.cellsOf f.type)) = some y) → ∃ x, RFs (allCells W) W (E x) cs ∧ G x) :
    Reads enc P W spare held (fuel + 1) T E G := fun cs y hy => by
  simp only [DataW.trod, hT] at hy
  split at hy
  · rename_i hl
    obtain ⟨xs, h1, _⟩ := Option.map_eq_some_iff.1 hy
    refine h cs (by omega) (fun i f hf => ?_)
    obtain ⟨b, h2, _⟩ := mapM_some h1 i f (by simpa using hf)
    exact ⟨b, h2⟩
  · cases hy

/-- An argument. -/
theorem reads_arg {T : TypeId} {v : Value} {d : DataW H} {ps : List MemPlace} {α : Type} {E : α → List D} {G : α → Prop} (hr : ∀ fuel, Reads enc P W spare held fuel T E G) (h : DataW.Trod enc P W 0 spare held T v d ps) : ∃ x, RFs (allCells W) W (E x) v.cells.toList ∧ G x := by
  obtain ⟨fuel, h⟩ := h
  exact hr fuel _ _ h
/-- .. of one cell, or an aggregate: its value. -/
theorem ra_one {φ w} {x : D} {v : Value} (h : RFs φ w [x] v.cells.toList) (hv : v.oneCell' = true) : RD φ w x v := by
  rw [cells_one hv] at h
  simp only [RFs] at h
  obtain ⟨c, cs, e, h1, rfl⟩ := h
  simp only [List.cons.injEq, and_true] at e
  subst e
  exact h1
theorem ra_agg {φ w} {xs : List D} {cs : Array Value} (h : RFs φ w xs (Value.agg cs).cells.toList) : RD φ w (.ag xs) (.agg cs) := by
  simp only [RD]
  exact ⟨cs.toList, rfl, h⟩

theorem reads_sliceF {T e : TypeId} {α : Type} {E : α → List D} {G : α → Prop} {k : Nat} (hT : P.underlying T = some (.slice e)) (hk : P.cellsOf e = k) (hk0 : 0 < k) (hE : ∀ x, (E x).length = k) : ∀ {fuel : Nat}, (∀ f, f < fuel → Reads enc P W spare held f e E G) →
    Reads enc P W spare held fuel T (fun L : List α => [.sl (L.map E)]) (fun L => (∀ x ∈ L, G x) ∧ L.length ≤ maxLen)
  | 0, _ => Reads.zero
  | f + 1, he => reads_slice hT hk hk0 hE (he f (Nat.lt_succ_self f))

theorem one_int {T : TypeId} {k : IntKind} {base : Nat} {v : Value} (hT : P.underlying T = some (.int k)) (h : Value.okWide P W .any base T v) : v.oneCell' = true := by
  cases v <;> simp_all [Value.okWide, Cell.okWide, Cell.ok, Value.oneCell']
theorem one_slice {T e : TypeId} {base : Nat} {v : Value} (hT : P.underlying T = some (.slice e)) (h : Value.okWide P W .any base T v) : v.oneCell' = true := by
  cases v <;> simp_all [Value.okWide, Cell.okWide, Cell.ok, Value.oneCell']
theorem agg_struct {T : TypeId} {fs : Array Field} {base : Nat} {v : Value} (hT : P.underlying T = some (.struct fs)) (h : Value.okWide P W .any base T v) : ∃ cs, v = .agg cs := by
  simp only [Value.okWide, hT] at h
  obtain ⟨cs, h, _⟩ := h
  exact ⟨cs, h⟩
/-- One argument after the other. -/
theorem trodAll_cons' {t : TypeId} {ts : List TypeId} {vs : List Value} {ds : List (DataW H)} {ps : List MemPlace} (h : DataW.TrodAll enc P W 0 spare held (t :: ts) vs ds ps) : ∃ v vs' d ds' p q, vs = v :: vs' ∧ ds = d :: ds' ∧ DataW.Trod enc P W 0 spare held t v d p ∧ DataW.TrodAll enc P W 0 spare held ts vs' ds' q := by
  cases vs with
  | nil => cases ds <;> exact h.elim
  | cons v vs =>
    cases ds with
    | nil => exact h.elim
    | cons d ds =>
      obtain ⟨p, q, h1, h2, _⟩ := h
      exact ⟨v, vs, d, ds, p, q, rfl, rfl, h1, h2⟩
theorem trodAll_nil' {vs : List Value} {ds : List (DataW H)} {ps : List MemPlace} (h : DataW.TrodAll enc P W 0 spare held [] vs ds ps) : vs = [] := by
  cases vs with
  | nil => rfl
  | cons v vs => cases ds <;> exact h.elim
end
end Go.Sk
