/-
  The library's sort and its compaction of integers, as contracts over a slice of our own.
-/
import Derived.Sort.OwnSortedInts
import Derived.Shelf.Slices.CompactI
import Derived.Shelf.Spec.SlicesInsert
import Derived.Shelf.Spec.SlicesInsertGrow
import Derived.ProofKit
import Derived.SizedLaws
import Derived.Test.YtpionlekbfoccaaSb
namespace Go.Sk
open Go.RowKit (Below)
open Go.Sort (Holds putRow grow)

abbrev EI (x : Int) : List D := [.i .i64 x]
def iv (L : List Int) : List Value := L.map (Value.int .i64)

theorem RAs_ints {m φ w} : ∀ {L : List Int} {vs : List Value}, RAs m φ w (L.map (encA EI)).flatten vs ↔ vs = iv L
  | [], vs => by simp [RAs, iv]
  | x :: L, vs => by
    simp only [List.map_cons, List.flatten_cons, encA, List.map_nil, List.cons_append, List.nil_append, RAs, RA, RD, iv]
    constructor
    · rintro ⟨c, cs, rfl, rfl, h⟩
      rw [(RAs_ints (L := L)).1 h, iv]
    · rintro rfl
      exact ⟨_, _, rfl, rfl, (RAs_ints (L := L)).2 rfl⟩

theorem ints_len (L : List Int) : ∀ e ∈ L.map (encA EI), e.length = 1 := fun e he => by
  obtain ⟨x, _, rfl⟩ := List.mem_map.1 he
  rfl

end Go.Sk
namespace Go.Sk
open Go.Proofs Go.Shelf

theorem setCells_heap (b : Nat) : ∀ (vs : List Value) (o : Nat) (w : World) (c : Array Value) (e : TypeId) (fz : Nat × Nat), w.heap[b]? = some (.cells c e fz) →
    ∃ c', (w.setCells b o vs).heap[b]? = some (.cells c' e fz) ∧ c'.size = c.size ∧ ∀ k, k < c.size → c'[k]? = if o ≤ k ∧ k < o + vs.length then vs[k - o]? else c[k]?
  | [], o, w, c, e, fz, h => ⟨c, h, rfl, fun k _ => by rw [if_neg (by simp)]⟩
  | v :: r, o, w, c, e, fz, h => by
    have h1 : (w.setCell ⟨b, o, none⟩ v).heap[b]? = some (.cells (c.setIfInBounds o v) e fz) := by simp [World.setCell, Array.getElem?_modify, h]
    obtain ⟨c', g1, g2, g3⟩ := setCells_heap b r (o + 1) _ _ e fz h1
    refine ⟨c', g1, by simpa using g2, fun k hk => ?_⟩
    rw [g3 k (by simpa using hk)]
    by_cases h2 : k = o
    · subst h2
      rw [if_neg (by omega), if_pos (by simp), Array.getElem?_setIfInBounds_self_of_lt hk]
      simp
    · by_cases h3 : o + 1 ≤ k ∧ k < o + 1 + r.length
      · rw [if_pos h3, if_pos (by simp; omega)]
        have : k - o = (k - (o + 1)) + 1 := by omega
        rw [this, List.getElem?_cons_succ]
      · rw [if_neg h3, if_neg (by simp; omega), Array.getElem?_setIfInBounds_ne (Ne.symm h2)]

theorem setCells_grown (b : Nat) : ∀ (vs : List Value) (o : Nat) (w : World), w.grownBy (w.setCells b o vs) (some b)
  | [], _, w => World.grownBy.refl w _
  | v :: r, o, w => by
    have h := setCells_grown b r (o + 1) (w.setCell ⟨b, o, none⟩ v)
    refine ⟨h.os, h.tape, h.output, by simpa [World.setCells] using h.size, fun k hk hn => ?_⟩
    rw [World.setCells, h.block k (by simpa using hk) hn]
    have : k ≠ b := fun e => hn (by rw [e])
    simp [World.setCell, Array.getElem?_modify, Ne.symm this]

theorem drew_grown (w : World) (r : Option Nat) : w.grownBy w.drew r := ⟨rfl, rfl, rfl, Nat.le_refl _, fun _ _ _ => rfl⟩
theorem grown_trans {w w' w'' : World} {r : Option Nat} (h : w.grownBy w' r) (k : w'.grownBy w'' r) : w.grownBy w'' r :=
  ⟨k.os.trans h.os, k.tape.trans h.tape, k.output.trans h.output, Nat.le_trans h.size k.size, fun i hi hn => (k.block i (Nat.lt_of_lt_of_le hi h.size) hn).trans (h.block i hi hn)⟩
theorem iv_one (L : List Int) : ∀ v ∈ iv L, v.oneCell' = true := fun v hv => by
  obtain ⟨x, _, rfl⟩ := List.mem_map.1 hv; rfl

theorem made_row {w : World} {T : TypeId} {L : List Int} {n cap : Nat} {A : Array Value} (h : A.toList = iv L ++ List.replicate (cap - n) (.int .i64 0)) (hn : n = L.length) (hc : n ≤ cap) (hm : cap ≤ maxLen) :
    (w.alloc (.cells A T)).ownsRow 0 T 1 (.slice (some ⟨w.heap.size, 0, none⟩) n cap) n (iv L) := by
  refine ⟨by simp [iv, hn], .inr ⟨_, _, A, rfl, Nat.zero_le _, heap_alloc_new w _, hc, hm, ?_, ?_⟩⟩
  · rw [← Array.length_toList, h]
    simp [iv]; omega
  · rw [h, List.take_left' (by simp [iv, hn])]

theorem insert0 {P : Program} {ρ : Ren} (L : Lays2.n21 P ρ) {L0 : List Int} {x : Int} {w : World} {y yv : Value} (h : w.ownsRow 0 (ρ.t 3) 1 y L0.length (iv L0)) (hv : w.ownsRow 0 (ρ.t 3) 1 yv 1 [.int .i64 x])
    (hne : ∀ b, y.ownBlock = some b → yv.ownBlock ≠ some b) (hbig : (L0.length + 1) * 8 ≤ 140737488355328) :
    Calls P (ρ.f 21) #[y, .int .i64 ((0 : Nat) : Int), yv] w fun e w' => ∃ y', e = .returned y' ∧ w'.ownsRow 0 (ρ.t 3) 1 y' (L0.length + 1) (iv (x :: L0)) ∧ (∀ b, y'.ownBlock = some b → y.ownBlock = some b ∨ w.heap.size ≤ b) ∧ w.grownBy w' y.ownBlock := by
  have hv' := hv
  rcases hv.2 with ⟨_, h0⟩ | ⟨vb, vc, vcur, rfl, _, q2, q3, q4, q5, q6⟩
  · cases h0
  have hvs : ∀ j v, [Value.int .i64 x][j]? = some v → w.cell? ⟨vb, 0 + j, none⟩ = some v := fun j v hj => by
    have := hv'.cells rfl j v hj
    rwa [Addr.add_lit] at this
  have h1v : ∀ v ∈ [Value.int .i64 x], v.oneCell' = true := fun v hv => by simp at hv; subst hv; rfl
  have hm63 : L0.length + 1 ≤ maxLen := by simp only [maxLen]; omega
  have hgrow : ∀ (cap0 : Nat), (L0.length + 1) ≤ grownCap w (L0.length + 1) cap0 (ρ.t 3) ∧ grownCap w (L0.length + 1) cap0 (ρ.t 3) ≤ maxLen := fun cap0 => ⟨grownCap_ge _ _ _ _, grownCap_le_maxLen _ _ _ _ hm63⟩
  have hzc : ∀ n, (Builtin.zeroCells (Value.int .i64 0).cells n).toList = List.replicate n (.int .i64 0) := fun n => by
    apply List.ext_getElem?
    intro j
    by_cases hj : j < n <;> simp [Builtin.zeroCells, Value.cells, Nat.mod_one, hj]
  rcases h.2 with ⟨rfl, h2⟩ | ⟨g, cap, cur, rfl, _, p2, p3, p4, p5, p6⟩
  · have : L0 = [] := List.eq_nil_of_length_eq_zero h2
    subst this
    refine (Any2.slices_Insert_int_end_grow L none 0 0 vb 0 1 vc [] [.int .i64 x] w (by decide) (Nat.le_refl _) (by decide) (by decide) rfl rfl (fun _ => rfl) (fun a ha => by cases ha) hvs h1v).mono ?_
    rintro e w' ⟨rfl, rfl⟩
    refine ⟨_, rfl, made_row (w := w.drew) (L := [x]) ?_ rfl (hgrow 0).1 (hgrow 0).2, fun b hb => .inr ?_, grown_trans (drew_grown w _) (World.grownBy_alloc _ _ _)⟩
    · simp [iv, hzc]
    · simp [Value.ownBlock] at hb; omega
  · have hgv : vb ≠ g := fun e => hne g rfl (by rw [e]; rfl)
    have hcs : ∀ j v, (iv L0)[j]? = some v → w.cell? ⟨g, 0 + j, none⟩ = some v := fun j v hj => by
      have := h.cells rfl j v hj
      rwa [Addr.add_lit] at this
    have hsz : cur.size = cap := by omega
    have hsp : ∀ j, j < cap → (w.cell? ⟨g, 0 + j, none⟩).isSome = true := fun j hj => by
      rw [Nat.zero_add, cell_of_row w g j cur _ _ p2]
      simp [hsz, hj]
    have hfz : ∀ j, w.frozen? ⟨g, 0 + j, none⟩ = false := fun j => by simp [World.frozen?, p2]
    by_cases hroom : L0.length + 1 ≤ cap
    · by_cases h0 : L0 = []
      · subst h0
        refine (Any2.slices_Insert_int_end_room L g 0 0 cap vb 0 1 vc [.int .i64 x] w (by decide) hroom (by simp only [maxLen] at p4; omega) rfl (fun j hj => ?_) (fun j hj => ?_) hvs h1v).mono ?_
        · have := hsp j (by simp at hroom; omega); simpa using this
        · have := hfz j; simpa using this
        rintro e w' ⟨rfl, rfl⟩
        obtain ⟨c', g1, g2, g3⟩ := setCells_heap g [.int .i64 x] (0 + 0) w cur _ _ p2
        refine ⟨_, rfl, ⟨rfl, .inr ⟨g, cap, c', rfl, Nat.zero_le _, g1, hroom, p4, by omega, ?_⟩⟩, fun b hb => .inl hb, setCells_grown g _ _ w⟩
        apply List.ext_getElem?
        intro k
        rw [List.getElem?_take]
        by_cases hk : k < 1
        · have : k = 0 := by omega
          subst this
          rw [if_pos (by simp), Array.getElem?_toList, g3 0 (by simp at hroom; omega)]
          simp [iv]
        · rw [if_neg (by simpa using hk)]
          exact (List.getElem?_eq_none (by simp [iv]; omega)).symm
      · have hpos : 0 < L0.length := List.length_pos_iff.2 h0
        refine (Any2.slices_Insert_int_shift L g 0 L0.length cap 0 vb 0 1 vc (iv L0) [.int .i64 x] w hpos (by decide) hroom (by simp only [maxLen] at p4; omega) hgv (by simp [iv]) rfl hcs (fun j hj => hsp j (by omega)) (fun j _ => hfz j) hvs (iv_one L0) h1v
          (ρ.t 3) (ρ.t 3) vcur.size cap (by simp [World.shape?, q2]) (by simp [World.shape?, p2, hsz]) (by omega) (by simp [World.frozen?, q2]) (by simp [World.frozen?, q2])).mono ?_
        rintro e w' ⟨rfl, rfl⟩
        obtain ⟨c1, g1, g2, g3⟩ := setCells_heap g ((iv L0).drop 0) (0 + (0 + 1)) w.drew cur _ _ p2
        obtain ⟨c2, k1, k2, k3⟩ := setCells_heap g [.int .i64 x] (0 + 0) _ c1 _ _ g1
        refine ⟨_, rfl, ⟨by simp [iv], .inr ⟨g, cap, c2, rfl, Nat.zero_le _, k1, hroom, p4, by omega, ?_⟩⟩, fun b hb => .inl hb, grown_trans (drew_grown w _) (grown_trans (setCells_grown g _ _ _) (setCells_grown g _ _ _))⟩
        apply List.ext_getElem?
        intro k
        rw [List.getElem?_take]
        by_cases hk : k < L0.length + 1
        · rw [if_pos (by simpa using hk), Array.getElem?_toList, k3 k (by omega)]
          cases k with
          | zero => simp [iv]
          | succ k =>
            rw [if_neg (by simp), g3 (k + 1) (by omega), if_pos (by simp [iv]; omega)]
            simp [iv]
        · rw [if_neg (by simpa using hk)]
          exact (List.getElem?_eq_none (by simp [iv]; omega)).symm
    · have hcap : cap = L0.length := by omega
      by_cases h0 : L0 = []
      · subst h0
        have hcap' : cap = 0 := hcap
        subst hcap'
        refine (Any2.slices_Insert_int_end_grow L (some ⟨g, 0, none⟩) 0 0 vb 0 1 vc [] [.int .i64 x] w (by decide) (Nat.le_refl _) (by decide) (by decide) rfl rfl (fun h => by cases h) (fun a _ j v hj => by simp at hj) hvs h1v).mono ?_
        rintro e w' ⟨rfl, rfl⟩
        refine ⟨_, rfl, made_row (w := w.drew) (L := [x]) ?_ rfl (hgrow 0).1 (hgrow 0).2, fun b hb => .inr ?_, grown_trans (drew_grown w _) (World.grownBy_alloc _ _ _)⟩
        · simp [iv, hzc]
        · simp [Value.ownBlock] at hb; omega
      · have hpos : 0 < L0.length := List.length_pos_iff.2 h0
        refine (Any2.slices_Insert_int_grow L g 0 L0.length cap 0 vb 0 1 vc (iv L0) [.int .i64 x] w hpos (by decide) p3 (by omega) hbig (by simp [iv]) rfl hcs hvs (iv_one L0) h1v).mono ?_
        rintro e w' ⟨rfl, rfl⟩
        refine ⟨_, rfl, ?_, fun b hb => .inr ?_, ?_⟩
        · obtain ⟨c1, g1, g2, g3⟩ := setCells_heap w.heap.size [.int .i64 x] 0 (w.alloc (.cells (((iv L0).take 0).toArray ++ Builtin.zeroCells (Value.int .i64 0).cells (L0.length + 1 - 0) ++ Builtin.zeroCells (Value.int .i64 0).cells (grownCap w (L0.length + 1) cap (ρ.t 3) - (L0.length + 1))) (ρ.t 3))).drew _ _ _ (heap_alloc_new w _)
          obtain ⟨c2, k1, k2, k3⟩ := setCells_heap w.heap.size ((iv L0).drop 0) (0 + 1) (((w.alloc (.cells (((iv L0).take 0).toArray ++ Builtin.zeroCells (Value.int .i64 0).cells (L0.length + 1 - 0) ++ Builtin.zeroCells (Value.int .i64 0).cells (grownCap w (L0.length + 1) cap (ρ.t 3) - (L0.length + 1))) (ρ.t 3))).drew.setCells w.heap.size 0 [.int .i64 x]).drew) c1 _ _ g1
          have hs0 : (((iv L0).take 0).toArray ++ Builtin.zeroCells (Value.int .i64 0).cells (L0.length + 1 - 0) ++ Builtin.zeroCells (Value.int .i64 0).cells (grownCap w (L0.length + 1) cap (ρ.t 3) - (L0.length + 1))).size = grownCap w (L0.length + 1) cap (ρ.t 3) := by
            have := (hgrow cap).1
            rw [← Array.length_toList]
            simp [hzc]; omega
          refine ⟨by simp [iv], .inr ⟨_, _, c2, rfl, Nat.zero_le _, k1, (hgrow cap).1, (hgrow cap).2, by rw [k2, g2, hs0]; omega, ?_⟩⟩
          apply List.ext_getElem?
          intro k
          rw [List.getElem?_take]
          by_cases hk : k < L0.length + 1
          · have hk2 : k < grownCap w (L0.length + 1) cap (ρ.t 3) := Nat.lt_of_lt_of_le hk (hgrow cap).1
            rw [if_pos (by simpa using hk), Array.getElem?_toList, k3 k (by rw [g2, hs0]; exact hk2)]
            cases k with
            | zero => rw [if_neg (by simp), g3 0 (by rw [hs0]; exact hk2)]; simp [iv]
            | succ k =>
              rw [if_pos (by simp [iv]; omega)]
              simp [iv]
          · rw [if_neg (by simpa using hk)]
            exact (List.getElem?_eq_none (by simp [iv]; omega)).symm
        · simp [Value.ownBlock] at hb; omega
        · have h1 := grown_trans (grown_trans (drew_grown _ _) (setCells_grown w.heap.size [.int .i64 x] 0 (w.alloc (.cells (((iv L0).take 0).toArray ++ Builtin.zeroCells (Value.int .i64 0).cells (L0.length + 1 - 0) ++ Builtin.zeroCells (Value.int .i64 0).cells (grownCap w (L0.length + 1) cap (ρ.t 3) - (L0.length + 1))) (ρ.t 3))).drew)) (grown_trans (drew_grown _ _) (setCells_grown w.heap.size ((iv L0).drop 0) (0 + 1) _))
          have h2 := World.grownBy_alloc w (.cells (((iv L0).take 0).toArray ++ Builtin.zeroCells (Value.int .i64 0).cells (L0.length + 1 - 0) ++ Builtin.zeroCells (Value.int .i64 0).cells (grownCap w (L0.length + 1) cap (ρ.t 3) - (L0.length + 1))) (ρ.t 3)) none
          exact ⟨h1.os.trans h2.os, h1.tape.trans h2.tape, h1.output.trans h2.output, Nat.le_trans h2.size h1.size, fun k hk _ => (h1.block k (Nat.lt_of_lt_of_le hk h2.size) (fun e => by cases e; exact Nat.lt_irrefl _ hk)).trans (h2.block k hk (by simp))⟩

theorem ctr_insert0 {P : Program} {ρ : Ren} {v0 v1 : Nat} {L0 : List Int} {x : Int} (L : Lays2.n21 P ρ) (hcan : CanCall P (ρ.f 21)) (hbig : (L0.length + 1) * 8 ≤ 140737488355328) :
    Ctr P (ρ.f 21) [.os 0 v0, .d (.i .i64 0), .os 1 v1] [.os (ρ.t 3) 1 v0 (L0.map (encA EI)), .os (ρ.t 3) 1 v1 ([x].map (encA EI))] (WinX 2 (.sl ((x :: L0).map EI)) fun _ => [.dead, .os (ρ.t 3) 1 v1 ([x].map (encA EI))]) := by
  refine ⟨hcan, fun m φ w vs hs ha => ?_⟩
  simp only [RAs] at ha
  obtain ⟨y, _, rfl, h1, _, _, rfl, hi, yv, _, rfl, hv1, rfl⟩ := ha
  simp only [RA, RD] at h1 hi hv1
  subst hi
  obtain ⟨u0, y0, g1, g2, g3⟩ := h1
  obtain ⟨u1, y1, f1, f2, f3⟩ := hv1
  obtain ⟨y2, xs, e1, r1, r2, r3, r4⟩ := hs.obj 0 _ _ rfl g1
  obtain ⟨y3, xs3, e3, t1, t2, t3, t4⟩ := hs.obj 1 _ _ rfl f1
  simp only [Cz.tok.injEq] at e1 e3
  obtain ⟨rfl, rfl⟩ := e1
  obtain ⟨rfl, rfl⟩ := e3
  have := g3 rfl
  subst this
  have := f3 rfl
  subst this
  have hx := RAs_ints.1 r2
  subst hx
  have hx := RAs_ints.1 t2
  subst hx
  rw [List.length_map] at r1 t1
  have hne : ∀ b, y.ownBlock = some b → yv.ownBlock ≠ some b := fun b hb hb2 => by
    have := hs.inj 0 1 _ _ _ _ b rfl rfl rfl rfl g1 f1 (by simpa [Cz.has] using hb) (by simpa [Cz.has] using hb2)
    cases this
  refine (insert0 L r1 t1 hne hbig).mono ?_
  rintro e w' ⟨y', rfl, k1, k0, k2⟩
  have hF : Fz φ w φ w' := fun b off cc q1 q2 => ⟨q1, by
    have hlt := lt_of_frozen hs q1
    have hne : some b ≠ y.ownBlock := fun e => by have := r4 b e.symm; omega
    rw [cell?_congr (k2.block b hlt hne)]; exact q2⟩
  have hφ : ∀ b, y'.ownBlock = some b → φ b = 0 := fun b hb => by
    rcases k0 b hb with h | h
    · exact r4 b h
    · exact hs.lt b h
  obtain ⟨q1, q2⟩ := set_obj (o' := .os (ρ.t 3) 1 (u0 + 1) ((x :: L0).map (encA EI))) (c' := .tok (u0 + 1) y') (φ' := φ) hs (id := 0) rfl rfl g1 (Cz.tok_le _ _ _) k2.os k2.tape k2.output k2.size
    (fun b hb hn => ⟨k2.block b hb (fun e => hn (by simp [Cz.has, ← e])), rfl⟩) hF (fun b hb => hs.lt b (Nat.le_trans k2.size hb)) (fun b hb => by
      have := k0 b (by simpa [Cz.has] using hb)
      simpa [Cz.has] using this)
    ⟨y', _, rfl, by rw [List.length_map]; exact k1, RAs_ints.2 rfl, ints_len _, hφ⟩
  have hst : (([AO.os (ρ.t 3) 1 u0 (L0.map (encA EI)), AO.os (ρ.t 3) 1 u1 ([x].map (encA EI))]).set 0 (.os (ρ.t 3) 1 (u0 + 1) ((x :: L0).map (encA EI)))) = [.os (ρ.t 3) 1 (u0 + 1) (((x :: L0).map EI).map fun e => e.map AV.d), AO.os (ρ.t 3) 1 u1 ([x].map (encA EI))] := by simp [List.map_map, encA, Function.comp_def]
  rw [hst] at q2
  obtain ⟨φ', f1', f2', f3'⟩ := freeze_os (id := 0) (y := y') q2 rfl (by rw [List.getElem?_set_self (lt_len g1)])
  exact ⟨y', .d (.sl ((x :: L0).map EI)), [.dead, AO.os (ρ.t 3) 1 u1 ([x].map (encA EI))], _, φ', rfl, ⟨0, rfl, by simp, rfl⟩, q1.trans f1', f2', by simpa [RA] using f3'⟩
end Go.Sk
namespace Go.Sk
open Go.RowKit (Below)
open Go.ChangeShapes Go.WideShapes Go.ChangeAt Go.RowKit

theorem trodAll_len {H : Type} {enc : TypeId × Value → H} {P : Program} {w : World} {base : Nat} {spare : Nat → Bool} {held : Bool} : ∀ {ts : List TypeId} {vs : List Value} {ds : List (DataW H)} {ps : List MemPlace}, DataW.TrodAll enc P w base spare held ts vs ds ps → ds.length = ts.length ∧ vs.length = ts.length
  | [], [], [], _, _ => ⟨rfl, rfl⟩
  | t :: ts, v :: vs, d :: ds, ps, h => by
    obtain ⟨p, q, _, h2, _⟩ := h
    have := trodAll_len h2
    simp [this.1, this.2]
  | [], [], _ :: _, _, h => h.elim
  | [], _ :: _, _, _, h => h.elim
  | _ :: _, [], _, _, h => h.elim
  | _ :: _, _ :: _, [], _, h => h.elim

theorem below_trodAll {H : Type} {enc : TypeId × Value → H} {P : Program} (hl : laidOutB P = true) {W W' : World} (hb : Below W.heap.size W W') : ∀ {ts : List TypeId} {vs : List Value} {ds : List (DataW H)} {ps : List MemPlace},
    (ts.all fun t => P.readableRec t && decide (t < P.types.size)) = true → DataW.TrodAll enc P W 0 (fun _ => true) true ts vs ds ps → (∀ x ∈ ps, x.block < W.heap.size) → DataW.TrodAll enc P W' 0 (fun b => decide (b < W.heap.size)) true ts vs ds ps
  | [], [], [], ps, _, h, _ => h
  | t :: ts, v :: vs, d :: ds, ps, ht, h, hlt => by
    obtain ⟨p, q, h1, h2, rfl⟩ := h
    simp only [List.all_cons, Bool.and_eq_true, decide_eq_true_eq] at ht
    exact ⟨p, q, Below.trod hl ht.1.1 ht.1.2 h1 hb (fun x hx => hlt x (by simp [hx])), below_trodAll hl hb ht.2 h2 (fun x hx => hlt x (by simp [hx])), rfl⟩
  | [], [], _ :: _, _, _, h, _ => h.elim
  | [], _ :: _, _, _, _, h, _ => h.elim
  | _ :: _, [], _, _, _, h, _ => h.elim
  | _ :: _, _ :: _, [], _, _, h, _ => h.elim

theorem law_lifted {H : Type} {enc : TypeId × Value → H} {C : Checked} {os : Os} {f : FuncId} {fn : Func} {s : ChangeSpec} {conds : List PathCond} {tb : TypeId} (n : Nat) (own : ownKnob C.prog.godebug = none) (started : os.Started) (noInit : C.prog.inits.idxOf? f = none) (hfn : C.prog.funcs[f]? = some fn)
    (witness : ∃ (w : World) (tape : Tape) (i : Input), w.os = os ∧ (w.forCall tape i).Shaped C.prog ∧ i.vars = [] ∧ Input.okWide C.prog (w.forCall tape i) .any w.heap.size f i ∧
      s.pre6 enc C.prog fn conds false (w.forCall tape i).memory i.args ∧ ({} : Assume).holds C.prog (lone (Frame.enter C.prog f i.args .normal) [] (w.forCall tape i)))
    (hvars : s.vars = []) (hn : fn.params.size = n) (hres : fn.resultTypes = #[tb]) (hb : C.prog.underlying tb = some .bool)
    (hspec : ∀ ds : List (DataW H), ds.length = n → s.fn H ds = { results := [.lit (.bool true)], args := ds }) (hl : laidOutB C.prog = true)
    (htypes : (fn.params.toList.all fun t => C.prog.readableRec t && decide (t < C.prog.types.size)) = true)
    (hwalk : ∀ (W : World) (base : Nat) (args : Array Value) (ds : List (DataW H)) (p : List MemPlace), (∀ (j : Nat) t v, fn.params[j]? = some t → args[j]? = some v → Value.okWide C.prog W .any base t v) →
      DataW.TrodAll enc C.prog W 0 (fun _ => true) true fn.params.toList args.toList ds p → (DataW.weightsEach C.prog fn.params.toList ds).all (· ≤ reachBytes) = true →
      Calls C.prog f args W fun e W' => e = .returned (.bool true) ∧ Below W.heap.size W W') :
    ReturnsInHanded {} C os f .any (s.pre6 enc C.prog fn conds false) (s.post enc C.prog fn false true false false) := by
  refine returnsInHanded_of_change_sized own started noInit hfn witness ?_
  intro W base args ds gs before hval hW _ hsz _
  have hW' := hW
  obtain ⟨p, q, hA, hV, rfl, _, _⟩ := hW
  rw [hvars] at hV
  obtain ⟨rfl, rfl⟩ := trodVars_none hV
  have hvt : s.plain.varTypes C.prog = [] := by simp [DataSpec.varTypes, ChangeSpec.plain, hvars]
  rw [hvt] at hsz
  simp only [List.append_nil] at hsz hW'
  have hlt : ∀ y ∈ p, y.block < W.heap.size := fun y hy => by simpa using hW'.lt y (by simp [hy])
  have hdl : ds.length = n := by rw [(trodAll_len hA).1]; simpa using hn
  refine (hwalk W base args ds p hval hA hsz).mono fun e W' ⟨he, hbel⟩ => ?_
  subst he
  refine ⟨_, rfl, ds, [], p, [], p, [], ?_, ?_, ?_, ?_, hbel.frame _, fun h => by cases h⟩
  · simpa using hW'
  · simp only [List.append_nil, hspec ds hdl, hres]
    exact trodAll_mk1 (shut_bool hb _)
  · simp only [List.append_nil, hspec ds hdl]
    exact below_trodAll hl hbel htypes hA hlt
  · simp only [List.append_nil, hspec ds hdl, hvars]
    rfl

/-- What lies there: it will not be written. -/
def allCells (W : World) (b : Nat) : Nat := match W.heap[b]? with | some (.cells c _ _) => c.size | _ => 0
theorem sr_start (W : World) (hg : Gl (allCells W) W) : SR [] (allCells W) [] W where
  len := rfl
  obj i o c h := by simp at h
  lt b hb := by simp [allCells, hb]
  inj i j o o' c c' b h := by simp at h
  gl := hg
  nb b h := by obtain ⟨i, c, h, _⟩ := h; simp at h

theorem calls_of_pu {P : Program} {f : FuncId} {ds : List D} {W : World} {vs : List Value} (hg : Gl (allCells W) W) (h : Pu P f ds (.b true)) (ha : RAs [] (allCells W) W (ds.map .d) vs) : Calls P f ⟨vs⟩ W fun e W' => e = .returned (.bool true) ∧ Below W.heap.size W W' := by
  refine (h.2 [] (allCells W) W vs (sr_start W hg) ha).mono ?_
  rintro en w' ⟨v, r, st', m', φ', rfl, ⟨rfl, rfl⟩, hev, _, hra⟩
  simp only [RA, RD] at hra
  subst hra
  exact ⟨rfl, hev.os, hev.tape, hev.output, hev.size, fun b hb => (hev.keep b hb (by rintro ⟨i, c, h, _⟩; simp at h)).1⟩
end Go.Sk
namespace Go.Sk
open Go.RowKit (Below)

section
variable {H : Type} {enc : TypeId × Value → H} {P : Program} {W : World} {spare : Nat → Bool} {held : Bool}

theorem cell_lt {W : World} {b off : Nat} {c : Value} (h : W.cell? ⟨b, off, none⟩ = some c) : off < allCells W b := by
  unfold World.cell? at h
  unfold allCells
  split at h
  · rename_i cs t fr hh
    simp only at hh
    rw [hh]
    simp only [Option.isSome_none, Bool.false_eq_true, if_false] at h
    exact (Array.getElem?_eq_some_iff.1 h).1
  · cases h

/-- the reading of one type: whatever cells read, they are those of some x -/
def Reads (enc : TypeId × Value → H) (P : Program) (W : World) (spare : Nat → Bool) (held : Bool) (fuel : Nat) (T : TypeId) {α : Type} (E : α → List D) (G : α → Prop) : Prop :=
  ∀ cs y, DataW.trod enc P W 0 spare held fuel T cs = some y → ∃ x, RFs (allCells W) W (E x) cs ∧ G x

theorem Reads.zero {T : TypeId} {α : Type} {E : α → List D} {G : α → Prop} : Reads enc P W spare held 0 T E G := fun cs y h => by simp [DataW.trod] at h

theorem reads_int {T : TypeId} {k : IntKind} (hT : P.underlying T = some (.int k)) : ∀ fuel, Reads enc P W spare held fuel T (fun n : Int => [.i k n]) (fun n => k.min ≤ n ∧ n ≤ k.max)
  | 0 => Reads.zero
  | fuel + 1 => fun cs y h => by
    rcases cs with _ | ⟨v, _ | ⟨v2, r⟩⟩
    · simp [DataW.trod, hT] at h
    · cases v <;> simp only [DataW.trod, hT, reduceCtorEq] at h
      rename_i k' n
      split at h
      · rename_i hc
        obtain ⟨rfl, hw⟩ := hc
        refine ⟨n, by simp [RFs, RD], ?_⟩
        simpa [Lit.wf, IntKind.has] using hw
      · cases h
    · simp [DataW.trod, hT] at h

theorem mapM_some {α β : Type} {f : α → Option β} : ∀ {l : List α} {r : List β}, l.mapM f = some r → ∀ (i : Nat) (a : α), l[i]? = some a → ∃ b, f a = some b ∧ r[i]? = some b
  | [], r, h, i, a, ha => by simp at ha
  | x :: l, r, h, i, a, ha => by
    rw [List.mapM_cons] at h
    cases hx : f x with
    | none => simp [hx] at h
    | some b =>
      cases hl : l.mapM f with
      | none => simp [hx, hl] at h
      | some bs =>
        simp only [hx, hl, Option.bind_eq_bind, Option.bind_some, Option.pure_def, Option.some.injEq] at h
        subst h
        cases i with
        | zero => simp only [List.getElem?_cons_zero, Option.some.injEq] at ha; subst ha; exact ⟨b, hx, rfl⟩
        | succ i => obtain ⟨c, h1, h2⟩ := mapM_some hl i a (by simpa using ha); exact ⟨c, h1, by simpa using h2⟩

theorem rfs_app {φ w} : ∀ {xs : List D} {vs : List Value} {ys : List D} {us : List Value}, RFs φ w xs vs → RFs φ w ys us → RFs φ w (xs ++ ys) (vs ++ us)
  | [], vs, ys, us, h, k => by simp only [RFs] at h; subst h; exact k
  | x :: xs, vs, ys, us, h, k => by
    simp only [RFs] at h
    obtain ⟨c, cs, rfl, h1, h2⟩ := h
    simp only [List.cons_append, RFs]
    exact ⟨c, cs ++ us, rfl, h1, rfs_app h2 k⟩

/-- the cells of a slice's elements -/
theorem reads_elems {e : TypeId} {α : Type} {E : α → List D} {G : α → Prop} {fuel k : Nat} {b off : Nat} (hk : P.cellsOf e = k) (hE : ∀ x, (E x).length = k) (he : Reads enc P W spare held fuel e E G) :
    ∀ n : Nat, (∀ i, i < n → ∃ y, (W.cells? 0 (Addr.add ⟨b, off, none⟩ (i * P.cellsOf e)) (P.cellsOf e)).bind (DataW.trod enc P W 0 spare held fuel e) = some y) → ∃ L : List α, L.length = n ∧ REs (allCells W) W (L.map E) k b off ∧ ∀ x ∈ L, G x := by
  intro n
  induction n generalizing off with
  | zero => intro _; exact ⟨[], rfl, by simp [REs], by simp⟩
  | succ n ih =>
    intro h
    obtain ⟨y, hy⟩ := h 0 (Nat.succ_pos n)
    obtain ⟨cs, h1, h2⟩ := Option.bind_eq_some_iff.1 hy
    obtain ⟨x, hx, gx⟩ := he cs y h2
    obtain ⟨L, l1, l2, l3⟩ := ih (off := off + k) (fun i hi => by
      obtain ⟨y, hy⟩ := h (i + 1) (by omega)
      refine ⟨y, ?_⟩
      rw [← hy, hk]
      rw [addr_add, addr_add, Nat.succ_mul, show off + (i * k + k) = off + k + i * k from by omega])
    refine ⟨x :: L, by simp [l1], ?_, fun z hz => by rcases List.mem_cons.1 hz with rfl | hz <;> first | exact gx | exact l3 z hz⟩
    simp only [List.map_cons, REs]
    refine ⟨?_, l2⟩
    have hcs : ∀ j, j < k → W.cell? ⟨b, off + j, none⟩ = cs[j]? := by
      unfold World.cells? at h1
      simp only [Nat.zero_le, if_true, Nat.zero_mul] at h1
      intro j hj
      obtain ⟨c, c1, c2⟩ := mapM_some h1 j j (by rw [hk]; exact List.getElem?_range hj)
      rw [c2, ← c1, addr_add, addr_add]
      simp
    have hlen : (E x).length = k := hE x
    clear ih h l1 l2 l3 h1 h2 hy
    generalize E x = ps at hx hlen
    have key : ∀ (ps : List D) (cs : List Value) (o : Nat), RFs (allCells W) W ps cs → (∀ j, j < ps.length → W.cell? ⟨b, o + j, none⟩ = cs[j]?) → RPs (allCells W) W ps b o := by
      intro ps
      induction ps with
      | nil => intro cs o _ _; simp [RPs]
      | cons p ps ih =>
        intro cs o h1 h2
        simp only [RFs] at h1
        obtain ⟨c, cs', rfl, h3, h4⟩ := h1
        have h0 := h2 0 (by simp)
        simp only [Nat.add_zero, List.getElem?_cons_zero] at h0
        simp only [RPs]
        exact ⟨⟨cell_lt h0, c, h0, h3⟩, ih cs' (o + 1) h4 (fun j hj => by have := h2 (j + 1) (by simpa using hj); rw [show o + 1 + j = o + (j + 1) from by omega, this]; simp)⟩
    exact key ps cs off hx (fun j hj => hcs j (by omega))

theorem reads_slice {T e : TypeId} {α : Type} {E : α → List D} {G : α → Prop} {k : Nat} (hT : P.underlying T = some (.slice e)) (hk : P.cellsOf e = k) (hk0 : 0 < k) (hE : ∀ x, (E x).length = k) {fuel : Nat} (he : Reads enc P W spare held fuel e E G) :
    Reads enc P W spare held (fuel + 1) T (fun L : List α => [.sl (L.map E)]) (fun L => (∀ x ∈ L, G x) ∧ L.length ≤ maxLen) := fun cs y h => by
  rcases cs with _ | ⟨v, _ | ⟨v2, r⟩⟩
  · simp [DataW.trod, hT] at h
  · cases v <;> simp only [DataW.trod, hT, reduceCtorEq] at h
    rename_i a len cap
    cases a with
    | none =>
      rcases len with _ | len <;> rcases cap with _ | cap <;> simp only [reduceCtorEq] at h
      exact ⟨[], by simp only [RFs, RD]; exact ⟨_, [], rfl, .inl ⟨rfl, none, 0, rfl, fun _ => rfl⟩, rfl⟩, by simp⟩
    | some a =>
      have h' : (if 0 ≤ a.block ∧ len ≤ cap ∧ cap ≤ maxLen then
        ((List.range len).mapM fun i => (W.cells? 0 (a.add (i * P.cellsOf e)) (P.cellsOf e)).bind (DataW.trod enc P W 0 spare held fuel e)).bind fun elems =>
          (if spare a.block then (List.range (cap - len)).mapM fun j => (W.cells? 0 (a.add ((len + j) * P.cellsOf e)) (P.cellsOf e)).bind (DataW.trod enc P W 0 spare held fuel e) else some []).map fun rest =>
            (DataW.slice (elems.map (·.1)) (rest.map (·.1)), MemPlace.row a ((elems.length + rest.length) * P.cellsOf e) ++ (elems ++ rest).flatMap (·.2)) else none) = some y := by simpa [DataW.trod, hT] using h
      clear h
      split at h'
      · rename_i hc
        obtain ⟨elems, h1, h2⟩ := Option.bind_eq_some_iff.1 h'
        have hm := fun i hi => mapM_some h1 i i (List.getElem?_range (n := len) hi)
        by_cases hl : len = 0
        · subst hl
          exact ⟨[], by simp only [RFs, RD]; exact ⟨_, [], rfl, .inl ⟨rfl, some a, cap, rfl, fun h => by cases h⟩, rfl⟩, by simp, by simp⟩
        · have hs : a.spot = none := by
            obtain ⟨b, h3, _⟩ := hm 0 (by omega)
            obtain ⟨cs, h4, _⟩ := Option.bind_eq_some_iff.1 h3
            unfold World.cells? at h4
            simp only [Nat.zero_le, if_true] at h4
            obtain ⟨c, c1, _⟩ := mapM_some h4 0 0 (by rw [hk]; exact List.getElem?_range hk0)
            have := World.cell?_spot c1
            simpa [Addr.add] using this
          obtain ⟨b, off, sp⟩ := a
          simp only at hs
          subst hs
          obtain ⟨L, l1, l2, l3⟩ := reads_elems hk hE he len (fun i hi => by obtain ⟨z, h3, _⟩ := hm i hi; exact ⟨z, h3⟩)
          refine ⟨L, ?_, l3, by omega⟩
          simp only [RFs, RD]
          refine ⟨_, [], rfl, .inr ⟨b, off, k, cap, by rw [List.length_map, l1], by rw [List.length_map, l1]; exact hc.2.1, fun x hx => ?_, l2⟩, rfl⟩
          obtain ⟨z, _, rfl⟩ := List.mem_map.1 hx
          exact hE z
      · cases h'
  · simp [DataW.trod, hT] at h

/-! ### Structs -/
/-- field by field: from the cell off on -/
theorem rfs_chain {φ w} {cs : List Value} {off n m : Nat} {E F : List D} (h : RFs φ w E ((cs.drop off).take n)) (hm : m = off + n) (k : RFs φ w F (cs.drop m)) : RFs φ w (E ++ F) (cs.drop off) := by
  subst hm
  have := rfs_app h k
  rwa [← List.drop_drop, List.take_append_drop] at this
theorem rfs_stop {φ w} {cs : List Value} {off : Nat} (h : cs.length = off) : RFs φ w [] (cs.drop off) := by
  rw [List.drop_of_length_le (by omega)]
  rfl

/-- A struct: each field reads. -/
theorem reads_struct {T : TypeId} {fs : Array Field} {α : Type} {E : α → List D} {G : α → Prop} {fuel : Nat} {n : Nat} (hT : P.underlying T = some (.struct fs)) (hn : P.cellsOf T = n)
    (h : ∀ cs : List Value, cs.length = n → (∀ (i : Nat) f, fs[i]? = some f → ∃ y, DataW.trod enc P W 0 spare held fuel f.type ((cs.drop f.offset).take (P.cellsOf f.type)) = some y) → ∃ x, RFs (allCells W) W (E x) cs ∧ G x) :
    Reads enc P W spare held (fuel + 1) T E G := fun cs y hy => by
  simp only [DataW.trod, hT] at hy
  split at hy
  · rename_i hl
    obtain ⟨xs, h1, _⟩ := Option.map_eq_some_iff.1 hy
    refine h cs (by omega) (fun i f hf => ?_)
    obtain ⟨b, h2, _⟩ := mapM_some h1 i f (by simpa using hf)
    exact ⟨b, h2⟩
  · cases hy

/-- An argument. -/
theorem reads_arg {T : TypeId} {v : Value} {d : DataW H} {ps : List MemPlace} {α : Type} {E : α → List D} {G : α → Prop} (hr : ∀ fuel, Reads enc P W spare held fuel T E G) (h : DataW.Trod enc P W 0 spare held T v d ps) : ∃ x, RFs (allCells W) W (E x) v.cells.toList ∧ G x := by
  obtain ⟨fuel, h⟩ := h
  exact hr fuel _ _ h
/-- .. of one cell, or an aggregate: its value. -/
theorem ra_one {φ w} {x : D} {v : Value} (h : RFs φ w [x] v.cells.toList) (hv : v.oneCell' = true) : RD φ w x v := by
  rw [cells_one hv] at h
  simp only [RFs] at h
  obtain ⟨c, cs, e, h1, rfl⟩ := h
  simp only [List.cons.injEq, and_true] at e
  subst e
  exact h1
theorem ra_agg {φ w} {xs : List D} {cs : Array Value} (h : RFs φ w xs (Value.agg cs).cells.toList) : RD φ w (.ag xs) (.agg cs) := by
  simp only [RD]
  exact ⟨cs.toList, rfl, h⟩

theorem reads_sliceF {T e : TypeId} {α : Type} {E : α → List D} {G : α → Prop} {k : Nat} (hT : P.underlying T = some (.slice e)) (hk : P.cellsOf e = k) (hk0 : 0 < k) (hE : ∀ x, (E x).length = k) : ∀ {fuel : Nat}, (∀ f, f < fuel → Reads enc P W spare held f e E G) →
    Reads enc P W spare held fuel T (fun L : List α => [.sl (L.map E)]) (fun L => (∀ x ∈ L, G x) ∧ L.length ≤ maxLen)
  | 0, _ => Reads.zero
  | f + 1, he => reads_slice hT hk hk0 hE (he f (Nat.lt_succ_self f))

theorem one_slice {T e : TypeId} {base : Nat} {v : Value} (hT : P.underlying T = some (.slice e)) (h : Value.okWide P W .any base T v) : v.oneCell' = true := by
  cases v <;> simp_all [Value.okWide, Cell.okWide, Cell.ok, Value.oneCell']
theorem agg_struct {T : TypeId} {fs : Array Field} {base : Nat} {v : Value} (hT : P.underlying T = some (.struct fs)) (h : Value.okWide P W .any base T v) : ∃ cs, v = .agg cs := by
  simp only [Value.okWide, hT] at h
  obtain ⟨cs, h, _⟩ := h
  exact ⟨cs, h⟩
/-- One argument after the other. -/
theorem trodAll_cons' {t : TypeId} {ts : List TypeId} {vs : List Value} {ds : List (DataW H)} {ps : List MemPlace} (h : DataW.TrodAll enc P W 0 spare held (t :: ts) vs ds ps) : ∃ v vs' d ds' p q, vs = v :: vs' ∧ ds = d :: ds' ∧ DataW.Trod enc P W 0 spare held t v d p ∧ DataW.TrodAll enc P W 0 spare held ts vs' ds' q := by
  cases vs with
  | nil => cases ds <;> exact h.elim
  | cons v vs =>
    cases ds with
    | nil => exact h.elim
    | cons d ds =>
      obtain ⟨p, q, h1, h2, _⟩ := h
      exact ⟨v, vs, d, ds, p, q, rfl, rfl, h1, h2⟩
theorem trodAll_nil' {vs : List Value} {ds : List (DataW H)} {ps : List MemPlace} (h : DataW.TrodAll enc P W 0 spare held [] vs ds ps) : vs = [] := by
  cases vs with
  | nil => rfl
  | cons v vs => cases ds <;> exact h.elim
end
end Go.Sk
namespace Go.Sk
open Go.ChangeShapes Go.WideShapes Go.ChangeAt Go.RowKit
theorem reads_vec {H : Type} {enc : TypeId × Value → H} {P : Program} {W : World} {spare : Nat → Bool} {held : Bool} {T e n : Nat} {A : Type} [Inhabited A] {EA : A → D} {G : A → Prop} (hT : P.underlying T = some (.array n e)) (hk : P.cellsOf e = 1) (hn : P.cellsOf T = n) {fuel : Nat}
    (he : Reads enc P W spare held fuel e (fun x : A => [EA x]) G) : Reads enc P W spare held (fuel + 1) T (fun F : Nat → A => vecC n (fun j => EA (F j))) (fun F => ∀ j, j < n → G (F j)) := fun cs y hy => by
  simp only [DataW.trod, hT] at hy
  split at hy
  · rename_i hl
    obtain ⟨xs, h1, _⟩ := Option.map_eq_some_iff.1 hy
    have hl' : cs.length = n := by omega
    have hx : ∀ i, i < n → ∃ x : A, RFs (allCells W) W [EA x] ((cs.drop i).take 1) ∧ G x := fun i hi => by
      obtain ⟨b, h2, _⟩ := mapM_some h1 i i (List.getElem?_range hi)
      rw [hk, Nat.mul_one] at h2
      exact he _ _ h2
    let F : Nat → A := fun i => if h : i < n then Classical.choose (hx i h) else default
    have hF : ∀ i, i < n → RFs (allCells W) W [EA (F i)] ((cs.drop i).take 1) ∧ G (F i) := fun i hi => by
      have := Classical.choose_spec (hx i hi)
      simp only [F, dif_pos hi]
      exact this
    refine ⟨F, ?_, fun j hj => (hF j hj).2⟩
    have key : ∀ (m s : Nat), s + m = n → RFs (allCells W) W ((List.range' s m).map fun j => EA (F j)) (cs.drop s) := by
      intro m
      induction m with
      | zero =>
        intro s hs
        rw [List.drop_of_length_le (by omega)]
        rfl
      | succ m ih =>
        intro s hs
        have hlt : s < cs.length := by omega
        have h3 := (hF s (by omega)).1
        rw [List.drop_eq_getElem_cons hlt] at h3 ⊢
        simp only [List.take_succ_cons, List.take_zero, RFs] at h3
        obtain ⟨c, cs', e1, h4, _⟩ := h3
        simp only [List.cons.injEq] at e1
        rw [List.range'_succ, List.map_cons]
        simp only [RFs]
        exact ⟨_, _, rfl, by rw [e1.1]; exact h4, ih (s + 1) (by omega)⟩
    have := key n 0 (by omega)
    rw [List.drop_zero] at this
    unfold vecC
    rw [List.range_eq_range']
    exact this
  · cases hy
end Go.Sk
namespace Go.Sk
open Go.ChangeShapes Go.WideShapes Go.ChangeAt Go.RowKit

def WOk {H : Type} (P : Program) (T : TypeId) (d : DataW H) : Prop := ∀ n ∈ d.weights P T, n ≤ reachBytes
def ReadsS {H : Type} (enc : TypeId × Value → H) (P : Program) (W : World) (spare : Nat → Bool) (held : Bool) (fuel : Nat) (T : TypeId) {α : Type} (E : α → List D) (G : α → Prop) : Prop :=
  ∀ cs y, DataW.trod enc P W 0 spare held fuel T cs = some y → WOk P T y.1 → ∃ x, RFs (allCells W) W (E x) cs ∧ G x

section
variable {H : Type} {enc : TypeId × Value → H} {P : Program} {W : World} {spare : Nat → Bool} {held : Bool}
theorem Reads.s {fuel : Nat} {T : TypeId} {α : Type} {E : α → List D} {G : α → Prop} (h : Reads enc P W spare held fuel T E G) : ReadsS enc P W spare held fuel T E G := fun cs y hy _ => h cs y hy
theorem ReadsS.zero {T : TypeId} {α : Type} {E : α → List D} {G : α → Prop} : ReadsS enc P W spare held 0 T E G := fun cs y h => by simp [DataW.trod] at h
theorem mapM_len {α β : Type} {f : α → Option β} : ∀ {l : List α} {r : List β}, l.mapM f = some r → r.length = l.length
  | [], r, h => by simp at h; subst h; rfl
  | x :: l, r, h => by
    rw [List.mapM_cons] at h
    cases hx : f x with
    | none => simp [hx] at h
    | some b =>
      cases hl : l.mapM f with
      | none => simp [hx, hl] at h
      | some bs =>
        simp only [hx, hl, Option.bind_eq_bind, Option.bind_some, Option.pure_def, Option.some.injEq] at h
        subst h
        simp [mapM_len hl]
theorem reads_sliceS {T e : TypeId} {α : Type} {E : α → List D} {G : α → Prop} {k b : Nat} (hT : P.underlying T = some (.slice e)) (hk : P.cellsOf e = k) (hk0 : 0 < k) (hb : P.bytesOf e = b) (hE : ∀ x, (E x).length = k) {fuel : Nat} (he : Reads enc P W spare held fuel e E G) :
    ReadsS enc P W spare held (fuel + 1) T (fun L : List α => [.sl (L.map E)]) (fun L => (∀ x ∈ L, G x) ∧ L.length * b ≤ reachBytes) := fun cs y h hw => by
  rcases cs with _ | ⟨v, _ | ⟨v2, r⟩⟩
  · simp [DataW.trod, hT] at h
  · cases v <;> simp only [DataW.trod, hT, reduceCtorEq] at h
    rename_i a len cap
    cases a with
    | none =>
      rcases len with _ | len <;> rcases cap with _ | cap <;> simp only [reduceCtorEq] at h
      exact ⟨[], by simp only [RFs, RD]; exact ⟨_, [], rfl, .inl ⟨rfl, none, 0, rfl, fun _ => rfl⟩, rfl⟩, by simp⟩
    | some a =>
      have h' : (if 0 ≤ a.block ∧ len ≤ cap ∧ cap ≤ maxLen then
        ((List.range len).mapM fun i => (W.cells? 0 (a.add (i * P.cellsOf e)) (P.cellsOf e)).bind (DataW.trod enc P W 0 spare held fuel e)).bind fun elems =>
          (if spare a.block then (List.range (cap - len)).mapM fun j => (W.cells? 0 (a.add ((len + j) * P.cellsOf e)) (P.cellsOf e)).bind (DataW.trod enc P W 0 spare held fuel e) else some []).map fun rest =>
            (DataW.slice (elems.map (·.1)) (rest.map (·.1)), MemPlace.row a ((elems.length + rest.length) * P.cellsOf e) ++ (elems ++ rest).flatMap (·.2)) else none) = some y := by simpa [DataW.trod, hT] using h
      clear h
      split at h'
      · rename_i hc
        obtain ⟨elems, h1, h2⟩ := Option.bind_eq_some_iff.1 h'
        have hel : elems.length = len := by rw [mapM_len h1, List.length_range]
        have hwl : len * b ≤ reachBytes := by
          obtain ⟨rest, _, rfl⟩ := Option.map_eq_some_iff.1 h2
          have := hw ((elems.length + rest.length) * P.bytesOf e) (by simp [DataW.weights, hT])
          rw [hel, hb, Nat.add_mul] at this
          omega
        have hm := fun i hi => mapM_some h1 i i (List.getElem?_range (n := len) hi)
        by_cases hl : len = 0
        · subst hl
          exact ⟨[], by simp only [RFs, RD]; exact ⟨_, [], rfl, .inl ⟨rfl, some a, cap, rfl, fun h => by cases h⟩, rfl⟩, by simp, by simp⟩
        · have hs : a.spot = none := by
            obtain ⟨b, h3, _⟩ := hm 0 (by omega)
            obtain ⟨cs, h4, _⟩ := Option.bind_eq_some_iff.1 h3
            unfold World.cells? at h4
            simp only [Nat.zero_le, if_true] at h4
            obtain ⟨c, c1, _⟩ := mapM_some h4 0 0 (by rw [hk]; exact List.getElem?_range hk0)
            have := World.cell?_spot c1
            simpa [Addr.add] using this
          obtain ⟨bb, off, sp⟩ := a
          simp only at hs
          subst hs
          obtain ⟨L, l1, l2, l3⟩ := reads_elems hk hE he len (fun i hi => by obtain ⟨z, h3, _⟩ := hm i hi; exact ⟨z, h3⟩)
          refine ⟨L, ?_, l3, by rw [l1]; exact hwl⟩
          simp only [RFs, RD]
          refine ⟨_, [], rfl, .inr ⟨bb, off, k, cap, by rw [List.length_map, l1], by rw [List.length_map, l1]; exact hc.2.1, fun x hx => ?_, l2⟩, rfl⟩
          obtain ⟨z, _, rfl⟩ := List.mem_map.1 hx
          exact hE z
      · cases h'
  · simp [DataW.trod, hT] at h
theorem weightsAll_mem {e : TypeId} : ∀ {ds : List (DataW H)} {d : DataW H}, d ∈ ds → ∀ n ∈ d.weights P e, n ∈ DataW.weightsAll P e ds
  | d0 :: ds, d, hd, n, hn => by
    rcases List.mem_cons.1 hd with h | h
    · subst h; simp only [DataW.weightsAll, List.mem_append]; exact .inl hn
    · simp only [DataW.weightsAll, List.mem_append]; exact .inr (weightsAll_mem h n hn)
theorem reads_vecS {T e n : Nat} {A : Type} [Inhabited A] {EA : A → D} {G : A → Prop} (hT : P.underlying T = some (.array n e)) (hk : P.cellsOf e = 1) (hn : P.cellsOf T = n) {fuel : Nat}
    (he : ReadsS enc P W spare held fuel e (fun x : A => [EA x]) G) : ReadsS enc P W spare held (fuel + 1) T (fun F : Nat → A => vecC n (fun j => EA (F j))) (fun F => ∀ j, j < n → G (F j)) := fun cs y hy hw => by
  simp only [DataW.trod, hT] at hy
  split at hy
  · rename_i hl
    obtain ⟨xs, h1, rfl⟩ := Option.map_eq_some_iff.1 hy
    have hl' : cs.length = n := by omega
    have hx : ∀ i, i < n → ∃ x : A, RFs (allCells W) W [EA x] ((cs.drop i).take 1) ∧ G x := fun i hi => by
      obtain ⟨b, h2, h3⟩ := mapM_some h1 i i (List.getElem?_range hi)
      rw [hk, Nat.mul_one] at h2
      refine he _ _ h2 (fun m hm => hw m ?_)
      simp only [DataW.weights, hT]
      exact weightsAll_mem (List.mem_map.2 ⟨b, List.mem_of_getElem? h3, rfl⟩) m hm
    let F : Nat → A := fun i => if h : i < n then Classical.choose (hx i h) else default
    have hF : ∀ i, i < n → RFs (allCells W) W [EA (F i)] ((cs.drop i).take 1) ∧ G (F i) := fun i hi => by
      have := Classical.choose_spec (hx i hi)
      simp only [F, dif_pos hi]
      exact this
    refine ⟨F, ?_, fun j hj => (hF j hj).2⟩
    have key : ∀ (m s : Nat), s + m = n → RFs (allCells W) W ((List.range' s m).map fun j => EA (F j)) (cs.drop s) := by
      intro m
      induction m with
      | zero =>
        intro s hs
        rw [List.drop_of_length_le (by omega)]
        rfl
      | succ m ih =>
        intro s hs
        have hlt : s < cs.length := by omega
        have h3 := (hF s (by omega)).1
        rw [List.drop_eq_getElem_cons hlt] at h3 ⊢
        simp only [List.take_succ_cons, List.take_zero, RFs] at h3
        obtain ⟨c, cs', e1, h4, _⟩ := h3
        simp only [List.cons.injEq] at e1
        rw [List.range'_succ, List.map_cons]
        simp only [RFs]
        exact ⟨_, _, rfl, by rw [e1.1]; exact h4, ih (s + 1) (by omega)⟩
    have := key n 0 (by omega)
    rw [List.drop_zero] at this
    unfold vecC
    rw [List.range_eq_range']
    exact this
  · cases hy
/-- A struct: each field reads, and keeps the reach. -/
theorem reads_structS {T : TypeId} {fs : Array Field} {α : Type} {E : α → List D} {G : α → Prop} {fuel : Nat} {n : Nat} (hT : P.underlying T = some (.struct fs)) (hn : P.cellsOf T = n)
    (h : ∀ cs : List Value, cs.length = n → (∀ (i : Nat) f, fs[i]? = some f → ∃ y, DataW.trod enc P W 0 spare held fuel f.type ((cs.drop f.offset).take (P.cellsOf f.type)) = some y ∧ WOk P f.type y.1) → ∃ x, RFs (allCells W) W (E x) cs ∧ G x) :
    ReadsS enc P W spare held (fuel + 1) T E G := fun cs y hy hw => by
  simp only [DataW.trod, hT] at hy
  split at hy
  · rename_i hl
    obtain ⟨xs, h1, rfl⟩ := Option.map_eq_some_iff.1 hy
    refine h cs (by omega) (fun i f hf => ?_)
    obtain ⟨b, h2, h3⟩ := mapM_some h1 i f (by simpa using hf)
    refine ⟨b, h2, fun m hm => hw m ?_⟩
    simp only [DataW.weights, hT]
    exact DataW.weights_mem_each (j := i) (t := f.type) (d := b.1) (by simp [hf]) (by simp [h3]) m hm
  · cases hy
theorem reads_argS {T : TypeId} {v : Value} {d : DataW H} {ps : List MemPlace} {α : Type} {E : α → List D} {G : α → Prop} (hr : ∀ fuel, ReadsS enc P W spare held fuel T E G) (h : DataW.Trod enc P W 0 spare held T v d ps) (hw : WOk P T d) : ∃ x, RFs (allCells W) W (E x) v.cells.toList ∧ G x := by
  obtain ⟨fuel, h⟩ := h
  exact hr fuel _ _ h hw
theorem wok_each {ts : List TypeId} {ds : List (DataW H)} (h : (DataW.weightsEach P ts ds).all (· ≤ reachBytes) = true) {j : Nat} {t : TypeId} {d : DataW H} (ht : ts[j]? = some t) (hd : ds[j]? = some d) : WOk P t d := fun n hn => by
  have := List.all_eq_true.1 h n (DataW.weights_mem_each ht hd n hn)
  simpa using this
end
end Go.Sk
