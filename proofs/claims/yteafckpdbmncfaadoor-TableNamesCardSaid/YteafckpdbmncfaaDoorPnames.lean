/- TableNames: for every table, subtype, index, name and discriminant: the call returns true and leaves its arguments as they were. No condition but the card's own: the listed variables hold what the program's text lays. -/
import Derived.SevenTiedAt
import Derived.Test.YteafckpdbmncfaaDoorCards
import Derived.Test.YteafckpdbmncfaaDoorTie
import Derived.Test.YteafckpdbmncfaaDoorVnames
import Derived.Test.YteafckpdbmncfaaDoorR
import Derived.Test.YteafckpdbmncfaaDoorLnames
set_option maxRecDepth 100000
namespace Go.Proofs.YteafckpdbmncfaaDoor
open Go Go.Sk
open Go.ChangeShapes Go.WideShapes Go.ChangeAt Go.RowKit
theorem one_strP {P : Program} {W : World} {T : TypeId} {base : Nat} {v : Value} (hT : P.underlying T = some .string) (h : Value.okWide P W .any base T v) : v.oneCell' = true := by
  cases v <;> simp_all [Value.okWide, Cell.okWide, Cell.ok, Value.oneCell']
theorem names_walk {H : Type} {enc : TypeId × Value → H} (W : World) (base : Nat) (args : Array Value) (ds : List (DataW H)) (p : List MemPlace) (hX : Gl (allCells W) W) (hval : ∀ (j : Nat) t v, Tryd.f3.params[j]? = some t → args[j]? = some v → Value.okWide Tryd.prog W .any base t v) (hA : DataW.TrodAll enc Tryd.prog W 0 (fun _ => true) true Tryd.f3.params.toList args.toList ds p) : Calls Tryd.prog 3 args W fun e W' => e = .returned (.bool true) ∧ Go.RowKit.Below W.heap.size W W' := by
  rw [Tryd.params3] at hA hval
  obtain ⟨args⟩ := args
  simp only at hA
  obtain ⟨v0, vs0, d0, ds0, p0, q0, rfl, rfl, t0, hA0⟩ := trodAll_cons' hA
  obtain ⟨v1, vs1, d1, ds1, p1, q1, rfl, rfl, t1, hA1⟩ := trodAll_cons' hA0
  obtain ⟨v2, vs2, d2, ds2, p2, q2, rfl, rfl, t2, hA2⟩ := trodAll_cons' hA1
  obtain ⟨v3, vs3, d3, ds3, p3, q3, rfl, rfl, t3, hA3⟩ := trodAll_cons' hA2
  obtain ⟨v4, vs4, d4, ds4, p4, q4, rfl, rfl, t4, hA4⟩ := trodAll_cons' hA3
  obtain rfl := trodAll_nil' hA4
  obtain ⟨x0, r0, g0⟩ := reads_arg (fun fuel => (rd28 fuel)) t0
  obtain ⟨c0, rfl⟩ := agg_struct Tryd.underlying28 (hval 0 28 v0 rfl rfl)
  have a0 := ra_agg r0
  obtain ⟨x1, r1, g1⟩ := reads_arg (fun fuel => (reads_int Tryd.underlying3 fuel)) t1
  have a1 := ra_one r1 (one_int Tryd.underlying3 (hval 1 3 v1 rfl rfl))
  obtain ⟨x2, r2, g2⟩ := reads_arg (fun fuel => (reads_int Tryd.underlying2 fuel)) t2
  have a2 := ra_one r2 (one_int Tryd.underlying2 (hval 2 2 v2 rfl rfl))
  obtain ⟨x3, r3, g3⟩ := reads_arg (fun fuel => (reads_str Tryd.underlying9 fuel)) t3
  have a3 := ra_one r3 (one_strP Tryd.underlying9 (hval 3 9 v3 rfl rfl))
  obtain ⟨x4, r4, g4⟩ := reads_arg (fun fuel => (reads_int Tryd.underlying2 fuel)) t4
  have a4 := ra_one r4 (one_int Tryd.underlying2 (hval 4 2 v4 rfl rfl))
  exact calls_of_pu hX (f3_c x0 x1 x2 x3 x4 (law3 g0 x1 x2 x3 x4)) (by exact (RAs_cons (by simpa [RA] using a0) (RAs_cons (by simpa [RA] using a1) (RAs_cons (by simpa [RA] using a2) (RAs_cons (by simpa [RA] using a3) (RAs_cons (by simpa [RA] using a4) RAs_nil))))))
theorem names_lifted (os : Os) (started : os.Started) (H : Type) (enc : TypeId × Value → H) :
    ReturnsInHanded {} Tryd.checked os 3 .any (fun w args => (Rows.tableNamesSpec.pre enc Tryd.prog Tryd.f3 [] false w args ∧ laidMetH Tryd.prog laidT w) ∧ sizedMet enc Tryd.prog Tryd.f3 (OpenSpec.ofChange Rows.tableNamesSpec) false w args) (Rows.tableNamesSpec.post enc Tryd.prog Tryd.f3 false true false false) :=
  law_lifted_x (C := Tryd.checked) 5 (fun w => laidMetH Tryd.prog laidT w) (fun _ _ hh h => h.of_heap hh) Tryd.own started (by kernel_rfl) Tryd.func3
    (ChangeSpec.witness_shaped (enc := enc) (C := Tryd.checked) (os := os) (X := fun w _ => laidMetH Tryd.prog laidT w) false (World.doorLaid Tryd.prog 400 os) #[.agg #[.slice none 0 0, .slice none 0 0, .slice none 0 0, .slice none 0 0, .slice none 0 0], .int .i64 0, .int .i64 0, .string ByteArray.empty, .int .i64 0] 8 rfl (World.shaped_of_RefB (by kernel_rfl) (by kernel_rfl)) (by kernel_rfl) (by kernel_rfl) (by kernel_rfl) (door_met os _)) rfl rfl rfl Tryd.underlying4
    (fun ds h => by
      match ds, h with
      | [d0, d1, d2, d3, d4], _ => rfl) Tryd.laidOut (by kernel_rfl) (fun W base args ds p hX hval hA _ => names_walk W base args ds p (gl_of_laid hX) hval hA)
theorem names_row : Rows.TableNamesSaid :=
  OpenClaim.holds_of_wide 3 Tryd.f3 rfl rfl rfl rfl rfl rfl rfl ⟨rfl, rfl, rfl, rfl, rfl⟩ rfl rfl rfl rfl rfl (by kernel_rfl) Tryd.func3 (by kernel_rfl)
    (of_decide_eq_true (by kernel_rfl)) (by unfold Func.isWrapper; first | (rw [if_pos (by decide +kernel)]; kernel_rfl) | (rw [if_neg (by decide +kernel)]; exact ⟨rfl, rfl⟩))
    (fun os started H enc _ => names_lifted os started H enc)
theorem names_holds : Rows.TableNamesCardSaid :=
  Claim7.holds_tied_plain_at .later [] [.listed, .data] true (true, "16370aa47215bb2edf338bc15c1aed2fa528c38d83e6bdd509f60c110936e8e8") false
    names_row (fun _ h => by cases h) (by kernel_rfl) (fun _ h => by cases h) tableNames_row_tie rfl ⟨rfl, rfl⟩ (by kernel_rfl) rfl
    (fun f fn hf hfn => by
      obtain rfl : f = 3 := Option.some.inj ((show Tryd.prog.funcNamed "ceiling/ceilinglaw06.TableNames" = some 3 by kernel_rfl).symm.trans hf) |>.symm
      obtain rfl : fn = Tryd.f3 := (Option.some.inj (Tryd.func3.symm.trans hfn)).symm
      exact ⟨by kernel_rfl, fun j t ht => by
        rw [Tryd.params3] at ht
        have hm : t ∈ [28, 3, 2, 9] := by
          have := Array.mem_of_getElem? ht
          simp only [List.mem_toArray, List.mem_cons, List.not_mem_nil, or_false] at this
          rcases this with rfl | rfl | rfl | rfl | rfl <;> simp
        have hall : ([28, 3, 2, 9].all fun u => !Tryd.prog.wantsStandIn u) = true := by kernel_rfl
        exact (show Tryd.prog.wantsStandIn t = false by simpa using List.all_eq_true.1 hall t hm)⟩)
    (by kernel_rfl)
end Go.Proofs.YteafckpdbmncfaaDoor
