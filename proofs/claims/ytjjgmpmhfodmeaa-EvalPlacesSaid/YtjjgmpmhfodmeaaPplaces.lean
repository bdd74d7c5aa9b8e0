/- EvalPlaces: for every store, place and 32-bit value: the call returns true and leaves its arguments as they were. No condition. -/
import Derived.Test.YtjjgmpmhfodmeaaR
set_option maxRecDepth 100000
namespace Go.Proofs.Ytjjgmpmhfodmeaa
open Go Go.Sk
open Go.ChangeShapes Go.WideShapes Go.ChangeAt Go.RowKit
theorem cs27 : Try.prog.cellsOf 27 = 1 := by kernel_rfl
theorem cs29 : Try.prog.cellsOf 29 = 5 := by kernel_rfl
theorem el29 : ∀ x, (E29 x).length = 5 := fun _ => rfl
theorem rd29 {H : Type} {enc : TypeId × Value → H} {W : World} {spare : Nat → Bool} {held : Bool} (fuel : Nat) : Reads enc Try.prog W spare held fuel 29 E29 GP := by
  induction fuel using Nat.strongRecOn with
  | _ fuel ih =>
  cases fuel with
  | zero => exact Reads.zero
  | succ fuel =>
  refine reads_struct Try.underlying29 cs29 (fun cs hl h => ?_)
  obtain ⟨y0, hy0⟩ := h 0 _ rfl
  obtain ⟨x0, r0, g0⟩ := (reads_int Try.underlying27 fuel) _ _ hy0
  simp only [cs27] at r0
  obtain ⟨y1, hy1⟩ := h 1 _ rfl
  obtain ⟨x1, r1, g1⟩ := (reads_int Try.underlying3 fuel) _ _ hy1
  simp only [cs3] at r1
  obtain ⟨y2, hy2⟩ := h 2 _ rfl
  obtain ⟨x2, r2, g2⟩ := (reads_int Try.underlying3 fuel) _ _ hy2
  simp only [cs3] at r2
  obtain ⟨y3, hy3⟩ := h 3 _ rfl
  obtain ⟨x3, r3, g3⟩ := (reads_int Try.underlying3 fuel) _ _ hy3
  simp only [cs3] at r3
  obtain ⟨y4, hy4⟩ := h 4 _ rfl
  obtain ⟨x4, r4, g4⟩ := (reads_sliceF Try.underlying24 cs26 (by decide) el26 (fun f hf => rd26 f)) _ _ hy4
  simp only [cs24] at r4
  exact ⟨Place.mk x0 x1 x2 x3 x4, (by exact (rfs_chain r0 rfl (rfs_chain r1 rfl (rfs_chain r2 rfl (rfs_chain r3 rfl (rfs_chain r4 rfl (rfs_stop hl))))))), .mk ⟨g0.1, g0.2⟩ ⟨g1.1, g1.2⟩ ⟨g2.1, g2.2⟩ ⟨g3.1, g3.2⟩ g4.1 g4.2⟩
theorem places_walk {H : Type} {enc : TypeId × Value → H} (W : World) (base : Nat) (args : Array Value) (ds : List (DataW H)) (p : List MemPlace) (hval : ∀ (j : Nat) t v, Try.f12.params[j]? = some t → args[j]? = some v → Value.okWide Try.prog W .any base t v) (hA : DataW.TrodAll enc Try.prog W 0 (fun _ => true) true Try.f12.params.toList args.toList ds p) : Calls Try.prog 12 args W fun e W' => e = .returned (.bool true) ∧ Go.RowKit.Below W.heap.size W W' := by
  rw [Try.params12] at hA hval
  obtain ⟨args⟩ := args
  simp only at hA
  obtain ⟨v0, vs0, d0, ds0, p0, q0, rfl, rfl, t0, hA0⟩ := trodAll_cons' hA
  obtain ⟨v1, vs1, d1, ds1, p1, q1, rfl, rfl, t1, hA1⟩ := trodAll_cons' hA0
  obtain ⟨v2, vs2, d2, ds2, p2, q2, rfl, rfl, t2, hA2⟩ := trodAll_cons' hA1
  obtain rfl := trodAll_nil' hA2
  obtain ⟨x0, r0, g0⟩ := reads_arg (fun fuel => (reads_sliceF Try.underlying37 cs56 (by decide) el56 (fun f hf => rd56 f))) t0
  have a0 := ra_one r0 (one_slice Try.underlying37 (hval 0 37 v0 rfl rfl))
  obtain ⟨x1, r1, g1⟩ := reads_arg (fun fuel => (rd29 fuel)) t1
  obtain ⟨c1, rfl⟩ := agg_struct Try.underlying29 (hval 1 29 v1 rfl rfl)
  have a1 := ra_agg r1
  obtain ⟨x2, r2, g2⟩ := reads_arg (fun fuel => (reads_int Try.underlying21 fuel)) t2
  have a2 := ra_one r2 (one_int Try.underlying21 (hval 2 21 v2 rfl rfl))
  exact calls_of_pu (fun g ps h => by cases h) (f12_c x0 x1 x2 (law12 x0 g1 ⟨g2.1, g2.2⟩)) (by exact (RAs_cons (by simpa [RA] using a0) (RAs_cons (by simpa [RA] using a1) (RAs_cons (by simpa [RA] using a2) RAs_nil))))
theorem places_lifted (os : Os) (started : os.Started) (H : Type) (enc : TypeId × Value → H) :
    ReturnsInHanded {} Try.checked os 12 .any (Rows.evalPlacesSpec.pre6 enc Try.prog Try.f12 Rows.evalPlacesRow.domain false) (Rows.evalPlacesSpec.post enc Try.prog Try.f12 false true false false) :=
  law_lifted (C := Try.checked) 3 Try.own started (by kernel_rfl) Try.func12
    (ChangeSpec.witness6 (enc := enc) (C := Try.checked) false ⟨#[], #[.slice none 0 0, .agg #[.int .u8 0, .int .i64 0, .int .i64 0, .int .i64 0, .slice none 0 0], .int .i32 0], []⟩ 8 (by kernel_rfl) (by kernel_rfl) (by kernel_rfl) (by kernel_rfl)) rfl rfl rfl Try.underlying4
    (fun ds h => by
      match ds, h with
      | [d0, d1, d2], _ => rfl) Try.laidOut (by kernel_rfl) (fun W base args ds p hval hA _ => places_walk W base args ds p hval hA)
theorem places_holds : Rows.EvalPlacesSaid :=
  OpenClaim.holds_of_wide 12 Try.f12 rfl rfl rfl rfl rfl rfl rfl ⟨rfl, rfl, rfl, rfl, rfl⟩ rfl rfl rfl rfl rfl (by kernel_rfl) Try.func12 (by kernel_rfl)
    (of_decide_eq_true (by kernel_rfl)) (by unfold Func.isWrapper; first | (rw [if_pos (by decide +kernel)]; kernel_rfl) | (rw [if_neg (by decide +kernel)]; exact ⟨rfl, rfl⟩))
    (fun os started H enc _ => places_lifted os started H enc)
end Go.Proofs.Ytjjgmpmhfodmeaa
