/- QueueDelays: for all lists of times, sets of cancelled tasks and lists of steps: the call returns true and leaves its arguments as they were. No condition. -/
import Derived.Test.YtpionlekbfoccaaVdelays
import Derived.Test.YtpionlekbfoccaaR
import Derived.Test.YtpionlekbfoccaaLdelays
set_option maxRecDepth 100000
namespace Go.Proofs.Ytpionlekbfoccaa
open Go Go.Sk
open Go.ChangeShapes Go.WideShapes Go.ChangeAt Go.RowKit
theorem cs41 : Try.prog.cellsOf 41 = 1 := by kernel_rfl
theorem el41 : ∀ x, (E41 x).length = 1 := fun _ => rfl
theorem rd41 {H : Type} {enc : TypeId × Value → H} {W : World} {spare : Nat → Bool} {held : Bool} (fuel : Nat) : Reads enc Try.prog W spare held fuel 41 E41 (fun n : Int => IntKind.u16.min ≤ n ∧ n ≤ IntKind.u16.max) := (reads_int Try.underlying41 fuel)
theorem u16r {L : List Int} (h : (∀ x ∈ L, (fun n : Int => IntKind.u16.min ≤ n ∧ n ≤ IntKind.u16.max) x) ∧ L.length ≤ maxLen) : (∀ t ∈ L, 0 ≤ t ∧ t ≤ 65535) ∧ L.length < 9223372036854775808 := ⟨fun t ht => h.1 t ht, ltm h.2⟩
theorem delays_walk {H : Type} {enc : TypeId × Value → H} (W : World) (base : Nat) (args : Array Value) (ds : List (DataW H)) (p : List MemPlace) (hval : ∀ (j : Nat) t v, Try.f4.params[j]? = some t → args[j]? = some v → Value.okWide Try.prog W .any base t v) (hA : DataW.TrodAll enc Try.prog W 0 (fun _ => true) true Try.f4.params.toList args.toList ds p) : Calls Try.prog 4 args W fun e W' => e = .returned (.bool true) ∧ Go.RowKit.Below W.heap.size W W' := by
  rw [Try.params4] at hA hval
  obtain ⟨args⟩ := args
  simp only at hA
  obtain ⟨v0, vs0, d0, ds0, p0, q0, rfl, rfl, t0, hA0⟩ := trodAll_cons' hA
  obtain ⟨v1, vs1, d1, ds1, p1, q1, rfl, rfl, t1, hA1⟩ := trodAll_cons' hA0
  obtain ⟨v2, vs2, d2, ds2, p2, q2, rfl, rfl, t2, hA2⟩ := trodAll_cons' hA1
  obtain rfl := trodAll_nil' hA2
  obtain ⟨x0, r0, g0⟩ := reads_arg (fun fuel => (reads_sliceF Try.underlying37 cs41 (by decide) el41 (fun f hf => rd41 f))) t0
  have a0 := ra_one r0 (one_slice Try.underlying37 (hval 0 37 v0 rfl rfl))
  obtain ⟨x1, r1, g1⟩ := reads_arg (fun fuel => (reads_int Try.underlying38 fuel)) t1
  have a1 := ra_one r1 (one_int Try.underlying38 (hval 1 38 v1 rfl rfl))
  obtain ⟨x2, r2, g2⟩ := reads_arg (fun fuel => (reads_sliceF Try.underlying37 cs41 (by decide) el41 (fun f hf => rd41 f))) t2
  have a2 := ra_one r2 (one_slice Try.underlying37 (hval 2 37 v2 rfl rfl))
  exact calls_of_pu (fun g ps h => by cases h) (f4_c x0 x1 x2 (law4 x0 x1 x2 (u16r g0) (u16r g2))) (by exact (RAs_cons (by simpa [RA] using a0) (RAs_cons (by simpa [RA] using a1) (RAs_cons (by simpa [RA] using a2) RAs_nil))))
theorem delays_lifted (os : Os) (started : os.Started) (H : Type) (enc : TypeId × Value → H) :
    ReturnsInHanded {} Try.checked os 4 .any (Rows.queueDelaysSpec.pre6 enc Try.prog Try.f4 Rows.queueDelaysRow.domain false) (Rows.queueDelaysSpec.post enc Try.prog Try.f4 false true false false) :=
  law_lifted (C := Try.checked) 3 Try.own started (by kernel_rfl) Try.func4
    (ChangeSpec.witness6 (enc := enc) (C := Try.checked) false ⟨#[], #[.slice none 0 0, .int .u32 0, .slice none 0 0], []⟩ 8 (by kernel_rfl) (by kernel_rfl) (by kernel_rfl) (by kernel_rfl)) rfl rfl rfl Try.underlying4
    (fun ds h => by
      match ds, h with
      | [d0, d1, d2], _ => rfl) Try.laidOut (by kernel_rfl) (fun W base args ds p hval hA _ => delays_walk W base args ds p hval hA)
theorem delays_holds : Rows.QueueDelaysSaid :=
  OpenClaim.holds_of_wide 4 Try.f4 rfl rfl rfl rfl rfl rfl rfl ⟨rfl, rfl, rfl, rfl, rfl⟩ rfl rfl rfl rfl rfl (by kernel_rfl) Try.func4 (by kernel_rfl)
    (of_decide_eq_true (by kernel_rfl)) (by unfold Func.isWrapper; first | (rw [if_pos (by decide +kernel)]; kernel_rfl) | (rw [if_neg (by decide +kernel)]; exact ⟨rfl, rfl⟩))
    (fun os started H enc _ => delays_lifted os started H enc)
end Go.Proofs.Ytpionlekbfoccaa
