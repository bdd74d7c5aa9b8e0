/- QueueCalls: for all queues and calls: the call returns true and leaves its arguments as they were. No condition. -/
import Derived.Test.YtpionlekbfoccaaVcalls
import Derived.Test.YtpionlekbfoccaaR
set_option maxRecDepth 100000
namespace Go.Proofs.Ytpionlekbfoccaa
open Go Go.Sk
open Go.ChangeShapes Go.WideShapes Go.ChangeAt Go.RowKit
theorem cs5 : Try.prog.cellsOf 5 = 1 := by kernel_rfl
theorem cs52 : Try.prog.cellsOf 52 = 4 := by kernel_rfl
theorem rd52 {H : Type} {enc : TypeId × Value → H} {W : World} {spare : Nat → Bool} {held : Bool} (fuel : Nat) : Reads enc Try.prog W spare held fuel 52 E52 (fun _ : Step => True) := by
  induction fuel using Nat.strongRecOn with
  | _ fuel ih =>
  cases fuel with
  | zero => exact Reads.zero
  | succ fuel =>
  refine reads_struct Try.underlying52 cs52 (fun cs hl h => ?_)
  obtain ⟨y0, hy0⟩ := h 0 _ rfl
  obtain ⟨x0, r0, g0⟩ := (reads_int Try.underlying5 fuel) _ _ hy0
  simp only [cs5] at r0
  obtain ⟨y1, hy1⟩ := h 1 _ rfl
  obtain ⟨x1, r1, g1⟩ := (reads_int Try.underlying3 fuel) _ _ hy1
  simp only [cs3] at r1
  obtain ⟨y2, hy2⟩ := h 2 _ rfl
  obtain ⟨x2, r2, g2⟩ := (reads_int Try.underlying3 fuel) _ _ hy2
  simp only [cs3] at r2
  obtain ⟨y3, hy3⟩ := h 3 _ rfl
  obtain ⟨x3, r3, g3⟩ := (reads_int Try.underlying2 fuel) _ _ hy3
  simp only [cs2] at r3
  exact ⟨Step.mk x0 x1 x2 x3, (by exact (rfs_chain r0 rfl (rfs_chain r1 rfl (rfs_chain r2 rfl (rfs_chain r3 rfl (rfs_stop hl)))))), trivial⟩
theorem bo3 : Try.prog.bytesOf 3 = 8 := by kernel_rfl
theorem bo62 : Try.prog.bytesOf 62 = 16 := by kernel_rfl
theorem rs23 {H : Type} {enc : TypeId × Value → H} {W : World} {spare : Nat → Bool} {held : Bool} : ∀ fuel : Nat, ReadsS enc Try.prog W spare held fuel 23 E23 (fun F : Nat → List Int => ∀ j, j < 32 → ((∀ x ∈ F j, (fun n : Int => IntKind.i64.min ≤ n ∧ n ≤ IntKind.i64.max) x) ∧ (F j).length * 8 ≤ reachBytes))
  | 0 => ReadsS.zero
  | 1 => reads_vecS (EA := fun L : List Int => .sl (List.map E3 L)) (G := fun L : List Int => (∀ x ∈ L, (fun n : Int => IntKind.i64.min ≤ n ∧ n ≤ IntKind.i64.max) x) ∧ L.length * 8 ≤ reachBytes) Try.underlying23 cs22 cs23 ReadsS.zero
  | fuel + 2 => reads_vecS (EA := fun L : List Int => .sl (List.map E3 L)) Try.underlying23 cs22 cs23 (reads_sliceS Try.underlying22 cs3 (by decide) bo3 el3 (rd3 fuel))
theorem rs24 {H : Type} {enc : TypeId × Value → H} {W : World} {spare : Nat → Bool} {held : Bool} : ∀ fuel : Nat, ReadsS enc Try.prog W spare held fuel 24 (fun L : List Due => [.sl (L.map E62)]) (fun L => (∀ x ∈ L, (fun _ : Due => True) x) ∧ L.length * 16 ≤ reachBytes)
  | 0 => ReadsS.zero
  | fuel + 1 => reads_sliceS Try.underlying24 cs62 (by decide) bo62 el62 (rd62 fuel)
theorem ltr {n b : Nat} (hb : 0 < b) (h : n * b ≤ reachBytes) : n ≤ 140737488355328 := by
  have h1 := reachBytes_lt
  have h2 := Nat.le_mul_of_pos_right n hb
  omega
theorem rs26 {H : Type} {enc : TypeId × Value → H} {W : World} {spare : Nat → Bool} {held : Bool} (fuel : Nat) : ReadsS enc Try.prog W spare held fuel 26 E26 Bnd2 := by
  cases fuel with
  | zero => exact ReadsS.zero
  | succ fuel =>
  refine reads_structS Try.underlying26 cs26 (fun cs hl h => ?_)
  obtain ⟨y0, hy0, w0⟩ := h 0 _ rfl
  obtain ⟨x0, r0, g0⟩ := (rs23 fuel) _ _ hy0 w0
  change RFs _ _ _ (List.take (Try.prog.cellsOf 23) (List.drop 0 cs)) at r0
  rw [cs23] at r0
  obtain ⟨y1, hy1, w1⟩ := h 1 _ rfl
  obtain ⟨x1, r1, g1⟩ := (rs24 fuel) _ _ hy1 w1
  change RFs _ _ _ (List.take (Try.prog.cellsOf 24) (List.drop 32 cs)) at r1
  rw [cs24] at r1
  obtain ⟨y2, hy2, w2⟩ := h 2 _ rfl
  obtain ⟨x2, r2, g2⟩ := (reads_int Try.underlying3 fuel) _ _ hy2
  change RFs _ _ _ (List.take (Try.prog.cellsOf 3) (List.drop 33 cs)) at r2
  rw [cs3] at r2
  exact ⟨Queues.mk x0 x1 x2, (by exact (rfs_chain r0 rfl (rfs_chain r1 rfl (rfs_chain r2 rfl (rfs_stop hl))))), ⟨fun j hj => ltr (by decide) (g0 j hj).2, ltr (by decide) g1.2⟩⟩
theorem calls_walk {H : Type} {enc : TypeId × Value → H} (W : World) (base : Nat) (args : Array Value) (ds : List (DataW H)) (p : List MemPlace) (hval : ∀ (j : Nat) t v, Try.f6.params[j]? = some t → args[j]? = some v → Value.okWide Try.prog W .any base t v) (hA : DataW.TrodAll enc Try.prog W 0 (fun _ => true) true Try.f6.params.toList args.toList ds p) (hz : (DataW.weightsEach Try.prog Try.f6.params.toList ds).all (· ≤ reachBytes) = true) : Calls Try.prog 6 args W fun e W' => e = .returned (.bool true) ∧ Go.RowKit.Below W.heap.size W W' := by
  rw [Try.params6] at hA hval hz
  obtain ⟨args⟩ := args
  simp only at hA
  obtain ⟨v0, vs0, d0, ds0, p0, q0, rfl, rfl, t0, hA0⟩ := trodAll_cons' hA
  obtain ⟨v1, vs1, d1, ds1, p1, q1, rfl, rfl, t1, hA1⟩ := trodAll_cons' hA0
  obtain rfl := trodAll_nil' hA1
  obtain ⟨x0, r0, g0⟩ := reads_argS (fun fuel => (rs26 fuel)) t0 (wok_each hz (j := 0) rfl rfl)
  obtain ⟨c0, rfl⟩ := agg_struct Try.underlying26 (hval 0 26 v0 rfl rfl)
  have a0 := ra_agg r0
  obtain ⟨x1, r1, g1⟩ := reads_arg (fun fuel => (rd52 fuel)) t1
  obtain ⟨c1, rfl⟩ := agg_struct Try.underlying52 (hval 1 52 v1 rfl rfl)
  have a1 := ra_agg r1
  exact calls_of_pu (fun g ps h => by cases h) (f6_c x0 x1 (law6 x0 x1 g0)) (by exact (RAs_cons (by simpa [RA] using a0) (RAs_cons (by simpa [RA] using a1) RAs_nil)))
theorem calls_lifted (os : Os) (started : os.Started) (H : Type) (enc : TypeId × Value → H) :
    ReturnsInHanded {} Try.checked os 6 .any (Rows.queueCallsSpec.pre6 enc Try.prog Try.f6 Rows.queueCallsRow.domain false) (Rows.queueCallsSpec.post enc Try.prog Try.f6 false true false false) :=
  law_lifted (C := Try.checked) 2 Try.own started (by kernel_rfl) Try.func6
    (ChangeSpec.witness6 (enc := enc) (C := Try.checked) false ⟨#[], #[.agg #[.slice none 0 0, .slice none 0 0, .slice none 0 0, .slice none 0 0, .slice none 0 0, .slice none 0 0, .slice none 0 0, .slice none 0 0, .slice none 0 0, .slice none 0 0, .slice none 0 0, .slice none 0 0, .slice none 0 0, .slice none 0 0, .slice none 0 0, .slice none 0 0, .slice none 0 0, .slice none 0 0, .slice none 0 0, .slice none 0 0, .slice none 0 0, .slice none 0 0, .slice none 0 0, .slice none 0 0, .slice none 0 0, .slice none 0 0, .slice none 0 0, .slice none 0 0, .slice none 0 0, .slice none 0 0, .slice none 0 0, .slice none 0 0, .slice none 0 0, .int .i64 0], .agg #[.int .u8 0, .int .i64 0, .int .i64 0, .int .i64 0]], []⟩ 8 (by kernel_rfl) (by kernel_rfl) (by kernel_rfl) (by kernel_rfl)) rfl rfl rfl Try.underlying4
    (fun ds h => by
      match ds, h with
      | [d0, d1], _ => rfl) Try.laidOut (by kernel_rfl) (fun W base args ds p hval hA hz => calls_walk W base args ds p hval hA hz)
theorem calls_holds : Rows.QueueCallsSaid :=
  OpenClaim.holds_of_wide 6 Try.f6 rfl rfl rfl rfl rfl rfl rfl ⟨rfl, rfl, rfl, rfl, rfl⟩ rfl rfl rfl rfl rfl (by kernel_rfl) Try.func6 (by kernel_rfl)
    (of_decide_eq_true (by kernel_rfl)) (by unfold Func.isWrapper; first | (rw [if_pos (by decide +kernel)]; kernel_rfl) | (rw [if_neg (by decide +kernel)]; exact ⟨rfl, rfl⟩))
    (fun os started H enc _ => calls_lifted os started H enc)
end Go.Proofs.Ytpionlekbfoccaa
