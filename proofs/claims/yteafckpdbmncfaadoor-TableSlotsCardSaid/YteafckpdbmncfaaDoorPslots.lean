/- TableSlots: for every table: the call returns true and leaves its arguments as they were. No condition but the card's own: the listed variables hold what the program's text lays. -/
import Derived.SevenTiedAt
import Derived.Test.YteafckpdbmncfaaDoorCards
import Derived.Test.YteafckpdbmncfaaDoorTie
import Derived.Test.YteafckpdbmncfaaDoorVslots
import Derived.Test.YteafckpdbmncfaaDoorR
import Derived.Test.YteafckpdbmncfaaDoorLslots
set_option maxRecDepth 100000
namespace Go.Proofs.YteafckpdbmncfaaDoor
open Go Go.Sk
open Go.ChangeShapes Go.WideShapes Go.ChangeAt Go.RowKit
theorem slots_walk {H : Type} {enc : TypeId × Value → H} (W : World) (base : Nat) (args : Array Value) (ds : List (DataW H)) (p : List MemPlace) (hX : Gl (allCells W) W) (hval : ∀ (j : Nat) t v, Tryd.f8.params[j]? = some t → args[j]? = some v → Value.okWide Tryd.prog W .any base t v) (hA : DataW.TrodAll enc Tryd.prog W 0 (fun _ => true) true Tryd.f8.params.toList args.toList ds p) : Calls Tryd.prog 8 args W fun e W' => e = .returned (.bool true) ∧ Go.RowKit.Below W.heap.size W W' := by
  rw [Tryd.params8] at hA hval
  obtain ⟨args⟩ := args
  simp only at hA
  obtain ⟨v0, vs0, d0, ds0, p0, q0, rfl, rfl, t0, hA0⟩ := trodAll_cons' hA
  obtain rfl := trodAll_nil' hA0
  obtain ⟨x0, r0, g0⟩ := reads_arg (fun fuel => (rd28 fuel)) t0
  obtain ⟨c0, rfl⟩ := agg_struct Tryd.underlying28 (hval 0 28 v0 rfl rfl)
  have a0 := ra_agg r0
  exact calls_of_pu hX (f8_c x0 (law8 g0)) (by exact (RAs_cons (by simpa [RA] using a0) RAs_nil))
theorem slots_lifted (os : Os) (started : os.Started) (H : Type) (enc : TypeId × Value → H) :
    ReturnsInHanded {} Tryd.checked os 8 .any (fun w args => (Rows.tableSlotsSpec.pre enc Tryd.prog Tryd.f8 [] false w args ∧ laidMetH Tryd.prog laidT w) ∧ sizedMet enc Tryd.prog Tryd.f8 (OpenSpec.ofChange Rows.tableSlotsSpec) false w args) (Rows.tableSlotsSpec.post enc Tryd.prog Tryd.f8 false true false false) :=
  law_lifted_x (C := Tryd.checked) 1 (fun w => laidMetH Tryd.prog laidT w) (fun _ _ hh h => h.of_heap hh) Tryd.own started (by kernel_rfl) Tryd.func8
    (ChangeSpec.witness_shaped (enc := enc) (C := Tryd.checked) (os := os) (X := fun w _ => laidMetH Tryd.prog laidT w) false (World.doorLaid Tryd.prog 400 os) #[.agg #[.slice none 0 0, .slice none 0 0, .slice none 0 0, .slice none 0 0, .slice none 0 0]] 8 rfl (World.shaped_of_RefB (by kernel_rfl) (by kernel_rfl)) (by kernel_rfl) (by kernel_rfl) (by kernel_rfl) (door_met os _)) rfl rfl rfl Tryd.underlying4
    (fun ds h => by
      match ds, h with
      | [d0], _ => rfl) Tryd.laidOut (by kernel_rfl) (fun W base args ds p hX hval hA _ => slots_walk W base args ds p (gl_of_laid hX) hval hA)
theorem slots_row : Rows.TableSlotsSaid :=
  OpenClaim.holds_of_wide 8 Tryd.f8 rfl rfl rfl rfl rfl rfl rfl ⟨rfl, rfl, rfl, rfl, rfl⟩ rfl rfl rfl rfl rfl (by kernel_rfl) Tryd.func8 (by kernel_rfl)
    (of_decide_eq_true (by kernel_rfl)) (by unfold Func.isWrapper; first | (rw [if_pos (by decide +kernel)]; kernel_rfl) | (rw [if_neg (by decide +kernel)]; exact ⟨rfl, rfl⟩))
    (fun os started H enc _ => slots_lifted os started H enc)
theorem slots_holds : Rows.TableSlotsCardSaid :=
  Claim7.holds_tied_plain_at .later [] [.listed, .data] true (true, "16370aa47215bb2edf338bc15c1aed2fa528c38d83e6bdd509f60c110936e8e8") false
    slots_row (fun _ h => by cases h) (by kernel_rfl) (fun _ h => by cases h) tableSlots_row_tie rfl ⟨rfl, rfl⟩ (by kernel_rfl) rfl
    (fun f fn hf hfn => by
      obtain rfl : f = 8 := Option.some.inj ((show Tryd.prog.funcNamed "ceiling/ceilinglaw06.TableSlots" = some 8 by kernel_rfl).symm.trans hf) |>.symm
      obtain rfl : fn = Tryd.f8 := (Option.some.inj (Tryd.func8.symm.trans hfn)).symm
      exact ⟨by kernel_rfl, fun j t ht => by
        rw [Tryd.params8] at ht
        have hm : t ∈ [28] := by
          have := Array.mem_of_getElem? ht
          simp only [List.mem_toArray, List.mem_cons, List.not_mem_nil, or_false] at this
          rcases this with rfl <;> simp
        have hall : ([28].all fun u => !Tryd.prog.wantsStandIn u) = true := by kernel_rfl
        exact (show Tryd.prog.wantsStandIn t = false by simpa using List.all_eq_true.1 hall t hm)⟩)
    (by kernel_rfl)
end Go.Proofs.YteafckpdbmncfaaDoor
