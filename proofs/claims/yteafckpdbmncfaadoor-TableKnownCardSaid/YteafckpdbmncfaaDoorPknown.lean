/- TableKnown: the call returns true. No condition but the card's own: the listed variables hold what the program's text lays. -/
import Derived.SevenTiedAt
import Derived.Test.YteafckpdbmncfaaDoorCards
import Derived.Test.YteafckpdbmncfaaDoorTie
import Derived.Test.YteafckpdbmncfaaDoorK
import Derived.Test.YteafckpdbmncfaaDoorR
set_option maxRecDepth 100000
namespace Go.Proofs.YteafckpdbmncfaaDoor
open Go Go.Sk
open Go.ChangeShapes Go.WideShapes Go.ChangeAt Go.RowKit
theorem known_walk {H : Type} {enc : TypeId × Value → H} (W : World) (base : Nat) (args : Array Value) (ds : List (DataW H)) (p : List MemPlace) (hX : Gl (allCells W) W) (hval : ∀ (j : Nat) t v, Tryd.f9.params[j]? = some t → args[j]? = some v → Value.okWide Tryd.prog W .any base t v) (hA : DataW.TrodAll enc Tryd.prog W 0 (fun _ => true) true Tryd.f9.params.toList args.toList ds p) : Calls Tryd.prog 9 args W fun e W' => e = .returned (.bool true) ∧ Go.RowKit.Below W.heap.size W W' := by
  rw [Tryd.params9] at hA hval
  obtain ⟨args⟩ := args
  simp only at hA
  obtain rfl := trodAll_nil' hA
  exact calls_of_pu hX known_pu (by exact RAs_nil)
theorem known_lifted (os : Os) (started : os.Started) (H : Type) (enc : TypeId × Value → H) :
    ReturnsInHanded {} Tryd.checked os 9 .any (fun w args => (Rows.tableKnownSpec.pre enc Tryd.prog Tryd.f9 [] false w args ∧ laidMetH Tryd.prog laidT w) ∧ sizedMet enc Tryd.prog Tryd.f9 (OpenSpec.ofChange Rows.tableKnownSpec) false w args) (Rows.tableKnownSpec.post enc Tryd.prog Tryd.f9 false true false false) :=
  law_lifted_x (C := Tryd.checked) 0 (fun w => laidMetH Tryd.prog laidT w) (fun _ _ hh h => h.of_heap hh) Tryd.own started (by kernel_rfl) Tryd.func9
    (ChangeSpec.witness_shaped (enc := enc) (C := Tryd.checked) (os := os) (X := fun w _ => laidMetH Tryd.prog laidT w) false (World.doorLaid Tryd.prog 400 os) #[] 8 rfl (World.shaped_of_RefB (by kernel_rfl) (by kernel_rfl)) (by kernel_rfl) (by kernel_rfl) (by kernel_rfl) (door_met os _)) rfl rfl rfl Tryd.underlying4
    (fun ds h => by
      match ds, h with
      | [], _ => rfl) Tryd.laidOut (by kernel_rfl) (fun W base args ds p hX hval hA _ => known_walk W base args ds p (gl_of_laid hX) hval hA)
theorem known_row : Rows.TableKnownSaid :=
  OpenClaim.holds_of_wide 9 Tryd.f9 rfl rfl rfl rfl rfl rfl rfl ⟨rfl, rfl, rfl, rfl, rfl⟩ rfl rfl rfl rfl rfl (by kernel_rfl) Tryd.func9 (by kernel_rfl)
    (of_decide_eq_true (by kernel_rfl)) (by unfold Func.isWrapper; first | (rw [if_pos (by decide +kernel)]; kernel_rfl) | (rw [if_neg (by decide +kernel)]; exact ⟨rfl, rfl⟩))
    (fun os started H enc _ => known_lifted os started H enc)
theorem known_holds : Rows.TableKnownCardSaid :=
  Claim7.holds_tied_plain_at .later [] [.listed, .data] true (true, "16370aa47215bb2edf338bc15c1aed2fa528c38d83e6bdd509f60c110936e8e8") false
    known_row (fun _ h => by cases h) (by kernel_rfl) (fun _ h => by cases h) tableKnown_row_tie rfl ⟨rfl, rfl⟩ (by kernel_rfl) rfl
    (fun f fn hf hfn => by
      obtain rfl : f = 9 := Option.some.inj ((show Tryd.prog.funcNamed "ceiling/ceilinglaw06.TableKnown" = some 9 by kernel_rfl).symm.trans hf) |>.symm
      obtain rfl : fn = Tryd.f9 := (Option.some.inj (Tryd.func9.symm.trans hfn)).symm
      exact ⟨by kernel_rfl, fun j t ht => by
        rw [Tryd.params9] at ht
        simp at ht⟩)
    (by kernel_rfl)
end Go.Proofs.YteafckpdbmncfaaDoor
