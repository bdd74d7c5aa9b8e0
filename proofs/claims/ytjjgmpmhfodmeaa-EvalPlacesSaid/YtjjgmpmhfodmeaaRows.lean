/-
  NARROWER THAN 'FOR EVERY INPUT', by the rows' own cells (each row's printed sentence says how): EvalMays: loops · EvalValues: loops · EvalRange: loops · EvalLets: loops · EvalNegates: loops · EvalElems: loops · EvalReads: loops · EvalSpots: loops · EvalPlaces: loops.
  DERIVED. THE GIVEN ROWS OF THIS SEAT. 10 by the template 'for every input the law returns true; each argument reads behind the call as it read before'; 0 by the template 'total and deterministic' (their statements: YtjjgmpmhfodmeaaTotals.lean).
  GIVEN WITH THE SEED: the statements are not yours to turn. If you find one false, say at which input.
  Laid BY PROGRAM, IN A SANDBOX (cutbox-rows.mjs): the forced cells as the released guide's own fill.sh prints them over the translation b6dcffaf2c03f3a4… (all of the seat's roots in one cut). By AI agents, Wed Nov 11 2026. No macro, syntax, notation, axiom, sorry.
-/
import Derived.Test.YtjjgmpmhfodmeaaChecked
import GoSem.Claim
import GoSem.ClaimJoined
import GoSem.ClaimMapViews
import Derived.JoinedTies
import Derived.KernelRfl
namespace Go.Proofs.Ytjjgmpmhfodmeaa
/- THE CELL 'sum', in the pinned program and in every row, IS THE sha256 OF THE DUMP (.gsa) THAT YtjjgmpmhfodmeaaProg.lean LOADS. Nothing in Lean hashes anything: it is a label: what it is worth is what the hold of that sum in a sandbox is worth. -/
noncomputable def Try.pinned : Pinned := { name := "ytjjgmpmhfodmeaa", sum := "b6dcffaf2c03f3a4318940f0b2dcefda48361036fa935c468ed1276cdeeae7d4", checked := Try.checked }
namespace Rows
def none {H : Type} : Left H := { results := [], args := [] }

/-- 'ceilinglaw19.EvalMays': WHATEVER THE INPUT: true; the input reads as it did. -/
def evalMaysSpec : ChangeSpec := { name := "evalMays", fn := fun _ => fun
  | [d1, d2, d3] => { results := [.lit (.bool true)], args := [d1, d2, d3] }
  | _ => none }
def evalMaysRow : OpenClaim := { program := "ytjjgmpmhfodmeaa", sum := "b6dcffaf2c03f3a4318940f0b2dcefda48361036fa935c468ed1276cdeeae7d4", func := "ceiling/ceilinglaw19.EvalMays", spec := "evalMays", unfollowed := true, recurses := true, loops := true, apart := false }
def EvalMaysSaid : Prop := evalMaysRow.holds Try.pinned (OpenSpec.ofChange evalMaysSpec)

/-- ITS FALSE NEIGHBOUR: 'it returns false'. Refute it at one input. -/
def evalMaysWrong : ChangeSpec := { name := "evalMays", fn := fun _ => fun
  | [d1, d2, d3] => { results := [.lit (.bool false)], args := [d1, d2, d3] }
  | _ => none }
def EvalMaysWrongFalsely : Prop := evalMaysRow.holds Try.pinned (OpenSpec.ofChange evalMaysWrong)

/-- 'ceilinglaw19.EvalValues': WHATEVER THE INPUT: true; the input reads as it did. -/
def evalValuesSpec : ChangeSpec := { name := "evalValues", fn := fun _ => fun
  | [d1, d2, d3] => { results := [.lit (.bool true)], args := [d1, d2, d3] }
  | _ => none }
def evalValuesRow : OpenClaim := { program := "ytjjgmpmhfodmeaa", sum := "b6dcffaf2c03f3a4318940f0b2dcefda48361036fa935c468ed1276cdeeae7d4", func := "ceiling/ceilinglaw19.EvalValues", spec := "evalValues", unfollowed := true, recurses := true, loops := true, apart := false }
def EvalValuesSaid : Prop := evalValuesRow.holds Try.pinned (OpenSpec.ofChange evalValuesSpec)

/-- ITS FALSE NEIGHBOUR: 'it returns false'. Refute it at one input. -/
def evalValuesWrong : ChangeSpec := { name := "evalValues", fn := fun _ => fun
  | [d1, d2, d3] => { results := [.lit (.bool false)], args := [d1, d2, d3] }
  | _ => none }
def EvalValuesWrongFalsely : Prop := evalValuesRow.holds Try.pinned (OpenSpec.ofChange evalValuesWrong)

/-- 'ceilinglaw19.EvalRange': WHATEVER THE INPUT: true; the input reads as it did. -/
def evalRangeSpec : ChangeSpec := { name := "evalRange", fn := fun _ => fun
  | [d1, d2, d3] => { results := [.lit (.bool true)], args := [d1, d2, d3] }
  | _ => none }
def evalRangeRow : OpenClaim := { program := "ytjjgmpmhfodmeaa", sum := "b6dcffaf2c03f3a4318940f0b2dcefda48361036fa935c468ed1276cdeeae7d4", func := "ceiling/ceilinglaw19.EvalRange", spec := "evalRange", unfollowed := true, recurses := true, loops := true, apart := false }
def EvalRangeSaid : Prop := evalRangeRow.holds Try.pinned (OpenSpec.ofChange evalRangeSpec)

/-- ITS FALSE NEIGHBOUR: 'it returns false'. Refute it at one input. -/
def evalRangeWrong : ChangeSpec := { name := "evalRange", fn := fun _ => fun
  | [d1, d2, d3] => { results := [.lit (.bool false)], args := [d1, d2, d3] }
  | _ => none }
def EvalRangeWrongFalsely : Prop := evalRangeRow.holds Try.pinned (OpenSpec.ofChange evalRangeWrong)

/-- 'ceilinglaw19.EvalLets': WHATEVER THE INPUT: true; the input reads as it did. -/
def evalLetsSpec : ChangeSpec := { name := "evalLets", fn := fun _ => fun
  | [d1, d2, d3, d4] => { results := [.lit (.bool true)], args := [d1, d2, d3, d4] }
  | _ => none }
def evalLetsRow : OpenClaim := { program := "ytjjgmpmhfodmeaa", sum := "b6dcffaf2c03f3a4318940f0b2dcefda48361036fa935c468ed1276cdeeae7d4", func := "ceiling/ceilinglaw19.EvalLets", spec := "evalLets", unfollowed := true, recurses := true, loops := true, apart := false }
def EvalLetsSaid : Prop := evalLetsRow.holds Try.pinned (OpenSpec.ofChange evalLetsSpec)

/-- ITS FALSE NEIGHBOUR: 'it returns false'. Refute it at one input. -/
def evalLetsWrong : ChangeSpec := { name := "evalLets", fn := fun _ => fun
  | [d1, d2, d3, d4] => { results := [.lit (.bool false)], args := [d1, d2, d3, d4] }
  | _ => none }
def EvalLetsWrongFalsely : Prop := evalLetsRow.holds Try.pinned (OpenSpec.ofChange evalLetsWrong)

/-- 'ceilinglaw19.EvalDivides': WHATEVER THE INPUT: true; the input reads as it did. -/
def evalDividesSpec : ChangeSpec := { name := "evalDivides", fn := fun _ => fun
  | [d1, d2] => { results := [.lit (.bool true)], args := [d1, d2] }
  | _ => none }
def evalDividesRow : OpenClaim := { program := "ytjjgmpmhfodmeaa", sum := "b6dcffaf2c03f3a4318940f0b2dcefda48361036fa935c468ed1276cdeeae7d4", func := "ceiling/ceilinglaw19.EvalDivides", spec := "evalDivides", unfollowed := true, recurses := true, apart := false }
def EvalDividesSaid : Prop := evalDividesRow.holds Try.pinned (OpenSpec.ofChange evalDividesSpec)

/-- ITS FALSE NEIGHBOUR: 'it returns false'. Refute it at one input. -/
def evalDividesWrong : ChangeSpec := { name := "evalDivides", fn := fun _ => fun
  | [d1, d2] => { results := [.lit (.bool false)], args := [d1, d2] }
  | _ => none }
def EvalDividesWrongFalsely : Prop := evalDividesRow.holds Try.pinned (OpenSpec.ofChange evalDividesWrong)

/-- 'ceilinglaw19.EvalNegates': WHATEVER THE INPUT: true; the input reads as it did. -/
def evalNegatesSpec : ChangeSpec := { name := "evalNegates", fn := fun _ => fun
  | [d1, d2, d3, d4, d5] => { results := [.lit (.bool true)], args := [d1, d2, d3, d4, d5] }
  | _ => none }
def evalNegatesRow : OpenClaim := { program := "ytjjgmpmhfodmeaa", sum := "b6dcffaf2c03f3a4318940f0b2dcefda48361036fa935c468ed1276cdeeae7d4", func := "ceiling/ceilinglaw19.EvalNegates", spec := "evalNegates", unfollowed := true, recurses := true, loops := true, apart := false }
def EvalNegatesSaid : Prop := evalNegatesRow.holds Try.pinned (OpenSpec.ofChange evalNegatesSpec)

/-- ITS FALSE NEIGHBOUR: 'it returns false'. Refute it at one input. -/
def evalNegatesWrong : ChangeSpec := { name := "evalNegates", fn := fun _ => fun
  | [d1, d2, d3, d4, d5] => { results := [.lit (.bool false)], args := [d1, d2, d3, d4, d5] }
  | _ => none }
def EvalNegatesWrongFalsely : Prop := evalNegatesRow.holds Try.pinned (OpenSpec.ofChange evalNegatesWrong)

/-- 'ceilinglaw19.EvalElems': WHATEVER THE INPUT: true; the input reads as it did. -/
def evalElemsSpec : ChangeSpec := { name := "evalElems", fn := fun _ => fun
  | [d1, d2, d3, d4, d5] => { results := [.lit (.bool true)], args := [d1, d2, d3, d4, d5] }
  | _ => none }
def evalElemsRow : OpenClaim := { program := "ytjjgmpmhfodmeaa", sum := "b6dcffaf2c03f3a4318940f0b2dcefda48361036fa935c468ed1276cdeeae7d4", func := "ceiling/ceilinglaw19.EvalElems", spec := "evalElems", unfollowed := true, recurses := true, loops := true, apart := false }
def EvalElemsSaid : Prop := evalElemsRow.holds Try.pinned (OpenSpec.ofChange evalElemsSpec)

/-- ITS FALSE NEIGHBOUR: 'it returns false'. Refute it at one input. -/
def evalElemsWrong : ChangeSpec := { name := "evalElems", fn := fun _ => fun
  | [d1, d2, d3, d4, d5] => { results := [.lit (.bool false)], args := [d1, d2, d3, d4, d5] }
  | _ => none }
def EvalElemsWrongFalsely : Prop := evalElemsRow.holds Try.pinned (OpenSpec.ofChange evalElemsWrong)

/-- 'ceilinglaw19.EvalReads': WHATEVER THE INPUT: true; the input reads as it did. -/
def evalReadsSpec : ChangeSpec := { name := "evalReads", fn := fun _ => fun
  | [d1, d2, d3, d4, d5] => { results := [.lit (.bool true)], args := [d1, d2, d3, d4, d5] }
  | _ => none }
def evalReadsRow : OpenClaim := { program := "ytjjgmpmhfodmeaa", sum := "b6dcffaf2c03f3a4318940f0b2dcefda48361036fa935c468ed1276cdeeae7d4", func := "ceiling/ceilinglaw19.EvalReads", spec := "evalReads", unfollowed := true, recurses := true, loops := true, apart := false }
def EvalReadsSaid : Prop := evalReadsRow.holds Try.pinned (OpenSpec.ofChange evalReadsSpec)

/-- ITS FALSE NEIGHBOUR: 'it returns false'. Refute it at one input. -/
def evalReadsWrong : ChangeSpec := { name := "evalReads", fn := fun _ => fun
  | [d1, d2, d3, d4, d5] => { results := [.lit (.bool false)], args := [d1, d2, d3, d4, d5] }
  | _ => none }
def EvalReadsWrongFalsely : Prop := evalReadsRow.holds Try.pinned (OpenSpec.ofChange evalReadsWrong)

/-- 'ceilinglaw19.EvalSpots': WHATEVER THE INPUT: true; the input reads as it did. -/
def evalSpotsSpec : ChangeSpec := { name := "evalSpots", fn := fun _ => fun
  | [d1, d2, d3, d4] => { results := [.lit (.bool true)], args := [d1, d2, d3, d4] }
  | _ => none }
def evalSpotsRow : OpenClaim := { program := "ytjjgmpmhfodmeaa", sum := "b6dcffaf2c03f3a4318940f0b2dcefda48361036fa935c468ed1276cdeeae7d4", func := "ceiling/ceilinglaw19.EvalSpots", spec := "evalSpots", unfollowed := true, recurses := true, loops := true, apart := false }
def EvalSpotsSaid : Prop := evalSpotsRow.holds Try.pinned (OpenSpec.ofChange evalSpotsSpec)

/-- ITS FALSE NEIGHBOUR: 'it returns false'. Refute it at one input. -/
def evalSpotsWrong : ChangeSpec := { name := "evalSpots", fn := fun _ => fun
  | [d1, d2, d3, d4] => { results := [.lit (.bool false)], args := [d1, d2, d3, d4] }
  | _ => none }
def EvalSpotsWrongFalsely : Prop := evalSpotsRow.holds Try.pinned (OpenSpec.ofChange evalSpotsWrong)

/-- 'ceilinglaw19.EvalPlaces': WHATEVER THE INPUT: true; the input reads as it did. -/
def evalPlacesSpec : ChangeSpec := { name := "evalPlaces", fn := fun _ => fun
  | [d1, d2, d3] => { results := [.lit (.bool true)], args := [d1, d2, d3] }
  | _ => none }
def evalPlacesRow : OpenClaim := { program := "ytjjgmpmhfodmeaa", sum := "b6dcffaf2c03f3a4318940f0b2dcefda48361036fa935c468ed1276cdeeae7d4", func := "ceiling/ceilinglaw19.EvalPlaces", spec := "evalPlaces", unfollowed := true, recurses := true, loops := true, apart := false }
def EvalPlacesSaid : Prop := evalPlacesRow.holds Try.pinned (OpenSpec.ofChange evalPlacesSpec)

/-- ITS FALSE NEIGHBOUR: 'it returns false'. Refute it at one input. -/
def evalPlacesWrong : ChangeSpec := { name := "evalPlaces", fn := fun _ => fun
  | [d1, d2, d3] => { results := [.lit (.bool false)], args := [d1, d2, d3] }
  | _ => none }
def EvalPlacesWrongFalsely : Prop := evalPlacesRow.holds Try.pinned (OpenSpec.ofChange evalPlacesWrong)

/- THE SECOND FORM. 'bulk': how many values and letters a reading holds, each counted each time it is reached (what is shared counts as often as it is met; a slice's spare places count too). A statement '..UptoSaid' is the law's where the arguments, and the package variables that the reading takes, are together of bulk at most 1048576: NARROWER than '..Said'. Prove '..Said' where nothing that the law and all that it calls make is longer than what came in: it says more and counts as full. Else prove '..UptoSaid'. A law counts once. -/
mutual
def uptoBulk {H : Type} : DataW H → Nat
  | .lit (.string bytes) => bytes.length + 1
  | .lit _ => 1
  | .nil => 1
  | .ptr d => uptoBulk d + 1
  | .slice elems spare => uptoBulkAll elems + uptoBulkAll spare + 1
  | .agg parts => uptoBulkAll parts + 1
  | .iface _ d => uptoBulk d + 1
  | .map entries => uptoBulkEntries entries + 1
  | .held _ => 1
def uptoBulkAll {H : Type} : List (DataW H) → Nat
  | [] => 0
  | d :: r => uptoBulk d + uptoBulkAll r
def uptoBulkEntries {H : Type} : List (Lit × DataW H) → Nat
  | [] => 0
  | x :: r => uptoBulkEntry x + uptoBulkEntries r
def uptoBulkEntry {H : Type} : Lit × DataW H → Nat
  | (.string bytes, d) => bytes.length + uptoBulk d + 1
  | (_, d) => uptoBulk d + 1
 end
def uptoSmall : (H : Type) → List (DataW H) → Bool := fun _ ds => decide (uptoBulkAll ds ≤ 1048576)
def OpenSpec.upto (s : _root_.Go.ChangeSpec) : _root_.Go.OpenSpec := { _root_.Go.OpenSpec.ofChange s with cond := some uptoSmall }

/-- 'ceilinglaw19.EvalMays', WHERE WHAT IT READS IS OF BULK AT MOST 1048576: true; the input reads as it did. -/
def evalMaysUptoRow : OpenClaim := { program := "ytjjgmpmhfodmeaa", sum := "b6dcffaf2c03f3a4318940f0b2dcefda48361036fa935c468ed1276cdeeae7d4", func := "ceiling/ceilinglaw19.EvalMays", spec := "evalMays", unfollowed := true, recurses := true, loops := true, apart := false, narrowed := true }
def EvalMaysUptoSaid : Prop := evalMaysUptoRow.holds Try.pinned (OpenSpec.upto evalMaysSpec)

/-- 'ceilinglaw19.EvalValues', WHERE WHAT IT READS IS OF BULK AT MOST 1048576: true; the input reads as it did. -/
def evalValuesUptoRow : OpenClaim := { program := "ytjjgmpmhfodmeaa", sum := "b6dcffaf2c03f3a4318940f0b2dcefda48361036fa935c468ed1276cdeeae7d4", func := "ceiling/ceilinglaw19.EvalValues", spec := "evalValues", unfollowed := true, recurses := true, loops := true, apart := false, narrowed := true }
def EvalValuesUptoSaid : Prop := evalValuesUptoRow.holds Try.pinned (OpenSpec.upto evalValuesSpec)

/-- 'ceilinglaw19.EvalRange', WHERE WHAT IT READS IS OF BULK AT MOST 1048576: true; the input reads as it did. -/
def evalRangeUptoRow : OpenClaim := { program := "ytjjgmpmhfodmeaa", sum := "b6dcffaf2c03f3a4318940f0b2dcefda48361036fa935c468ed1276cdeeae7d4", func := "ceiling/ceilinglaw19.EvalRange", spec := "evalRange", unfollowed := true, recurses := true, loops := true, apart := false, narrowed := true }
def EvalRangeUptoSaid : Prop := evalRangeUptoRow.holds Try.pinned (OpenSpec.upto evalRangeSpec)

/-- 'ceilinglaw19.EvalLets', WHERE WHAT IT READS IS OF BULK AT MOST 1048576: true; the input reads as it did. -/
def evalLetsUptoRow : OpenClaim := { program := "ytjjgmpmhfodmeaa", sum := "b6dcffaf2c03f3a4318940f0b2dcefda48361036fa935c468ed1276cdeeae7d4", func := "ceiling/ceilinglaw19.EvalLets", spec := "evalLets", unfollowed := true, recurses := true, loops := true, apart := false, narrowed := true }
def EvalLetsUptoSaid : Prop := evalLetsUptoRow.holds Try.pinned (OpenSpec.upto evalLetsSpec)

/-- 'ceilinglaw19.EvalDivides', WHERE WHAT IT READS IS OF BULK AT MOST 1048576: true; the input reads as it did. -/
def evalDividesUptoRow : OpenClaim := { program := "ytjjgmpmhfodmeaa", sum := "b6dcffaf2c03f3a4318940f0b2dcefda48361036fa935c468ed1276cdeeae7d4", func := "ceiling/ceilinglaw19.EvalDivides", spec := "evalDivides", unfollowed := true, recurses := true, apart := false, narrowed := true }
def EvalDividesUptoSaid : Prop := evalDividesUptoRow.holds Try.pinned (OpenSpec.upto evalDividesSpec)

/-- 'ceilinglaw19.EvalNegates', WHERE WHAT IT READS IS OF BULK AT MOST 1048576: true; the input reads as it did. -/
def evalNegatesUptoRow : OpenClaim := { program := "ytjjgmpmhfodmeaa", sum := "b6dcffaf2c03f3a4318940f0b2dcefda48361036fa935c468ed1276cdeeae7d4", func := "ceiling/ceilinglaw19.EvalNegates", spec := "evalNegates", unfollowed := true, recurses := true, loops := true, apart := false, narrowed := true }
def EvalNegatesUptoSaid : Prop := evalNegatesUptoRow.holds Try.pinned (OpenSpec.upto evalNegatesSpec)

/-- 'ceilinglaw19.EvalElems', WHERE WHAT IT READS IS OF BULK AT MOST 1048576: true; the input reads as it did. -/
def evalElemsUptoRow : OpenClaim := { program := "ytjjgmpmhfodmeaa", sum := "b6dcffaf2c03f3a4318940f0b2dcefda48361036fa935c468ed1276cdeeae7d4", func := "ceiling/ceilinglaw19.EvalElems", spec := "evalElems", unfollowed := true, recurses := true, loops := true, apart := false, narrowed := true }
def EvalElemsUptoSaid : Prop := evalElemsUptoRow.holds Try.pinned (OpenSpec.upto evalElemsSpec)

/-- 'ceilinglaw19.EvalReads', WHERE WHAT IT READS IS OF BULK AT MOST 1048576: true; the input reads as it did. -/
def evalReadsUptoRow : OpenClaim := { program := "ytjjgmpmhfodmeaa", sum := "b6dcffaf2c03f3a4318940f0b2dcefda48361036fa935c468ed1276cdeeae7d4", func := "ceiling/ceilinglaw19.EvalReads", spec := "evalReads", unfollowed := true, recurses := true, loops := true, apart := false, narrowed := true }
def EvalReadsUptoSaid : Prop := evalReadsUptoRow.holds Try.pinned (OpenSpec.upto evalReadsSpec)

/-- 'ceilinglaw19.EvalSpots', WHERE WHAT IT READS IS OF BULK AT MOST 1048576: true; the input reads as it did. -/
def evalSpotsUptoRow : OpenClaim := { program := "ytjjgmpmhfodmeaa", sum := "b6dcffaf2c03f3a4318940f0b2dcefda48361036fa935c468ed1276cdeeae7d4", func := "ceiling/ceilinglaw19.EvalSpots", spec := "evalSpots", unfollowed := true, recurses := true, loops := true, apart := false, narrowed := true }
def EvalSpotsUptoSaid : Prop := evalSpotsUptoRow.holds Try.pinned (OpenSpec.upto evalSpotsSpec)

/-- 'ceilinglaw19.EvalPlaces', WHERE WHAT IT READS IS OF BULK AT MOST 1048576: true; the input reads as it did. -/
def evalPlacesUptoRow : OpenClaim := { program := "ytjjgmpmhfodmeaa", sum := "b6dcffaf2c03f3a4318940f0b2dcefda48361036fa935c468ed1276cdeeae7d4", func := "ceiling/ceilinglaw19.EvalPlaces", spec := "evalPlaces", unfollowed := true, recurses := true, loops := true, apart := false, narrowed := true }
def EvalPlacesUptoSaid : Prop := evalPlacesUptoRow.holds Try.pinned (OpenSpec.upto evalPlacesSpec)

end Rows
end Go.Proofs.Ytjjgmpmhfodmeaa
