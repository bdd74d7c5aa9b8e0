/-
  No cell of these rows narrows 'for every input' (looked for: loops, veiled, ifaces, maps, wideKeys, modest, calm, conditions, laid).
  DERIVED. THE GIVEN ROWS OF THIS SEAT. 6 by the template 'for every input the law returns true; each argument reads behind the call as it read before'; 0 by the template 'total and deterministic' (their statements: YtpionlekbfoccaaTotals.lean).
  GIVEN WITH THE SEED: the statements are not yours to turn. If you find one false, say at which input.
  Laid BY PROGRAM, IN A SANDBOX (cutbox-rows.mjs): the forced cells as the released guide's own fill.sh prints them over the translation 64ed607ff64c39a5… (all of the seat's roots in one cut). By AI agents, Wed Nov 11 2026. No macro, syntax, notation, axiom, sorry.
-/
import Derived.Test.YtpionlekbfoccaaChecked
import GoSem.Claim
import GoSem.ClaimJoined
import GoSem.ClaimMapViews
import Derived.JoinedTies
import Derived.KernelRfl
namespace Go.Proofs.Ytpionlekbfoccaa
/- THE CELL 'sum', in the pinned program and in every row, IS THE sha256 OF THE DUMP (.gsa) THAT YtpionlekbfoccaaProg.lean LOADS. Nothing in Lean hashes anything: it is a label: what it is worth is what the hold of that sum in a sandbox is worth. -/
noncomputable def Try.pinned : Pinned := { name := "ytpionlekbfoccaa", sum := "64ed607ff64c39a5e3642b00b6c3f33e2e3ec4d9202f2b216859b982265dd487", checked := Try.checked }
namespace Rows
def none {H : Type} : Left H := { results := [], args := [] }

/-- 'ceilinglaw29.QueueTop': WHATEVER THE INPUT: true; the input reads as it did. -/
def queueTopSpec : ChangeSpec := { name := "queueTop", fn := fun _ => fun
  | [d1, d2] => { results := [.lit (.bool true)], args := [d1, d2] }
  | _ => none }
def queueTopRow : OpenClaim := { program := "ytpionlekbfoccaa", sum := "64ed607ff64c39a5e3642b00b6c3f33e2e3ec4d9202f2b216859b982265dd487", func := "ceiling/ceilinglaw29.QueueTop", spec := "queueTop", inPlace := ["slices.overlaps[int]"], unfollowed := true, recurses := true, apart := false }
def QueueTopSaid : Prop := queueTopRow.holds Try.pinned (OpenSpec.ofChange queueTopSpec)

/-- ITS FALSE NEIGHBOUR: 'it returns false'. Refute it at one input. -/
def queueTopWrong : ChangeSpec := { name := "queueTop", fn := fun _ => fun
  | [d1, d2] => { results := [.lit (.bool false)], args := [d1, d2] }
  | _ => none }
def QueueTopWrongFalsely : Prop := queueTopRow.holds Try.pinned (OpenSpec.ofChange queueTopWrong)

/-- 'ceilinglaw29.QueueDelays': WHATEVER THE INPUT: true; the input reads as it did. -/
def queueDelaysSpec : ChangeSpec := { name := "queueDelays", fn := fun _ => fun
  | [d1, d2, d3] => { results := [.lit (.bool true)], args := [d1, d2, d3] }
  | _ => none }
def queueDelaysRow : OpenClaim := { program := "ytpionlekbfoccaa", sum := "64ed607ff64c39a5e3642b00b6c3f33e2e3ec4d9202f2b216859b982265dd487", func := "ceiling/ceilinglaw29.QueueDelays", spec := "queueDelays", inPlace := ["slices.overlaps[int]"], unfollowed := true, recurses := true, apart := false }
def QueueDelaysSaid : Prop := queueDelaysRow.holds Try.pinned (OpenSpec.ofChange queueDelaysSpec)

/-- ITS FALSE NEIGHBOUR: 'it returns false'. Refute it at one input. -/
def queueDelaysWrong : ChangeSpec := { name := "queueDelays", fn := fun _ => fun
  | [d1, d2, d3] => { results := [.lit (.bool false)], args := [d1, d2, d3] }
  | _ => none }
def QueueDelaysWrongFalsely : Prop := queueDelaysRow.holds Try.pinned (OpenSpec.ofChange queueDelaysWrong)

/-- 'ceilinglaw29.QueueServes': WHATEVER THE INPUT: true; the input reads as it did. -/
def queueServesSpec : ChangeSpec := { name := "queueServes", fn := fun _ => fun
  | [d] => { results := [.lit (.bool true)], args := [d] }
  | _ => none }
def queueServesRow : OpenClaim := { program := "ytpionlekbfoccaa", sum := "64ed607ff64c39a5e3642b00b6c3f33e2e3ec4d9202f2b216859b982265dd487", func := "ceiling/ceilinglaw29.QueueServes", spec := "queueServes", inPlace := ["slices.overlaps[int]"], unfollowed := true, recurses := true, apart := false }
def QueueServesSaid : Prop := queueServesRow.holds Try.pinned (OpenSpec.ofChange queueServesSpec)

/-- ITS FALSE NEIGHBOUR: 'it returns false'. Refute it at one input. -/
def queueServesWrong : ChangeSpec := { name := "queueServes", fn := fun _ => fun
  | [d] => { results := [.lit (.bool false)], args := [d] }
  | _ => none }
def QueueServesWrongFalsely : Prop := queueServesRow.holds Try.pinned (OpenSpec.ofChange queueServesWrong)

/-- 'ceilinglaw29.QueueCalls': WHATEVER THE INPUT: true; the input reads as it did. -/
def queueCallsSpec : ChangeSpec := { name := "queueCalls", fn := fun _ => fun
  | [d1, d2] => { results := [.lit (.bool true)], args := [d1, d2] }
  | _ => none }
def queueCallsRow : OpenClaim := { program := "ytpionlekbfoccaa", sum := "64ed607ff64c39a5e3642b00b6c3f33e2e3ec4d9202f2b216859b982265dd487", func := "ceiling/ceilinglaw29.QueueCalls", spec := "queueCalls", inPlace := ["slices.overlaps[int]"], unfollowed := true, recurses := true, apart := false }
def QueueCallsSaid : Prop := queueCallsRow.holds Try.pinned (OpenSpec.ofChange queueCallsSpec)

/-- ITS FALSE NEIGHBOUR: 'it returns false'. Refute it at one input. -/
def queueCallsWrong : ChangeSpec := { name := "queueCalls", fn := fun _ => fun
  | [d1, d2] => { results := [.lit (.bool false)], args := [d1, d2] }
  | _ => none }
def QueueCallsWrongFalsely : Prop := queueCallsRow.holds Try.pinned (OpenSpec.ofChange queueCallsWrong)

/-- 'ceilinglaw29.QueuePlays': WHATEVER THE INPUT: true; the input reads as it did. -/
def queuePlaysSpec : ChangeSpec := { name := "queuePlays", fn := fun _ => fun
  | [d] => { results := [.lit (.bool true)], args := [d] }
  | _ => none }
def queuePlaysRow : OpenClaim := { program := "ytpionlekbfoccaa", sum := "64ed607ff64c39a5e3642b00b6c3f33e2e3ec4d9202f2b216859b982265dd487", func := "ceiling/ceilinglaw29.QueuePlays", spec := "queuePlays", inPlace := ["slices.overlaps[int]"], unfollowed := true, recurses := true, apart := false }
def QueuePlaysSaid : Prop := queuePlaysRow.holds Try.pinned (OpenSpec.ofChange queuePlaysSpec)

/-- ITS FALSE NEIGHBOUR: 'it returns false'. Refute it at one input. -/
def queuePlaysWrong : ChangeSpec := { name := "queuePlays", fn := fun _ => fun
  | [d] => { results := [.lit (.bool false)], args := [d] }
  | _ => none }
def QueuePlaysWrongFalsely : Prop := queuePlaysRow.holds Try.pinned (OpenSpec.ofChange queuePlaysWrong)

/-- 'ceilinglaw29.QueueKeeps': WHATEVER THE INPUT: true; the input reads as it did. -/
def queueKeepsSpec : ChangeSpec := { name := "queueKeeps", fn := fun _ => fun
  | [d1, d2] => { results := [.lit (.bool true)], args := [d1, d2] }
  | _ => none }
def queueKeepsRow : OpenClaim := { program := "ytpionlekbfoccaa", sum := "64ed607ff64c39a5e3642b00b6c3f33e2e3ec4d9202f2b216859b982265dd487", func := "ceiling/ceilinglaw29.QueueKeeps", spec := "queueKeeps", inPlace := ["slices.overlaps[int]"], unfollowed := true, recurses := true, apart := false }
def QueueKeepsSaid : Prop := queueKeepsRow.holds Try.pinned (OpenSpec.ofChange queueKeepsSpec)

/-- ITS FALSE NEIGHBOUR: 'it returns false'. Refute it at one input. -/
def queueKeepsWrong : ChangeSpec := { name := "queueKeeps", fn := fun _ => fun
  | [d1, d2] => { results := [.lit (.bool false)], args := [d1, d2] }
  | _ => none }
def QueueKeepsWrongFalsely : Prop := queueKeepsRow.holds Try.pinned (OpenSpec.ofChange queueKeepsWrong)

/- THE SECOND FORM. 'bulk': how many values and letters a reading holds, each counted each time it is reached (what is shared counts as often as it is met; a slice's spare places count too). A statement '..UptoSaid' is the law's where the arguments, and the package variables that the reading takes, are together of bulk at most 1048576: NARROWER than '..Said'. Prove '..Said' where nothing that the law and all that it calls make is longer than what came in: it says more and counts as full. Else prove '..UptoSaid'. A law counts once. -/
mutual
def uptoBulk {H : Type} : DataW H → Nat
  | .lit (.string bytes) => bytes.length + 1
  | .lit _ => 1
  | .nil => 1
  | .ptr d => uptoBulk d + 1
  | .slice elems spare => uptoBulkAll elems + uptoBulkAll spare + 1
  | .agg parts => uptoBulkAll parts + 1
  | .iface _ d => uptoBulk d + 1
  | .map entries => uptoBulkEntries entries + 1
  | .held _ => 1
def uptoBulkAll {H : Type} : List (DataW H) → Nat
  | [] => 0
  | d :: r => uptoBulk d + uptoBulkAll r
def uptoBulkEntries {H : Type} : List (Lit × DataW H) → Nat
  | [] => 0
  | x :: r => uptoBulkEntry x + uptoBulkEntries r
def uptoBulkEntry {H : Type} : Lit × DataW H → Nat
  | (.string bytes, d) => bytes.length + uptoBulk d + 1
  | (_, d) => uptoBulk d + 1
 end
def uptoSmall : (H : Type) → List (DataW H) → Bool := fun _ ds => decide (uptoBulkAll ds ≤ 1048576)
def OpenSpec.upto (s : _root_.Go.ChangeSpec) : _root_.Go.OpenSpec := { _root_.Go.OpenSpec.ofChange s with cond := some uptoSmall }

/-- 'ceilinglaw29.QueueTop', WHERE WHAT IT READS IS OF BULK AT MOST 1048576: true; the input reads as it did. -/
def queueTopUptoRow : OpenClaim := { program := "ytpionlekbfoccaa", sum := "64ed607ff64c39a5e3642b00b6c3f33e2e3ec4d9202f2b216859b982265dd487", func := "ceiling/ceilinglaw29.QueueTop", spec := "queueTop", inPlace := ["slices.overlaps[int]"], unfollowed := true, recurses := true, apart := false, narrowed := true }
def QueueTopUptoSaid : Prop := queueTopUptoRow.holds Try.pinned (OpenSpec.upto queueTopSpec)

/-- 'ceilinglaw29.QueueDelays', WHERE WHAT IT READS IS OF BULK AT MOST 1048576: true; the input reads as it did. -/
def queueDelaysUptoRow : OpenClaim := { program := "ytpionlekbfoccaa", sum := "64ed607ff64c39a5e3642b00b6c3f33e2e3ec4d9202f2b216859b982265dd487", func := "ceiling/ceilinglaw29.QueueDelays", spec := "queueDelays", inPlace := ["slices.overlaps[int]"], unfollowed := true, recurses := true, apart := false, narrowed := true }
def QueueDelaysUptoSaid : Prop := queueDelaysUptoRow.holds Try.pinned (OpenSpec.upto queueDelaysSpec)

/-- 'ceilinglaw29.QueueServes', WHERE WHAT IT READS IS OF BULK AT MOST 1048576: true; the input reads as it did. -/
def queueServesUptoRow : OpenClaim := { program := "ytpionlekbfoccaa", sum := "64ed607ff64c39a5e3642b00b6c3f33e2e3ec4d9202f2b216859b982265dd487", func := "ceiling/ceilinglaw29.QueueServes", spec := "queueServes", inPlace := ["slices.overlaps[int]"], unfollowed := true, recurses := true, apart := false, narrowed := true }
def QueueServesUptoSaid : Prop := queueServesUptoRow.holds Try.pinned (OpenSpec.upto queueServesSpec)

/-- 'ceilinglaw29.QueueCalls', WHERE WHAT IT READS IS OF BULK AT MOST 1048576: true; the input reads as it did. -/
def queueCallsUptoRow : OpenClaim := { program := "ytpionlekbfoccaa", sum := "64ed607ff64c39a5e3642b00b6c3f33e2e3ec4d9202f2b216859b982265dd487", func := "ceiling/ceilinglaw29.QueueCalls", spec := "queueCalls", inPlace := ["slices.overlaps[int]"], unfollowed := true, recurses := true, apart := false, narrowed := true }
def QueueCallsUptoSaid : Prop := queueCallsUptoRow.holds Try.pinned (OpenSpec.upto queueCallsSpec)

/-- 'ceilinglaw29.QueuePlays', WHERE WHAT IT READS IS OF BULK AT MOST 1048576: true; the input reads as it did. -/
def queuePlaysUptoRow : OpenClaim := { program := "ytpionlekbfoccaa", sum := "64ed607ff64c39a5e3642b00b6c3f33e2e3ec4d9202f2b216859b982265dd487", func := "ceiling/ceilinglaw29.QueuePlays", spec := "queuePlays", inPlace := ["slices.overlaps[int]"], unfollowed := true, recurses := true, apart := false, narrowed := true }
def QueuePlaysUptoSaid : Prop := queuePlaysUptoRow.holds Try.pinned (OpenSpec.upto queuePlaysSpec)

/-- 'ceilinglaw29.QueueKeeps', WHERE WHAT IT READS IS OF BULK AT MOST 1048576: true; the input reads as it did. -/
def queueKeepsUptoRow : OpenClaim := { program := "ytpionlekbfoccaa", sum := "64ed607ff64c39a5e3642b00b6c3f33e2e3ec4d9202f2b216859b982265dd487", func := "ceiling/ceilinglaw29.QueueKeeps", spec := "queueKeeps", inPlace := ["slices.overlaps[int]"], unfollowed := true, recurses := true, apart := false, narrowed := true }
def QueueKeepsUptoSaid : Prop := queueKeepsUptoRow.holds Try.pinned (OpenSpec.upto queueKeepsSpec)

end Rows
end Go.Proofs.Ytpionlekbfoccaa
