/-
  No cell of these rows narrows 'for every input' (looked for: loops, veiled, ifaces, maps, wideKeys, modest, calm, conditions, laid).
  DERIVED. THE GIVEN ROWS OF THIS SEAT. 6 by the template 'for every input the law returns true; each argument reads behind the call as it read before'; 0 by the template 'total and deterministic' (their statements: YtphhflkpdejodaaTotals.lean).
  GIVEN WITH THE SEED: the statements are not yours to turn. If you find one false, say at which input.
  Laid BY PROGRAM, IN A SANDBOX (cutbox-rows.mjs): the forced cells as the released guide's own fill.sh prints them over the translation e002ad077239a2a1… (all of the seat's roots in one cut). By AI agents, Wed Nov 11 2026. No macro, syntax, notation, axiom, sorry.
-/
import Derived.Test.YtphhflkpdejodaaChecked
import GoSem.Claim
import GoSem.ClaimJoined
import GoSem.ClaimMapViews
import Derived.JoinedTies
import Derived.KernelRfl
namespace Go.Proofs.Ytphhflkpdejodaa
/- THE CELL 'sum', in the pinned program and in every row, IS THE sha256 OF THE DUMP (.gsa) THAT YtphhflkpdejodaaProg.lean LOADS. Nothing in Lean hashes anything: it is a label: what it is worth is what the hold of that sum in a sandbox is worth. -/
noncomputable def Try.pinned : Pinned := { name := "ytphhflkpdejodaa", sum := "e002ad077239a2a17512500ee23c8f683f9a1fe23839e04577f84fe8df9a1c13", checked := Try.checked }
namespace Rows
def none {H : Type} : Left H := { results := [], args := [] }

/-- 'scuttlebuttlaw12.QueuePlays': WHATEVER THE INPUT: true; the input reads as it did. -/
def queuePlaysSpec : ChangeSpec := { name := "queuePlays", fn := fun _ => fun
  | [d1, d2, d3, d4] => { results := [.lit (.bool true)], args := [d1, d2, d3, d4] }
  | _ => none }
def queuePlaysRow : OpenClaim := { program := "ytphhflkpdejodaa", sum := "e002ad077239a2a17512500ee23c8f683f9a1fe23839e04577f84fe8df9a1c13", func := "scuttlebutt/scuttlebuttlaw12.QueuePlays", spec := "queuePlays", unfollowed := true, recurses := true, apart := false }
def QueuePlaysSaid : Prop := queuePlaysRow.holds Try.pinned (OpenSpec.ofChange queuePlaysSpec)

/-- ITS FALSE NEIGHBOUR: 'it returns false'. Refute it at one input. -/
def queuePlaysWrong : ChangeSpec := { name := "queuePlays", fn := fun _ => fun
  | [d1, d2, d3, d4] => { results := [.lit (.bool false)], args := [d1, d2, d3, d4] }
  | _ => none }
def QueuePlaysWrongFalsely : Prop := queuePlaysRow.holds Try.pinned (OpenSpec.ofChange queuePlaysWrong)

/-- 'scuttlebuttlaw12.QueueTimes': WHATEVER THE INPUT: true; the input reads as it did. -/
def queueTimesSpec : ChangeSpec := { name := "queueTimes", fn := fun _ => fun
  | [d1, d2] => { results := [.lit (.bool true)], args := [d1, d2] }
  | _ => none }
def queueTimesRow : OpenClaim := { program := "ytphhflkpdejodaa", sum := "e002ad077239a2a17512500ee23c8f683f9a1fe23839e04577f84fe8df9a1c13", func := "scuttlebutt/scuttlebuttlaw12.QueueTimes", spec := "queueTimes", unfollowed := true, recurses := true, apart := false }
def QueueTimesSaid : Prop := queueTimesRow.holds Try.pinned (OpenSpec.ofChange queueTimesSpec)

/-- ITS FALSE NEIGHBOUR: 'it returns false'. Refute it at one input. -/
def queueTimesWrong : ChangeSpec := { name := "queueTimes", fn := fun _ => fun
  | [d1, d2] => { results := [.lit (.bool false)], args := [d1, d2] }
  | _ => none }
def QueueTimesWrongFalsely : Prop := queueTimesRow.holds Try.pinned (OpenSpec.ofChange queueTimesWrong)

/-- 'scuttlebuttlaw12.QueueOver': WHATEVER THE INPUT: true; the input reads as it did. -/
def queueOverSpec : ChangeSpec := { name := "queueOver", fn := fun _ => fun
  | [d1, d2, d3, d4] => { results := [.lit (.bool true)], args := [d1, d2, d3, d4] }
  | _ => none }
def queueOverRow : OpenClaim := { program := "ytphhflkpdejodaa", sum := "e002ad077239a2a17512500ee23c8f683f9a1fe23839e04577f84fe8df9a1c13", func := "scuttlebutt/scuttlebuttlaw12.QueueOver", spec := "queueOver", unfollowed := true, recurses := true, apart := false }
def QueueOverSaid : Prop := queueOverRow.holds Try.pinned (OpenSpec.ofChange queueOverSpec)

/-- ITS FALSE NEIGHBOUR: 'it returns false'. Refute it at one input. -/
def queueOverWrong : ChangeSpec := { name := "queueOver", fn := fun _ => fun
  | [d1, d2, d3, d4] => { results := [.lit (.bool false)], args := [d1, d2, d3, d4] }
  | _ => none }
def QueueOverWrongFalsely : Prop := queueOverRow.holds Try.pinned (OpenSpec.ofChange queueOverWrong)

/-- 'scuttlebuttlaw12.QueueOrder': WHATEVER THE INPUT: true; the input reads as it did. -/
def queueOrderSpec : ChangeSpec := { name := "queueOrder", fn := fun _ => fun
  | [d1, d2] => { results := [.lit (.bool true)], args := [d1, d2] }
  | _ => none }
def queueOrderRow : OpenClaim := { program := "ytphhflkpdejodaa", sum := "e002ad077239a2a17512500ee23c8f683f9a1fe23839e04577f84fe8df9a1c13", func := "scuttlebutt/scuttlebuttlaw12.QueueOrder", spec := "queueOrder", unfollowed := true, recurses := true, apart := false }
def QueueOrderSaid : Prop := queueOrderRow.holds Try.pinned (OpenSpec.ofChange queueOrderSpec)

/-- ITS FALSE NEIGHBOUR: 'it returns false'. Refute it at one input. -/
def queueOrderWrong : ChangeSpec := { name := "queueOrder", fn := fun _ => fun
  | [d1, d2] => { results := [.lit (.bool false)], args := [d1, d2] }
  | _ => none }
def QueueOrderWrongFalsely : Prop := queueOrderRow.holds Try.pinned (OpenSpec.ofChange queueOrderWrong)

/-- 'scuttlebuttlaw12.QueueWrong': WHATEVER THE INPUT: true; the input reads as it did. -/
def queueWrongSpec : ChangeSpec := { name := "queueWrong", fn := fun _ => fun
  | [d1, d2, d3] => { results := [.lit (.bool true)], args := [d1, d2, d3] }
  | _ => none }
def queueWrongRow : OpenClaim := { program := "ytphhflkpdejodaa", sum := "e002ad077239a2a17512500ee23c8f683f9a1fe23839e04577f84fe8df9a1c13", func := "scuttlebutt/scuttlebuttlaw12.QueueWrong", spec := "queueWrong", unfollowed := true, recurses := true, apart := false }
def QueueWrongSaid : Prop := queueWrongRow.holds Try.pinned (OpenSpec.ofChange queueWrongSpec)

/-- ITS FALSE NEIGHBOUR: 'it returns false'. Refute it at one input. -/
def queueWrongWrong : ChangeSpec := { name := "queueWrong", fn := fun _ => fun
  | [d1, d2, d3] => { results := [.lit (.bool false)], args := [d1, d2, d3] }
  | _ => none }
def QueueWrongWrongFalsely : Prop := queueWrongRow.holds Try.pinned (OpenSpec.ofChange queueWrongWrong)

/-- 'scuttlebuttlaw12.QueueTimesRise': WHATEVER THE INPUT: true; the input reads as it did. -/
def queueTimesRiseSpec : ChangeSpec := { name := "queueTimesRise", fn := fun _ => fun
  | [d] => { results := [.lit (.bool true)], args := [d] }
  | _ => none }
def queueTimesRiseRow : OpenClaim := { program := "ytphhflkpdejodaa", sum := "e002ad077239a2a17512500ee23c8f683f9a1fe23839e04577f84fe8df9a1c13", func := "scuttlebutt/scuttlebuttlaw12.QueueTimesRise", spec := "queueTimesRise", unfollowed := true, recurses := true, apart := false }
def QueueTimesRiseSaid : Prop := queueTimesRiseRow.holds Try.pinned (OpenSpec.ofChange queueTimesRiseSpec)

/-- ITS FALSE NEIGHBOUR: 'it returns false'. Refute it at one input. -/
def queueTimesRiseWrong : ChangeSpec := { name := "queueTimesRise", fn := fun _ => fun
  | [d] => { results := [.lit (.bool false)], args := [d] }
  | _ => none }
def QueueTimesRiseWrongFalsely : Prop := queueTimesRiseRow.holds Try.pinned (OpenSpec.ofChange queueTimesRiseWrong)

/- THE SECOND FORM. 'bulk': how many values and letters a reading holds, each counted each time it is reached (what is shared counts as often as it is met; a slice's spare places count too). A statement '..UptoSaid' is the law's where the arguments, and the package variables that the reading takes, are together of bulk at most 1048576: NARROWER than '..Said'. Prove '..Said' where nothing that the law and all that it calls make is longer than what came in: it says more and counts as full. Else prove '..UptoSaid'. A law counts once. -/
mutual
def uptoBulk {H : Type} : DataW H → Nat
  | .lit (.string bytes) => bytes.length + 1
  | .lit _ => 1
  | .nil => 1
  | .ptr d => uptoBulk d + 1
  | .slice elems spare => uptoBulkAll elems + uptoBulkAll spare + 1
  | .agg parts => uptoBulkAll parts + 1
  | .iface _ d => uptoBulk d + 1
  | .map entries => uptoBulkEntries entries + 1
  | .held _ => 1
def uptoBulkAll {H : Type} : List (DataW H) → Nat
  | [] => 0
  | d :: r => uptoBulk d + uptoBulkAll r
def uptoBulkEntries {H : Type} : List (Lit × DataW H) → Nat
  | [] => 0
  | x :: r => uptoBulkEntry x + uptoBulkEntries r
def uptoBulkEntry {H : Type} : Lit × DataW H → Nat
  | (.string bytes, d) => bytes.length + uptoBulk d + 1
  | (_, d) => uptoBulk d + 1
 end
def uptoSmall : (H : Type) → List (DataW H) → Bool := fun _ ds => decide (uptoBulkAll ds ≤ 1048576)
def OpenSpec.upto (s : _root_.Go.ChangeSpec) : _root_.Go.OpenSpec := { _root_.Go.OpenSpec.ofChange s with cond := some uptoSmall }

/-- 'scuttlebuttlaw12.QueuePlays', WHERE WHAT IT READS IS OF BULK AT MOST 1048576: true; the input reads as it did. -/
def queuePlaysUptoRow : OpenClaim := { program := "ytphhflkpdejodaa", sum := "e002ad077239a2a17512500ee23c8f683f9a1fe23839e04577f84fe8df9a1c13", func := "scuttlebutt/scuttlebuttlaw12.QueuePlays", spec := "queuePlays", unfollowed := true, recurses := true, apart := false, narrowed := true }
def QueuePlaysUptoSaid : Prop := queuePlaysUptoRow.holds Try.pinned (OpenSpec.upto queuePlaysSpec)

/-- 'scuttlebuttlaw12.QueueTimes', WHERE WHAT IT READS IS OF BULK AT MOST 1048576: true; the input reads as it did. -/
def queueTimesUptoRow : OpenClaim := { program := "ytphhflkpdejodaa", sum := "e002ad077239a2a17512500ee23c8f683f9a1fe23839e04577f84fe8df9a1c13", func := "scuttlebutt/scuttlebuttlaw12.QueueTimes", spec := "queueTimes", unfollowed := true, recurses := true, apart := false, narrowed := true }
def QueueTimesUptoSaid : Prop := queueTimesUptoRow.holds Try.pinned (OpenSpec.upto queueTimesSpec)

/-- 'scuttlebuttlaw12.QueueOver', WHERE WHAT IT READS IS OF BULK AT MOST 1048576: true; the input reads as it did. -/
def queueOverUptoRow : OpenClaim := { program := "ytphhflkpdejodaa", sum := "e002ad077239a2a17512500ee23c8f683f9a1fe23839e04577f84fe8df9a1c13", func := "scuttlebutt/scuttlebuttlaw12.QueueOver", spec := "queueOver", unfollowed := true, recurses := true, apart := false, narrowed := true }
def QueueOverUptoSaid : Prop := queueOverUptoRow.holds Try.pinned (OpenSpec.upto queueOverSpec)

/-- 'scuttlebuttlaw12.QueueOrder', WHERE WHAT IT READS IS OF BULK AT MOST 1048576: true; the input reads as it did. -/
def queueOrderUptoRow : OpenClaim := { program := "ytphhflkpdejodaa", sum := "e002ad077239a2a17512500ee23c8f683f9a1fe23839e04577f84fe8df9a1c13", func := "scuttlebutt/scuttlebuttlaw12.QueueOrder", spec := "queueOrder", unfollowed := true, recurses := true, apart := false, narrowed := true }
def QueueOrderUptoSaid : Prop := queueOrderUptoRow.holds Try.pinned (OpenSpec.upto queueOrderSpec)

/-- 'scuttlebuttlaw12.QueueWrong', WHERE WHAT IT READS IS OF BULK AT MOST 1048576: true; the input reads as it did. -/
def queueWrongUptoRow : OpenClaim := { program := "ytphhflkpdejodaa", sum := "e002ad077239a2a17512500ee23c8f683f9a1fe23839e04577f84fe8df9a1c13", func := "scuttlebutt/scuttlebuttlaw12.QueueWrong", spec := "queueWrong", unfollowed := true, recurses := true, apart := false, narrowed := true }
def QueueWrongUptoSaid : Prop := queueWrongUptoRow.holds Try.pinned (OpenSpec.upto queueWrongSpec)

/-- 'scuttlebuttlaw12.QueueTimesRise', WHERE WHAT IT READS IS OF BULK AT MOST 1048576: true; the input reads as it did. -/
def queueTimesRiseUptoRow : OpenClaim := { program := "ytphhflkpdejodaa", sum := "e002ad077239a2a17512500ee23c8f683f9a1fe23839e04577f84fe8df9a1c13", func := "scuttlebutt/scuttlebuttlaw12.QueueTimesRise", spec := "queueTimesRise", unfollowed := true, recurses := true, apart := false, narrowed := true }
def QueueTimesRiseUptoSaid : Prop := queueTimesRiseUptoRow.holds Try.pinned (OpenSpec.upto queueTimesRiseSpec)

end Rows
end Go.Proofs.Ytphhflkpdejodaa
