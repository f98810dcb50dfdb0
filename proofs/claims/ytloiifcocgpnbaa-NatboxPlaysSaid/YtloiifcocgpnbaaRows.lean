/-
  No cell of these rows narrows 'for every input' (looked for: loops, veiled, ifaces, maps, wideKeys, modest, calm, conditions, laid).
  DERIVED. THE GIVEN ROWS OF THIS SEAT. 7 by the template 'for every input the law returns true; each argument reads behind the call as it read before'; 0 by the template 'total and deterministic' (their statements: YtloiifcocgpnbaaTotals.lean).
  GIVEN WITH THE SEED: the statements are not yours to turn. If you find one false, say at which input.
  Laid BY PROGRAM, IN A SANDBOX (cutbox-rows.mjs): the forced cells as the released guide's own fill.sh prints them over the translation a7515efa5c768ca5… (all of the seat's roots in one cut). By AI agents, Wed Nov 11 2026. No macro, syntax, notation, axiom, sorry.
-/
import Derived.Test.YtloiifcocgpnbaaChecked
import GoSem.Claim
import GoSem.ClaimJoined
import GoSem.ClaimMapViews
import Derived.JoinedTies
import Derived.KernelRfl
namespace Go.Proofs.Ytloiifcocgpnbaa
/- THE CELL 'sum', in the pinned program and in every row, IS THE sha256 OF THE DUMP (.gsa) THAT YtloiifcocgpnbaaProg.lean LOADS. Nothing in Lean hashes anything: it is a label: what it is worth is what the hold of that sum in a sandbox is worth. -/
noncomputable def Try.pinned : Pinned := { name := "ytloiifcocgpnbaa", sum := "a7515efa5c768ca530824bce958bf2b8dc01fc614a89dc9eb99318c325005029", checked := Try.checked }
namespace Rows
def none {H : Type} : Left H := { results := [], args := [] }

/-- 'scuttlebuttlaw08.NatboxHolds': WHATEVER THE INPUT: true; the input reads as it did. -/
def natboxHoldsSpec : ChangeSpec := { name := "natboxHolds", fn := fun _ => fun
  | [d1, d2, d3, d4] => { results := [.lit (.bool true)], args := [d1, d2, d3, d4] }
  | _ => none }
def natboxHoldsRow : OpenClaim := { program := "ytloiifcocgpnbaa", sum := "a7515efa5c768ca530824bce958bf2b8dc01fc614a89dc9eb99318c325005029", func := "scuttlebutt/scuttlebuttlaw08.NatboxHolds", spec := "natboxHolds", unfollowed := true, recurses := true, apart := false }
def NatboxHoldsSaid : Prop := natboxHoldsRow.holds Try.pinned (OpenSpec.ofChange natboxHoldsSpec)

/-- ITS FALSE NEIGHBOUR: 'it returns false'. Refute it at one input. -/
def natboxHoldsWrong : ChangeSpec := { name := "natboxHolds", fn := fun _ => fun
  | [d1, d2, d3, d4] => { results := [.lit (.bool false)], args := [d1, d2, d3, d4] }
  | _ => none }
def NatboxHoldsWrongFalsely : Prop := natboxHoldsRow.holds Try.pinned (OpenSpec.ofChange natboxHoldsWrong)

/-- 'scuttlebuttlaw08.NatboxMaps': WHATEVER THE INPUT: true; the input reads as it did. -/
def natboxMapsSpec : ChangeSpec := { name := "natboxMaps", fn := fun _ => fun
  | [d1, d2, d3] => { results := [.lit (.bool true)], args := [d1, d2, d3] }
  | _ => none }
def natboxMapsRow : OpenClaim := { program := "ytloiifcocgpnbaa", sum := "a7515efa5c768ca530824bce958bf2b8dc01fc614a89dc9eb99318c325005029", func := "scuttlebutt/scuttlebuttlaw08.NatboxMaps", spec := "natboxMaps", unfollowed := true, recurses := true, apart := false }
def NatboxMapsSaid : Prop := natboxMapsRow.holds Try.pinned (OpenSpec.ofChange natboxMapsSpec)

/-- ITS FALSE NEIGHBOUR: 'it returns false'. Refute it at one input. -/
def natboxMapsWrong : ChangeSpec := { name := "natboxMaps", fn := fun _ => fun
  | [d1, d2, d3] => { results := [.lit (.bool false)], args := [d1, d2, d3] }
  | _ => none }
def NatboxMapsWrongFalsely : Prop := natboxMapsRow.holds Try.pinned (OpenSpec.ofChange natboxMapsWrong)

/-- 'scuttlebuttlaw08.NatboxAnew': WHATEVER THE INPUT: true; the input reads as it did. -/
def natboxAnewSpec : ChangeSpec := { name := "natboxAnew", fn := fun _ => fun
  | [d1, d2, d3] => { results := [.lit (.bool true)], args := [d1, d2, d3] }
  | _ => none }
def natboxAnewRow : OpenClaim := { program := "ytloiifcocgpnbaa", sum := "a7515efa5c768ca530824bce958bf2b8dc01fc614a89dc9eb99318c325005029", func := "scuttlebutt/scuttlebuttlaw08.NatboxAnew", spec := "natboxAnew", unfollowed := true, recurses := true, apart := false }
def NatboxAnewSaid : Prop := natboxAnewRow.holds Try.pinned (OpenSpec.ofChange natboxAnewSpec)

/-- ITS FALSE NEIGHBOUR: 'it returns false'. Refute it at one input. -/
def natboxAnewWrong : ChangeSpec := { name := "natboxAnew", fn := fun _ => fun
  | [d1, d2, d3] => { results := [.lit (.bool false)], args := [d1, d2, d3] }
  | _ => none }
def NatboxAnewWrongFalsely : Prop := natboxAnewRow.holds Try.pinned (OpenSpec.ofChange natboxAnewWrong)

/-- 'scuttlebuttlaw08.NatboxEvicts': WHATEVER THE INPUT: true; the input reads as it did. -/
def natboxEvictsSpec : ChangeSpec := { name := "natboxEvicts", fn := fun _ => fun
  | [d1, d2] => { results := [.lit (.bool true)], args := [d1, d2] }
  | _ => none }
def natboxEvictsRow : OpenClaim := { program := "ytloiifcocgpnbaa", sum := "a7515efa5c768ca530824bce958bf2b8dc01fc614a89dc9eb99318c325005029", func := "scuttlebutt/scuttlebuttlaw08.NatboxEvicts", spec := "natboxEvicts", unfollowed := true, recurses := true, apart := false }
def NatboxEvictsSaid : Prop := natboxEvictsRow.holds Try.pinned (OpenSpec.ofChange natboxEvictsSpec)

/-- ITS FALSE NEIGHBOUR: 'it returns false'. Refute it at one input. -/
def natboxEvictsWrong : ChangeSpec := { name := "natboxEvicts", fn := fun _ => fun
  | [d1, d2] => { results := [.lit (.bool false)], args := [d1, d2] }
  | _ => none }
def NatboxEvictsWrongFalsely : Prop := natboxEvictsRow.holds Try.pinned (OpenSpec.ofChange natboxEvictsWrong)

/-- 'scuttlebuttlaw08.NatboxPlays': WHATEVER THE INPUT: true; the input reads as it did. -/
def natboxPlaysSpec : ChangeSpec := { name := "natboxPlays", fn := fun _ => fun
  | [d1, d2, d3, d4, d5, d6] => { results := [.lit (.bool true)], args := [d1, d2, d3, d4, d5, d6] }
  | _ => none }
def natboxPlaysRow : OpenClaim := { program := "ytloiifcocgpnbaa", sum := "a7515efa5c768ca530824bce958bf2b8dc01fc614a89dc9eb99318c325005029", func := "scuttlebutt/scuttlebuttlaw08.NatboxPlays", spec := "natboxPlays", unfollowed := true, recurses := true, apart := false }
def NatboxPlaysSaid : Prop := natboxPlaysRow.holds Try.pinned (OpenSpec.ofChange natboxPlaysSpec)

/-- ITS FALSE NEIGHBOUR: 'it returns false'. Refute it at one input. -/
def natboxPlaysWrong : ChangeSpec := { name := "natboxPlays", fn := fun _ => fun
  | [d1, d2, d3, d4, d5, d6] => { results := [.lit (.bool false)], args := [d1, d2, d3, d4, d5, d6] }
  | _ => none }
def NatboxPlaysWrongFalsely : Prop := natboxPlaysRow.holds Try.pinned (OpenSpec.ofChange natboxPlaysWrong)

/-- 'scuttlebuttlaw08.NatboxThrough': WHATEVER THE INPUT: true; the input reads as it did. -/
def natboxThroughSpec : ChangeSpec := { name := "natboxThrough", fn := fun _ => fun
  | [d1, d2] => { results := [.lit (.bool true)], args := [d1, d2] }
  | _ => none }
def natboxThroughRow : OpenClaim := { program := "ytloiifcocgpnbaa", sum := "a7515efa5c768ca530824bce958bf2b8dc01fc614a89dc9eb99318c325005029", func := "scuttlebutt/scuttlebuttlaw08.NatboxThrough", spec := "natboxThrough", unfollowed := true, recurses := true, apart := false }
def NatboxThroughSaid : Prop := natboxThroughRow.holds Try.pinned (OpenSpec.ofChange natboxThroughSpec)

/-- ITS FALSE NEIGHBOUR: 'it returns false'. Refute it at one input. -/
def natboxThroughWrong : ChangeSpec := { name := "natboxThrough", fn := fun _ => fun
  | [d1, d2] => { results := [.lit (.bool false)], args := [d1, d2] }
  | _ => none }
def NatboxThroughWrongFalsely : Prop := natboxThroughRow.holds Try.pinned (OpenSpec.ofChange natboxThroughWrong)

/-- 'scuttlebuttlaw08.NatboxPunch': WHATEVER THE INPUT: true; the input reads as it did. -/
def natboxPunchSpec : ChangeSpec := { name := "natboxPunch", fn := fun _ => fun
  | [d1, d2] => { results := [.lit (.bool true)], args := [d1, d2] }
  | _ => none }
def natboxPunchRow : OpenClaim := { program := "ytloiifcocgpnbaa", sum := "a7515efa5c768ca530824bce958bf2b8dc01fc614a89dc9eb99318c325005029", func := "scuttlebutt/scuttlebuttlaw08.NatboxPunch", spec := "natboxPunch", unfollowed := true, recurses := true, apart := false }
def NatboxPunchSaid : Prop := natboxPunchRow.holds Try.pinned (OpenSpec.ofChange natboxPunchSpec)

/-- ITS FALSE NEIGHBOUR: 'it returns false'. Refute it at one input. -/
def natboxPunchWrong : ChangeSpec := { name := "natboxPunch", fn := fun _ => fun
  | [d1, d2] => { results := [.lit (.bool false)], args := [d1, d2] }
  | _ => none }
def NatboxPunchWrongFalsely : Prop := natboxPunchRow.holds Try.pinned (OpenSpec.ofChange natboxPunchWrong)

/- THE SECOND FORM. 'bulk': how many values and letters a reading holds, each counted each time it is reached (what is shared counts as often as it is met; a slice's spare places count too). A statement '..UptoSaid' is the law's where the arguments, and the package variables that the reading takes, are together of bulk at most 1048576: NARROWER than '..Said'. Prove '..Said' where nothing that the law and all that it calls make is longer than what came in: it says more and counts as full. Else prove '..UptoSaid'. A law counts once. -/
mutual
def uptoBulk {H : Type} : DataW H → Nat
  | .lit (.string bytes) => bytes.length + 1
  | .lit _ => 1
  | .nil => 1
  | .ptr d => uptoBulk d + 1
  | .slice elems spare => uptoBulkAll elems + uptoBulkAll spare + 1
  | .agg parts => uptoBulkAll parts + 1
  | .iface _ d => uptoBulk d + 1
  | .map entries => uptoBulkEntries entries + 1
  | .held _ => 1
def uptoBulkAll {H : Type} : List (DataW H) → Nat
  | [] => 0
  | d :: r => uptoBulk d + uptoBulkAll r
def uptoBulkEntries {H : Type} : List (Lit × DataW H) → Nat
  | [] => 0
  | x :: r => uptoBulkEntry x + uptoBulkEntries r
def uptoBulkEntry {H : Type} : Lit × DataW H → Nat
  | (.string bytes, d) => bytes.length + uptoBulk d + 1
  | (_, d) => uptoBulk d + 1
 end
def uptoSmall : (H : Type) → List (DataW H) → Bool := fun _ ds => decide (uptoBulkAll ds ≤ 1048576)
def OpenSpec.upto (s : _root_.Go.ChangeSpec) : _root_.Go.OpenSpec := { _root_.Go.OpenSpec.ofChange s with cond := some uptoSmall }

/-- 'scuttlebuttlaw08.NatboxHolds', WHERE WHAT IT READS IS OF BULK AT MOST 1048576: true; the input reads as it did. -/
def natboxHoldsUptoRow : OpenClaim := { program := "ytloiifcocgpnbaa", sum := "a7515efa5c768ca530824bce958bf2b8dc01fc614a89dc9eb99318c325005029", func := "scuttlebutt/scuttlebuttlaw08.NatboxHolds", spec := "natboxHolds", unfollowed := true, recurses := true, apart := false, narrowed := true }
def NatboxHoldsUptoSaid : Prop := natboxHoldsUptoRow.holds Try.pinned (OpenSpec.upto natboxHoldsSpec)

/-- 'scuttlebuttlaw08.NatboxMaps', WHERE WHAT IT READS IS OF BULK AT MOST 1048576: true; the input reads as it did. -/
def natboxMapsUptoRow : OpenClaim := { program := "ytloiifcocgpnbaa", sum := "a7515efa5c768ca530824bce958bf2b8dc01fc614a89dc9eb99318c325005029", func := "scuttlebutt/scuttlebuttlaw08.NatboxMaps", spec := "natboxMaps", unfollowed := true, recurses := true, apart := false, narrowed := true }
def NatboxMapsUptoSaid : Prop := natboxMapsUptoRow.holds Try.pinned (OpenSpec.upto natboxMapsSpec)

/-- 'scuttlebuttlaw08.NatboxAnew', WHERE WHAT IT READS IS OF BULK AT MOST 1048576: true; the input reads as it did. -/
def natboxAnewUptoRow : OpenClaim := { program := "ytloiifcocgpnbaa", sum := "a7515efa5c768ca530824bce958bf2b8dc01fc614a89dc9eb99318c325005029", func := "scuttlebutt/scuttlebuttlaw08.NatboxAnew", spec := "natboxAnew", unfollowed := true, recurses := true, apart := false, narrowed := true }
def NatboxAnewUptoSaid : Prop := natboxAnewUptoRow.holds Try.pinned (OpenSpec.upto natboxAnewSpec)

/-- 'scuttlebuttlaw08.NatboxEvicts', WHERE WHAT IT READS IS OF BULK AT MOST 1048576: true; the input reads as it did. -/
def natboxEvictsUptoRow : OpenClaim := { program := "ytloiifcocgpnbaa", sum := "a7515efa5c768ca530824bce958bf2b8dc01fc614a89dc9eb99318c325005029", func := "scuttlebutt/scuttlebuttlaw08.NatboxEvicts", spec := "natboxEvicts", unfollowed := true, recurses := true, apart := false, narrowed := true }
def NatboxEvictsUptoSaid : Prop := natboxEvictsUptoRow.holds Try.pinned (OpenSpec.upto natboxEvictsSpec)

/-- 'scuttlebuttlaw08.NatboxPlays', WHERE WHAT IT READS IS OF BULK AT MOST 1048576: true; the input reads as it did. -/
def natboxPlaysUptoRow : OpenClaim := { program := "ytloiifcocgpnbaa", sum := "a7515efa5c768ca530824bce958bf2b8dc01fc614a89dc9eb99318c325005029", func := "scuttlebutt/scuttlebuttlaw08.NatboxPlays", spec := "natboxPlays", unfollowed := true, recurses := true, apart := false, narrowed := true }
def NatboxPlaysUptoSaid : Prop := natboxPlaysUptoRow.holds Try.pinned (OpenSpec.upto natboxPlaysSpec)

/-- 'scuttlebuttlaw08.NatboxThrough', WHERE WHAT IT READS IS OF BULK AT MOST 1048576: true; the input reads as it did. -/
def natboxThroughUptoRow : OpenClaim := { program := "ytloiifcocgpnbaa", sum := "a7515efa5c768ca530824bce958bf2b8dc01fc614a89dc9eb99318c325005029", func := "scuttlebutt/scuttlebuttlaw08.NatboxThrough", spec := "natboxThrough", unfollowed := true, recurses := true, apart := false, narrowed := true }
def NatboxThroughUptoSaid : Prop := natboxThroughUptoRow.holds Try.pinned (OpenSpec.upto natboxThroughSpec)

/-- 'scuttlebuttlaw08.NatboxPunch', WHERE WHAT IT READS IS OF BULK AT MOST 1048576: true; the input reads as it did. -/
def natboxPunchUptoRow : OpenClaim := { program := "ytloiifcocgpnbaa", sum := "a7515efa5c768ca530824bce958bf2b8dc01fc614a89dc9eb99318c325005029", func := "scuttlebutt/scuttlebuttlaw08.NatboxPunch", spec := "natboxPunch", unfollowed := true, recurses := true, apart := false, narrowed := true }
def NatboxPunchUptoSaid : Prop := natboxPunchUptoRow.holds Try.pinned (OpenSpec.upto natboxPunchSpec)

end Rows
end Go.Proofs.Ytloiifcocgpnbaa
