/-
  No cell of these rows narrows 'for every input' (looked for: loops, veiled, ifaces, maps, wideKeys, modest, calm, conditions, laid).
  DERIVED. THE GIVEN ROWS OF THIS SEAT. 3 by the template 'for every input the law returns true; each argument reads behind the call as it read before'; 0 by the template 'total and deterministic' (their statements: YtmbnikcnmjpheaaTotals.lean).
  GIVEN WITH THE SEED: the statements are not yours to turn. If you find one false, say at which input.
  Laid BY PROGRAM, IN A SANDBOX (cutbox-rows.mjs): the forced cells as the released guide's own fill.sh prints them over the translation ba06d6e1d08fb05e… (all of the seat's roots in one cut). By AI agents, Wed Nov 11 2026. No macro, syntax, notation, axiom, sorry.
-/
import Derived.Test.YtmbnikcnmjpheaaChecked
import GoSem.Claim
import GoSem.ClaimJoined
import GoSem.ClaimMapViews
import Derived.JoinedTies
import Derived.KernelRfl
namespace Go.Proofs.Ytmbnikcnmjpheaa
/- THE CELL 'sum', in the pinned program and in every row, IS THE sha256 OF THE DUMP (.gsa) THAT YtmbnikcnmjpheaaProg.lean LOADS. Nothing in Lean hashes anything: it is a label: what it is worth is what the hold of that sum in a sandbox is worth. -/
noncomputable def Try.pinned : Pinned := { name := "ytmbnikcnmjpheaa", sum := "ba06d6e1d08fb05efdbc772888d3b17e5a297699624e46a56fe65e70a98f7571", checked := Try.checked }
namespace Rows
def none {H : Type} : Left H := { results := [], args := [] }

/-- 'scuttlebuttlaw17.LeaseRoom': WHATEVER THE INPUT: true; the input reads as it did. -/
def leaseRoomSpec : ChangeSpec := { name := "leaseRoom", fn := fun _ => fun
  | [d1, d2, d3] => { results := [.lit (.bool true)], args := [d1, d2, d3] }
  | _ => none }
def leaseRoomRow : OpenClaim := { program := "ytmbnikcnmjpheaa", sum := "ba06d6e1d08fb05efdbc772888d3b17e5a297699624e46a56fe65e70a98f7571", func := "scuttlebutt/scuttlebuttlaw17.LeaseRoom", spec := "leaseRoom", inPlace := ["math.archFloor", "math.Float64bits", "math.Float64frombits", "math.archTrunc"], unfollowed := true, recurses := true, apart := false }
def LeaseRoomSaid : Prop := leaseRoomRow.holds Try.pinned (OpenSpec.ofChange leaseRoomSpec)

/-- ITS FALSE NEIGHBOUR: 'it returns false'. Refute it at one input. -/
def leaseRoomWrong : ChangeSpec := { name := "leaseRoom", fn := fun _ => fun
  | [d1, d2, d3] => { results := [.lit (.bool false)], args := [d1, d2, d3] }
  | _ => none }
def LeaseRoomWrongFalsely : Prop := leaseRoomRow.holds Try.pinned (OpenSpec.ofChange leaseRoomWrong)

/-- 'scuttlebuttlaw17.LeaseGone': WHATEVER THE INPUT: true; the input reads as it did. -/
def leaseGoneSpec : ChangeSpec := { name := "leaseGone", fn := fun _ => fun
  | [d1, d2, d3] => { results := [.lit (.bool true)], args := [d1, d2, d3] }
  | _ => none }
def leaseGoneRow : OpenClaim := { program := "ytmbnikcnmjpheaa", sum := "ba06d6e1d08fb05efdbc772888d3b17e5a297699624e46a56fe65e70a98f7571", func := "scuttlebutt/scuttlebuttlaw17.LeaseGone", spec := "leaseGone", inPlace := ["math.archFloor", "math.Float64bits", "math.Float64frombits", "math.archTrunc"], unfollowed := true, recurses := true, apart := false }
def LeaseGoneSaid : Prop := leaseGoneRow.holds Try.pinned (OpenSpec.ofChange leaseGoneSpec)

/-- ITS FALSE NEIGHBOUR: 'it returns false'. Refute it at one input. -/
def leaseGoneWrong : ChangeSpec := { name := "leaseGone", fn := fun _ => fun
  | [d1, d2, d3] => { results := [.lit (.bool false)], args := [d1, d2, d3] }
  | _ => none }
def LeaseGoneWrongFalsely : Prop := leaseGoneRow.holds Try.pinned (OpenSpec.ofChange leaseGoneWrong)

/-- 'scuttlebuttlaw17.LeasesHeld': WHATEVER THE INPUT: true; the input reads as it did. -/
def leasesHeldSpec : ChangeSpec := { name := "leasesHeld", fn := fun _ => fun
  | [d1, d2, d3] => { results := [.lit (.bool true)], args := [d1, d2, d3] }
  | _ => none }
def leasesHeldRow : OpenClaim := { program := "ytmbnikcnmjpheaa", sum := "ba06d6e1d08fb05efdbc772888d3b17e5a297699624e46a56fe65e70a98f7571", func := "scuttlebutt/scuttlebuttlaw17.LeasesHeld", spec := "leasesHeld", inPlace := ["math.archFloor", "math.Float64bits", "math.Float64frombits", "math.archTrunc"], unfollowed := true, recurses := true, apart := false }
def LeasesHeldSaid : Prop := leasesHeldRow.holds Try.pinned (OpenSpec.ofChange leasesHeldSpec)

/-- ITS FALSE NEIGHBOUR: 'it returns false'. Refute it at one input. -/
def leasesHeldWrong : ChangeSpec := { name := "leasesHeld", fn := fun _ => fun
  | [d1, d2, d3] => { results := [.lit (.bool false)], args := [d1, d2, d3] }
  | _ => none }
def LeasesHeldWrongFalsely : Prop := leasesHeldRow.holds Try.pinned (OpenSpec.ofChange leasesHeldWrong)

/- THE SECOND FORM. 'bulk': how many values and letters a reading holds, each counted each time it is reached (what is shared counts as often as it is met; a slice's spare places count too). A statement '..UptoSaid' is the law's where the arguments, and the package variables that the reading takes, are together of bulk at most 1048576: NARROWER than '..Said'. Prove '..Said' where nothing that the law and all that it calls make is longer than what came in: it says more and counts as full. Else prove '..UptoSaid'. A law counts once. -/
mutual
def uptoBulk {H : Type} : DataW H → Nat
  | .lit (.string bytes) => bytes.length + 1
  | .lit _ => 1
  | .nil => 1
  | .ptr d => uptoBulk d + 1
  | .slice elems spare => uptoBulkAll elems + uptoBulkAll spare + 1
  | .agg parts => uptoBulkAll parts + 1
  | .iface _ d => uptoBulk d + 1
  | .map entries => uptoBulkEntries entries + 1
  | .held _ => 1
def uptoBulkAll {H : Type} : List (DataW H) → Nat
  | [] => 0
  | d :: r => uptoBulk d + uptoBulkAll r
def uptoBulkEntries {H : Type} : List (Lit × DataW H) → Nat
  | [] => 0
  | x :: r => uptoBulkEntry x + uptoBulkEntries r
def uptoBulkEntry {H : Type} : Lit × DataW H → Nat
  | (.string bytes, d) => bytes.length + uptoBulk d + 1
  | (_, d) => uptoBulk d + 1
 end
def uptoSmall : (H : Type) → List (DataW H) → Bool := fun _ ds => decide (uptoBulkAll ds ≤ 1048576)
def OpenSpec.upto (s : _root_.Go.ChangeSpec) : _root_.Go.OpenSpec := { _root_.Go.OpenSpec.ofChange s with cond := some uptoSmall }

/-- 'scuttlebuttlaw17.LeaseRoom', WHERE WHAT IT READS IS OF BULK AT MOST 1048576: true; the input reads as it did. -/
def leaseRoomUptoRow : OpenClaim := { program := "ytmbnikcnmjpheaa", sum := "ba06d6e1d08fb05efdbc772888d3b17e5a297699624e46a56fe65e70a98f7571", func := "scuttlebutt/scuttlebuttlaw17.LeaseRoom", spec := "leaseRoom", inPlace := ["math.archFloor", "math.Float64bits", "math.Float64frombits", "math.archTrunc"], unfollowed := true, recurses := true, apart := false, narrowed := true }
def LeaseRoomUptoSaid : Prop := leaseRoomUptoRow.holds Try.pinned (OpenSpec.upto leaseRoomSpec)

/-- 'scuttlebuttlaw17.LeaseGone', WHERE WHAT IT READS IS OF BULK AT MOST 1048576: true; the input reads as it did. -/
def leaseGoneUptoRow : OpenClaim := { program := "ytmbnikcnmjpheaa", sum := "ba06d6e1d08fb05efdbc772888d3b17e5a297699624e46a56fe65e70a98f7571", func := "scuttlebutt/scuttlebuttlaw17.LeaseGone", spec := "leaseGone", inPlace := ["math.archFloor", "math.Float64bits", "math.Float64frombits", "math.archTrunc"], unfollowed := true, recurses := true, apart := false, narrowed := true }
def LeaseGoneUptoSaid : Prop := leaseGoneUptoRow.holds Try.pinned (OpenSpec.upto leaseGoneSpec)

/-- 'scuttlebuttlaw17.LeasesHeld', WHERE WHAT IT READS IS OF BULK AT MOST 1048576: true; the input reads as it did. -/
def leasesHeldUptoRow : OpenClaim := { program := "ytmbnikcnmjpheaa", sum := "ba06d6e1d08fb05efdbc772888d3b17e5a297699624e46a56fe65e70a98f7571", func := "scuttlebutt/scuttlebuttlaw17.LeasesHeld", spec := "leasesHeld", inPlace := ["math.archFloor", "math.Float64bits", "math.Float64frombits", "math.archTrunc"], unfollowed := true, recurses := true, apart := false, narrowed := true }
def LeasesHeldUptoSaid : Prop := leasesHeldUptoRow.holds Try.pinned (OpenSpec.upto leasesHeldSpec)

end Rows
end Go.Proofs.Ytmbnikcnmjpheaa
