/-
  No cell of these rows narrows 'for every input' (looked for: loops, veiled, ifaces, maps, wideKeys, modest, calm, conditions, laid).
  DERIVED. THE GIVEN ROWS OF THIS SEAT. 4 by the template 'for every input the law returns true; each argument reads behind the call as it read before'; 0 by the template 'total and deterministic' (their statements: YtpbhfolaoccpkaaGreatTotals.lean).
  GIVEN WITH THE SEED: the statements are not yours to turn. If you find one false, say at which input.
  Laid BY PROGRAM, IN A SANDBOX (cutbox-rows.mjs): the forced cells as the released guide's own fill.sh prints them over the translation b58495c69fb6bfb6… (all of the seat's roots in one cut). By AI agents, Wed Nov 11 2026. No macro, syntax, notation, axiom, sorry.
-/
import Derived.Test.YtpbhfolaoccpkaaGreatChecked
import GoSem.Claim
import GoSem.ClaimJoined
import GoSem.ClaimMapViews
import Derived.JoinedTies
import Derived.KernelRfl
namespace Go.Proofs.YtpbhfolaoccpkaaGreat
/- THE CELL 'sum', in the pinned program and in every row, IS THE sha256 OF THE DUMP (.gsa) THAT YtpbhfolaoccpkaaGreatProg.lean LOADS. Nothing in Lean hashes anything: it is a label: what it is worth is what the hold of that sum in a sandbox is worth. -/
noncomputable def Tryz.pinned : Pinned := { name := "ytpbhfolaoccpkaagreat", sum := "b58495c69fb6bfb6d267b6200f911b607db144c391549dc5032b8a60cd1f3605", checked := Tryz.checked }
namespace Rows
def none {H : Type} : Left H := { results := [], args := [] }

/-- 'scuttlebuttlaw19.NodeTalks': WHATEVER THE INPUT: true; the input reads as it did. -/
def nodeTalksSpec : ChangeSpec := { name := "nodeTalks", fn := fun _ => fun
  | [d1, d2, d3] => { results := [.lit (.bool true)], args := [d1, d2, d3] }
  | _ => none }
def nodeTalksRow : OpenClaim := { program := "ytpbhfolaoccpkaagreat", sum := "b58495c69fb6bfb6d267b6200f911b607db144c391549dc5032b8a60cd1f3605", func := "scuttlebutt/scuttlebuttlaw19.NodeTalks", spec := "nodeTalks", inPlace := ["math.archFloor", "math.Float64bits", "math.Float64frombits", "math.archTrunc", "internal/bytealg.IndexByteString", "internal/bytealg.IndexString", "slices.overlaps[int]"], unfollowed := true, recurses := true, named := ["internal/bytealg.MaxLen"], apart := false }
def NodeTalksSaid : Prop := nodeTalksRow.holds Tryz.pinned (OpenSpec.ofChange nodeTalksSpec)

/-- ITS FALSE NEIGHBOUR: 'it returns false'. Refute it at one input. -/
def nodeTalksWrong : ChangeSpec := { name := "nodeTalks", fn := fun _ => fun
  | [d1, d2, d3] => { results := [.lit (.bool false)], args := [d1, d2, d3] }
  | _ => none }
def NodeTalksWrongFalsely : Prop := nodeTalksRow.holds Tryz.pinned (OpenSpec.ofChange nodeTalksWrong)

/-- 'scuttlebuttlaw19.NodeJoins': WHATEVER THE INPUT: true; the input reads as it did. -/
def nodeJoinsSpec : ChangeSpec := { name := "nodeJoins", fn := fun _ => fun
  | [d1, d2, d3] => { results := [.lit (.bool true)], args := [d1, d2, d3] }
  | _ => none }
def nodeJoinsRow : OpenClaim := { program := "ytpbhfolaoccpkaagreat", sum := "b58495c69fb6bfb6d267b6200f911b607db144c391549dc5032b8a60cd1f3605", func := "scuttlebutt/scuttlebuttlaw19.NodeJoins", spec := "nodeJoins", inPlace := ["math.archFloor", "math.Float64bits", "math.Float64frombits", "math.archTrunc", "internal/bytealg.IndexByteString", "internal/bytealg.IndexString", "slices.overlaps[int]"], unfollowed := true, recurses := true, named := ["internal/bytealg.MaxLen"], apart := false }
def NodeJoinsSaid : Prop := nodeJoinsRow.holds Tryz.pinned (OpenSpec.ofChange nodeJoinsSpec)

/-- ITS FALSE NEIGHBOUR: 'it returns false'. Refute it at one input. -/
def nodeJoinsWrong : ChangeSpec := { name := "nodeJoins", fn := fun _ => fun
  | [d1, d2, d3] => { results := [.lit (.bool false)], args := [d1, d2, d3] }
  | _ => none }
def NodeJoinsWrongFalsely : Prop := nodeJoinsRow.holds Tryz.pinned (OpenSpec.ofChange nodeJoinsWrong)

/-- 'scuttlebuttlaw19.NodeRelays': WHATEVER THE INPUT: true; the input reads as it did. -/
def nodeRelaysSpec : ChangeSpec := { name := "nodeRelays", fn := fun _ => fun
  | [d1, d2, d3, d4] => { results := [.lit (.bool true)], args := [d1, d2, d3, d4] }
  | _ => none }
def nodeRelaysRow : OpenClaim := { program := "ytpbhfolaoccpkaagreat", sum := "b58495c69fb6bfb6d267b6200f911b607db144c391549dc5032b8a60cd1f3605", func := "scuttlebutt/scuttlebuttlaw19.NodeRelays", spec := "nodeRelays", inPlace := ["math.archFloor", "math.Float64bits", "math.Float64frombits", "math.archTrunc", "internal/bytealg.IndexByteString", "internal/bytealg.IndexString", "slices.overlaps[int]"], unfollowed := true, recurses := true, named := ["internal/bytealg.MaxLen"], apart := false }
def NodeRelaysSaid : Prop := nodeRelaysRow.holds Tryz.pinned (OpenSpec.ofChange nodeRelaysSpec)

/-- ITS FALSE NEIGHBOUR: 'it returns false'. Refute it at one input. -/
def nodeRelaysWrong : ChangeSpec := { name := "nodeRelays", fn := fun _ => fun
  | [d1, d2, d3, d4] => { results := [.lit (.bool false)], args := [d1, d2, d3, d4] }
  | _ => none }
def NodeRelaysWrongFalsely : Prop := nodeRelaysRow.holds Tryz.pinned (OpenSpec.ofChange nodeRelaysWrong)

/-- 'scuttlebuttlaw19.NodeSees': WHATEVER THE INPUT: true; the input reads as it did. -/
def nodeSeesSpec : ChangeSpec := { name := "nodeSees", fn := fun _ => fun
  | [d1, d2] => { results := [.lit (.bool true)], args := [d1, d2] }
  | _ => none }
def nodeSeesRow : OpenClaim := { program := "ytpbhfolaoccpkaagreat", sum := "b58495c69fb6bfb6d267b6200f911b607db144c391549dc5032b8a60cd1f3605", func := "scuttlebutt/scuttlebuttlaw19.NodeSees", spec := "nodeSees", inPlace := ["math.archFloor", "math.Float64bits", "math.Float64frombits", "math.archTrunc", "internal/bytealg.IndexByteString", "internal/bytealg.IndexString", "slices.overlaps[int]"], unfollowed := true, recurses := true, named := ["internal/bytealg.MaxLen"], apart := false }
def NodeSeesSaid : Prop := nodeSeesRow.holds Tryz.pinned (OpenSpec.ofChange nodeSeesSpec)

/-- ITS FALSE NEIGHBOUR: 'it returns false'. Refute it at one input. -/
def nodeSeesWrong : ChangeSpec := { name := "nodeSees", fn := fun _ => fun
  | [d1, d2] => { results := [.lit (.bool false)], args := [d1, d2] }
  | _ => none }
def NodeSeesWrongFalsely : Prop := nodeSeesRow.holds Tryz.pinned (OpenSpec.ofChange nodeSeesWrong)

/- THE SECOND FORM. 'bulk': how many values and letters a reading holds, each counted each time it is reached (what is shared counts as often as it is met; a slice's spare places count too). A statement '..UptoSaid' is the law's where the arguments, and the package variables that the reading takes, are together of bulk at most 1048576: NARROWER than '..Said'. Prove '..Said' where nothing that the law and all that it calls make is longer than what came in: it says more and counts as full. Else prove '..UptoSaid'. A law counts once. -/
mutual
def uptoBulk {H : Type} : DataW H → Nat
  | .lit (.string bytes) => bytes.length + 1
  | .lit _ => 1
  | .nil => 1
  | .ptr d => uptoBulk d + 1
  | .slice elems spare => uptoBulkAll elems + uptoBulkAll spare + 1
  | .agg parts => uptoBulkAll parts + 1
  | .iface _ d => uptoBulk d + 1
  | .map entries => uptoBulkEntries entries + 1
  | .held _ => 1
def uptoBulkAll {H : Type} : List (DataW H) → Nat
  | [] => 0
  | d :: r => uptoBulk d + uptoBulkAll r
def uptoBulkEntries {H : Type} : List (Lit × DataW H) → Nat
  | [] => 0
  | x :: r => uptoBulkEntry x + uptoBulkEntries r
def uptoBulkEntry {H : Type} : Lit × DataW H → Nat
  | (.string bytes, d) => bytes.length + uptoBulk d + 1
  | (_, d) => uptoBulk d + 1
 end
def uptoSmall : (H : Type) → List (DataW H) → Bool := fun _ ds => decide (uptoBulkAll ds ≤ 1048576)
def OpenSpec.upto (s : _root_.Go.ChangeSpec) : _root_.Go.OpenSpec := { _root_.Go.OpenSpec.ofChange s with cond := some uptoSmall }

/-- 'scuttlebuttlaw19.NodeTalks', WHERE WHAT IT READS IS OF BULK AT MOST 1048576: true; the input reads as it did. -/
def nodeTalksUptoRow : OpenClaim := { program := "ytpbhfolaoccpkaagreat", sum := "b58495c69fb6bfb6d267b6200f911b607db144c391549dc5032b8a60cd1f3605", func := "scuttlebutt/scuttlebuttlaw19.NodeTalks", spec := "nodeTalks", inPlace := ["math.archFloor", "math.Float64bits", "math.Float64frombits", "math.archTrunc", "internal/bytealg.IndexByteString", "internal/bytealg.IndexString", "slices.overlaps[int]"], unfollowed := true, recurses := true, named := ["internal/bytealg.MaxLen"], apart := false, narrowed := true }
def NodeTalksUptoSaid : Prop := nodeTalksUptoRow.holds Tryz.pinned (OpenSpec.upto nodeTalksSpec)

/-- 'scuttlebuttlaw19.NodeJoins', WHERE WHAT IT READS IS OF BULK AT MOST 1048576: true; the input reads as it did. -/
def nodeJoinsUptoRow : OpenClaim := { program := "ytpbhfolaoccpkaagreat", sum := "b58495c69fb6bfb6d267b6200f911b607db144c391549dc5032b8a60cd1f3605", func := "scuttlebutt/scuttlebuttlaw19.NodeJoins", spec := "nodeJoins", inPlace := ["math.archFloor", "math.Float64bits", "math.Float64frombits", "math.archTrunc", "internal/bytealg.IndexByteString", "internal/bytealg.IndexString", "slices.overlaps[int]"], unfollowed := true, recurses := true, named := ["internal/bytealg.MaxLen"], apart := false, narrowed := true }
def NodeJoinsUptoSaid : Prop := nodeJoinsUptoRow.holds Tryz.pinned (OpenSpec.upto nodeJoinsSpec)

/-- 'scuttlebuttlaw19.NodeRelays', WHERE WHAT IT READS IS OF BULK AT MOST 1048576: true; the input reads as it did. -/
def nodeRelaysUptoRow : OpenClaim := { program := "ytpbhfolaoccpkaagreat", sum := "b58495c69fb6bfb6d267b6200f911b607db144c391549dc5032b8a60cd1f3605", func := "scuttlebutt/scuttlebuttlaw19.NodeRelays", spec := "nodeRelays", inPlace := ["math.archFloor", "math.Float64bits", "math.Float64frombits", "math.archTrunc", "internal/bytealg.IndexByteString", "internal/bytealg.IndexString", "slices.overlaps[int]"], unfollowed := true, recurses := true, named := ["internal/bytealg.MaxLen"], apart := false, narrowed := true }
def NodeRelaysUptoSaid : Prop := nodeRelaysUptoRow.holds Tryz.pinned (OpenSpec.upto nodeRelaysSpec)

/-- 'scuttlebuttlaw19.NodeSees', WHERE WHAT IT READS IS OF BULK AT MOST 1048576: true; the input reads as it did. -/
def nodeSeesUptoRow : OpenClaim := { program := "ytpbhfolaoccpkaagreat", sum := "b58495c69fb6bfb6d267b6200f911b607db144c391549dc5032b8a60cd1f3605", func := "scuttlebutt/scuttlebuttlaw19.NodeSees", spec := "nodeSees", inPlace := ["math.archFloor", "math.Float64bits", "math.Float64frombits", "math.archTrunc", "internal/bytealg.IndexByteString", "internal/bytealg.IndexString", "slices.overlaps[int]"], unfollowed := true, recurses := true, named := ["internal/bytealg.MaxLen"], apart := false, narrowed := true }
def NodeSeesUptoSaid : Prop := nodeSeesUptoRow.holds Tryz.pinned (OpenSpec.upto nodeSeesSpec)

end Rows
end Go.Proofs.YtpbhfolaoccpkaaGreat
