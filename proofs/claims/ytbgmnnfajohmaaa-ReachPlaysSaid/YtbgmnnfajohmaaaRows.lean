/-
  No cell of these rows narrows 'for every input' (looked for: loops, veiled, ifaces, maps, wideKeys, modest, calm, conditions, laid).
  DERIVED. THE GIVEN ROWS OF THIS SEAT. 6 by the template 'for every input the law returns true; each argument reads behind the call as it read before'; 0 by the template 'total and deterministic' (their statements: YtbgmnnfajohmaaaTotals.lean).
  GIVEN WITH THE SEED: the statements are not yours to turn. If you find one false, say at which input.
  Laid BY PROGRAM, IN A SANDBOX (cutbox-rows.mjs): the forced cells as the released guide's own fill.sh prints them over the translation 0a7261e2d9869e27… (all of the seat's roots in one cut). By AI agents, Wed Nov 11 2026. No macro, syntax, notation, axiom, sorry.
-/
import Derived.Test.YtbgmnnfajohmaaaChecked
import GoSem.Claim
import GoSem.ClaimJoined
import GoSem.ClaimMapViews
import Derived.JoinedTies
import Derived.KernelRfl
namespace Go.Proofs.Ytbgmnnfajohmaaa
/- THE CELL 'sum', in the pinned program and in every row, IS THE sha256 OF THE DUMP (.gsa) THAT YtbgmnnfajohmaaaProg.lean LOADS. Nothing in Lean hashes anything: it is a label: what it is worth is what the hold of that sum in a sandbox is worth. -/
noncomputable def Try.pinned : Pinned := { name := "ytbgmnnfajohmaaa", sum := "0a7261e2d9869e27199da4d06e38e9483d53e0a523a8c5a2aca2133b638f9268", checked := Try.checked }
namespace Rows
def none {H : Type} : Left H := { results := [], args := [] }

/-- 'scuttlebuttlaw16.ReachClass': WHATEVER THE INPUT: true; the input reads as it did. -/
def reachClassSpec : ChangeSpec := { name := "reachClass", fn := fun _ => fun
  | [d1, d2] => { results := [.lit (.bool true)], args := [d1, d2] }
  | _ => none }
def reachClassRow : OpenClaim := { program := "ytbgmnnfajohmaaa", sum := "0a7261e2d9869e27199da4d06e38e9483d53e0a523a8c5a2aca2133b638f9268", func := "scuttlebutt/scuttlebuttlaw16.ReachClass", spec := "reachClass", unfollowed := true, recurses := true, apart := false }
def ReachClassSaid : Prop := reachClassRow.holds Try.pinned (OpenSpec.ofChange reachClassSpec)

/-- ITS FALSE NEIGHBOUR: 'it returns false'. Refute it at one input. -/
def reachClassWrong : ChangeSpec := { name := "reachClass", fn := fun _ => fun
  | [d1, d2] => { results := [.lit (.bool false)], args := [d1, d2] }
  | _ => none }
def ReachClassWrongFalsely : Prop := reachClassRow.holds Try.pinned (OpenSpec.ofChange reachClassWrong)

/-- 'scuttlebuttlaw16.ReachVotes': WHATEVER THE INPUT: true; the input reads as it did. -/
def reachVotesSpec : ChangeSpec := { name := "reachVotes", fn := fun _ => fun
  | [d1, d2, d3] => { results := [.lit (.bool true)], args := [d1, d2, d3] }
  | _ => none }
def reachVotesRow : OpenClaim := { program := "ytbgmnnfajohmaaa", sum := "0a7261e2d9869e27199da4d06e38e9483d53e0a523a8c5a2aca2133b638f9268", func := "scuttlebutt/scuttlebuttlaw16.ReachVotes", spec := "reachVotes", unfollowed := true, recurses := true, apart := false }
def ReachVotesSaid : Prop := reachVotesRow.holds Try.pinned (OpenSpec.ofChange reachVotesSpec)

/-- ITS FALSE NEIGHBOUR: 'it returns false'. Refute it at one input. -/
def reachVotesWrong : ChangeSpec := { name := "reachVotes", fn := fun _ => fun
  | [d1, d2, d3] => { results := [.lit (.bool false)], args := [d1, d2, d3] }
  | _ => none }
def ReachVotesWrongFalsely : Prop := reachVotesRow.holds Try.pinned (OpenSpec.ofChange reachVotesWrong)

/-- 'scuttlebuttlaw16.ReachOnce': WHATEVER THE INPUT: true; the input reads as it did. -/
def reachOnceSpec : ChangeSpec := { name := "reachOnce", fn := fun _ => fun
  | [d1, d2, d3, d4, d5] => { results := [.lit (.bool true)], args := [d1, d2, d3, d4, d5] }
  | _ => none }
def reachOnceRow : OpenClaim := { program := "ytbgmnnfajohmaaa", sum := "0a7261e2d9869e27199da4d06e38e9483d53e0a523a8c5a2aca2133b638f9268", func := "scuttlebutt/scuttlebuttlaw16.ReachOnce", spec := "reachOnce", unfollowed := true, recurses := true, apart := false }
def ReachOnceSaid : Prop := reachOnceRow.holds Try.pinned (OpenSpec.ofChange reachOnceSpec)

/-- ITS FALSE NEIGHBOUR: 'it returns false'. Refute it at one input. -/
def reachOnceWrong : ChangeSpec := { name := "reachOnce", fn := fun _ => fun
  | [d1, d2, d3, d4, d5] => { results := [.lit (.bool false)], args := [d1, d2, d3, d4, d5] }
  | _ => none }
def ReachOnceWrongFalsely : Prop := reachOnceRow.holds Try.pinned (OpenSpec.ofChange reachOnceWrong)

/-- 'scuttlebuttlaw16.ReachWrong': WHATEVER THE INPUT: true; the input reads as it did. -/
def reachWrongSpec : ChangeSpec := { name := "reachWrong", fn := fun _ => fun
  | [d1, d2, d3, d4] => { results := [.lit (.bool true)], args := [d1, d2, d3, d4] }
  | _ => none }
def reachWrongRow : OpenClaim := { program := "ytbgmnnfajohmaaa", sum := "0a7261e2d9869e27199da4d06e38e9483d53e0a523a8c5a2aca2133b638f9268", func := "scuttlebutt/scuttlebuttlaw16.ReachWrong", spec := "reachWrong", unfollowed := true, recurses := true, apart := false }
def ReachWrongSaid : Prop := reachWrongRow.holds Try.pinned (OpenSpec.ofChange reachWrongSpec)

/-- ITS FALSE NEIGHBOUR: 'it returns false'. Refute it at one input. -/
def reachWrongWrong : ChangeSpec := { name := "reachWrong", fn := fun _ => fun
  | [d1, d2, d3, d4] => { results := [.lit (.bool false)], args := [d1, d2, d3, d4] }
  | _ => none }
def ReachWrongWrongFalsely : Prop := reachWrongRow.holds Try.pinned (OpenSpec.ofChange reachWrongWrong)

/-- 'scuttlebuttlaw16.ReachPlays': WHATEVER THE INPUT: true; the input reads as it did. -/
def reachPlaysSpec : ChangeSpec := { name := "reachPlays", fn := fun _ => fun
  | [d1, d2, d3, d4] => { results := [.lit (.bool true)], args := [d1, d2, d3, d4] }
  | _ => none }
def reachPlaysRow : OpenClaim := { program := "ytbgmnnfajohmaaa", sum := "0a7261e2d9869e27199da4d06e38e9483d53e0a523a8c5a2aca2133b638f9268", func := "scuttlebutt/scuttlebuttlaw16.ReachPlays", spec := "reachPlays", unfollowed := true, recurses := true, apart := false }
def ReachPlaysSaid : Prop := reachPlaysRow.holds Try.pinned (OpenSpec.ofChange reachPlaysSpec)

/-- ITS FALSE NEIGHBOUR: 'it returns false'. Refute it at one input. -/
def reachPlaysWrong : ChangeSpec := { name := "reachPlays", fn := fun _ => fun
  | [d1, d2, d3, d4] => { results := [.lit (.bool false)], args := [d1, d2, d3, d4] }
  | _ => none }
def ReachPlaysWrongFalsely : Prop := reachPlaysRow.holds Try.pinned (OpenSpec.ofChange reachPlaysWrong)

/-- 'scuttlebuttlaw16.ReachAnew': WHATEVER THE INPUT: true; the input reads as it did. -/
def reachAnewSpec : ChangeSpec := { name := "reachAnew", fn := fun _ => fun
  | [d1, d2] => { results := [.lit (.bool true)], args := [d1, d2] }
  | _ => none }
def reachAnewRow : OpenClaim := { program := "ytbgmnnfajohmaaa", sum := "0a7261e2d9869e27199da4d06e38e9483d53e0a523a8c5a2aca2133b638f9268", func := "scuttlebutt/scuttlebuttlaw16.ReachAnew", spec := "reachAnew", unfollowed := true, recurses := true, apart := false }
def ReachAnewSaid : Prop := reachAnewRow.holds Try.pinned (OpenSpec.ofChange reachAnewSpec)

/-- ITS FALSE NEIGHBOUR: 'it returns false'. Refute it at one input. -/
def reachAnewWrong : ChangeSpec := { name := "reachAnew", fn := fun _ => fun
  | [d1, d2] => { results := [.lit (.bool false)], args := [d1, d2] }
  | _ => none }
def ReachAnewWrongFalsely : Prop := reachAnewRow.holds Try.pinned (OpenSpec.ofChange reachAnewWrong)

/- THE SECOND FORM. 'bulk': how many values and letters a reading holds, each counted each time it is reached (what is shared counts as often as it is met; a slice's spare places count too). A statement '..UptoSaid' is the law's where the arguments, and the package variables that the reading takes, are together of bulk at most 1048576: NARROWER than '..Said'. Prove '..Said' where nothing that the law and all that it calls make is longer than what came in: it says more and counts as full. Else prove '..UptoSaid'. A law counts once. -/
mutual
def uptoBulk {H : Type} : DataW H → Nat
  | .lit (.string bytes) => bytes.length + 1
  | .lit _ => 1
  | .nil => 1
  | .ptr d => uptoBulk d + 1
  | .slice elems spare => uptoBulkAll elems + uptoBulkAll spare + 1
  | .agg parts => uptoBulkAll parts + 1
  | .iface _ d => uptoBulk d + 1
  | .map entries => uptoBulkEntries entries + 1
  | .held _ => 1
def uptoBulkAll {H : Type} : List (DataW H) → Nat
  | [] => 0
  | d :: r => uptoBulk d + uptoBulkAll r
def uptoBulkEntries {H : Type} : List (Lit × DataW H) → Nat
  | [] => 0
  | x :: r => uptoBulkEntry x + uptoBulkEntries r
def uptoBulkEntry {H : Type} : Lit × DataW H → Nat
  | (.string bytes, d) => bytes.length + uptoBulk d + 1
  | (_, d) => uptoBulk d + 1
 end
def uptoSmall : (H : Type) → List (DataW H) → Bool := fun _ ds => decide (uptoBulkAll ds ≤ 1048576)
def OpenSpec.upto (s : _root_.Go.ChangeSpec) : _root_.Go.OpenSpec := { _root_.Go.OpenSpec.ofChange s with cond := some uptoSmall }

/-- 'scuttlebuttlaw16.ReachClass', WHERE WHAT IT READS IS OF BULK AT MOST 1048576: true; the input reads as it did. -/
def reachClassUptoRow : OpenClaim := { program := "ytbgmnnfajohmaaa", sum := "0a7261e2d9869e27199da4d06e38e9483d53e0a523a8c5a2aca2133b638f9268", func := "scuttlebutt/scuttlebuttlaw16.ReachClass", spec := "reachClass", unfollowed := true, recurses := true, apart := false, narrowed := true }
def ReachClassUptoSaid : Prop := reachClassUptoRow.holds Try.pinned (OpenSpec.upto reachClassSpec)

/-- 'scuttlebuttlaw16.ReachVotes', WHERE WHAT IT READS IS OF BULK AT MOST 1048576: true; the input reads as it did. -/
def reachVotesUptoRow : OpenClaim := { program := "ytbgmnnfajohmaaa", sum := "0a7261e2d9869e27199da4d06e38e9483d53e0a523a8c5a2aca2133b638f9268", func := "scuttlebutt/scuttlebuttlaw16.ReachVotes", spec := "reachVotes", unfollowed := true, recurses := true, apart := false, narrowed := true }
def ReachVotesUptoSaid : Prop := reachVotesUptoRow.holds Try.pinned (OpenSpec.upto reachVotesSpec)

/-- 'scuttlebuttlaw16.ReachOnce', WHERE WHAT IT READS IS OF BULK AT MOST 1048576: true; the input reads as it did. -/
def reachOnceUptoRow : OpenClaim := { program := "ytbgmnnfajohmaaa", sum := "0a7261e2d9869e27199da4d06e38e9483d53e0a523a8c5a2aca2133b638f9268", func := "scuttlebutt/scuttlebuttlaw16.ReachOnce", spec := "reachOnce", unfollowed := true, recurses := true, apart := false, narrowed := true }
def ReachOnceUptoSaid : Prop := reachOnceUptoRow.holds Try.pinned (OpenSpec.upto reachOnceSpec)

/-- 'scuttlebuttlaw16.ReachWrong', WHERE WHAT IT READS IS OF BULK AT MOST 1048576: true; the input reads as it did. -/
def reachWrongUptoRow : OpenClaim := { program := "ytbgmnnfajohmaaa", sum := "0a7261e2d9869e27199da4d06e38e9483d53e0a523a8c5a2aca2133b638f9268", func := "scuttlebutt/scuttlebuttlaw16.ReachWrong", spec := "reachWrong", unfollowed := true, recurses := true, apart := false, narrowed := true }
def ReachWrongUptoSaid : Prop := reachWrongUptoRow.holds Try.pinned (OpenSpec.upto reachWrongSpec)

/-- 'scuttlebuttlaw16.ReachPlays', WHERE WHAT IT READS IS OF BULK AT MOST 1048576: true; the input reads as it did. -/
def reachPlaysUptoRow : OpenClaim := { program := "ytbgmnnfajohmaaa", sum := "0a7261e2d9869e27199da4d06e38e9483d53e0a523a8c5a2aca2133b638f9268", func := "scuttlebutt/scuttlebuttlaw16.ReachPlays", spec := "reachPlays", unfollowed := true, recurses := true, apart := false, narrowed := true }
def ReachPlaysUptoSaid : Prop := reachPlaysUptoRow.holds Try.pinned (OpenSpec.upto reachPlaysSpec)

/-- 'scuttlebuttlaw16.ReachAnew', WHERE WHAT IT READS IS OF BULK AT MOST 1048576: true; the input reads as it did. -/
def reachAnewUptoRow : OpenClaim := { program := "ytbgmnnfajohmaaa", sum := "0a7261e2d9869e27199da4d06e38e9483d53e0a523a8c5a2aca2133b638f9268", func := "scuttlebutt/scuttlebuttlaw16.ReachAnew", spec := "reachAnew", unfollowed := true, recurses := true, apart := false, narrowed := true }
def ReachAnewUptoSaid : Prop := reachAnewUptoRow.holds Try.pinned (OpenSpec.upto reachAnewSpec)

end Rows
end Go.Proofs.Ytbgmnnfajohmaaa
