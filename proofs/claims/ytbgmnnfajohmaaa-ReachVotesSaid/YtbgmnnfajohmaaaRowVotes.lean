/- The address that is told is one that was voted for, by no less than any other one; old votes do not count. For every input; no condition. -/
import Derived.Test.YtbgmnnfajohmaaaRows
import Derived.WalkKit
import Derived.ProofKit
import Derived.OpenShut
import Derived.ShutString
import Derived.ChangeOld
import Derived.Below
import Derived.Test.YtbgmnnfajohmaaaFwZl
import Derived.Test.YtbgmnnfajohmaaaLawVotes
namespace Go.Proofs.Ytbgmnnfajohmaaa.reachVotes
open Go Go.Proofs.Ytbgmnnfajohmaaa Go.Proofs.Ytbgmnnfajohmaaa.Fw
open Go.ChangeShapes Go.WideShapes Go.ChangeAt Go.RowKit
open Go.ChangeMaps (open_string shut_string)
set_option linter.unusedVariables false

theorem own : ownKnob Try.prog.godebug = none := by kernel_rfl
theorem laidOut : laidOutB Try.prog = true := by kernel_rfl
theorem mixed : Try.prog.follows .mixedOrders = true := by kernel_rfl

set_option maxRecDepth 100000 in
theorem lifted (os : Os) (started : os.Started) (H : Type) (enc : TypeId × Value → H) :
    ReturnsInHanded {} Try.checked os 4 .any (Rows.reachVotesSpec.pre6 enc Try.prog Try.f4 Rows.reachVotesRow.domain false) (Rows.reachVotesSpec.post enc Try.prog Try.f4 false true false false) := by
  refine returnsInHanded_of_change (C := Try.checked) own started (by kernel_rfl) Try.func4
    (ChangeSpec.witness6 (enc := enc) (C := Try.checked) false ⟨#[], #[.slice none 0 0, .slice none 0 0, .int .u8 0], []⟩ 8 (by kernel_rfl) (by kernel_rfl) (by kernel_rfl) (by kernel_rfl)) ?_
  intro W base args ds gs before hval0 hW hcnd _
  have hval : ∀ (j : Nat) t v, Try.f4.params[j]? = some t → args[j]? = some v → Value.okWide Try.prog W .any base t v := hval0
  have hW' := hW
  obtain ⟨p, q, hA0, hV, rfl, hfz, hnd⟩ := hW
  have hA : DataW.TrodAll enc Try.prog W 0 (fun _ => true) true Try.f4.params.toList args.toList ds p := hA0
  rw [Try.params4] at hA hval
  obtain ⟨v0, vs0, d0, ds0, p0, q0, hargs, rfl, rfl, h0, r0⟩ := trodAll_cons hA
  obtain ⟨v1, vs1, d1, ds1, p1, q1, rfl, rfl, rfl, h1, r1⟩ := trodAll_cons r0
  obtain ⟨v2, vs2, d2, ds2, p2, q2, rfl, rfl, rfl, h2, r2⟩ := trodAll_cons r1
  obtain ⟨rfl, rfl, rfl⟩ := trodAll_nil r2
  obtain rfl : args = #[v0, v1, v2] := by cases args; simp_all
  obtain ⟨rfl, rfl⟩ := trodVars_none hV
  have k0 := h0
  have lt0 : ∀ x ∈ p0, x.block < W.heap.size := by obtain ⟨m, hm⟩ := k0; exact DataW.trod_lt m _ _ _ hm
  obtain ⟨dd0, o0, l0, c0, hcame0, hsr0, hst0⟩ := came0 (T := byE) (n := 3) Try.underlying34 (by kernel_rfl : flatK Try.prog 3 5 = some _) (by kernel_rfl) (by decide) byE_ok (hval 0 34 v0 rfl rfl) h0
  have k1 := h1
  have lt1 : ∀ x ∈ p1, x.block < W.heap.size := by obtain ⟨m, hm⟩ := k1; exact DataW.trod_lt m _ _ _ hm
  obtain ⟨dd1, o1, l1, c1, hcame1, hsr1, hst1⟩ := came0 (T := byE) (n := 3) Try.underlying34 (by kernel_rfl : flatK Try.prog 3 5 = some _) (by kernel_rfl) (by decide) byE_ok (hval 1 34 v1 rfl rfl) h1
  have hst := fun (H' : AH) (e0 : H'.obj 0 = some (.cells true c0)) (e1 : H'.obj 1 = some (.cells true c1)) (en : 1 < H'.next) => star_two (hst0 0 H' e0 (Nat.lt_trans Nat.zero_lt_one en)) (hst1 1 H' e1 en)
  obtain ⟨a2, rfl, rfl, rfl, w2⟩ := open_int Try.underlying5 (hval 2 5 v2 rfl rfl) h2
  clear hA0 hval0
  obtain ⟨n, H1, hrun⟩ := votes_run o0 o1 l0 l1 c0 c1 hst (now := a2) (by have := bounds_u8 w2; omega)
  refine (calls_of tok mixed nodd hrun (came_two hcame0 hcame1) (args' := [v0, v1, .int .u8 a2]) ⟨_, _, rfl, hsr0 _ 0 rfl, _, _, rfl, hsr1 _ 1 rfl, _, _, rfl, rfl, rfl⟩).mono fun e W' ⟨he, bel⟩ => ?_
  subst he
  exact ⟨_, rfl, _, _, _, [], _, [], hW', trodAll_mk1 (shut_bool Try.underlying4 _), (trodAll_cons_mk (Below.trod laidOut (by kernel_rfl) (of_decide_eq_true (by kernel_rfl)) k0 bel lt0) (trodAll_cons_mk (Below.trod laidOut (by kernel_rfl) (of_decide_eq_true (by kernel_rfl)) k1 bel lt1) (trodAll_cons_mk (shut_int Try.underlying5 w2) trodAll_mk0))), rfl, bel.frame _, fun h => by cases h⟩

theorem over : Rows.reachVotesRow.holds Try.pinned (OpenSpec.ofChange Rows.reachVotesSpec) :=
  OpenClaim.holds_of_wide 4 Try.f4 rfl rfl rfl rfl rfl rfl rfl ⟨rfl, rfl, rfl, rfl, rfl⟩ rfl rfl rfl rfl rfl (by kernel_rfl) Try.func4 (by kernel_rfl)
    (of_decide_eq_true (by kernel_rfl)) (by unfold Func.isWrapper; first | (rw [if_pos (by decide +kernel)]; kernel_rfl) | (rw [if_neg (by decide +kernel)]; exact ⟨rfl, rfl⟩))
    (fun os started H enc _ => lifted os started H enc)
theorem proved : Rows.ReachVotesSaid := over
end Go.Proofs.Ytbgmnnfajohmaaa.reachVotes
#print axioms Go.Proofs.Ytbgmnnfajohmaaa.reachVotes.proved
