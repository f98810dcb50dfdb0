/- The chapter's examples, run by the kernel on the abstract machine. -/
import Derived.Test.YtbgmnnfajohmaaaGen
import Derived.Test.YtbgmnnfajohmaaaFwZl
namespace Go.Proofs.Ytbgmnnfajohmaaa
open Go Go.Proofs.Ytbgmnnfajohmaaa.Fw
set_option linter.unusedVariables false
def H0 : AH := ⟨0, fun _ => none⟩
theorem ex0 : (callA Try.prog T hs 200 9 [] H0).map Prod.fst = some (.sc (.b true)) := by kernel_rfl
theorem ex1 (h : Nat → Option AO) : (callA Try.prog T hs 200 9 [] ⟨1, h⟩).map (fun r => (r.1, r.2.obj 0, decide (0 < r.2.next))) = some (.sc (.b true), h 0, true) := by kernel_rfl
theorem ex2 (h : Nat → Option AO) : (callA Try.prog T hs 200 9 [] ⟨2, h⟩).map (fun r => (r.1, r.2.obj 0, r.2.obj 1, decide (1 < r.2.next))) = some (.sc (.b true), h 0, h 1, true) := by kernel_rfl
theorem exW0 : CallWp E 9 [] H0 fun v H' => v = .sc (.b true) := by
  have h := ex0
  cases hc : callA Try.prog T hs 200 9 [] H0 with
  | none => rw [hc] at h; cases h
  | some r => rw [hc] at h; simp only [Option.map_some, Option.some.injEq] at h; exact ⟨200, r.1, r.2, hc, h⟩
theorem exW1 (h : Nat → Option AO) : CallWp E 9 [] ⟨1, h⟩ fun v H' => v = .sc (.b true) ∧ H'.obj 0 = h 0 ∧ 0 < H'.next := ex_w1 (n := 200) (ex1 h)
theorem exW2 (h : Nat → Option AO) : CallWp E 9 [] ⟨2, h⟩ fun v H' => v = .sc (.b true) ∧ H'.obj 0 = h 0 ∧ H'.obj 1 = h 1 ∧ 1 < H'.next := ex_w2 (n := 200) (ex2 h)
end Go.Proofs.Ytbgmnnfajohmaaa
