/- The chapter's examples, run by the kernel on the abstract machine. -/
import Derived.Test.YtkhooppaenfkdaaGen
import Derived.Test.YtkhooppaenfkdaaFwZl
namespace Go.Proofs.Ytkhooppaenfkdaa
open Go Go.Proofs.Ytkhooppaenfkdaa.Fw
set_option linter.unusedVariables false
theorem ex1 (h : Nat → Option AO) : (callA Try.prog T hs 200 4 [] ⟨1, h⟩).map (fun r => (r.1, r.2.obj 0, decide (0 < r.2.next))) = some (.sc (.b true), h 0, true) := by kernel_rfl
theorem exW1 (h : Nat → Option AO) : CallWp E 4 [] ⟨1, h⟩ fun v H' => v = .sc (.b true) ∧ H'.obj 0 = h 0 ∧ 0 < H'.next := ex_w1 (n := 200) (ex1 h)
end Go.Proofs.Ytkhooppaenfkdaa
