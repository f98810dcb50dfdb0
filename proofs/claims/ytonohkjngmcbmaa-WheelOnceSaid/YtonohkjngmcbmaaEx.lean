/- The chapter's examples, run by the kernel on the abstract machine. -/
import Derived.Test.YtonohkjngmcbmaaGen
import Derived.Test.YtonohkjngmcbmaaFwZa
namespace Go.Proofs.Ytonohkjngmcbmaa
open Go Go.Proofs.Ytonohkjngmcbmaa.Fw
def H0 : AH := ⟨0, fun _ => none⟩
theorem ex0 : (callA Try.prog T hs 200 8 [] H0).map (Prod.fst) = some (.sc (.b true)) := by kernel_rfl
end Go.Proofs.Ytonohkjngmcbmaa
