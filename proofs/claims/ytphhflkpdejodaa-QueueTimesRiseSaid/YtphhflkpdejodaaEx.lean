/- The chapter's examples, run by the kernel on the abstract machine. -/
import Derived.Test.YtphhflkpdejodaaGen
import Derived.Test.YtphhflkpdejodaaFwZa
namespace Go.Proofs.Ytphhflkpdejodaa
open Go Go.Proofs.Ytphhflkpdejodaa.Fw
def H0 : AH := ⟨0, fun _ => none⟩
theorem ex0 : (callA Try.prog T hs 200 9 [] H0).map Prod.fst = some (.sc (.b true)) := by kernel_rfl
end Go.Proofs.Ytphhflkpdejodaa
