/- Closed facts of NodeSees' row, each alone (all at once they need too much memory). -/
import Derived.Test.YtpbhfolaoccpkaaGreatRows
import Derived.WalkKit
import Derived.ProofKit
namespace Go.Proofs.YtpbhfolaoccpkaaGreat
open Go Go.Proofs.YtpbhfolaoccpkaaGreat
theorem and_s {a b : Bool} (ha : a = true) (hb : b = true) : (a && b) = true := by rw [ha, hb]; rfl
theorem s10 : (Rows.nodeSeesRow.inPlace == Tryz.pinned.checked.prog.inPlace 6) = true := by kernel_rfl
theorem s11 : (Rows.nodeSeesRow.unfollowed == Tryz.pinned.checked.prog.unfollowed 6) = true := by kernel_rfl
theorem s12 : (Rows.nodeSeesRow.recurses == Tryz.pinned.checked.prog.recurses 6) = true := by kernel_rfl
theorem s13 : (Rows.nodeSeesRow.named == Tryz.pinned.checked.prog.varsNamed 6) = true := by kernel_rfl
set_option maxRecDepth 100000 in
theorem joinedS : joinedFacts Tryz.pinned.checked.prog 6 Tryz.f6 Rows.nodeSeesSpec Rows.nodeSeesRow = true := by
  unfold joinedFacts
  exact (and_s (and_s (and_s (and_s (and_s (and_s (and_s (and_s (and_s (and_s (and_s (and_s (and_s (and_s (and_s (and_s (and_s (and_s (and_s (and_s (and_s (and_s (and_s (and_s (and_s (and_s (and_s (and_s (and_s (and_s (and_s (by kernel_rfl) (by kernel_rfl)) (by kernel_rfl)) (by kernel_rfl)) (by kernel_rfl)) (by kernel_rfl)) (by kernel_rfl)) (by kernel_rfl)) (by kernel_rfl)) s10) s11) s12) s13) (by kernel_rfl)) (by kernel_rfl)) (by kernel_rfl)) (by kernel_rfl)) (by kernel_rfl)) (by kernel_rfl)) (by kernel_rfl)) (by kernel_rfl)) (by kernel_rfl)) (by kernel_rfl)) (by kernel_rfl)) (by kernel_rfl)) (by kernel_rfl)) (by kernel_rfl)) (by kernel_rfl)) (by kernel_rfl)) (by kernel_rfl)) (by kernel_rfl)) (by kernel_rfl))
end Go.Proofs.YtpbhfolaoccpkaaGreat
