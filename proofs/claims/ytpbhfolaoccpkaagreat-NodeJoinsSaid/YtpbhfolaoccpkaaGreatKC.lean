/- Closed facts of NodeJoins' row, each alone (all at once they need too much memory). -/
import Derived.Test.YtpbhfolaoccpkaaGreatRows
import Derived.WalkKit
import Derived.ProofKit
namespace Go.Proofs.YtpbhfolaoccpkaaGreat
open Go Go.Proofs.YtpbhfolaoccpkaaGreat
theorem and_j {a b : Bool} (ha : a = true) (hb : b = true) : (a && b) = true := by rw [ha, hb]; rfl
theorem j10 : (Rows.nodeJoinsRow.inPlace == Tryz.pinned.checked.prog.inPlace 4) = true := by kernel_rfl
theorem j11 : (Rows.nodeJoinsRow.unfollowed == Tryz.pinned.checked.prog.unfollowed 4) = true := by kernel_rfl
theorem j12 : (Rows.nodeJoinsRow.recurses == Tryz.pinned.checked.prog.recurses 4) = true := by kernel_rfl
theorem j13 : (Rows.nodeJoinsRow.named == Tryz.pinned.checked.prog.varsNamed 4) = true := by kernel_rfl
set_option maxRecDepth 100000 in
theorem joinedJ : joinedFacts Tryz.pinned.checked.prog 4 Tryz.f4 Rows.nodeJoinsSpec Rows.nodeJoinsRow = true := by
  unfold joinedFacts
  exact (and_j (and_j (and_j (and_j (and_j (and_j (and_j (and_j (and_j (and_j (and_j (and_j (and_j (and_j (and_j (and_j (and_j (and_j (and_j (and_j (and_j (and_j (and_j (and_j (and_j (and_j (and_j (and_j (and_j (and_j (and_j (by kernel_rfl) (by kernel_rfl)) (by kernel_rfl)) (by kernel_rfl)) (by kernel_rfl)) (by kernel_rfl)) (by kernel_rfl)) (by kernel_rfl)) (by kernel_rfl)) j10) j11) j12) j13) (by kernel_rfl)) (by kernel_rfl)) (by kernel_rfl)) (by kernel_rfl)) (by kernel_rfl)) (by kernel_rfl)) (by kernel_rfl)) (by kernel_rfl)) (by kernel_rfl)) (by kernel_rfl)) (by kernel_rfl)) (by kernel_rfl)) (by kernel_rfl)) (by kernel_rfl)) (by kernel_rfl)) (by kernel_rfl)) (by kernel_rfl)) (by kernel_rfl)) (by kernel_rfl))
end Go.Proofs.YtpbhfolaoccpkaaGreat
