/- TopLeases, whole. -/
import Derived.Test.YtdfpjhlckjognaaGreatLW0
import Derived.Test.YtdfpjhlckjognaaGreatLW1
import Derived.Test.YtdfpjhlckjognaaGreatLW2
import Derived.Test.YtdfpjhlckjognaaGreatLW3
import Derived.Test.YtdfpjhlckjognaaGreatLW4
import Derived.Test.YtdfpjhlckjognaaGreatLW5
import Derived.Test.YtdfpjhlckjognaaGreatFwZa
namespace Go.Proofs.YtdfpjhlckjognaaGreat
open Go Go.Proofs.YtdfpjhlckjognaaGreat.Fw
set_option linter.unusedVariables false
set_option maxRecDepth 100000
theorem top_run (d : Int) {t : Int} (ht : 0 ≤ t ∧ t < 256) : ∃ m H1, callA E.P E.T E.hs m 3 [.sc (.i .u64 d), .sc (.i .u8 t)] ⟨0, fun _ => none⟩ = some (.sc (.b true), H1) := by
  have e1 : Int.tmod t 3 = t % 3 := Int.tmod_eq_emod_of_nonneg ht.1
  have e2 : Int.tdiv t 3 = t / 3 := Int.tdiv_eq_ediv_of_nonneg ht.1
  have e3 : IntKind.wrap .u8 (t / 3) = t / 3 := wr_u8 (by omega) (by omega)
  have e4 : Int.tmod (t / 3) 2 = t / 3 % 2 := Int.tmod_eq_emod_of_nonneg (by omega)
  have hm : ∀ k : Int, t % 3 = k → IntKind.wrap .i64 (Int.tmod t 3) = k := fun k h => by rw [e1, h]; exact wr_i64 (by omega) (by omega)
  have hf : ∀ k : Int, t / 3 % 2 = k → IntKind.wrap .i64 ((1 : Int) + (IntKind.wrap .i64 (Int.tmod (IntKind.wrap .u8 (Int.tdiv t (3 : Int))) (2 : Int)))) = 1 + k := fun k h => by
    rw [e2, e3, e4, h, wr_i64 (n := k) (by omega) (by omega)]; exact wr_i64 (by omega) (by omega)
  have a : t % 3 = 0 ∨ t % 3 = 1 ∨ t % 3 = 2 := by omega
  have b : t / 3 % 2 = 0 ∨ t / 3 % 2 = 1 := by omega
  rcases b with b | b <;> rcases a with a | a | a
  · exact lw0 d (hm _ a) (hf _ b)
  · exact lw1 d (hm _ a) (hf _ b)
  · exact lw2 d (hm _ a) (hf _ b)
  · exact lw3 d (hm _ a) (hf _ b)
  · exact lw4 d (hm _ a) (hf _ b)
  · exact lw5 d (hm _ a) (hf _ b)
end Go.Proofs.YtdfpjhlckjognaaGreat
