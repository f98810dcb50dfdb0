/- NodeSees, whole. -/
import Derived.Test.YtpbhfolaoccpkaaGreatSFL
import Derived.Test.YtpbhfolaoccpkaaGreatSVL
namespace Go.Proofs.YtpbhfolaoccpkaaGreat
open Go Go.Proofs.YtpbhfolaoccpkaaGreat.Fw
theorem sees_run (d : Int) (h : Bool) : ∃ m H1, callA E.P E.T E.hs m 6 [.sc (.i .u64 d), .sc (.b h)] ⟨0, fun _ => none⟩ = some (.sc (.b true), H1) := by
  cases h with
  | false =>
    obtain ⟨n, hn⟩ := SL_ok d
    obtain ⟨G', h1, _⟩ := hn ⟨0, fun _ => none⟩ ⟨rfl, fun i o h => by cases h⟩
    exact ⟨n, G', h1⟩
  | true =>
    obtain ⟨n, hn⟩ := VL_ok d
    obtain ⟨G', h1, _⟩ := hn ⟨0, fun _ => none⟩ ⟨rfl, fun i o h => by cases h⟩
    exact ⟨n, G', h1⟩
end Go.Proofs.YtpbhfolaoccpkaaGreat
