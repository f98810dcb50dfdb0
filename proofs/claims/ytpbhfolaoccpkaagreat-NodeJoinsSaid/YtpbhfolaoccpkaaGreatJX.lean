/- NodeJoins, whole. -/
import Derived.Test.YtpbhfolaoccpkaaGreatJ0x
import Derived.Test.YtpbhfolaoccpkaaGreatJ1x
import Derived.Test.YtpbhfolaoccpkaaGreatJ2x
import Derived.Test.YtpbhfolaoccpkaaGreatJ3x
import Derived.Test.YtpbhfolaoccpkaaGreatJ4x
import Derived.Test.YtpbhfolaoccpkaaGreatJ5x
namespace Go.Proofs.YtpbhfolaoccpkaaGreat
open Go Go.Proofs.YtpbhfolaoccpkaaGreat.Fw
theorem joins_run (d : Int) {inc kn : Int} (hi : 0 ≤ inc ∧ inc < 4294967296) (hk : 0 ≤ kn) : ∃ m H1, callA E.P E.T E.hs m 4 [.sc (.i .u64 d), .sc (.i .u32 inc), .sc (.i .u8 kn)] ⟨0, fun _ => none⟩ = some (.sc (.b true), H1) := by
  have h4 := R4_eq hi.1 hi.2
  have e : Int.tmod kn 6 = kn % 6 := Int.tmod_eq_emod_of_nonneg hk
  have fin : ∀ {x : Fact}, x.ok E → x.f = 4 → x.args = [.sc (.i .u64 d), .sc (.i .u32 inc), .sc (.i .u8 kn)] → x.n0 = 0 → x.l0 = [] → x.v = .sc (.b true) → ∃ m H1, callA E.P E.T E.hs m 4 [.sc (.i .u64 d), .sc (.i .u32 inc), .sc (.i .u8 kn)] ⟨0, fun _ => none⟩ = some (.sc (.b true), H1) := by
    intro x hx e1 e2 e3 e4 e5
    obtain ⟨n, hn⟩ := hx
    rw [e1, e2, e3, e4, e5] at hn
    obtain ⟨G', h1, _⟩ := hn ⟨0, fun _ => none⟩ ⟨rfl, fun i o h => by cases h⟩
    exact ⟨n, G', h1⟩
  have h : kn % 6 = 0 ∨ kn % 6 = 1 ∨ kn % 6 = 2 ∨ kn % 6 = 3 ∨ kn % 6 = 4 ∨ kn % 6 = 5 := by omega
  rw [← e] at h
  rcases h with h | h | h | h | h | h
  · exact fin (J0_ok (d := d) h4 h) rfl rfl rfl rfl rfl
  · exact fin (J1_ok (d := d) h4 h) rfl rfl rfl rfl rfl
  · exact fin (J2_ok (d := d) h4 h) rfl rfl rfl rfl rfl
  · exact fin (J3_ok (d := d) h4 h) rfl rfl rfl rfl rfl
  · exact fin (J4_ok (d := d) h4 h) rfl rfl rfl rfl rfl
  · exact fin (J5_ok (d := d) h4 h) rfl rfl rfl rfl rfl
end Go.Proofs.YtpbhfolaoccpkaaGreat
