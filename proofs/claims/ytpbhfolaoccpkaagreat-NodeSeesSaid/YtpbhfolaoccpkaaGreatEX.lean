/- The chapter's examples answer true. -/
import Derived.Test.YtpbhfolaoccpkaaGreatFX
namespace Go.Proofs.YtpbhfolaoccpkaaGreat
open Go Go.Proofs.YtpbhfolaoccpkaaGreat.Fw
set_option maxRecDepth 100000
def exF : Fact := ⟨7, [], 0, [], .sc (.b true), 1159, []⟩
theorem exF_ok : exF.ok E := facB_ok TBX_ok (fs := [F0, F1, F2, F3, F4, F5, F6, F7, F8, F9, F10, F11, F12, F13, F14, F15, F16, F17, F18, F19, F20, F21]) ⟨F0_ok, F1_ok, F2_ok, F3_ok, F4_ok, F5_ok, F6_ok, F7_ok, F8_ok, F9_ok, F10_ok, F11_ok, F12_ok, F13_ok, F14_ok, F15_ok, F16_ok, F17_ok, F18_ok, F19_ok, F20_ok, F21_ok, trivial⟩ (n := 3000) (by kernel_rfl)
end Go.Proofs.YtpbhfolaoccpkaaGreat
