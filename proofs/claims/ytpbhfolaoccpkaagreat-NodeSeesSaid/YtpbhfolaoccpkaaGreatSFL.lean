/- One run in parts (facts), printed by a program of mine; each is looked at by the kernel. -/
import Derived.Test.YtpbhfolaoccpkaaGreatSF0
import Derived.Test.YtpbhfolaoccpkaaGreatSF1
import Derived.Test.YtpbhfolaoccpkaaGreatSF2
import Derived.Test.YtpbhfolaoccpkaaGreatSF3
import Derived.Test.YtpbhfolaoccpkaaGreatSF4
import Derived.Test.YtpbhfolaoccpkaaGreatSF5
import Derived.Test.YtpbhfolaoccpkaaGreatEX
namespace Go.Proofs.YtpbhfolaoccpkaaGreat
open Go Go.Proofs.YtpbhfolaoccpkaaGreat.Fw
set_option linter.unusedVariables false
set_option maxRecDepth 100000
def SL (d : Int) : Fact := ⟨6, [.sc (.i .u64 d), .sc (.b false)], 0, [], .sc (.b true), 5403, []⟩
theorem SL_ok (d : Int) : (SL d).ok E := facS_ok TBS_ok (ps := []) (gs := [exF, S1 d, S2 d, S24 d, S25 d, S26 d, S27 d, S28 d, S29 d, S39 d, S49 d, S59 d, S75 d, S76 d, S77 d, S78 d, S79 d, S89 d, S99 d, S109 d, S139 d, S140 d, S141 d, S142 d, S143 d, S144 d, S145 d, S161 d, S177 d, S193 d, S217 d, S218 d, S219 d, S220 d, S221 d, S222 d, S238 d, S239 d, S240 d, S241 d]) (av := []) trivial ⟨exF_ok, S1_ok d, S2_ok d, S24_ok d, S25_ok d, S26_ok d, S27_ok d, S28_ok d, S29_ok d, S39_ok d, S49_ok d, S59_ok d, S75_ok d, S76_ok d, S77_ok d, S78_ok d, S79_ok d, S89_ok d, S99_ok d, S109_ok d, S139_ok d, S140_ok d, S141_ok d, S142_ok d, S143_ok d, S144_ok d, S145_ok d, S161_ok d, S177_ok d, S193_ok d, S217_ok d, S218_ok d, S219_ok d, S220_ok d, S221_ok d, S222_ok d, S238_ok d, S239_ok d, S240_ok d, S241_ok d, trivial⟩ trivial (n := 3000) (by kernel_rfl)
end Go.Proofs.YtpbhfolaoccpkaaGreat
