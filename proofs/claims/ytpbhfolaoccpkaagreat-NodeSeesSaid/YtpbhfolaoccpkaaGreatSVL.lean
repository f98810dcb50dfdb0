/- One run in parts (facts), printed by a program of mine; each is looked at by the kernel. -/
import Derived.Test.YtpbhfolaoccpkaaGreatSV0
import Derived.Test.YtpbhfolaoccpkaaGreatSV1
import Derived.Test.YtpbhfolaoccpkaaGreatSV2
import Derived.Test.YtpbhfolaoccpkaaGreatSV3
import Derived.Test.YtpbhfolaoccpkaaGreatSV4
import Derived.Test.YtpbhfolaoccpkaaGreatEX
namespace Go.Proofs.YtpbhfolaoccpkaaGreat
open Go Go.Proofs.YtpbhfolaoccpkaaGreat.Fw
set_option linter.unusedVariables false
set_option maxRecDepth 100000
def VL (d : Int) : Fact := ⟨6, [.sc (.i .u64 d), .sc (.b true)], 0, [], .sc (.b true), 5133, []⟩
theorem VL_ok (d : Int) : (VL d).ok E := facS_ok TBS_ok (ps := []) (gs := [exF, V1 d, V2 d, V24 d, V25 d, V26 d, V27 d, V28 d, V29 d, V30 d, V40 d, V50 d, V60 d, V76 d, V77 d, V78 d, V79 d, V80 d, V81 d, V91 d, V101 d, V111 d, V133 d, V134 d, V135 d, V136 d, V137 d, V138 d, V139 d, V149 d, V159 d, V169 d, V185 d, V186 d, V187 d, V188 d, V189 d, V190 d, V200 d, V201 d, V202 d]) (av := []) trivial ⟨exF_ok, V1_ok d, V2_ok d, V24_ok d, V25_ok d, V26_ok d, V27_ok d, V28_ok d, V29_ok d, V30_ok d, V40_ok d, V50_ok d, V60_ok d, V76_ok d, V77_ok d, V78_ok d, V79_ok d, V80_ok d, V81_ok d, V91_ok d, V101_ok d, V111_ok d, V133_ok d, V134_ok d, V135_ok d, V136_ok d, V137_ok d, V138_ok d, V139_ok d, V149_ok d, V159_ok d, V169_ok d, V185_ok d, V186_ok d, V187_ok d, V188_ok d, V189_ok d, V190_ok d, V200_ok d, V201_ok d, V202_ok d, trivial⟩ trivial (n := 3000) (by kernel_rfl)
end Go.Proofs.YtpbhfolaoccpkaaGreat
