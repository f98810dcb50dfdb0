/- TopLeases, type 0. -/
import Derived.Test.YtdfpjhlckjognaaGreatLT
import Derived.Test.YtdfpjhlckjognaaGreatTE
import Derived.Test.YtdfpjhlckjognaaGreatTP1
import Derived.Test.YtdfpjhlckjognaaGreatTP2
import Derived.Test.YtdfpjhlckjognaaGreatTP3
import Derived.Test.YtdfpjhlckjognaaGreatTP5
import Derived.Test.YtdfpjhlckjognaaGreatTP7
import Derived.Test.YtdfpjhlckjognaaGreatTP8
import Derived.Test.YtdfpjhlckjognaaGreatTP10
import Derived.Test.YtdfpjhlckjognaaGreatTP12
import Derived.Test.YtdfpjhlckjognaaGreatTP13
import Derived.Test.YtdfpjhlckjognaaGreatTP14
import Derived.Test.YtdfpjhlckjognaaGreatTP15
import Derived.Test.YtdfpjhlckjognaaGreatTP16
import Derived.Test.YtdfpjhlckjognaaGreatTP17
import Derived.Test.YtdfpjhlckjognaaGreatTP18
import Derived.Test.YtdfpjhlckjognaaGreatTP20
import Derived.Test.YtdfpjhlckjognaaGreatTP22
import Derived.Test.YtdfpjhlckjognaaGreatTP24
import Derived.Test.YtdfpjhlckjognaaGreatTP26
import Derived.Test.YtdfpjhlckjognaaGreatTP27
import Derived.Test.YtdfpjhlckjognaaGreatTP28
import Derived.Test.YtdfpjhlckjognaaGreatTP29
import Derived.Test.YtdfpjhlckjognaaGreatTP30
import Derived.Test.YtdfpjhlckjognaaGreatTP31
import Derived.Test.YtdfpjhlckjognaaGreatTP32
import Derived.Test.YtdfpjhlckjognaaGreatTP33
namespace Go.Proofs.YtdfpjhlckjognaaGreat
open Go Go.Proofs.YtdfpjhlckjognaaGreat.Fw
set_option linter.unusedVariables false
set_option maxRecDepth 100000
theorem lw0 (d : Int) {t : Int} (hm : (IntKind.wrap .i64 (Int.tmod t (3 : Int))) = 0) (hf : (IntKind.wrap .i64 ((1 : Int) + (IntKind.wrap .i64 (Int.tmod (IntKind.wrap .u8 (Int.tdiv t (3 : Int))) (2 : Int))))) = 1) : ∃ m H1, callA E.P E.T E.hs m 3 [.sc (.i .u64 d), .sc (.i .u8 t)] ⟨0, fun _ => none⟩ = some (.sc (.b true), H1) :=
  treeV_ok TBT_ok (ps := []) (gs := [exT, L1 d, L2 d, L3 d, L5 d, L722 d, L725 d, L726 d, L727 d, L728 d, L729 d, L730 d, L731 d, L732 d, L733 d]) (av := []) trivial ⟨exT_ok, L1_ok d, L2_ok d, L3_ok d, L5_ok d, L722_ok d, L725_ok d, L726_ok d, L727_ok d, L728_ok d, L729_ok d, L730_ok d, L731_ok d, L732_ok d, L733_ok d, trivial⟩ trivial (n := 3000) (A := []) trivial (fn := Tryz.f3) Tryz.func3 (t := t3p d 0 1)
    ((t3_eq d t).trans ((t3p_eq d t).trans (by rw [hm, hf]))) (by kernel_rfl)
end Go.Proofs.YtdfpjhlckjognaaGreat
