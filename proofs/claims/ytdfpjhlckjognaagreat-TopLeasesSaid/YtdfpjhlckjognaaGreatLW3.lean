/- TopLeases, type 3. -/
import Derived.Test.YtdfpjhlckjognaaGreatLT
import Derived.Test.YtdfpjhlckjognaaGreatTE
import Derived.Test.YtdfpjhlckjognaaGreatTP1
import Derived.Test.YtdfpjhlckjognaaGreatTP2
import Derived.Test.YtdfpjhlckjognaaGreatTP3
import Derived.Test.YtdfpjhlckjognaaGreatTP5
import Derived.Test.YtdfpjhlckjognaaGreatTP7
import Derived.Test.YtdfpjhlckjognaaGreatTP8
import Derived.Test.YtdfpjhlckjognaaGreatTP10
import Derived.Test.YtdfpjhlckjognaaGreatTP12
import Derived.Test.YtdfpjhlckjognaaGreatTP13
import Derived.Test.YtdfpjhlckjognaaGreatTP14
import Derived.Test.YtdfpjhlckjognaaGreatTP15
import Derived.Test.YtdfpjhlckjognaaGreatTP16
import Derived.Test.YtdfpjhlckjognaaGreatTP17
import Derived.Test.YtdfpjhlckjognaaGreatTP18
import Derived.Test.YtdfpjhlckjognaaGreatTP20
import Derived.Test.YtdfpjhlckjognaaGreatTP22
import Derived.Test.YtdfpjhlckjognaaGreatTP24
import Derived.Test.YtdfpjhlckjognaaGreatTP26
import Derived.Test.YtdfpjhlckjognaaGreatTP27
import Derived.Test.YtdfpjhlckjognaaGreatTP28
import Derived.Test.YtdfpjhlckjognaaGreatTP29
import Derived.Test.YtdfpjhlckjognaaGreatTP30
import Derived.Test.YtdfpjhlckjognaaGreatTP31
import Derived.Test.YtdfpjhlckjognaaGreatTP32
import Derived.Test.YtdfpjhlckjognaaGreatTP33
namespace Go.Proofs.YtdfpjhlckjognaaGreat
open Go Go.Proofs.YtdfpjhlckjognaaGreat.Fw
set_option linter.unusedVariables false
set_option maxRecDepth 100000
theorem lw3 (d : Int) {t : Int} (hm : (IntKind.wrap .i64 (Int.tmod t (3 : Int))) = 0) (hf : (IntKind.wrap .i64 ((1 : Int) + (IntKind.wrap .i64 (Int.tmod (IntKind.wrap .u8 (Int.tdiv t (3 : Int))) (2 : Int))))) = 2) : ∃ m H1, callA E.P E.T E.hs m 3 [.sc (.i .u64 d), .sc (.i .u8 t)] ⟨0, fun _ => none⟩ = some (.sc (.b true), H1) :=
  treeV_ok TBT_ok (ps := []) (gs := [exT, L868 d, L2 d, L3 d, L870 d, L1520 d, L1523 d, L1524 d, L1525 d, L1526 d, L1527 d, L1528 d, L1529 d, L1530 d, L1531 d]) (av := []) trivial ⟨exT_ok, L868_ok d, L2_ok d, L3_ok d, L870_ok d, L1520_ok d, L1523_ok d, L1524_ok d, L1525_ok d, L1526_ok d, L1527_ok d, L1528_ok d, L1529_ok d, L1530_ok d, L1531_ok d, trivial⟩ trivial (n := 3000) (A := []) trivial (fn := Tryz.f3) Tryz.func3 (t := t3p d 0 2)
    ((t3_eq d t).trans ((t3p_eq d t).trans (by rw [hm, hf]))) (by kernel_rfl)
end Go.Proofs.YtdfpjhlckjognaaGreat
