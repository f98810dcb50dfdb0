/- NodeJoins, where 5 are known: a run with variables in it. -/
import Derived.Test.YtpbhfolaoccpkaaGreatJT
import Derived.Test.YtpbhfolaoccpkaaGreatEX
namespace Go.Proofs.YtpbhfolaoccpkaaGreat
open Go Go.Proofs.YtpbhfolaoccpkaaGreat.Fw
set_option linter.unusedVariables false
set_option maxRecDepth 100000
def J5 (d inc kn : Int) : Fact := ⟨4, [.sc (.i .u64 d), .sc (.i .u32 inc), .sc (.i .u8 kn)], 0, [], .sc (.b true), 2626, []⟩
def Ja5 (inc kn : Int) : Adv := [(1, decide ((0 : Int) < (IntKind.wrap .i64 (Int.tmod kn (6 : Int)))), true), (1, decide ((1 : Int) < (IntKind.wrap .i64 (Int.tmod kn (6 : Int)))), true), (1, decide ((2 : Int) < (IntKind.wrap .i64 (Int.tmod kn (6 : Int)))), true), (1, decide ((3 : Int) < (IntKind.wrap .i64 (Int.tmod kn (6 : Int)))), true), (1, decide ((4 : Int) < (IntKind.wrap .i64 (Int.tmod kn (6 : Int)))), true), (1, decide ((5 : Int) < (IntKind.wrap .i64 (Int.tmod kn (6 : Int)))), false), (1, !(((2 : Int) == 2) && (((0 : Int) == 0) && ((R4 inc == inc) && ((((2 : Int) == 2) && (((7 : Int) == 7) && Bool.true)) && Bool.true)))), false), (6, ((7 : Int) == (IntKind.wrap .i64 ((2 : Int) + (IntKind.wrap .i64 (Int.tmod kn (6 : Int)))))), true), (0, (((2 : Int) == 2) && (((0 : Int) == 0) && ((R4 inc == inc) && ((((2 : Int) == 2) && (((7 : Int) == 7) && Bool.true)) && Bool.true)))), true)]
def Je5 (inc : Int) : Bool := (ByteArray.toList ⟨⟨[13, 2, 0, 0, 0, 0, 0, 15, 66, 64, 0, 15, 66, 64, 2, 1, 0, 0, 0, 0, 0, 0, 0, 0, 1, 0, 7, 2, 0, yB (R4 inc) 24, yB (R4 inc) 16, yB (R4 inc) 8, yB (R4 inc) 0, 0, 0, 0, 2, 0, 7]⟩⟩ == ByteArray.toList ⟨⟨[13, 2, 0, 0, 0, 0, 0, 15, 66, 64, 0, 15, 66, 64, 2, 1, 0, 0, 0, 0, 0, 0, 0, 0, 1, 0, 7, 2, 0, yB (inc) 24, yB (inc) 16, yB (inc) 8, yB (inc) 0, 0, 0, 0, 2, 0, 7]⟩⟩)
def Jf5 (inc : Int) : Bool := (ByteArray.toList ⟨⟨[15, 1, 0, 0, 0, 0, 1, 7, 1, 0, 0, 0, 0, 0, 0, 0, 0, 1, 0, 7, 2, 0, yB (R4 (R4 inc)) 24, yB (R4 (R4 inc)) 16, yB (R4 (R4 inc)) 8, yB (R4 (R4 inc)) 0, 0, 0, 0, 2, 0, 7, 10, 0, 0, 0, 0, 0, 0, 0, 0, 9, 0, 9, 11, 0, 0, 0, 0, 0, 0, 0, 0, 9, 0, 9, 12, 0, 0, 0, 0, 0, 0, 0, 0, 9, 0, 9, 13, 0, 0, 0, 0, 0, 0, 0, 0, 9, 0, 9, 14, 0, 0, 0, 0, 0, 0, 0, 0, 9, 0, 9]⟩⟩ == ByteArray.toList ⟨⟨[15, 1, 0, 0, 0, 0, 1, 7, 1, 0, 0, 0, 0, 0, 0, 0, 0, 1, 0, 7, 2, 0, yB (R4 inc) 24, yB (R4 inc) 16, yB (R4 inc) 8, yB (R4 inc) 0, 0, 0, 0, 2, 0, 7, 10, 0, 0, 0, 0, 0, 0, 0, 0, 9, 0, 9, 11, 0, 0, 0, 0, 0, 0, 0, 0, 9, 0, 9, 12, 0, 0, 0, 0, 0, 0, 0, 0, 9, 0, 9, 13, 0, 0, 0, 0, 0, 0, 0, 0, 9, 0, 9, 14, 0, 0, 0, 0, 0, 0, 0, 0, 9, 0, 9]⟩⟩)
theorem Ja5_ok {inc kn : Int} (hi : R4 inc = inc) (hk : Int.tmod kn 6 = 5) : advOk (Ja5 inc kn) := by
  unfold Ja5
  simp only [advOk, hi, hk]
  simp
  try decide
theorem Je5_ok {inc : Int} (hi : R4 inc = inc) : Je5 inc = true := by unfold Je5; rw [hi]; exact beq_self_eq_true _
theorem Jf5_ok {inc : Int} (hi : R4 inc = inc) : Jf5 inc = true := by unfold Jf5; rw [hi, hi]; exact beq_self_eq_true _
theorem J5_ok {d inc kn : Int} (hi : R4 inc = inc) (hk : Int.tmod kn 6 = 5) : (J5 d inc kn).ok E := facS_ok TBJ_ok (ps := [⟨270, 2160, [.sc (.i .u32 (R4 (R4 inc))), .sc (.i .u32 inc)], .sc (.i .i64 0)⟩]) (gs := [exF])
  (av := [(25, 1356, [(0, Je5 inc, true)]), (25, 1756, [(0, Jf5 inc, true)]), (4, 0, Ja5 inc kn)]) ⟨cmp_ok (by rw [hi, hi]) _, trivial⟩ ⟨exF_ok, trivial⟩ ⟨⟨Je5_ok hi, trivial⟩, ⟨Jf5_ok hi, trivial⟩, Ja5_ok hi hk, trivial⟩ (n := 3000) (by kernel_rfl)
end Go.Proofs.YtpbhfolaoccpkaaGreat
