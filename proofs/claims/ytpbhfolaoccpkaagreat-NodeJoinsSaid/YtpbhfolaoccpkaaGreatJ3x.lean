/- NodeJoins, where 3 are known: a run with variables in it. -/
import Derived.Test.YtpbhfolaoccpkaaGreatJT
import Derived.Test.YtpbhfolaoccpkaaGreatEX
namespace Go.Proofs.YtpbhfolaoccpkaaGreat
open Go Go.Proofs.YtpbhfolaoccpkaaGreat.Fw
set_option linter.unusedVariables false
set_option maxRecDepth 100000
def J3 (d inc kn : Int) : Fact := ⟨4, [.sc (.i .u64 d), .sc (.i .u32 inc), .sc (.i .u8 kn)], 0, [], .sc (.b true), 2313, []⟩
def Ja3 (inc kn : Int) : Adv := [(1, decide ((0 : Int) < (IntKind.wrap .i64 (Int.tmod kn (6 : Int)))), true), (1, decide ((1 : Int) < (IntKind.wrap .i64 (Int.tmod kn (6 : Int)))), true), (1, decide ((2 : Int) < (IntKind.wrap .i64 (Int.tmod kn (6 : Int)))), true), (1, decide ((3 : Int) < (IntKind.wrap .i64 (Int.tmod kn (6 : Int)))), false), (1, !(((2 : Int) == 2) && (((0 : Int) == 0) && ((R4 inc == inc) && ((((2 : Int) == 2) && (((7 : Int) == 7) && Bool.true)) && Bool.true)))), false), (4, ((5 : Int) == (IntKind.wrap .i64 ((2 : Int) + (IntKind.wrap .i64 (Int.tmod kn (6 : Int)))))), true), (0, (((2 : Int) == 2) && (((0 : Int) == 0) && ((R4 inc == inc) && ((((2 : Int) == 2) && (((7 : Int) == 7) && Bool.true)) && Bool.true)))), true)]
def Je3 (inc : Int) : Bool := (ByteArray.toList ⟨⟨[13, 2, 0, 0, 0, 0, 0, 15, 66, 64, 0, 15, 66, 64, 2, 1, 0, 0, 0, 0, 0, 0, 0, 0, 1, 0, 7, 2, 0, yB (R4 inc) 24, yB (R4 inc) 16, yB (R4 inc) 8, yB (R4 inc) 0, 0, 0, 0, 2, 0, 7]⟩⟩ == ByteArray.toList ⟨⟨[13, 2, 0, 0, 0, 0, 0, 15, 66, 64, 0, 15, 66, 64, 2, 1, 0, 0, 0, 0, 0, 0, 0, 0, 1, 0, 7, 2, 0, yB (inc) 24, yB (inc) 16, yB (inc) 8, yB (inc) 0, 0, 0, 0, 2, 0, 7]⟩⟩)
def Jf3 (inc : Int) : Bool := (ByteArray.toList ⟨⟨[15, 1, 0, 0, 0, 0, 1, 5, 1, 0, 0, 0, 0, 0, 0, 0, 0, 1, 0, 7, 2, 0, yB (R4 (R4 inc)) 24, yB (R4 (R4 inc)) 16, yB (R4 (R4 inc)) 8, yB (R4 (R4 inc)) 0, 0, 0, 0, 2, 0, 7, 10, 0, 0, 0, 0, 0, 0, 0, 0, 9, 0, 9, 11, 0, 0, 0, 0, 0, 0, 0, 0, 9, 0, 9, 12, 0, 0, 0, 0, 0, 0, 0, 0, 9, 0, 9]⟩⟩ == ByteArray.toList ⟨⟨[15, 1, 0, 0, 0, 0, 1, 5, 1, 0, 0, 0, 0, 0, 0, 0, 0, 1, 0, 7, 2, 0, yB (R4 inc) 24, yB (R4 inc) 16, yB (R4 inc) 8, yB (R4 inc) 0, 0, 0, 0, 2, 0, 7, 10, 0, 0, 0, 0, 0, 0, 0, 0, 9, 0, 9, 11, 0, 0, 0, 0, 0, 0, 0, 0, 9, 0, 9, 12, 0, 0, 0, 0, 0, 0, 0, 0, 9, 0, 9]⟩⟩)
theorem Ja3_ok {inc kn : Int} (hi : R4 inc = inc) (hk : Int.tmod kn 6 = 3) : advOk (Ja3 inc kn) := by
  unfold Ja3
  simp only [advOk, hi, hk]
  simp
  try decide
theorem Je3_ok {inc : Int} (hi : R4 inc = inc) : Je3 inc = true := by unfold Je3; rw [hi]; exact beq_self_eq_true _
theorem Jf3_ok {inc : Int} (hi : R4 inc = inc) : Jf3 inc = true := by unfold Jf3; rw [hi, hi]; exact beq_self_eq_true _
theorem J3_ok {d inc kn : Int} (hi : R4 inc = inc) (hk : Int.tmod kn 6 = 3) : (J3 d inc kn).ok E := facS_ok TBJ_ok (ps := [⟨270, 2018, [.sc (.i .u32 (R4 (R4 inc))), .sc (.i .u32 inc)], .sc (.i .i64 0)⟩]) (gs := [exF])
  (av := [(25, 1340, [(0, Je3 inc, true)]), (25, 1706, [(0, Jf3 inc, true)]), (4, 0, Ja3 inc kn)]) ⟨cmp_ok (by rw [hi, hi]) _, trivial⟩ ⟨exF_ok, trivial⟩ ⟨⟨Je3_ok hi, trivial⟩, ⟨Jf3_ok hi, trivial⟩, Ja3_ok hi hk, trivial⟩ (n := 3000) (by kernel_rfl)
end Go.Proofs.YtpbhfolaoccpkaaGreat
