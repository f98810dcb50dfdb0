/- One run in parts (facts), printed by a program of mine; each is looked at by the kernel. -/
import Derived.Test.YtpbhfolaoccpkaaGreatSVO
namespace Go.Proofs.YtpbhfolaoccpkaaGreat
open Go Go.Proofs.YtpbhfolaoccpkaaGreat.Fw
set_option linter.unusedVariables false
set_option maxRecDepth 100000
/-- a call of 8 -/
def V1 (d : Int) : Fact := ⟨8, [.ag [.i .i64 5, .i .u32 5, .i .u16 7, .cx .f64 0 0, .i .u64 d, .i .u32 0, .sl (some ⟨1160, 0, 1, 1, 4⟩), .i .u64 4, .i .u64 30, .i .i64 1]], 1161, [(1159, Vo0), (1160, Vo1)],
 .tu [.sc (.p (some (1174, 0))), .sc (.i .i64 0)], 1198, [(1159, Vo0), (1160, Vo1), (1169, Vo1), (1170, Vo2), (1172, Vo3 d), (1173, Vo4), (1174, Vo5 d), (1175, Vo6), (1177, Vo7), (1178, Vo8), (1179, Vo9), (1180, Vo10), (1197, Vo11)]⟩
theorem V1_ok (d : Int) : (V1 d).ok E := facS_ok TBS_ok (ps := []) (gs := []) (av := []) trivial trivial trivial (n := 3000) (by kernel_rfl)
/-- a call of 19 -/
def V2 (d : Int) : Fact := ⟨19, [.sc (.p (some (1174, 0)))], 1198, [(1159, Vo0), (1160, Vo1), (1169, Vo1), (1170, Vo2), (1172, Vo3 d), (1173, Vo4), (1174, Vo5 d), (1175, Vo6), (1177, Vo7), (1178, Vo8), (1179, Vo9), (1180, Vo10), (1197, Vo11)],
 .sc (.p (some (1170, 0))), 1198, [(1159, Vo0), (1160, Vo1), (1169, Vo1), (1170, Vo2), (1172, Vo3 d), (1173, Vo4), (1174, Vo5 d), (1175, Vo6), (1177, Vo7), (1178, Vo8), (1179, Vo9), (1180, Vo10), (1197, Vo11)]⟩
theorem V2_ok (d : Int) : (V2 d).ok E := facS_ok TBS_ok (ps := []) (gs := []) (av := []) trivial trivial trivial (n := 3000) (by kernel_rfl)
/-- a call of 61 -/
def V16 (d : Int) : Fact := ⟨61, [.sc (.p (some (1174, 0))), .sc (.i .u64 0)], 1236, [(1159, Vo0), (1160, Vo1), (1169, Vo1), (1170, Vo2), (1172, Vo3 d), (1173, Vo4), (1174, Vo5 d), (1175, Vo6), (1177, Vo7), (1178, Vo8), (1179, Vo9), (1180, Vo10), (1197, Vo11)],
 .tu [], 1409, [(1159, Vo0), (1160, Vo1), (1169, Vo1), (1170, Vo2), (1172, Vo19 d), (1173, Vo4), (1174, Vo22 d), (1175, Vo6), (1177, Vo15), (1178, Vo8), (1179, Vo9), (1180, Vo10), (1197, Vo11), (1236, Vo1), (1237, Vo13), (1238, Vo13), (1244, Vo13), (1249, Vo1), (1292, Vo18), (1350, Vo13), (1404, Vo23), (1408, Vo1)]⟩
theorem V16_ok (d : Int) : (V16 d).ok E := facS_ok TBS_ok (ps := []) (gs := []) (av := []) trivial trivial trivial (n := 3000) (by kernel_rfl)
/-- a call of 66 -/
def V20 (d : Int) : Fact := ⟨66, [.sc (.p (some (1178, 0))), .sc (.i .u64 0)], 1413, [(1159, Vo0), (1160, Vo1), (1169, Vo1), (1170, Vo2), (1172, Vo19 d), (1173, Vo4), (1174, Vo22 d), (1175, Vo6), (1177, Vo15), (1178, Vo8), (1179, Vo9), (1180, Vo10), (1197, Vo11), (1350, Vo13), (1404, Vo23)],
 .sc (.sl none), 1480, [(1159, Vo0), (1160, Vo1), (1169, Vo1), (1170, Vo2), (1172, Vo19 d), (1173, Vo4), (1174, Vo22 d), (1175, Vo6), (1177, Vo15), (1178, Vo8), (1179, Vo9), (1180, Vo10), (1197, Vo11), (1350, Vo13), (1404, Vo23)]⟩
theorem V20_ok (d : Int) : (V20 d).ok E := facS_ok TBS_ok (ps := []) (gs := []) (av := []) trivial trivial trivial (n := 3000) (by kernel_rfl)
/-- a call of 13 -/
def V24 (d : Int) : Fact := ⟨13, [.sc (.p (some (1174, 0))), .sc (.i .u64 0)], 1198, [(1159, Vo0), (1160, Vo1), (1169, Vo1), (1170, Vo2), (1172, Vo3 d), (1173, Vo4), (1174, Vo5 d), (1175, Vo6), (1177, Vo7), (1178, Vo8), (1179, Vo9), (1180, Vo10), (1197, Vo11)],
 .sc (.sl (some ⟨1404, 0, 2, 2, 3⟩)), 1487, [(1159, Vo0), (1160, Vo1), (1169, Vo1), (1170, Vo2), (1172, Vo19 d), (1173, Vo4), (1174, Vo24 d), (1175, Vo6), (1177, Vo15), (1178, Vo8), (1179, Vo9), (1180, Vo10), (1197, Vo11), (1350, Vo13), (1404, Vo23)]⟩
theorem V24_ok (d : Int) : (V24 d).ok E := facS_ok TBS_ok (ps := []) (gs := [V16 d, V20 d]) (av := []) trivial ⟨V16_ok d, V20_ok d, trivial⟩ trivial (n := 3000) (by kernel_rfl)
/-- a call of 25 -/
def V25 (d : Int) : Fact := ⟨25, [.sc (.s ⟨⟨[6, 5, 0, 0, 0, 1, 0, 0, 0, 5, 0, 7, 0]⟩⟩)], 1487, [(1159, Vo0), (1160, Vo1), (1169, Vo1), (1170, Vo2), (1172, Vo19 d), (1173, Vo4), (1174, Vo24 d), (1175, Vo6), (1177, Vo15), (1178, Vo8), (1179, Vo9), (1180, Vo10), (1197, Vo11), (1350, Vo13), (1404, Vo23)],
 .tu [.ag [.i .i64 6, .i .i64 5, .i .u32 1, .i .i64 0, .i .u32 5, .i .u16 7, .cx .f64 0 0, .b false, .s ⟨⟨[]⟩⟩, .sl none], .sc (.i .i64 0)], 1547, [(1159, Vo0), (1160, Vo1), (1169, Vo1), (1170, Vo2), (1172, Vo19 d), (1173, Vo4), (1174, Vo24 d), (1175, Vo6), (1177, Vo15), (1178, Vo8), (1179, Vo9), (1180, Vo10), (1197, Vo11), (1350, Vo13), (1404, Vo23)]⟩
theorem V25_ok (d : Int) : (V25 d).ok E := facS_ok TBS_ok (ps := []) (gs := []) (av := []) trivial trivial trivial (n := 3000) (by kernel_rfl)
/-- a call of 23 -/
def V26 (d : Int) : Fact := ⟨23, [.ag [.i .i64 7, .i .i64 1, .i .u32 1, .i .i64 0, .i .u32 44, .i .u16 4, .cx .f64 0 0, .b false, .s ⟨⟨[]⟩⟩, .sl none]], 1548, [(1159, Vo0), (1160, Vo1), (1169, Vo1), (1170, Vo2), (1172, Vo19 d), (1173, Vo4), (1174, Vo24 d), (1175, Vo6), (1177, Vo15), (1178, Vo8), (1179, Vo9), (1180, Vo10), (1197, Vo11), (1350, Vo13), (1404, Vo23), (1547, Vo25)],
 .tu [.sc (.s ⟨⟨[7, 1, 0, 0, 0, 1, 0, 0, 0, 44, 0, 4, 0]⟩⟩), .sc (.b true)], 1578, [(1159, Vo0), (1160, Vo1), (1169, Vo1), (1170, Vo2), (1172, Vo19 d), (1173, Vo4), (1174, Vo24 d), (1175, Vo6), (1177, Vo15), (1178, Vo8), (1179, Vo9), (1180, Vo10), (1197, Vo11), (1350, Vo13), (1404, Vo23), (1547, Vo25)]⟩
theorem V26_ok (d : Int) : (V26 d).ok E := facS_ok TBS_ok (ps := []) (gs := []) (av := []) trivial trivial trivial (n := 3000) (by kernel_rfl)
/-- a call of 23 -/
def V27 (d : Int) : Fact := ⟨23, [.ag [.i .i64 7, .i .i64 3, .i .u32 1, .i .i64 0, .i .u32 44, .i .u16 4, .cx .f64 0 0, .b true, .s ⟨⟨[]⟩⟩, .sl none]], 1578, [(1159, Vo0), (1160, Vo1), (1169, Vo1), (1170, Vo2), (1172, Vo19 d), (1173, Vo4), (1174, Vo24 d), (1175, Vo6), (1177, Vo15), (1178, Vo8), (1179, Vo9), (1180, Vo10), (1197, Vo11), (1350, Vo13), (1404, Vo23), (1547, Vo25)],
 .tu [.sc (.s ⟨⟨[7, 3, 0, 0, 0, 1, 0, 0, 0, 44, 0, 4, 1]⟩⟩), .sc (.b true)], 1608, [(1159, Vo0), (1160, Vo1), (1169, Vo1), (1170, Vo2), (1172, Vo19 d), (1173, Vo4), (1174, Vo24 d), (1175, Vo6), (1177, Vo15), (1178, Vo8), (1179, Vo9), (1180, Vo10), (1197, Vo11), (1350, Vo13), (1404, Vo23), (1547, Vo25)]⟩
theorem V27_ok (d : Int) : (V27 d).ok E := facS_ok TBS_ok (ps := []) (gs := []) (av := []) trivial trivial trivial (n := 3000) (by kernel_rfl)
/-- a call of 15 -/
def V28 (d : Int) : Fact := ⟨15, [.sc (.p (some (1174, 0))), .sc (.i .u64 0), .ag [.i .u32 1, .i .u16 7], .sc (.s ⟨⟨[7, 1, 0, 0, 0, 1, 0, 0, 0, 44, 0, 4, 0]⟩⟩)], 1608, [(1159, Vo0), (1160, Vo1), (1169, Vo1), (1170, Vo2), (1172, Vo19 d), (1173, Vo4), (1174, Vo24 d), (1175, Vo6), (1177, Vo15), (1178, Vo8), (1179, Vo9), (1180, Vo10), (1197, Vo11), (1350, Vo13), (1404, Vo23), (1547, Vo25)],
 .sc (.sl none), 1679, [(1159, Vo0), (1160, Vo1), (1169, Vo1), (1170, Vo2), (1172, Vo19 d), (1173, Vo4), (1174, Vo24 d), (1175, Vo6), (1177, Vo26), (1178, Vo8), (1179, Vo9), (1180, Vo10), (1197, Vo11), (1350, Vo13), (1404, Vo23), (1547, Vo25)]⟩
theorem V28_ok (d : Int) : (V28 d).ok E := facS_ok TBS_ok (ps := []) (gs := []) (av := []) trivial trivial trivial (n := 3000) (by kernel_rfl)
/-- a call of 15 -/
def V29 (d : Int) : Fact := ⟨15, [.sc (.p (some (1174, 0))), .sc (.i .u64 0), .ag [.i .u32 3, .i .u16 7], .sc (.s ⟨⟨[7, 3, 0, 0, 0, 1, 0, 0, 0, 44, 0, 4, 1]⟩⟩)], 1679, [(1159, Vo0), (1160, Vo1), (1169, Vo1), (1170, Vo2), (1172, Vo19 d), (1173, Vo4), (1174, Vo24 d), (1175, Vo6), (1177, Vo26), (1178, Vo8), (1179, Vo9), (1180, Vo10), (1197, Vo11), (1350, Vo13), (1404, Vo23), (1547, Vo25)],
 .sc (.sl none), 1748, [(1159, Vo0), (1160, Vo1), (1169, Vo1), (1170, Vo2), (1172, Vo19 d), (1173, Vo4), (1174, Vo24 d), (1175, Vo6), (1177, Vo27), (1178, Vo8), (1179, Vo9), (1180, Vo10), (1197, Vo11), (1350, Vo13), (1404, Vo23), (1547, Vo25)]⟩
theorem V29_ok (d : Int) : (V29 d).ok E := facS_ok TBS_ok (ps := []) (gs := []) (av := []) trivial trivial trivial (n := 3000) (by kernel_rfl)
end Go.Proofs.YtpbhfolaoccpkaaGreat
