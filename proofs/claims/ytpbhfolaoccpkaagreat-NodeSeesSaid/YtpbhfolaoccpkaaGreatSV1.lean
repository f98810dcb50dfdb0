/- One run in parts (facts), printed by a program of mine; each is looked at by the kernel. -/
import Derived.Test.YtpbhfolaoccpkaaGreatSV0
namespace Go.Proofs.YtpbhfolaoccpkaaGreat
open Go Go.Proofs.YtpbhfolaoccpkaaGreat.Fw
set_option linter.unusedVariables false
set_option maxRecDepth 100000
/-- a call of 25 -/
def V30 (d : Int) : Fact := ⟨25, [.sc (.s ⟨⟨[5, 5, 0, 0, 0, 0, 1, 0, 8, 1, 5, 0, 0, 0, 2, 1, 0]⟩⟩)], 1748, [(1159, Vo0), (1160, Vo1), (1169, Vo1), (1170, Vo2), (1172, Vo19 d), (1173, Vo4), (1174, Vo24 d), (1175, Vo6), (1177, Vo27), (1178, Vo8), (1179, Vo9), (1180, Vo10), (1197, Vo11), (1350, Vo13), (1404, Vo23), (1547, Vo25)],
 .tu [.ag [.i .i64 5, .i .i64 5, .i .u32 0, .i .i64 1, .i .u32 0, .i .u16 0, .cx .f64 0 0, .b false, .s ⟨⟨[1, 5, 0, 0, 0, 2, 1, 0]⟩⟩, .sl none], .sc (.i .i64 0)], 1798, [(1159, Vo0), (1160, Vo1), (1169, Vo1), (1170, Vo2), (1172, Vo19 d), (1173, Vo4), (1174, Vo24 d), (1175, Vo6), (1177, Vo27), (1178, Vo8), (1179, Vo9), (1180, Vo10), (1197, Vo11), (1350, Vo13), (1404, Vo23), (1547, Vo25)]⟩
theorem V30_ok (d : Int) : (V30 d).ok E := facS_ok TBS_ok (ps := []) (gs := []) (av := []) trivial trivial trivial (n := 3000) (by kernel_rfl)
/-- a call of 13 -/
def V40 (d : Int) : Fact := ⟨13, [.sc (.p (some (1174, 0))), .sc (.i .u64 1)], 1799, [(1159, Vo0), (1160, Vo1), (1169, Vo1), (1170, Vo2), (1172, Vo19 d), (1173, Vo4), (1174, Vo24 d), (1175, Vo6), (1177, Vo27), (1178, Vo8), (1179, Vo9), (1180, Vo10), (1197, Vo11), (1350, Vo13), (1404, Vo23), (1547, Vo25), (1798, Vo29)],
 .sc (.sl none), 1915, [(1159, Vo0), (1160, Vo1), (1169, Vo1), (1170, Vo2), (1172, Vo19 d), (1173, Vo4), (1174, Vo28 d), (1175, Vo6), (1177, Vo27), (1178, Vo8), (1179, Vo9), (1180, Vo10), (1197, Vo11), (1350, Vo13), (1404, Vo23), (1547, Vo25), (1798, Vo29)]⟩
theorem V40_ok (d : Int) : (V40 d).ok E := facS_ok TBS_ok (ps := []) (gs := []) (av := []) trivial trivial trivial (n := 3000) (by kernel_rfl)
/-- a call of 13 -/
def V50 (d : Int) : Fact := ⟨13, [.sc (.p (some (1174, 0))), .sc (.i .u64 2)], 1915, [(1159, Vo0), (1160, Vo1), (1169, Vo1), (1170, Vo2), (1172, Vo19 d), (1173, Vo4), (1174, Vo28 d), (1175, Vo6), (1177, Vo27), (1178, Vo8), (1179, Vo9), (1180, Vo10), (1197, Vo11), (1350, Vo13), (1404, Vo23), (1547, Vo25), (1798, Vo29)],
 .sc (.sl none), 2031, [(1159, Vo0), (1160, Vo1), (1169, Vo1), (1170, Vo2), (1172, Vo19 d), (1173, Vo4), (1174, Vo30 d), (1175, Vo6), (1177, Vo27), (1178, Vo8), (1179, Vo9), (1180, Vo10), (1197, Vo11), (1350, Vo13), (1404, Vo23), (1547, Vo25), (1798, Vo29)]⟩
theorem V50_ok (d : Int) : (V50 d).ok E := facS_ok TBS_ok (ps := []) (gs := []) (av := []) trivial trivial trivial (n := 3000) (by kernel_rfl)
/-- a call of 13 -/
def V60 (d : Int) : Fact := ⟨13, [.sc (.p (some (1174, 0))), .sc (.i .u64 3)], 2031, [(1159, Vo0), (1160, Vo1), (1169, Vo1), (1170, Vo2), (1172, Vo19 d), (1173, Vo4), (1174, Vo30 d), (1175, Vo6), (1177, Vo27), (1178, Vo8), (1179, Vo9), (1180, Vo10), (1197, Vo11), (1350, Vo13), (1404, Vo23), (1547, Vo25), (1798, Vo29)],
 .sc (.sl none), 2147, [(1159, Vo0), (1160, Vo1), (1169, Vo1), (1170, Vo2), (1172, Vo19 d), (1173, Vo4), (1174, Vo31 d), (1175, Vo6), (1177, Vo27), (1178, Vo8), (1179, Vo9), (1180, Vo10), (1197, Vo11), (1350, Vo13), (1404, Vo23), (1547, Vo25), (1798, Vo29)]⟩
theorem V60_ok (d : Int) : (V60 d).ok E := facS_ok TBS_ok (ps := []) (gs := []) (av := []) trivial trivial trivial (n := 3000) (by kernel_rfl)
/-- a call of 13 -/
def V76 (d : Int) : Fact := ⟨13, [.sc (.p (some (1174, 0))), .sc (.i .u64 4)], 2147, [(1159, Vo0), (1160, Vo1), (1169, Vo1), (1170, Vo2), (1172, Vo19 d), (1173, Vo4), (1174, Vo31 d), (1175, Vo6), (1177, Vo27), (1178, Vo8), (1179, Vo9), (1180, Vo10), (1197, Vo11), (1350, Vo13), (1404, Vo23), (1547, Vo25), (1798, Vo29)],
 .sc (.sl (some ⟨2305, 0, 1, 1, 3⟩)), 2384, [(1159, Vo0), (1160, Vo1), (1169, Vo1), (1170, Vo2), (1172, Vo19 d), (1173, Vo4), (1174, Vo37 d), (1175, Vo6), (1177, Vo38), (1178, Vo8), (1179, Vo9), (1180, Vo10), (1197, Vo11), (1350, Vo13), (1404, Vo23), (1547, Vo25), (1798, Vo29), (2269, Vo36), (2305, Vo40)]⟩
theorem V76_ok (d : Int) : (V76 d).ok E := facS_ok TBS_ok (ps := []) (gs := []) (av := []) trivial trivial trivial (n := 3000) (by kernel_rfl)
/-- a call of 25 -/
def V77 (d : Int) : Fact := ⟨25, [.sc (.s ⟨⟨[6, 5, 0, 0, 0, 3, 0, 0, 0, 5, 0, 7, 0]⟩⟩)], 2384, [(1159, Vo0), (1160, Vo1), (1169, Vo1), (1170, Vo2), (1172, Vo19 d), (1173, Vo4), (1174, Vo37 d), (1175, Vo6), (1177, Vo38), (1178, Vo8), (1179, Vo9), (1180, Vo10), (1197, Vo11), (1350, Vo13), (1404, Vo23), (1547, Vo25), (1798, Vo29), (2269, Vo36), (2305, Vo40)],
 .tu [.ag [.i .i64 6, .i .i64 5, .i .u32 3, .i .i64 0, .i .u32 5, .i .u16 7, .cx .f64 0 0, .b false, .s ⟨⟨[]⟩⟩, .sl none], .sc (.i .i64 0)], 2444, [(1159, Vo0), (1160, Vo1), (1169, Vo1), (1170, Vo2), (1172, Vo19 d), (1173, Vo4), (1174, Vo37 d), (1175, Vo6), (1177, Vo38), (1178, Vo8), (1179, Vo9), (1180, Vo10), (1197, Vo11), (1350, Vo13), (1404, Vo23), (1547, Vo25), (1798, Vo29), (2269, Vo36), (2305, Vo40)]⟩
theorem V77_ok (d : Int) : (V77 d).ok E := facS_ok TBS_ok (ps := []) (gs := []) (av := []) trivial trivial trivial (n := 3000) (by kernel_rfl)
/-- a call of 23 -/
def V78 (d : Int) : Fact := ⟨23, [.ag [.i .i64 7, .i .i64 1, .i .u32 3, .i .i64 0, .i .u32 44, .i .u16 4, .cx .f64 0 0, .b false, .s ⟨⟨[]⟩⟩, .sl none]], 2445, [(1159, Vo0), (1160, Vo1), (1169, Vo1), (1170, Vo2), (1172, Vo19 d), (1173, Vo4), (1174, Vo37 d), (1175, Vo6), (1177, Vo38), (1178, Vo8), (1179, Vo9), (1180, Vo10), (1197, Vo11), (1350, Vo13), (1404, Vo23), (1547, Vo25), (1798, Vo29), (2269, Vo36), (2305, Vo40), (2444, Vo41)],
 .tu [.sc (.s ⟨⟨[7, 1, 0, 0, 0, 3, 0, 0, 0, 44, 0, 4, 0]⟩⟩), .sc (.b true)], 2475, [(1159, Vo0), (1160, Vo1), (1169, Vo1), (1170, Vo2), (1172, Vo19 d), (1173, Vo4), (1174, Vo37 d), (1175, Vo6), (1177, Vo38), (1178, Vo8), (1179, Vo9), (1180, Vo10), (1197, Vo11), (1350, Vo13), (1404, Vo23), (1547, Vo25), (1798, Vo29), (2269, Vo36), (2305, Vo40), (2444, Vo41)]⟩
theorem V78_ok (d : Int) : (V78 d).ok E := facS_ok TBS_ok (ps := []) (gs := []) (av := []) trivial trivial trivial (n := 3000) (by kernel_rfl)
/-- a call of 23 -/
def V79 (d : Int) : Fact := ⟨23, [.ag [.i .i64 7, .i .i64 3, .i .u32 3, .i .i64 0, .i .u32 44, .i .u16 4, .cx .f64 0 0, .b true, .s ⟨⟨[]⟩⟩, .sl none]], 2475, [(1159, Vo0), (1160, Vo1), (1169, Vo1), (1170, Vo2), (1172, Vo19 d), (1173, Vo4), (1174, Vo37 d), (1175, Vo6), (1177, Vo38), (1178, Vo8), (1179, Vo9), (1180, Vo10), (1197, Vo11), (1350, Vo13), (1404, Vo23), (1547, Vo25), (1798, Vo29), (2269, Vo36), (2305, Vo40), (2444, Vo41)],
 .tu [.sc (.s ⟨⟨[7, 3, 0, 0, 0, 3, 0, 0, 0, 44, 0, 4, 1]⟩⟩), .sc (.b true)], 2505, [(1159, Vo0), (1160, Vo1), (1169, Vo1), (1170, Vo2), (1172, Vo19 d), (1173, Vo4), (1174, Vo37 d), (1175, Vo6), (1177, Vo38), (1178, Vo8), (1179, Vo9), (1180, Vo10), (1197, Vo11), (1350, Vo13), (1404, Vo23), (1547, Vo25), (1798, Vo29), (2269, Vo36), (2305, Vo40), (2444, Vo41)]⟩
theorem V79_ok (d : Int) : (V79 d).ok E := facS_ok TBS_ok (ps := []) (gs := []) (av := []) trivial trivial trivial (n := 3000) (by kernel_rfl)
/-- a call of 15 -/
def V80 (d : Int) : Fact := ⟨15, [.sc (.p (some (1174, 0))), .sc (.i .u64 4), .ag [.i .u32 1, .i .u16 7], .sc (.s ⟨⟨[7, 1, 0, 0, 0, 3, 0, 0, 0, 44, 0, 4, 0]⟩⟩)], 2505, [(1159, Vo0), (1160, Vo1), (1169, Vo1), (1170, Vo2), (1172, Vo19 d), (1173, Vo4), (1174, Vo37 d), (1175, Vo6), (1177, Vo38), (1178, Vo8), (1179, Vo9), (1180, Vo10), (1197, Vo11), (1350, Vo13), (1404, Vo23), (1547, Vo25), (1798, Vo29), (2269, Vo36), (2305, Vo40), (2444, Vo41)],
 .sc (.sl none), 2576, [(1159, Vo0), (1160, Vo1), (1169, Vo1), (1170, Vo2), (1172, Vo19 d), (1173, Vo4), (1174, Vo37 d), (1175, Vo6), (1177, Vo42), (1178, Vo8), (1179, Vo9), (1180, Vo10), (1197, Vo11), (1350, Vo13), (1404, Vo23), (1547, Vo25), (1798, Vo29), (2269, Vo36), (2305, Vo40), (2444, Vo41)]⟩
theorem V80_ok (d : Int) : (V80 d).ok E := facS_ok TBS_ok (ps := []) (gs := []) (av := []) trivial trivial trivial (n := 3000) (by kernel_rfl)
/-- a call of 15 -/
def V81 (d : Int) : Fact := ⟨15, [.sc (.p (some (1174, 0))), .sc (.i .u64 4), .ag [.i .u32 3, .i .u16 7], .sc (.s ⟨⟨[7, 3, 0, 0, 0, 3, 0, 0, 0, 44, 0, 4, 1]⟩⟩)], 2576, [(1159, Vo0), (1160, Vo1), (1169, Vo1), (1170, Vo2), (1172, Vo19 d), (1173, Vo4), (1174, Vo37 d), (1175, Vo6), (1177, Vo42), (1178, Vo8), (1179, Vo9), (1180, Vo10), (1197, Vo11), (1350, Vo13), (1404, Vo23), (1547, Vo25), (1798, Vo29), (2269, Vo36), (2305, Vo40), (2444, Vo41)],
 .sc (.sl none), 2645, [(1159, Vo0), (1160, Vo1), (1169, Vo1), (1170, Vo2), (1172, Vo19 d), (1173, Vo4), (1174, Vo37 d), (1175, Vo6), (1177, Vo43), (1178, Vo8), (1179, Vo9), (1180, Vo10), (1197, Vo11), (1350, Vo13), (1404, Vo23), (1547, Vo25), (1798, Vo29), (2269, Vo36), (2305, Vo40), (2444, Vo41)]⟩
theorem V81_ok (d : Int) : (V81 d).ok E := facS_ok TBS_ok (ps := []) (gs := []) (av := []) trivial trivial trivial (n := 3000) (by kernel_rfl)
end Go.Proofs.YtpbhfolaoccpkaaGreat
