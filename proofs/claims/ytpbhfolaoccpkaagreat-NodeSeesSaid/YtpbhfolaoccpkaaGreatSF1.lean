/- One run in parts (facts), printed by a program of mine; each is looked at by the kernel. -/
import Derived.Test.YtpbhfolaoccpkaaGreatSF0
namespace Go.Proofs.YtpbhfolaoccpkaaGreat
open Go Go.Proofs.YtpbhfolaoccpkaaGreat.Fw
set_option linter.unusedVariables false
set_option maxRecDepth 100000
/-- a call of 13 -/
def S39 (d : Int) : Fact := ⟨13, [.sc (.p (some (1174, 0))), .sc (.i .u64 1)], 1730, [(1159, So0), (1160, So1), (1169, So1), (1170, So2), (1172, So19 d), (1173, So4), (1174, So24 d), (1175, So6), (1177, So26), (1178, So8), (1179, So9), (1180, So10), (1197, So11), (1350, So13), (1404, So23), (1547, So25), (1729, So28)],
 .sc (.sl none), 1846, [(1159, So0), (1160, So1), (1169, So1), (1170, So2), (1172, So19 d), (1173, So4), (1174, So27 d), (1175, So6), (1177, So26), (1178, So8), (1179, So9), (1180, So10), (1197, So11), (1350, So13), (1404, So23), (1547, So25), (1729, So28)]⟩
theorem S39_ok (d : Int) : (S39 d).ok E := facS_ok TBS_ok (ps := []) (gs := []) (av := []) trivial trivial trivial (n := 3000) (by kernel_rfl)
/-- a call of 13 -/
def S49 (d : Int) : Fact := ⟨13, [.sc (.p (some (1174, 0))), .sc (.i .u64 2)], 1846, [(1159, So0), (1160, So1), (1169, So1), (1170, So2), (1172, So19 d), (1173, So4), (1174, So27 d), (1175, So6), (1177, So26), (1178, So8), (1179, So9), (1180, So10), (1197, So11), (1350, So13), (1404, So23), (1547, So25), (1729, So28)],
 .sc (.sl none), 1962, [(1159, So0), (1160, So1), (1169, So1), (1170, So2), (1172, So19 d), (1173, So4), (1174, So29 d), (1175, So6), (1177, So26), (1178, So8), (1179, So9), (1180, So10), (1197, So11), (1350, So13), (1404, So23), (1547, So25), (1729, So28)]⟩
theorem S49_ok (d : Int) : (S49 d).ok E := facS_ok TBS_ok (ps := []) (gs := []) (av := []) trivial trivial trivial (n := 3000) (by kernel_rfl)
/-- a call of 13 -/
def S59 (d : Int) : Fact := ⟨13, [.sc (.p (some (1174, 0))), .sc (.i .u64 3)], 1962, [(1159, So0), (1160, So1), (1169, So1), (1170, So2), (1172, So19 d), (1173, So4), (1174, So29 d), (1175, So6), (1177, So26), (1178, So8), (1179, So9), (1180, So10), (1197, So11), (1350, So13), (1404, So23), (1547, So25), (1729, So28)],
 .sc (.sl none), 2078, [(1159, So0), (1160, So1), (1169, So1), (1170, So2), (1172, So19 d), (1173, So4), (1174, So30 d), (1175, So6), (1177, So26), (1178, So8), (1179, So9), (1180, So10), (1197, So11), (1350, So13), (1404, So23), (1547, So25), (1729, So28)]⟩
theorem S59_ok (d : Int) : (S59 d).ok E := facS_ok TBS_ok (ps := []) (gs := []) (av := []) trivial trivial trivial (n := 3000) (by kernel_rfl)
/-- a call of 13 -/
def S75 (d : Int) : Fact := ⟨13, [.sc (.p (some (1174, 0))), .sc (.i .u64 4)], 2078, [(1159, So0), (1160, So1), (1169, So1), (1170, So2), (1172, So19 d), (1173, So4), (1174, So30 d), (1175, So6), (1177, So26), (1178, So8), (1179, So9), (1180, So10), (1197, So11), (1350, So13), (1404, So23), (1547, So25), (1729, So28)],
 .sc (.sl (some ⟨2236, 0, 1, 1, 3⟩)), 2315, [(1159, So0), (1160, So1), (1169, So1), (1170, So2), (1172, So19 d), (1173, So4), (1174, So36 d), (1175, So6), (1177, So37), (1178, So8), (1179, So9), (1180, So10), (1197, So11), (1350, So13), (1404, So23), (1547, So25), (1729, So28), (2200, So35), (2236, So39)]⟩
theorem S75_ok (d : Int) : (S75 d).ok E := facS_ok TBS_ok (ps := []) (gs := []) (av := []) trivial trivial trivial (n := 3000) (by kernel_rfl)
/-- a call of 25 -/
def S76 (d : Int) : Fact := ⟨25, [.sc (.s ⟨⟨[6, 5, 0, 0, 0, 3, 0, 0, 0, 5, 0, 7, 0]⟩⟩)], 2315, [(1159, So0), (1160, So1), (1169, So1), (1170, So2), (1172, So19 d), (1173, So4), (1174, So36 d), (1175, So6), (1177, So37), (1178, So8), (1179, So9), (1180, So10), (1197, So11), (1350, So13), (1404, So23), (1547, So25), (1729, So28), (2200, So35), (2236, So39)],
 .tu [.ag [.i .i64 6, .i .i64 5, .i .u32 3, .i .i64 0, .i .u32 5, .i .u16 7, .cx .f64 0 0, .b false, .s ⟨⟨[]⟩⟩, .sl none], .sc (.i .i64 0)], 2375, [(1159, So0), (1160, So1), (1169, So1), (1170, So2), (1172, So19 d), (1173, So4), (1174, So36 d), (1175, So6), (1177, So37), (1178, So8), (1179, So9), (1180, So10), (1197, So11), (1350, So13), (1404, So23), (1547, So25), (1729, So28), (2200, So35), (2236, So39)]⟩
theorem S76_ok (d : Int) : (S76 d).ok E := facS_ok TBS_ok (ps := []) (gs := []) (av := []) trivial trivial trivial (n := 3000) (by kernel_rfl)
/-- a call of 23 -/
def S77 (d : Int) : Fact := ⟨23, [.ag [.i .i64 7, .i .i64 1, .i .u32 3, .i .i64 0, .i .u32 44, .i .u16 4, .cx .f64 0 0, .b false, .s ⟨⟨[]⟩⟩, .sl none]], 2376, [(1159, So0), (1160, So1), (1169, So1), (1170, So2), (1172, So19 d), (1173, So4), (1174, So36 d), (1175, So6), (1177, So37), (1178, So8), (1179, So9), (1180, So10), (1197, So11), (1350, So13), (1404, So23), (1547, So25), (1729, So28), (2200, So35), (2236, So39), (2375, So40)],
 .tu [.sc (.s ⟨⟨[7, 1, 0, 0, 0, 3, 0, 0, 0, 44, 0, 4, 0]⟩⟩), .sc (.b true)], 2406, [(1159, So0), (1160, So1), (1169, So1), (1170, So2), (1172, So19 d), (1173, So4), (1174, So36 d), (1175, So6), (1177, So37), (1178, So8), (1179, So9), (1180, So10), (1197, So11), (1350, So13), (1404, So23), (1547, So25), (1729, So28), (2200, So35), (2236, So39), (2375, So40)]⟩
theorem S77_ok (d : Int) : (S77 d).ok E := facS_ok TBS_ok (ps := []) (gs := []) (av := []) trivial trivial trivial (n := 3000) (by kernel_rfl)
/-- a call of 23 -/
def S78 (d : Int) : Fact := ⟨23, [.ag [.i .i64 7, .i .i64 3, .i .u32 3, .i .i64 0, .i .u32 44, .i .u16 4, .cx .f64 0 0, .b true, .s ⟨⟨[]⟩⟩, .sl none]], 2406, [(1159, So0), (1160, So1), (1169, So1), (1170, So2), (1172, So19 d), (1173, So4), (1174, So36 d), (1175, So6), (1177, So37), (1178, So8), (1179, So9), (1180, So10), (1197, So11), (1350, So13), (1404, So23), (1547, So25), (1729, So28), (2200, So35), (2236, So39), (2375, So40)],
 .tu [.sc (.s ⟨⟨[7, 3, 0, 0, 0, 3, 0, 0, 0, 44, 0, 4, 1]⟩⟩), .sc (.b true)], 2436, [(1159, So0), (1160, So1), (1169, So1), (1170, So2), (1172, So19 d), (1173, So4), (1174, So36 d), (1175, So6), (1177, So37), (1178, So8), (1179, So9), (1180, So10), (1197, So11), (1350, So13), (1404, So23), (1547, So25), (1729, So28), (2200, So35), (2236, So39), (2375, So40)]⟩
theorem S78_ok (d : Int) : (S78 d).ok E := facS_ok TBS_ok (ps := []) (gs := []) (av := []) trivial trivial trivial (n := 3000) (by kernel_rfl)
/-- a call of 15 -/
def S79 (d : Int) : Fact := ⟨15, [.sc (.p (some (1174, 0))), .sc (.i .u64 4), .ag [.i .u32 1, .i .u16 7], .sc (.s ⟨⟨[7, 1, 0, 0, 0, 3, 0, 0, 0, 44, 0, 4, 0]⟩⟩)], 2436, [(1159, So0), (1160, So1), (1169, So1), (1170, So2), (1172, So19 d), (1173, So4), (1174, So36 d), (1175, So6), (1177, So37), (1178, So8), (1179, So9), (1180, So10), (1197, So11), (1350, So13), (1404, So23), (1547, So25), (1729, So28), (2200, So35), (2236, So39), (2375, So40)],
 .sc (.sl none), 2507, [(1159, So0), (1160, So1), (1169, So1), (1170, So2), (1172, So19 d), (1173, So4), (1174, So36 d), (1175, So6), (1177, So41), (1178, So8), (1179, So9), (1180, So10), (1197, So11), (1350, So13), (1404, So23), (1547, So25), (1729, So28), (2200, So35), (2236, So39), (2375, So40)]⟩
theorem S79_ok (d : Int) : (S79 d).ok E := facS_ok TBS_ok (ps := []) (gs := []) (av := []) trivial trivial trivial (n := 3000) (by kernel_rfl)
/-- a call of 13 -/
def S89 (d : Int) : Fact := ⟨13, [.sc (.p (some (1174, 0))), .sc (.i .u64 5)], 2507, [(1159, So0), (1160, So1), (1169, So1), (1170, So2), (1172, So19 d), (1173, So4), (1174, So36 d), (1175, So6), (1177, So41), (1178, So8), (1179, So9), (1180, So10), (1197, So11), (1350, So13), (1404, So23), (1547, So25), (1729, So28), (2200, So35), (2236, So39), (2375, So40)],
 .sc (.sl none), 2623, [(1159, So0), (1160, So1), (1169, So1), (1170, So2), (1172, So19 d), (1173, So4), (1174, So42 d), (1175, So6), (1177, So41), (1178, So8), (1179, So9), (1180, So10), (1197, So11), (1350, So13), (1404, So23), (1547, So25), (1729, So28), (2200, So35), (2236, So39), (2375, So40)]⟩
theorem S89_ok (d : Int) : (S89 d).ok E := facS_ok TBS_ok (ps := []) (gs := []) (av := []) trivial trivial trivial (n := 3000) (by kernel_rfl)
/-- a call of 13 -/
def S99 (d : Int) : Fact := ⟨13, [.sc (.p (some (1174, 0))), .sc (.i .u64 6)], 2623, [(1159, So0), (1160, So1), (1169, So1), (1170, So2), (1172, So19 d), (1173, So4), (1174, So42 d), (1175, So6), (1177, So41), (1178, So8), (1179, So9), (1180, So10), (1197, So11), (1350, So13), (1404, So23), (1547, So25), (1729, So28), (2200, So35), (2236, So39), (2375, So40)],
 .sc (.sl none), 2739, [(1159, So0), (1160, So1), (1169, So1), (1170, So2), (1172, So19 d), (1173, So4), (1174, So43 d), (1175, So6), (1177, So41), (1178, So8), (1179, So9), (1180, So10), (1197, So11), (1350, So13), (1404, So23), (1547, So25), (1729, So28), (2200, So35), (2236, So39), (2375, So40)]⟩
theorem S99_ok (d : Int) : (S99 d).ok E := facS_ok TBS_ok (ps := []) (gs := []) (av := []) trivial trivial trivial (n := 3000) (by kernel_rfl)
end Go.Proofs.YtpbhfolaoccpkaaGreat
