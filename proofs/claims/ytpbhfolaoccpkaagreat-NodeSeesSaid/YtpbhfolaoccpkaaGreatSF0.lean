/- One run in parts (facts), printed by a program of mine; each is looked at by the kernel. -/
import Derived.Test.YtpbhfolaoccpkaaGreatSFO
namespace Go.Proofs.YtpbhfolaoccpkaaGreat
open Go Go.Proofs.YtpbhfolaoccpkaaGreat.Fw
set_option linter.unusedVariables false
set_option maxRecDepth 100000
/-- a call of 8 -/
def S1 (d : Int) : Fact := ⟨8, [.ag [.i .i64 5, .i .u32 5, .i .u16 7, .cx .f64 0 0, .i .u64 d, .i .u32 0, .sl (some ⟨1160, 0, 1, 1, 4⟩), .i .u64 4, .i .u64 30, .i .i64 1]], 1161, [(1159, So0), (1160, So1)],
 .tu [.sc (.p (some (1174, 0))), .sc (.i .i64 0)], 1198, [(1159, So0), (1160, So1), (1169, So1), (1170, So2), (1172, So3 d), (1173, So4), (1174, So5 d), (1175, So6), (1177, So7), (1178, So8), (1179, So9), (1180, So10), (1197, So11)]⟩
theorem S1_ok (d : Int) : (S1 d).ok E := facS_ok TBS_ok (ps := []) (gs := []) (av := []) trivial trivial trivial (n := 3000) (by kernel_rfl)
/-- a call of 19 -/
def S2 (d : Int) : Fact := ⟨19, [.sc (.p (some (1174, 0)))], 1198, [(1159, So0), (1160, So1), (1169, So1), (1170, So2), (1172, So3 d), (1173, So4), (1174, So5 d), (1175, So6), (1177, So7), (1178, So8), (1179, So9), (1180, So10), (1197, So11)],
 .sc (.p (some (1170, 0))), 1198, [(1159, So0), (1160, So1), (1169, So1), (1170, So2), (1172, So3 d), (1173, So4), (1174, So5 d), (1175, So6), (1177, So7), (1178, So8), (1179, So9), (1180, So10), (1197, So11)]⟩
theorem S2_ok (d : Int) : (S2 d).ok E := facS_ok TBS_ok (ps := []) (gs := []) (av := []) trivial trivial trivial (n := 3000) (by kernel_rfl)
/-- a call of 61 -/
def S16 (d : Int) : Fact := ⟨61, [.sc (.p (some (1174, 0))), .sc (.i .u64 0)], 1236, [(1159, So0), (1160, So1), (1169, So1), (1170, So2), (1172, So3 d), (1173, So4), (1174, So5 d), (1175, So6), (1177, So7), (1178, So8), (1179, So9), (1180, So10), (1197, So11)],
 .tu [], 1409, [(1159, So0), (1160, So1), (1169, So1), (1170, So2), (1172, So19 d), (1173, So4), (1174, So22 d), (1175, So6), (1177, So15), (1178, So8), (1179, So9), (1180, So10), (1197, So11), (1236, So1), (1237, So13), (1238, So13), (1244, So13), (1249, So1), (1292, So18), (1350, So13), (1404, So23), (1408, So1)]⟩
theorem S16_ok (d : Int) : (S16 d).ok E := facS_ok TBS_ok (ps := []) (gs := []) (av := []) trivial trivial trivial (n := 3000) (by kernel_rfl)
/-- a call of 66 -/
def S20 (d : Int) : Fact := ⟨66, [.sc (.p (some (1178, 0))), .sc (.i .u64 0)], 1413, [(1159, So0), (1160, So1), (1169, So1), (1170, So2), (1172, So19 d), (1173, So4), (1174, So22 d), (1175, So6), (1177, So15), (1178, So8), (1179, So9), (1180, So10), (1197, So11), (1350, So13), (1404, So23)],
 .sc (.sl none), 1480, [(1159, So0), (1160, So1), (1169, So1), (1170, So2), (1172, So19 d), (1173, So4), (1174, So22 d), (1175, So6), (1177, So15), (1178, So8), (1179, So9), (1180, So10), (1197, So11), (1350, So13), (1404, So23)]⟩
theorem S20_ok (d : Int) : (S20 d).ok E := facS_ok TBS_ok (ps := []) (gs := []) (av := []) trivial trivial trivial (n := 3000) (by kernel_rfl)
/-- a call of 13 -/
def S24 (d : Int) : Fact := ⟨13, [.sc (.p (some (1174, 0))), .sc (.i .u64 0)], 1198, [(1159, So0), (1160, So1), (1169, So1), (1170, So2), (1172, So3 d), (1173, So4), (1174, So5 d), (1175, So6), (1177, So7), (1178, So8), (1179, So9), (1180, So10), (1197, So11)],
 .sc (.sl (some ⟨1404, 0, 2, 2, 3⟩)), 1487, [(1159, So0), (1160, So1), (1169, So1), (1170, So2), (1172, So19 d), (1173, So4), (1174, So24 d), (1175, So6), (1177, So15), (1178, So8), (1179, So9), (1180, So10), (1197, So11), (1350, So13), (1404, So23)]⟩
theorem S24_ok (d : Int) : (S24 d).ok E := facS_ok TBS_ok (ps := []) (gs := [S16 d, S20 d]) (av := []) trivial ⟨S16_ok d, S20_ok d, trivial⟩ trivial (n := 3000) (by kernel_rfl)
/-- a call of 25 -/
def S25 (d : Int) : Fact := ⟨25, [.sc (.s ⟨⟨[6, 5, 0, 0, 0, 1, 0, 0, 0, 5, 0, 7, 0]⟩⟩)], 1487, [(1159, So0), (1160, So1), (1169, So1), (1170, So2), (1172, So19 d), (1173, So4), (1174, So24 d), (1175, So6), (1177, So15), (1178, So8), (1179, So9), (1180, So10), (1197, So11), (1350, So13), (1404, So23)],
 .tu [.ag [.i .i64 6, .i .i64 5, .i .u32 1, .i .i64 0, .i .u32 5, .i .u16 7, .cx .f64 0 0, .b false, .s ⟨⟨[]⟩⟩, .sl none], .sc (.i .i64 0)], 1547, [(1159, So0), (1160, So1), (1169, So1), (1170, So2), (1172, So19 d), (1173, So4), (1174, So24 d), (1175, So6), (1177, So15), (1178, So8), (1179, So9), (1180, So10), (1197, So11), (1350, So13), (1404, So23)]⟩
theorem S25_ok (d : Int) : (S25 d).ok E := facS_ok TBS_ok (ps := []) (gs := []) (av := []) trivial trivial trivial (n := 3000) (by kernel_rfl)
/-- a call of 23 -/
def S26 (d : Int) : Fact := ⟨23, [.ag [.i .i64 7, .i .i64 1, .i .u32 1, .i .i64 0, .i .u32 44, .i .u16 4, .cx .f64 0 0, .b false, .s ⟨⟨[]⟩⟩, .sl none]], 1548, [(1159, So0), (1160, So1), (1169, So1), (1170, So2), (1172, So19 d), (1173, So4), (1174, So24 d), (1175, So6), (1177, So15), (1178, So8), (1179, So9), (1180, So10), (1197, So11), (1350, So13), (1404, So23), (1547, So25)],
 .tu [.sc (.s ⟨⟨[7, 1, 0, 0, 0, 1, 0, 0, 0, 44, 0, 4, 0]⟩⟩), .sc (.b true)], 1578, [(1159, So0), (1160, So1), (1169, So1), (1170, So2), (1172, So19 d), (1173, So4), (1174, So24 d), (1175, So6), (1177, So15), (1178, So8), (1179, So9), (1180, So10), (1197, So11), (1350, So13), (1404, So23), (1547, So25)]⟩
theorem S26_ok (d : Int) : (S26 d).ok E := facS_ok TBS_ok (ps := []) (gs := []) (av := []) trivial trivial trivial (n := 3000) (by kernel_rfl)
/-- a call of 23 -/
def S27 (d : Int) : Fact := ⟨23, [.ag [.i .i64 7, .i .i64 3, .i .u32 1, .i .i64 0, .i .u32 44, .i .u16 4, .cx .f64 0 0, .b true, .s ⟨⟨[]⟩⟩, .sl none]], 1578, [(1159, So0), (1160, So1), (1169, So1), (1170, So2), (1172, So19 d), (1173, So4), (1174, So24 d), (1175, So6), (1177, So15), (1178, So8), (1179, So9), (1180, So10), (1197, So11), (1350, So13), (1404, So23), (1547, So25)],
 .tu [.sc (.s ⟨⟨[7, 3, 0, 0, 0, 1, 0, 0, 0, 44, 0, 4, 1]⟩⟩), .sc (.b true)], 1608, [(1159, So0), (1160, So1), (1169, So1), (1170, So2), (1172, So19 d), (1173, So4), (1174, So24 d), (1175, So6), (1177, So15), (1178, So8), (1179, So9), (1180, So10), (1197, So11), (1350, So13), (1404, So23), (1547, So25)]⟩
theorem S27_ok (d : Int) : (S27 d).ok E := facS_ok TBS_ok (ps := []) (gs := []) (av := []) trivial trivial trivial (n := 3000) (by kernel_rfl)
/-- a call of 15 -/
def S28 (d : Int) : Fact := ⟨15, [.sc (.p (some (1174, 0))), .sc (.i .u64 0), .ag [.i .u32 1, .i .u16 7], .sc (.s ⟨⟨[7, 1, 0, 0, 0, 1, 0, 0, 0, 44, 0, 4, 0]⟩⟩)], 1608, [(1159, So0), (1160, So1), (1169, So1), (1170, So2), (1172, So19 d), (1173, So4), (1174, So24 d), (1175, So6), (1177, So15), (1178, So8), (1179, So9), (1180, So10), (1197, So11), (1350, So13), (1404, So23), (1547, So25)],
 .sc (.sl none), 1679, [(1159, So0), (1160, So1), (1169, So1), (1170, So2), (1172, So19 d), (1173, So4), (1174, So24 d), (1175, So6), (1177, So26), (1178, So8), (1179, So9), (1180, So10), (1197, So11), (1350, So13), (1404, So23), (1547, So25)]⟩
theorem S28_ok (d : Int) : (S28 d).ok E := facS_ok TBS_ok (ps := []) (gs := []) (av := []) trivial trivial trivial (n := 3000) (by kernel_rfl)
/-- a call of 25 -/
def S29 (d : Int) : Fact := ⟨25, [.sc (.s ⟨⟨[5, 5, 0, 0, 0, 0, 1, 0, 8, 1, 5, 0, 0, 0, 2, 1, 0]⟩⟩)], 1679, [(1159, So0), (1160, So1), (1169, So1), (1170, So2), (1172, So19 d), (1173, So4), (1174, So24 d), (1175, So6), (1177, So26), (1178, So8), (1179, So9), (1180, So10), (1197, So11), (1350, So13), (1404, So23), (1547, So25)],
 .tu [.ag [.i .i64 5, .i .i64 5, .i .u32 0, .i .i64 1, .i .u32 0, .i .u16 0, .cx .f64 0 0, .b false, .s ⟨⟨[1, 5, 0, 0, 0, 2, 1, 0]⟩⟩, .sl none], .sc (.i .i64 0)], 1729, [(1159, So0), (1160, So1), (1169, So1), (1170, So2), (1172, So19 d), (1173, So4), (1174, So24 d), (1175, So6), (1177, So26), (1178, So8), (1179, So9), (1180, So10), (1197, So11), (1350, So13), (1404, So23), (1547, So25)]⟩
theorem S29_ok (d : Int) : (S29 d).ok E := facS_ok TBS_ok (ps := []) (gs := []) (av := []) trivial trivial trivial (n := 3000) (by kernel_rfl)
end Go.Proofs.YtpbhfolaoccpkaaGreat
