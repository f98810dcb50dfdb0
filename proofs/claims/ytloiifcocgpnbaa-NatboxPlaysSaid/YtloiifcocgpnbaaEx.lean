/- The chapter's examples: the trees that they reach as a table; run by the kernel. -/
import Derived.Test.YtloiifcocgpnbaaNA
import Derived.Test.YtloiifcocgpnbaaTreeG
import Derived.Test.YtloiifcocgpnbaaFwZl
namespace Go.Proofs.Ytloiifcocgpnbaa
open Go Go.Proofs.Ytloiifcocgpnbaa.Fw
set_option linter.unusedVariables false
set_option linter.unusedSimpArgs false
def a11 (args : List AV) : Tree := match args with | [.ag [.i .i64 n0_0, .i .i64 n0_1], .sc (.i .u32 n1_), .sc (.i .u64 n2_), .sc (.i .i64 n3_)] => t11 n0_0 n0_1 n1_ n2_ n3_ | _ => .fail
theorem a11_ok : TrOk E 11 a11 := ⟨Try.f11, Try.func11, fun args C n H r => by unfold a11; split <;> intro h <;> first | exact (t11_eq _ _ _ _ _).symm | cases h⟩
def a12 (args : List AV) : Tree := match args with | [.sc (.p (some (p0_, q0_))), .sc (.i .u64 n1_), .ag [.i .u32 n2_0, .i .u16 n2_1], .ag [.i .u32 n3_0, .i .u16 n3_1]] => t12 p0_ q0_ n1_ n2_0 n2_1 n3_0 n3_1 | _ => .fail
theorem a12_ok : TrOk E 12 a12 := ⟨Try.f12, Try.func12, fun args C n H r => by unfold a12; split <;> intro h <;> first | exact (t12_eq _ _ _ _ _ _ _).symm | cases h⟩
def a13 (args : List AV) : Tree := match args with | [.ag [.i .u8 n0_0, .i .u8 n0_1, .i .u8 n0_2, .i .u8 n0_3, .i .u8 n0_4, .i .u32 n0_5, .i .u16 n0_6, .i .u64 n0_7]] => t13 n0_0 n0_1 n0_2 n0_3 n0_4 n0_5 n0_6 n0_7 | _ => .fail
theorem a13_ok : TrOk E 13 a13 := ⟨Try.f13, Try.func13, fun args C n H r => by unfold a13; split <;> intro h <;> first | exact (t13_eq _ _ _ _ _ _ _ _).symm | cases h⟩
def a14 (args : List AV) : Tree := match args with | [.ag [.i .u8 n0_0, .i .u8 n0_1, .i .u8 n0_2, .i .u8 n0_3, .i .u8 n0_4, .i .u32 n0_5, .i .u16 n0_6, .i .u64 n0_7]] => t14 n0_0 n0_1 n0_2 n0_3 n0_4 n0_5 n0_6 n0_7 | _ => .fail
theorem a14_ok : TrOk E 14 a14 := ⟨Try.f14, Try.func14, fun args C n H r => by unfold a14; split <;> intro h <;> first | exact (t14_eq _ _ _ _ _ _ _ _).symm | cases h⟩
def a15 (args : List AV) : Tree := match args with | [.sc (.p (some (p0_, q0_))), .sc (.i .u64 n1_), .sc (.i .u16 n2_), .ag [.i .u32 n3_0, .i .u16 n3_1]] => t15 p0_ q0_ n1_ n2_ n3_0 n3_1 | _ => .fail
theorem a15_ok : TrOk E 15 a15 := ⟨Try.f15, Try.func15, fun args C n H r => by unfold a15; split <;> intro h <;> first | exact (t15_eq _ _ _ _ _ _).symm | cases h⟩
def a16 (args : List AV) : Tree := match args with | [.sc (.p (some (p0_, q0_)))] => t16 p0_ q0_ | _ => .fail
theorem a16_ok : TrOk E 16 a16 := ⟨Try.f16, Try.func16, fun args C n H r => by unfold a16; split <;> intro h <;> first | exact (t16_eq _ _).symm | cases h⟩
def a17 (args : List AV) : Tree := match args with | [.sc (.p (some (p0_, q0_))), .sc (.i .u64 n1_)] => t17 p0_ q0_ n1_ | _ => .fail
theorem a17_ok : TrOk E 17 a17 := ⟨Try.f17, Try.func17, fun args C n H r => by unfold a17; split <;> intro h <;> first | exact (t17_eq _ _ _).symm | cases h⟩
def a18 (args : List AV) : Tree := match args with | [.ag [.i .i64 n0_0, .i .i64 n0_1], .ag [.i .u32 n1_0, .i .u16 n1_1]] => t18 n0_0 n0_1 n1_0 n1_1 | _ => .fail
theorem a18_ok : TrOk E 18 a18 := ⟨Try.f18, Try.func18, fun args C n H r => by unfold a18; split <;> intro h <;> first | exact (t18_eq _ _ _ _).symm | cases h⟩
def a19 (args : List AV) : Tree := match args with | [.sc (.p (some (p0_, q0_))), .sc (.i .u32 n1_)] => t19 p0_ q0_ n1_ | _ => .fail
theorem a19_ok : TrOk E 19 a19 := ⟨Try.f19, Try.func19, fun args C n H r => by unfold a19; split <;> intro h <;> first | exact (t19_eq _ _ _).symm | cases h⟩
def a20 (args : List AV) : Tree := match args with | [.sc (.p (some (p0_, q0_)))] => t20 p0_ q0_ | _ => .fail
theorem a20_ok : TrOk E 20 a20 := ⟨Try.f20, Try.func20, fun args C n H r => by unfold a20; split <;> intro h <;> first | exact (t20_eq _ _).symm | cases h⟩
def a32 (args : List AV) : Tree := match args with | [.ag [.i .i64 n0_0, .i .i64 n0_1]] => t32 n0_0 n0_1 | _ => .fail
theorem a32_ok : TrOk E 32 a32 := ⟨Try.f32, Try.func32, fun args C n H r => by unfold a32; split <;> intro h <;> first | exact (t32_eq _ _).symm | cases h⟩
def a33 (args : List AV) : Tree := match args with | [.ag [.i .u32 n0_0, .i .u16 n0_1]] => t33 n0_0 n0_1 | _ => .fail
theorem a33_ok : TrOk E 33 a33 := ⟨Try.f33, Try.func33, fun args C n H r => by unfold a33; split <;> intro h <;> first | exact (t33_eq _ _).symm | cases h⟩
def a34 (args : List AV) : Tree := match args with | [.sc (.p (some (p0_, q0_))), .ag [.i .u32 n1_0, .i .u16 n1_1], .ag [.i .u32 n2_0, .i .u16 n2_1]] => t34 p0_ q0_ n1_0 n1_1 n2_0 n2_1 | _ => .fail
theorem a34_ok : TrOk E 34 a34 := ⟨Try.f34, Try.func34, fun args C n H r => by unfold a34; split <;> intro h <;> first | exact (t34_eq _ _ _ _ _ _).symm | cases h⟩
def a35 (args : List AV) : Tree := match args with | [.sc (.sl s0_), .ag [.i .u32 n1_0, .i .u16 n1_1]] => t35 s0_ n1_0 n1_1 | _ => .fail
theorem a35_ok : TrOk E 35 a35 := ⟨Try.f35, Try.func35, fun args C n H r => by unfold a35; split <;> intro h <;> first | exact (t35_eq _ _ _).symm | cases h⟩
def a36 (args : List AV) : Tree := match args with | [.sc (.sl s0_)] => t36 s0_ | _ => .fail
theorem a36_ok : TrOk E 36 a36 := ⟨Try.f36, Try.func36, fun args C n H r => by unfold a36; split <;> intro h <;> first | exact (t36_eq _).symm | cases h⟩
def a38 (args : List AV) : Tree := match args with | [.ag [.i .u32 n0_0, .i .u16 n0_1, .i .u32 n0_2, .i .u16 n0_3, .i .u16 n0_4, .sl s0_5, .i .u64 n0_6], .sc (.p (some (p1_, q1_)))] => t38 n0_0 n0_1 n0_2 n0_3 n0_4 s0_5 n0_6 p1_ q1_ | _ => .fail
theorem a38_ok : TrOk E 38 a38 := ⟨Try.f38, Try.func38, fun args C n H r => by unfold a38; split <;> intro h <;> first | exact (t38_eq _ _ _ _ _ _ _ _ _).symm | cases h⟩
def a39 (args : List AV) : Tree := match args with | [.ag [.i .i64 n0_0, .i .i64 n0_1], .sc (.sl s1_), .ag [.i .u32 n2_0, .i .u16 n2_1]] => t39 n0_0 n0_1 s1_ n2_0 n2_1 | _ => .fail
theorem a39_ok : TrOk E 39 a39 := ⟨Try.f39, Try.func39, fun args C n H r => by unfold a39; split <;> intro h <;> first | exact (t39_eq _ _ _ _ _).symm | cases h⟩
def a40 (args : List AV) : Tree := match args with | [.sc (.sl s0_)] => t40 s0_ | _ => .fail
theorem a40_ok : TrOk E 40 a40 := ⟨Try.f40, Try.func40, fun args C n H r => by unfold a40; split <;> intro h <;> first | exact (t40_eq _).symm | cases h⟩
def a42 (args : List AV) : Tree := match args with | [.ag [.i .u32 n0_0, .i .u16 n0_1, .i .u32 n0_2, .i .u16 n0_3, .i .u16 n0_4, .sl s0_5, .i .u64 n0_6], .ag [.i .u32 n1_0, .i .u16 n1_1, .i .u32 n1_2, .i .u16 n1_3, .i .u16 n1_4, .sl s1_5, .i .u64 n1_6]] => t42 n0_0 n0_1 n0_2 n0_3 n0_4 s0_5 n0_6 n1_0 n1_1 n1_2 n1_3 n1_4 s1_5 n1_6 | _ => .fail
theorem a42_ok : TrOk E 42 a42 := ⟨Try.f42, Try.func42, fun args C n H r => by unfold a42; split <;> intro h <;> first | exact (t42_eq _ _ _ _ _ _ _ _ _ _ _ _ _ _).symm | cases h⟩
def a43 (args : List AV) : Tree := match args with | [.sc (.i .u16 n0_), .sc (.i .u16 n1_)] => t43 n0_ n1_ | _ => .fail
theorem a43_ok : TrOk E 43 a43 := ⟨Try.f43, Try.func43, fun args C n H r => by unfold a43; split <;> intro h <;> first | exact (t43_eq _ _).symm | cases h⟩
def a45 (args : List AV) : Tree := match args with | [.ag [.i .u32 n0_0, .i .u16 n0_1, .i .u32 n0_2, .i .u16 n0_3, .i .u16 n0_4, .sl s0_5, .i .u64 n0_6], .sc (.p (some (p1_, q1_)))] => t45 n0_0 n0_1 n0_2 n0_3 n0_4 s0_5 n0_6 p1_ q1_ | _ => .fail
theorem a45_ok : TrOk E 45 a45 := ⟨Try.f45, Try.func45, fun args C n H r => by unfold a45; split <;> intro h <;> first | exact (t45_eq _ _ _ _ _ _ _ _ _).symm | cases h⟩
def a51 (args : List AV) : Tree := match args with | [.sc (.p (some (p0_, q0_)))] => t51 p0_ q0_ | _ => .fail
theorem a51_ok : TrOk E 51 a51 := ⟨Try.f51, Try.func51, fun args C n H r => by unfold a51; split <;> intro h <;> first | exact (t51_eq _ _).symm | cases h⟩
def a52 (args : List AV) : Tree := match args with | [.ag [.i .i64 n0_0, .i .i64 n0_1], .ag [.i .i64 n1_0, .i .i64 n1_1]] => t52 n0_0 n0_1 n1_0 n1_1 | _ => .fail
theorem a52_ok : TrOk E 52 a52 := ⟨Try.f52, Try.func52, fun args C n H r => by unfold a52; split <;> intro h <;> first | exact (t52_eq _ _ _ _).symm | cases h⟩
def a53 (args : List AV) : Tree := match args with | [.sc (.i .i64 n0_)] => t53 n0_ | _ => .fail
theorem a53_ok : TrOk E 53 a53 := ⟨Try.f53, Try.func53, fun args C n H r => by unfold a53; split <;> intro h <;> first | exact (t53_eq _).symm | cases h⟩
def a54 (args : List AV) : Tree := match args with | [.ag [.i .u32 n0_0, .i .u16 n0_1, .i .u32 n0_2, .i .u16 n0_3, .i .u16 n0_4, .sl s0_5, .i .u64 n0_6], .sc (.p (some (p1_, q1_))), .sc (.p (some (p2_, q2_)))] => t54 n0_0 n0_1 n0_2 n0_3 n0_4 s0_5 n0_6 p1_ q1_ p2_ q2_ | _ => .fail
theorem a54_ok : TrOk E 54 a54 := ⟨Try.f54, Try.func54, fun args C n H r => by unfold a54; split <;> intro h <;> first | exact (t54_eq _ _ _ _ _ _ _ _ _ _ _).symm | cases h⟩
def a55 (args : List AV) : Tree := match args with | [.sc (.sl s0_), .sc (.fn g1_ f1_ c1_)] => t55 s0_ g1_ f1_ c1_ | _ => .fail
theorem a55_ok : TrOk E 55 a55 := ⟨Try.f55, Try.func55, fun args C n H r => by unfold a55; split <;> intro h <;> first | exact (t55_eq _ _ _ _).symm | cases h⟩
def a56 (args : List AV) : Tree := match args with | [.ag [.i .u32 n0_0, .i .u16 n0_1, .i .u32 n0_2, .i .u16 n0_3, .i .u16 n0_4, .sl s0_5, .i .u64 n0_6], .ag [.i .u32 n1_0, .i .u16 n1_1, .i .u32 n1_2, .i .u16 n1_3, .i .u16 n1_4, .sl s1_5, .i .u64 n1_6]] => t56 n0_0 n0_1 n0_2 n0_3 n0_4 s0_5 n0_6 n1_0 n1_1 n1_2 n1_3 n1_4 s1_5 n1_6 | _ => .fail
theorem a56_ok : TrOk E 56 a56 := ⟨Try.f56, Try.func56, fun args C n H r => by unfold a56; split <;> intro h <;> first | exact (t56_eq _ _ _ _ _ _ _ _ _ _ _ _ _ _).symm | cases h⟩
def a58 (args : List AV) : Tree := match args with | [.sc (.i .u64 n0_), .sc (.i .u64 n1_)] => t58 n0_ n1_ | _ => .fail
theorem a58_ok : TrOk E 58 a58 := ⟨Try.f58, Try.func58, fun args C n H r => by unfold a58; split <;> intro h <;> first | exact (t58_eq _ _).symm | cases h⟩
def a59 (args : List AV) : Tree := match args with | [.ag [.i .u32 n0_0, .i .u16 n0_1, .i .u32 n0_2, .i .u16 n0_3, .i .u16 n0_4, .sl s0_5, .i .u64 n0_6], .sc (.p (some (p1_, q1_)))] => t59 n0_0 n0_1 n0_2 n0_3 n0_4 s0_5 n0_6 p1_ q1_ | _ => .fail
theorem a59_ok : TrOk E 59 a59 := ⟨Try.f59, Try.func59, fun args C n H r => by unfold a59; split <;> intro h <;> first | exact (t59_eq _ _ _ _ _ _ _ _ _).symm | cases h⟩
def a60 (args : List AV) : Tree := match args with | [.sc (.p (some (p0_, q0_)))] => t60 p0_ q0_ | _ => .fail
theorem a60_ok : TrOk E 60 a60 := ⟨Try.f60, Try.func60, fun args C n H r => by unfold a60; split <;> intro h <;> first | exact (t60_eq _ _).symm | cases h⟩
def a61 (args : List AV) : Tree := match args with | [.sc (.sl s0_), .ag [.i .u32 n1_0, .i .u16 n1_1]] => t61 s0_ n1_0 n1_1 | _ => .fail
theorem a61_ok : TrOk E 61 a61 := ⟨Try.f61, Try.func61, fun args C n H r => by unfold a61; split <;> intro h <;> first | exact (t61_eq _ _ _).symm | cases h⟩
def a62 (args : List AV) : Tree := match args with | [.sc (.sl s0_), .sc (.fn g1_ f1_ c1_)] => t62 s0_ g1_ f1_ c1_ | _ => .fail
theorem a62_ok : TrOk E 62 a62 := ⟨Try.f62, Try.func62, fun args C n H r => by unfold a62; split <;> intro h <;> first | exact (t62_eq _ _ _ _).symm | cases h⟩
def a63 (args : List AV) : Tree := match args with | [.ag [.i .u32 n0_0, .i .u16 n0_1], .sc (.p (some (p1_, q1_)))] => t63 n0_0 n0_1 p1_ q1_ | _ => .fail
theorem a63_ok : TrOk E 63 a63 := ⟨Try.f63, Try.func63, fun args C n H r => by unfold a63; split <;> intro h <;> first | exact (t63_eq _ _ _ _).symm | cases h⟩
def a66 (args : List AV) : Tree := match args with | [.sc (.i .u16 n0_)] => t66 n0_ | _ => .fail
theorem a66_ok : TrOk E 66 a66 := ⟨Try.f66, Try.func66, fun args C n H r => by unfold a66; split <;> intro h <;> first | exact (t66_eq _).symm | cases h⟩
def a68 (args : List AV) : Tree := match args with | [.sc (.i .u64 n0_)] => t68 n0_ | _ => .fail
theorem a68_ok : TrOk E 68 a68 := ⟨Try.f68, Try.func68, fun args C n H r => by unfold a68; split <;> intro h <;> first | exact (t68_eq _).symm | cases h⟩
def a69 (args : List AV) : Tree := match args with | [.sc (.sl s0_), .sc (.fn g1_ f1_ c1_)] => t69 s0_ g1_ f1_ c1_ | _ => .fail
theorem a69_ok : TrOk E 69 a69 := ⟨Try.f69, Try.func69, fun args C n H r => by unfold a69; split <;> intro h <;> first | exact (t69_eq _ _ _ _).symm | cases h⟩
def a10 (args : List AV) : Tree := match args with | [] => t10 | _ => .fail
theorem a10_ok : TrOk E 10 a10 := ⟨Try.f10, Try.func10, fun args C n H r => by unfold a10; split <;> intro h <;> first | exact (t10_eq).symm | cases h⟩
def a37 (args : List AV) : Tree := match args with | [.sc (.sl s), .sc (.fn g f c)] => gidxF 7 bD bZ bdI s g f c | _ => .fail
theorem a37_ok : TrOk E 37 a37 := by
  obtain ⟨fn, h1, h2⟩ := bdOk.idxF
  exact ⟨fn, h1, fun args C n H r => by unfold a37; split <;> intro h <;> first | exact (h2 _ _ _ _).symm | cases h⟩
def a44 (args : List AV) : Tree := match args with | [.sc (.sl s), .sc (.fn g f c)] => gdelF 7 bD bZ bdI s g f c | _ => .fail
theorem a44_ok : TrOk E 44 a44 := by
  obtain ⟨fn, h1, h2⟩ := bdOk.delF
  exact ⟨fn, h1, fun args C n H r => by unfold a44; split <;> intro h <;> first | exact (h2 _ _ _ _).symm | cases h⟩
def a57 (args : List AV) : Tree := match args with | [.sc (.sl s)] => gor_ bI s | _ => .fail
theorem a57_ok : TrOk E 57 a57 := by
  obtain ⟨fn, h1, h2⟩ := bOk.or_
  exact ⟨fn, h1, fun args C n H r => by unfold a57; split <;> intro h <;> first | exact (h2 _).symm | cases h⟩
def a65 (args : List AV) : Tree := match args with | [.sc (.i .u64 n)] => gblen bI n | _ => .fail
theorem a65_ok : TrOk E 65 a65 := by
  obtain ⟨fn, h1, h2⟩ := bOk.blen
  exact ⟨fn, h1, fun args C n H r => by unfold a65; split <;> intro h <;> first | exact (h2 _).symm | cases h⟩
def a79 (args : List AV) : Tree := match args with | [.sc (.i .u64 n)] => glen64 bI n | _ => .fail
theorem a79_ok : TrOk E 79 a79 := by
  obtain ⟨fn, h1, h2⟩ := bOk.len64
  exact ⟨fn, h1, fun args C n H r => by unfold a79; split <;> intro h <;> first | exact (h2 _).symm | cases h⟩
def a41 (args : List AV) : Tree := match args with | [.sc (.sl s), .sc (.fn g f c)] => gsortF 7 bD bZ bsI s g f c | _ => .fail
theorem a41_ok : TrOk E 41 a41 := by
  obtain ⟨fn, h1, h2⟩ := bsOk.sortF
  exact ⟨fn, h1, fun args C n H r => by unfold a41; split <;> intro h <;> first | exact (h2 _ _ _ _).symm | cases h⟩
def a64 (args : List AV) : Tree := match args with | [.sc (.sl s), .sc (.i .i64 n1), .sc (.i .i64 n2), .sc (.i .i64 n3), .sc (.fn g f c)] => gpdq 7 bD bZ bsI s n1 n2 n3 g f c | _ => .fail
theorem a64_ok : TrOk E 64 a64 := by
  obtain ⟨fn, h1, h2⟩ := bsOk.pdq
  exact ⟨fn, h1, fun args C n H r => by unfold a64; split <;> intro h <;> first | exact (h2 _ _ _ _ _ _ _).symm | cases h⟩
def a70 (args : List AV) : Tree := match args with | [.sc (.sl s), .sc (.i .i64 n1), .sc (.i .i64 n2), .sc (.fn g f c)] => gins 7 bD bZ bsI s n1 n2 g f c | _ => .fail
theorem a70_ok : TrOk E 70 a70 := by
  obtain ⟨fn, h1, h2⟩ := bsOk.ins
  exact ⟨fn, h1, fun args C n H r => by unfold a70; split <;> intro h <;> first | exact (h2 _ _ _ _ _ _).symm | cases h⟩
def TB : Tbl := [(11, a11), (12, a12), (13, a13), (14, a14), (15, a15), (16, a16), (17, a17), (18, a18), (19, a19), (20, a20), (32, a32), (33, a33), (34, a34), (35, a35), (36, a36), (38, a38), (39, a39), (40, a40), (42, a42), (43, a43), (45, a45), (51, a51), (52, a52), (53, a53), (54, a54), (55, a55), (56, a56), (58, a58), (59, a59), (60, a60), (61, a61), (62, a62), (63, a63), (66, a66), (68, a68), (69, a69), (10, a10), (37, a37), (44, a44), (57, a57), (65, a65), (79, a79), (41, a41), (64, a64), (70, a70)]
theorem TB_ok : TbOk E TB := ⟨a11_ok, a12_ok, a13_ok, a14_ok, a15_ok, a16_ok, a17_ok, a18_ok, a19_ok, a20_ok, a32_ok, a33_ok, a34_ok, a35_ok, a36_ok, a38_ok, a39_ok, a40_ok, a42_ok, a43_ok, a45_ok, a51_ok, a52_ok, a53_ok, a54_ok, a55_ok, a56_ok, a58_ok, a59_ok, a60_ok, a61_ok, a62_ok, a63_ok, a66_ok, a68_ok, a69_ok, a10_ok, a37_ok, a44_ok, a57_ok, a65_ok, a79_ok, a41_ok, a64_ok, a70_ok, trivial⟩
end Go.Proofs.Ytloiifcocgpnbaa
namespace Go.Proofs.Ytloiifcocgpnbaa
open Go Go.Proofs.Ytloiifcocgpnbaa.Fw
theorem ex1 (h : Nat → Option AO) : (callT TB 300 10 [] ⟨1, h⟩).map (fun r => (r.1, r.2.obj 0, decide (0 < r.2.next))) = some (.sc (.b true), h 0, true) := by kernel_rfl
theorem exW1 (h : Nat → Option AO) : CallWp E 10 [] ⟨1, h⟩ fun v H' => v = .sc (.b true) ∧ H'.obj 0 = h 0 ∧ 0 < H'.next := by
  have hx := ex1 h
  cases hc : callT TB 300 10 [] ⟨1, h⟩ with
  | none => rw [hc] at hx; cases hx
  | some r =>
    rw [hc] at hx
    simp only [Option.map_some, Option.some.injEq, Prod.mk.injEq, decide_eq_true_eq] at hx
    exact ⟨300, r.1, r.2, callT_sound (E := E) TB_ok 300 hc, hx.1, hx.2.1, hx.2.2⟩
theorem exW0 : CallWp E 10 [] ⟨0, fun _ => none⟩ fun v _ => v = .sc (.b true) := by
  have hx : (callT TB 300 10 [] ⟨0, fun _ => none⟩).map Prod.fst = some (.sc (.b true)) := by kernel_rfl
  cases hc : callT TB 300 10 [] ⟨0, fun _ => none⟩ with
  | none => rw [hc] at hx; cases hx
  | some r =>
    rw [hc] at hx
    simp only [Option.map_some, Option.some.injEq] at hx
    exact ⟨300, r.1, r.2, callT_sound (E := E) TB_ok 300 hc, hx⟩
end Go.Proofs.Ytloiifcocgpnbaa
