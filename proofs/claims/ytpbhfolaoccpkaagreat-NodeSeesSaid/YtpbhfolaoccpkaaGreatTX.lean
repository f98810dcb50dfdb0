/- The chapter's examples: a table of trees; run by the kernel. -/
import Derived.Test.YtpbhfolaoccpkaaGreatFwZr
import Derived.Test.YtpbhfolaoccpkaaGreatTreeC
import Derived.Test.YtpbhfolaoccpkaaGreatTreeY
namespace Go.Proofs.YtpbhfolaoccpkaaGreat
open Go Go.Proofs.YtpbhfolaoccpkaaGreat.Fw
set_option linter.unusedVariables false
set_option linter.unusedSimpArgs false
set_option maxRecDepth 100000
def a5 (args : List AV) : Tree := match args with | [.sc (.s x0_), .sc (.i .u8 n1_), .sc (.b b2_), .sc (.b b3_)] => t5 x0_ n1_ b2_ b3_ | _ => .fail
theorem a5_ok : TrOk E 5 a5 := ⟨Tryz.f5, Tryz.func5, fun args C n H r => by unfold a5; split <;> intro h <;> first | exact (t5_eq _ _ _ _).symm | cases h⟩
noncomputable def a7 (args : List AV) : Tree := bodyK T (hs 7) Tryz.f7 args
theorem a7_ok : TrOk E 7 a7 := ⟨Tryz.f7, Tryz.func7, fun args C n H r _ => rfl⟩
def a8 (args : List AV) : Tree := match args with | [.ag [.i .i64 n0_0, .i .u32 n0_1, .i .u16 n0_2, .cx .f64 n0_3 m0_3, .i .u64 n0_4, .i .u32 n0_5, .sl s0_6, .i .u64 n0_7, .i .u64 n0_8, .i .i64 n0_9]] => t8 n0_0 n0_1 n0_2 n0_3 m0_3 n0_4 n0_5 s0_6 n0_7 n0_8 n0_9 | _ => .fail
theorem a8_ok : TrOk E 8 a8 := ⟨Tryz.f8, Tryz.func8, fun args C n H r => by unfold a8; split <;> intro h <;> first | exact (t8_eq _ _ _ _ _ _ _ _ _ _ _).symm | cases h⟩
noncomputable def a11 (args : List AV) : Tree := bodyK T (hs 11) Tryz.f11 args
theorem a11_ok : TrOk E 11 a11 := ⟨Tryz.f11, Tryz.func11, fun args C n H r _ => rfl⟩
noncomputable def a13 (args : List AV) : Tree := bodyK T (hs 13) Tryz.f13 args
theorem a13_ok : TrOk E 13 a13 := ⟨Tryz.f13, Tryz.func13, fun args C n H r _ => rfl⟩
def a15 (args : List AV) : Tree := match args with | [.sc (.p (some (p0_, q0_))), .sc (.i .u64 n1_), .ag [.i .u32 n2_0, .i .u16 n2_1], .sc (.s x3_)] => t15 p0_ q0_ n1_ n2_0 n2_1 x3_ | _ => .fail
theorem a15_ok : TrOk E 15 a15 := ⟨Tryz.f15, Tryz.func15, fun args C n H r => by unfold a15; split <;> intro h <;> first | exact (t15_eq _ _ _ _ _ _).symm | cases h⟩
def a19 (args : List AV) : Tree := match args with | [.sc (.p (some (p0_, q0_)))] => t19 p0_ q0_ | _ => .fail
theorem a19_ok : TrOk E 19 a19 := ⟨Tryz.f19, Tryz.func19, fun args C n H r => by unfold a19; split <;> intro h <;> first | exact (t19_eq _ _).symm | cases h⟩
def a20 (args : List AV) : Tree := match args with | [.sc (.p (some (p0_, q0_))), .ag [.i .i64 n1_0, .i .i64 n1_1, .i .u32 n1_2, .i .u32 n1_3, .i .u16 n1_4]] => t20 p0_ q0_ n1_0 n1_1 n1_2 n1_3 n1_4 | _ => .fail
theorem a20_ok : TrOk E 20 a20 := ⟨Tryz.f20, Tryz.func20, fun args C n H r => by unfold a20; split <;> intro h <;> first | exact (t20_eq _ _ _ _ _ _ _).symm | cases h⟩
noncomputable def a21 (args : List AV) : Tree := bodyK T (hs 21) Tryz.f21 args
theorem a21_ok : TrOk E 21 a21 := ⟨Tryz.f21, Tryz.func21, fun args C n H r _ => rfl⟩
noncomputable def a22 (args : List AV) : Tree := bodyK T (hs 22) Tryz.f22 args
theorem a22_ok : TrOk E 22 a22 := ⟨Tryz.f22, Tryz.func22, fun args C n H r _ => rfl⟩
def a23 (args : List AV) : Tree := match args with | [.ag [.i .i64 n0_0, .i .i64 n0_1, .i .u32 n0_2, .i .i64 n0_3, .i .u32 n0_4, .i .u16 n0_5, .cx .f64 n0_6 m0_6, .b b0_7, .s x0_8, .sl s0_9]] => t23 n0_0 n0_1 n0_2 n0_3 n0_4 n0_5 n0_6 m0_6 b0_7 x0_8 s0_9 | _ => .fail
theorem a23_ok : TrOk E 23 a23 := ⟨Tryz.f23, Tryz.func23, fun args C n H r => by unfold a23; split <;> intro h <;> first | exact (t23_eq _ _ _ _ _ _ _ _ _ _ _).symm | cases h⟩
def a24 (args : List AV) : Tree := match args with | [.sc (.p (some (p0_, q0_)))] => t24 p0_ q0_ | _ => .fail
theorem a24_ok : TrOk E 24 a24 := ⟨Tryz.f24, Tryz.func24, fun args C n H r => by unfold a24; split <;> intro h <;> first | exact (t24_eq _ _).symm | cases h⟩
def a25 (args : List AV) : Tree := match args with | [.sc (.s x0_)] => t25 x0_ | _ => .fail
theorem a25_ok : TrOk E 25 a25 := ⟨Tryz.f25, Tryz.func25, fun args C n H r => by unfold a25; split <;> intro h <;> first | exact (t25_eq _).symm | cases h⟩
noncomputable def a26 (args : List AV) : Tree := bodyK T (hs 26) Tryz.f26 args
theorem a26_ok : TrOk E 26 a26 := ⟨Tryz.f26, Tryz.func26, fun args C n H r _ => rfl⟩
noncomputable def a27 (args : List AV) : Tree := bodyK T (hs 27) Tryz.f27 args
theorem a27_ok : TrOk E 27 a27 := ⟨Tryz.f27, Tryz.func27, fun args C n H r _ => rfl⟩
noncomputable def a28 (args : List AV) : Tree := bodyK T (hs 28) Tryz.f28 args
theorem a28_ok : TrOk E 28 a28 := ⟨Tryz.f28, Tryz.func28, fun args C n H r _ => rfl⟩
noncomputable def a29 (args : List AV) : Tree := bodyK T (hs 29) Tryz.f29 args
theorem a29_ok : TrOk E 29 a29 := ⟨Tryz.f29, Tryz.func29, fun args C n H r _ => rfl⟩
noncomputable def a30 (args : List AV) : Tree := bodyK T (hs 30) Tryz.f30 args
theorem a30_ok : TrOk E 30 a30 := ⟨Tryz.f30, Tryz.func30, fun args C n H r _ => rfl⟩
noncomputable def a31 (args : List AV) : Tree := bodyK T (hs 31) Tryz.f31 args
theorem a31_ok : TrOk E 31 a31 := ⟨Tryz.f31, Tryz.func31, fun args C n H r _ => rfl⟩
noncomputable def a32 (args : List AV) : Tree := bodyK T (hs 32) Tryz.f32 args
theorem a32_ok : TrOk E 32 a32 := ⟨Tryz.f32, Tryz.func32, fun args C n H r _ => rfl⟩
def a33 (args : List AV) : Tree := match args with | [.ag [.i .i64 n0_0, .i .u32 n0_1, .i .u16 n0_2, .cx .f64 n0_3 m0_3, .i .u64 n0_4, .i .u32 n0_5, .sl s0_6, .i .u64 n0_7, .i .u64 n0_8, .i .i64 n0_9]] => t33 n0_0 n0_1 n0_2 n0_3 m0_3 n0_4 n0_5 s0_6 n0_7 n0_8 n0_9 | _ => .fail
theorem a33_ok : TrOk E 33 a33 := ⟨Tryz.f33, Tryz.func33, fun args C n H r => by unfold a33; split <;> intro h <;> first | exact (t33_eq _ _ _ _ _ _ _ _ _ _ _).symm | cases h⟩
def a34 (args : List AV) : Tree := match args with | [.sc (.sl s0_)] => t34 s0_ | _ => .fail
theorem a34_ok : TrOk E 34 a34 := ⟨Tryz.f34, Tryz.func34, fun args C n H r => by unfold a34; split <;> intro h <;> first | exact (t34_eq _).symm | cases h⟩
def a35 (args : List AV) : Tree := match args with | [] => t35 | _ => .fail
theorem a35_ok : TrOk E 35 a35 := ⟨Tryz.f35, Tryz.func35, fun args C n H r => by unfold a35; split <;> intro h <;> first | exact (t35_eq).symm | cases h⟩
def a36 (args : List AV) : Tree := match args with | [.sc (.i .u64 n0_)] => t36 n0_ | _ => .fail
theorem a36_ok : TrOk E 36 a36 := ⟨Tryz.f36, Tryz.func36, fun args C n H r => by unfold a36; split <;> intro h <;> first | exact (t36_eq _).symm | cases h⟩
def a37 (args : List AV) : Tree := match args with | [] => t37 | _ => .fail
theorem a37_ok : TrOk E 37 a37 := ⟨Tryz.f37, Tryz.func37, fun args C n H r => by unfold a37; split <;> intro h <;> first | exact (t37_eq).symm | cases h⟩
def a38 (args : List AV) : Tree := match args with | [.sc (.i .i64 n0_)] => t38 n0_ | _ => .fail
theorem a38_ok : TrOk E 38 a38 := ⟨Tryz.f38, Tryz.func38, fun args C n H r => by unfold a38; split <;> intro h <;> first | exact (t38_eq _).symm | cases h⟩
def a39 (args : List AV) : Tree := match args with | [.sc (.i .u64 n0_), .sc (.i .u64 n1_)] => t39 n0_ n1_ | _ => .fail
theorem a39_ok : TrOk E 39 a39 := ⟨Tryz.f39, Tryz.func39, fun args C n H r => by unfold a39; split <;> intro h <;> first | exact (t39_eq _ _).symm | cases h⟩
def a40 (args : List AV) : Tree := match args with | [.sc (.i .i64 n0_), .sc (.i .u64 n1_)] => t40 n0_ n1_ | _ => .fail
theorem a40_ok : TrOk E 40 a40 := ⟨Tryz.f40, Tryz.func40, fun args C n H r => by unfold a40; split <;> intro h <;> first | exact (t40_eq _ _).symm | cases h⟩
def a41 (args : List AV) : Tree := match args with | [.sc (.i .i64 n0_), .sc (.i .u64 n1_)] => t41 n0_ n1_ | _ => .fail
theorem a41_ok : TrOk E 41 a41 := ⟨Tryz.f41, Tryz.func41, fun args C n H r => by unfold a41; split <;> intro h <;> first | exact (t41_eq _ _).symm | cases h⟩
def a42 (args : List AV) : Tree := match args with | [.sc (.i .i64 n0_), .sc (.i .u64 n1_)] => t42 n0_ n1_ | _ => .fail
theorem a42_ok : TrOk E 42 a42 := ⟨Tryz.f42, Tryz.func42, fun args C n H r => by unfold a42; split <;> intro h <;> first | exact (t42_eq _ _).symm | cases h⟩
def a43 (args : List AV) : Tree := match args with | [.sc (.i .i64 n0_), .sc (.i .u64 n1_), .sc (.i .u64 n2_), .sc (.i .u64 n3_)] => t43 n0_ n1_ n2_ n3_ | _ => .fail
theorem a43_ok : TrOk E 43 a43 := ⟨Tryz.f43, Tryz.func43, fun args C n H r => by unfold a43; split <;> intro h <;> first | exact (t43_eq _ _ _ _).symm | cases h⟩
def a53 (args : List AV) : Tree := match args with | [.sc (.p (some (p0_, q0_))), .ag [.i .u32 n1_0, .i .u16 n1_1], .ag [.i .i64 n2_0, .i .i64 n2_1, .i .u32 n2_2, .i .i64 n2_3, .i .u32 n2_4, .i .u16 n2_5, .cx .f64 n2_6 m2_6, .b b2_7, .s x2_8, .sl s2_9]] => t53 p0_ q0_ n1_0 n1_1 n2_0 n2_1 n2_2 n2_3 n2_4 n2_5 n2_6 m2_6 b2_7 x2_8 s2_9 | _ => .fail
theorem a53_ok : TrOk E 53 a53 := ⟨Tryz.f53, Tryz.func53, fun args C n H r => by unfold a53; split <;> intro h <;> first | exact (t53_eq _ _ _ _ _ _ _ _ _ _ _ _ _ _ _).symm | cases h⟩
noncomputable def a54 (args : List AV) : Tree := bodyK T (hs 54) Tryz.f54 args
theorem a54_ok : TrOk E 54 a54 := ⟨Tryz.f54, Tryz.func54, fun args C n H r _ => rfl⟩
def a55 (args : List AV) : Tree := match args with | [.sc (.p (some (p0_, q0_)))] => t55 p0_ q0_ | _ => .fail
theorem a55_ok : TrOk E 55 a55 := ⟨Tryz.f55, Tryz.func55, fun args C n H r => by unfold a55; split <;> intro h <;> first | exact (t55_eq _ _).symm | cases h⟩
noncomputable def a59 (args : List AV) : Tree := bodyK T (hs 59) Tryz.f59 args
theorem a59_ok : TrOk E 59 a59 := ⟨Tryz.f59, Tryz.func59, fun args C n H r _ => rfl⟩
noncomputable def a60 (args : List AV) : Tree := bodyK T (hs 60) Tryz.f60 args
theorem a60_ok : TrOk E 60 a60 := ⟨Tryz.f60, Tryz.func60, fun args C n H r _ => rfl⟩
noncomputable def a61 (args : List AV) : Tree := bodyK T (hs 61) Tryz.f61 args
theorem a61_ok : TrOk E 61 a61 := ⟨Tryz.f61, Tryz.func61, fun args C n H r _ => rfl⟩
def a62 (args : List AV) : Tree := match args with | [.sc (.p (some (p0_, q0_)))] => t62 p0_ q0_ | _ => .fail
theorem a62_ok : TrOk E 62 a62 := ⟨Tryz.f62, Tryz.func62, fun args C n H r => by unfold a62; split <;> intro h <;> first | exact (t62_eq _ _).symm | cases h⟩
noncomputable def a63 (args : List AV) : Tree := bodyK T (hs 63) Tryz.f63 args
theorem a63_ok : TrOk E 63 a63 := ⟨Tryz.f63, Tryz.func63, fun args C n H r _ => rfl⟩
noncomputable def a65 (args : List AV) : Tree := bodyK T (hs 65) Tryz.f65 args
theorem a65_ok : TrOk E 65 a65 := ⟨Tryz.f65, Tryz.func65, fun args C n H r _ => rfl⟩
def a66 (args : List AV) : Tree := match args with | [.sc (.p (some (p0_, q0_))), .sc (.i .u64 n1_)] => t66 p0_ q0_ n1_ | _ => .fail
theorem a66_ok : TrOk E 66 a66 := ⟨Tryz.f66, Tryz.func66, fun args C n H r => by unfold a66; split <;> intro h <;> first | exact (t66_eq _ _ _).symm | cases h⟩
noncomputable def a67 (args : List AV) : Tree := bodyK T (hs 67) Tryz.f67 args
theorem a67_ok : TrOk E 67 a67 := ⟨Tryz.f67, Tryz.func67, fun args C n H r _ => rfl⟩
def a81 (args : List AV) : Tree := match args with | [.sc (.p (some (p0_, q0_))), .sc (.i .u64 n1_), .ag [.i .u32 n2_0, .i .u16 n2_1], .sc (.s x3_), .sc (.b b4_)] => t81 p0_ q0_ n1_ n2_0 n2_1 x3_ b4_ | _ => .fail
theorem a81_ok : TrOk E 81 a81 := ⟨Tryz.f81, Tryz.func81, fun args C n H r => by unfold a81; split <;> intro h <;> first | exact (t81_eq _ _ _ _ _ _ _).symm | cases h⟩
def a87 (args : List AV) : Tree := match args with | [.ag [.i .i64 n0_0, .i .i64 n0_1, .i .u32 n0_2, .i .u32 n0_3, .i .u16 n0_4]] => t87 n0_0 n0_1 n0_2 n0_3 n0_4 | _ => .fail
theorem a87_ok : TrOk E 87 a87 := ⟨Tryz.f87, Tryz.func87, fun args C n H r => by unfold a87; split <;> intro h <;> first | exact (t87_eq _ _ _ _ _).symm | cases h⟩
noncomputable def a88 (args : List AV) : Tree := bodyK T (hs 88) Tryz.f88 args
theorem a88_ok : TrOk E 88 a88 := ⟨Tryz.f88, Tryz.func88, fun args C n H r _ => rfl⟩
noncomputable def a89 (args : List AV) : Tree := bodyK T (hs 89) Tryz.f89 args
theorem a89_ok : TrOk E 89 a89 := ⟨Tryz.f89, Tryz.func89, fun args C n H r _ => rfl⟩
def a90 (args : List AV) : Tree := match args with | [.sc (.p (some (p0_, q0_))), .ag [.i .i64 n1_0, .i .i64 n1_1, .i .i64 n1_2, .i .u32 n1_3]] => t90 p0_ q0_ n1_0 n1_1 n1_2 n1_3 | _ => .fail
theorem a90_ok : TrOk E 90 a90 := ⟨Tryz.f90, Tryz.func90, fun args C n H r => by unfold a90; split <;> intro h <;> first | exact (t90_eq _ _ _ _ _ _).symm | cases h⟩
noncomputable def a91 (args : List AV) : Tree := bodyK T (hs 91) Tryz.f91 args
theorem a91_ok : TrOk E 91 a91 := ⟨Tryz.f91, Tryz.func91, fun args C n H r _ => rfl⟩
def a92 (args : List AV) : Tree := match args with | [.sc (.i .i64 n0_)] => t92 n0_ | _ => .fail
theorem a92_ok : TrOk E 92 a92 := ⟨Tryz.f92, Tryz.func92, fun args C n H r => by unfold a92; split <;> intro h <;> first | exact (t92_eq _).symm | cases h⟩
def a93 (args : List AV) : Tree := match args with | [.sc (.i .u64 n0_), .sc (.i .i64 n1_)] => t93 n0_ n1_ | _ => .fail
theorem a93_ok : TrOk E 93 a93 := ⟨Tryz.f93, Tryz.func93, fun args C n H r => by unfold a93; split <;> intro h <;> first | exact (t93_eq _ _).symm | cases h⟩
def a94 (args : List AV) : Tree := match args with | [.ag [.i .u32 n0_0, .i .u16 n0_1]] => t94 n0_0 n0_1 | _ => .fail
theorem a94_ok : TrOk E 94 a94 := ⟨Tryz.f94, Tryz.func94, fun args C n H r => by unfold a94; split <;> intro h <;> first | exact (t94_eq _ _).symm | cases h⟩
def a95 (args : List AV) : Tree := match args with | [.sc (.cx .f64 n0_ m0_)] => t95 n0_ m0_ | _ => .fail
theorem a95_ok : TrOk E 95 a95 := ⟨Tryz.f95, Tryz.func95, fun args C n H r => by unfold a95; split <;> intro h <;> first | exact (t95_eq _ _).symm | cases h⟩
def a96 (args : List AV) : Tree := match args with | [.ag [.i .i64 n0_0, .i .i64 n0_1, .i .u32 n0_2, .i .u32 n0_3, .i .u16 n0_4]] => t96 n0_0 n0_1 n0_2 n0_3 n0_4 | _ => .fail
theorem a96_ok : TrOk E 96 a96 := ⟨Tryz.f96, Tryz.func96, fun args C n H r => by unfold a96; split <;> intro h <;> first | exact (t96_eq _ _ _ _ _).symm | cases h⟩
def a97 (args : List AV) : Tree := match args with | [.sc (.p (some (p0_, q0_)))] => t97 p0_ q0_ | _ => .fail
theorem a97_ok : TrOk E 97 a97 := ⟨Tryz.f97, Tryz.func97, fun args C n H r => by unfold a97; split <;> intro h <;> first | exact (t97_eq _ _).symm | cases h⟩
def a98 (args : List AV) : Tree := match args with | [.sc (.s x0_)] => t98 x0_ | _ => .fail
theorem a98_ok : TrOk E 98 a98 := ⟨Tryz.f98, Tryz.func98, fun args C n H r => by unfold a98; split <;> intro h <;> first | exact (t98_eq _).symm | cases h⟩
def a99 (args : List AV) : Tree := match args with | [.sc (.p (some (p0_, q0_))), .sc (.i .i64 n1_)] => t99 p0_ q0_ n1_ | _ => .fail
theorem a99_ok : TrOk E 99 a99 := ⟨Tryz.f99, Tryz.func99, fun args C n H r => by unfold a99; split <;> intro h <;> first | exact (t99_eq _ _ _).symm | cases h⟩
def a100 (args : List AV) : Tree := match args with | [.sc (.i .i64 n0_)] => t100 n0_ | _ => .fail
theorem a100_ok : TrOk E 100 a100 := ⟨Tryz.f100, Tryz.func100, fun args C n H r => by unfold a100; split <;> intro h <;> first | exact (t100_eq _).symm | cases h⟩
def a101 (args : List AV) : Tree := match args with | [.sc (.p (some (p0_, q0_))), .sc (.p (some (p1_, q1_))), .sc (.i .i32 n2_)] => t101 p0_ q0_ p1_ q1_ n2_ | _ => .fail
theorem a101_ok : TrOk E 101 a101 := ⟨Tryz.f101, Tryz.func101, fun args C n H r => by unfold a101; split <;> intro h <;> first | exact (t101_eq _ _ _ _ _).symm | cases h⟩
def a102 (args : List AV) : Tree := match args with | [.ag [.s x0_0, .b b0_1]] => t102 x0_0 b0_1 | _ => .fail
theorem a102_ok : TrOk E 102 a102 := ⟨Tryz.f102, Tryz.func102, fun args C n H r => by unfold a102; split <;> intro h <;> first | exact (t102_eq _ _).symm | cases h⟩
def a103 (args : List AV) : Tree := match args with | [.ag [.i .i64 n0_0, .i .i64 n0_1, .i .u32 n0_2, .i .i64 n0_3, .i .u32 n0_4, .i .u16 n0_5, .cx .f64 n0_6 m0_6, .b b0_7, .s x0_8, .sl s0_9]] => t103 n0_0 n0_1 n0_2 n0_3 n0_4 n0_5 n0_6 m0_6 b0_7 x0_8 s0_9 | _ => .fail
theorem a103_ok : TrOk E 103 a103 := ⟨Tryz.f103, Tryz.func103, fun args C n H r => by unfold a103; split <;> intro h <;> first | exact (t103_eq _ _ _ _ _ _ _ _ _ _ _).symm | cases h⟩
def a104 (args : List AV) : Tree := match args with | [.sc (.s x0_)] => t104 x0_ | _ => .fail
theorem a104_ok : TrOk E 104 a104 := ⟨Tryz.f104, Tryz.func104, fun args C n H r => by unfold a104; split <;> intro h <;> first | exact (t104_eq _).symm | cases h⟩
def a105 (args : List AV) : Tree := match args with | [.sc (.s x0_), .sc (.i .i64 n1_)] => t105 x0_ n1_ | _ => .fail
theorem a105_ok : TrOk E 105 a105 := ⟨Tryz.f105, Tryz.func105, fun args C n H r => by unfold a105; split <;> intro h <;> first | exact (t105_eq _ _).symm | cases h⟩
noncomputable def a106 (args : List AV) : Tree := bodyK T (hs 106) Tryz.f106 args
theorem a106_ok : TrOk E 106 a106 := ⟨Tryz.f106, Tryz.func106, fun args C n H r _ => rfl⟩
noncomputable def a107 (args : List AV) : Tree := bodyK T (hs 107) Tryz.f107 args
theorem a107_ok : TrOk E 107 a107 := ⟨Tryz.f107, Tryz.func107, fun args C n H r _ => rfl⟩
noncomputable def a108 (args : List AV) : Tree := bodyK T (hs 108) Tryz.f108 args
theorem a108_ok : TrOk E 108 a108 := ⟨Tryz.f108, Tryz.func108, fun args C n H r _ => rfl⟩
noncomputable def a109 (args : List AV) : Tree := bodyK T (hs 109) Tryz.f109 args
theorem a109_ok : TrOk E 109 a109 := ⟨Tryz.f109, Tryz.func109, fun args C n H r _ => rfl⟩
noncomputable def a110 (args : List AV) : Tree := bodyK T (hs 110) Tryz.f110 args
theorem a110_ok : TrOk E 110 a110 := ⟨Tryz.f110, Tryz.func110, fun args C n H r _ => rfl⟩
noncomputable def a111 (args : List AV) : Tree := bodyK T (hs 111) Tryz.f111 args
theorem a111_ok : TrOk E 111 a111 := ⟨Tryz.f111, Tryz.func111, fun args C n H r _ => rfl⟩
noncomputable def a112 (args : List AV) : Tree := bodyK T (hs 112) Tryz.f112 args
theorem a112_ok : TrOk E 112 a112 := ⟨Tryz.f112, Tryz.func112, fun args C n H r _ => rfl⟩
noncomputable def a113 (args : List AV) : Tree := bodyK T (hs 113) Tryz.f113 args
theorem a113_ok : TrOk E 113 a113 := ⟨Tryz.f113, Tryz.func113, fun args C n H r _ => rfl⟩
def a114 (args : List AV) : Tree := match args with | [.sc (.i .i64 n0_)] => t114 n0_ | _ => .fail
theorem a114_ok : TrOk E 114 a114 := ⟨Tryz.f114, Tryz.func114, fun args C n H r => by unfold a114; split <;> intro h <;> first | exact (t114_eq _).symm | cases h⟩
def a115 (args : List AV) : Tree := match args with | [.ag [.i .u32 n0_0, .i .u16 n0_1]] => t115 n0_0 n0_1 | _ => .fail
theorem a115_ok : TrOk E 115 a115 := ⟨Tryz.f115, Tryz.func115, fun args C n H r => by unfold a115; split <;> intro h <;> first | exact (t115_eq _ _).symm | cases h⟩
def a116 (args : List AV) : Tree := match args with | [.sc (.cx .f64 n0_ m0_)] => t116 n0_ m0_ | _ => .fail
theorem a116_ok : TrOk E 116 a116 := ⟨Tryz.f116, Tryz.func116, fun args C n H r => by unfold a116; split <;> intro h <;> first | exact (t116_eq _ _).symm | cases h⟩
def a117 (args : List AV) : Tree := match args with | [.sc (.sl s0_), .sc (.i .i64 n1_)] => t117 s0_ n1_ | _ => .fail
theorem a117_ok : TrOk E 117 a117 := ⟨Tryz.f117, Tryz.func117, fun args C n H r => by unfold a117; split <;> intro h <;> first | exact (t117_eq _ _).symm | cases h⟩
def a118 (args : List AV) : Tree := match args with | [.sc (.i .u64 n0_), .sc (.i .u64 n1_), .sc (.i .u64 n2_)] => t118 n0_ n1_ n2_ | _ => .fail
theorem a118_ok : TrOk E 118 a118 := ⟨Tryz.f118, Tryz.func118, fun args C n H r => by unfold a118; split <;> intro h <;> first | exact (t118_eq _ _ _).symm | cases h⟩
def a119 (args : List AV) : Tree := match args with | [.sc (.i .u64 n0_)] => t119 n0_ | _ => .fail
theorem a119_ok : TrOk E 119 a119 := ⟨Tryz.f119, Tryz.func119, fun args C n H r => by unfold a119; split <;> intro h <;> first | exact (t119_eq _).symm | cases h⟩
def a120 (args : List AV) : Tree := match args with | [.ag [.i .u32 n0_0, .i .u16 n0_1]] => t120 n0_0 n0_1 | _ => .fail
theorem a120_ok : TrOk E 120 a120 := ⟨Tryz.f120, Tryz.func120, fun args C n H r => by unfold a120; split <;> intro h <;> first | exact (t120_eq _ _).symm | cases h⟩
def a121 (args : List AV) : Tree := match args with | [.sc (.cx .f64 n0_ m0_)] => t121 n0_ m0_ | _ => .fail
theorem a121_ok : TrOk E 121 a121 := ⟨Tryz.f121, Tryz.func121, fun args C n H r => by unfold a121; split <;> intro h <;> first | exact (t121_eq _ _).symm | cases h⟩
def a122 (args : List AV) : Tree := match args with | [.ag [.i .i64 n0_0, .i .i64 n0_1, .i .u32 n0_2, .i .u32 n0_3, .i .u16 n0_4]] => t122 n0_0 n0_1 n0_2 n0_3 n0_4 | _ => .fail
theorem a122_ok : TrOk E 122 a122 := ⟨Tryz.f122, Tryz.func122, fun args C n H r => by unfold a122; split <;> intro h <;> first | exact (t122_eq _ _ _ _ _).symm | cases h⟩
def a125 (args : List AV) : Tree := match args with | [.sc (.cx .f64 n0_ m0_)] => t125 n0_ m0_ | _ => .fail
theorem a125_ok : TrOk E 125 a125 := ⟨Tryz.f125, Tryz.func125, fun args C n H r => by unfold a125; split <;> intro h <;> first | exact (t125_eq _ _).symm | cases h⟩
def a126 (args : List AV) : Tree := match args with | [.sc (.i .i64 n0_), .sc (.i .i64 n1_)] => t126 n0_ n1_ | _ => .fail
theorem a126_ok : TrOk E 126 a126 := ⟨Tryz.f126, Tryz.func126, fun args C n H r => by unfold a126; split <;> intro h <;> first | exact (t126_eq _ _).symm | cases h⟩
noncomputable def a127 (args : List AV) : Tree := bodyK T (hs 127) Tryz.f127 args
theorem a127_ok : TrOk E 127 a127 := ⟨Tryz.f127, Tryz.func127, fun args C n H r _ => rfl⟩
noncomputable def a129 (args : List AV) : Tree := bodyK T (hs 129) Tryz.f129 args
theorem a129_ok : TrOk E 129 a129 := ⟨Tryz.f129, Tryz.func129, fun args C n H r _ => rfl⟩
noncomputable def a130 (args : List AV) : Tree := bodyK T (hs 130) Tryz.f130 args
theorem a130_ok : TrOk E 130 a130 := ⟨Tryz.f130, Tryz.func130, fun args C n H r _ => rfl⟩
noncomputable def a131 (args : List AV) : Tree := bodyK T (hs 131) Tryz.f131 args
theorem a131_ok : TrOk E 131 a131 := ⟨Tryz.f131, Tryz.func131, fun args C n H r _ => rfl⟩
noncomputable def a132 (args : List AV) : Tree := bodyK T (hs 132) Tryz.f132 args
theorem a132_ok : TrOk E 132 a132 := ⟨Tryz.f132, Tryz.func132, fun args C n H r _ => rfl⟩
noncomputable def a133 (args : List AV) : Tree := bodyK T (hs 133) Tryz.f133 args
theorem a133_ok : TrOk E 133 a133 := ⟨Tryz.f133, Tryz.func133, fun args C n H r _ => rfl⟩
def a134 (args : List AV) : Tree := match args with | [.sc (.p (some (p0_, q0_))), .sc (.i .i64 n1_)] => t134 p0_ q0_ n1_ | _ => .fail
theorem a134_ok : TrOk E 134 a134 := ⟨Tryz.f134, Tryz.func134, fun args C n H r => by unfold a134; split <;> intro h <;> first | exact (t134_eq _ _ _).symm | cases h⟩
noncomputable def a135 (args : List AV) : Tree := bodyK T (hs 135) Tryz.f135 args
theorem a135_ok : TrOk E 135 a135 := ⟨Tryz.f135, Tryz.func135, fun args C n H r _ => rfl⟩
noncomputable def a136 (args : List AV) : Tree := bodyK T (hs 136) Tryz.f136 args
theorem a136_ok : TrOk E 136 a136 := ⟨Tryz.f136, Tryz.func136, fun args C n H r _ => rfl⟩
noncomputable def a140 (args : List AV) : Tree := bodyK T (hs 140) Tryz.f140 args
theorem a140_ok : TrOk E 140 a140 := ⟨Tryz.f140, Tryz.func140, fun args C n H r _ => rfl⟩
noncomputable def a142 (args : List AV) : Tree := bodyK T (hs 142) Tryz.f142 args
theorem a142_ok : TrOk E 142 a142 := ⟨Tryz.f142, Tryz.func142, fun args C n H r _ => rfl⟩
noncomputable def a143 (args : List AV) : Tree := bodyK T (hs 143) Tryz.f143 args
theorem a143_ok : TrOk E 143 a143 := ⟨Tryz.f143, Tryz.func143, fun args C n H r _ => rfl⟩
def a145 (args : List AV) : Tree := match args with | [.sc (.p (some (p0_, q0_))), .sc (.i .i64 n1_)] => t145 p0_ q0_ n1_ | _ => .fail
theorem a145_ok : TrOk E 145 a145 := ⟨Tryz.f145, Tryz.func145, fun args C n H r => by unfold a145; split <;> intro h <;> first | exact (t145_eq _ _ _).symm | cases h⟩
def a174 (args : List AV) : Tree := match args with | [.sc (.p (some (p0_, q0_))), .sc (.i .i64 n1_), .ag [.i .u32 n2_0, .i .u16 n2_1], .sc (.i .u64 n3_)] => t174 p0_ q0_ n1_ n2_0 n2_1 n3_ | _ => .fail
theorem a174_ok : TrOk E 174 a174 := ⟨Tryz.f174, Tryz.func174, fun args C n H r => by unfold a174; split <;> intro h <;> first | exact (t174_eq _ _ _ _ _ _).symm | cases h⟩
def a175 (args : List AV) : Tree := match args with | [.sc (.p (some (p0_, q0_))), .sc (.i .u64 n1_), .ag [.i .u32 n2_0, .i .u16 n2_1], .ag [.i .i64 n3_0, .i .i64 n3_1, .i .u32 n3_2, .i .i64 n3_3, .i .u32 n3_4, .i .u16 n3_5, .cx .f64 n3_6 m3_6, .b b3_7, .s x3_8, .sl s3_9]] => t175 p0_ q0_ n1_ n2_0 n2_1 n3_0 n3_1 n3_2 n3_3 n3_4 n3_5 n3_6 m3_6 b3_7 x3_8 s3_9 | _ => .fail
theorem a175_ok : TrOk E 175 a175 := ⟨Tryz.f175, Tryz.func175, fun args C n H r => by unfold a175; split <;> intro h <;> first | exact (t175_eq _ _ _ _ _ _ _ _ _ _ _ _ _ _ _ _).symm | cases h⟩
noncomputable def a185 (args : List AV) : Tree := bodyK T (hs 185) Tryz.f185 args
theorem a185_ok : TrOk E 185 a185 := ⟨Tryz.f185, Tryz.func185, fun args C n H r _ => rfl⟩
def a186 (args : List AV) : Tree := match args with | [.sc (.s x0_), .sc (.i .u8 n1_)] => t186 x0_ n1_ | _ => .fail
theorem a186_ok : TrOk E 186 a186 := ⟨Tryz.f186, Tryz.func186, fun args C n H r => by unfold a186; split <;> intro h <;> first | exact (t186_eq _ _).symm | cases h⟩
noncomputable def a187 (args : List AV) : Tree := bodyK T (hs 187) Tryz.f187 args
theorem a187_ok : TrOk E 187 a187 := ⟨Tryz.f187, Tryz.func187, fun args C n H r _ => rfl⟩
def a188 (args : List AV) : Tree := match args with | [.sc (.sl s0_), .sc (.fn g1_ f1_ c1_)] => t188 s0_ g1_ f1_ c1_ | _ => .fail
theorem a188_ok : TrOk E 188 a188 := ⟨Tryz.f188, Tryz.func188, fun args C n H r => by unfold a188; split <;> intro h <;> first | exact (t188_eq _ _ _ _).symm | cases h⟩
def a189 (args : List AV) : Tree := match args with | [.sc (.sl s0_)] => t189 s0_ | _ => .fail
theorem a189_ok : TrOk E 189 a189 := ⟨Tryz.f189, Tryz.func189, fun args C n H r => by unfold a189; split <;> intro h <;> first | exact (t189_eq _).symm | cases h⟩
def a190 (args : List AV) : Tree := match args with | [.ag [.i .i64 n0_0, .i .u32 n0_1, .i .u16 n0_2, .i .u64 n0_3]] => t190 n0_0 n0_1 n0_2 n0_3 | _ => .fail
theorem a190_ok : TrOk E 190 a190 := ⟨Tryz.f190, Tryz.func190, fun args C n H r => by unfold a190; split <;> intro h <;> first | exact (t190_eq _ _ _ _).symm | cases h⟩
def a191 (args : List AV) : Tree := match args with | [.ag [.s x0_0, .b b0_1], .sc (.i .i64 n1_)] => t191 x0_0 b0_1 n1_ | _ => .fail
theorem a191_ok : TrOk E 191 a191 := ⟨Tryz.f191, Tryz.func191, fun args C n H r => by unfold a191; split <;> intro h <;> first | exact (t191_eq _ _ _).symm | cases h⟩
def a193 (args : List AV) : Tree := match args with | [.sc (.p (some (p0_, q0_))), .sc (.i .i64 n1_)] => t193 p0_ q0_ n1_ | _ => .fail
theorem a193_ok : TrOk E 193 a193 := ⟨Tryz.f193, Tryz.func193, fun args C n H r => by unfold a193; split <;> intro h <;> first | exact (t193_eq _ _ _).symm | cases h⟩
def a196 (args : List AV) : Tree := match args with | [.ag [.i .i64 n0_0, .i .i64 n0_1, .i .u32 n0_2, .i .i64 n0_3, .i .u32 n0_4, .i .u16 n0_5, .cx .f64 n0_6 m0_6, .b b0_7, .s x0_8, .sl s0_9]] => t196 n0_0 n0_1 n0_2 n0_3 n0_4 n0_5 n0_6 m0_6 b0_7 x0_8 s0_9 | _ => .fail
theorem a196_ok : TrOk E 196 a196 := ⟨Tryz.f196, Tryz.func196, fun args C n H r => by unfold a196; split <;> intro h <;> first | exact (t196_eq _ _ _ _ _ _ _ _ _ _ _).symm | cases h⟩
def a197 (args : List AV) : Tree := match args with | [.sc (.i .u64 n0_), .sc (.i .i64 n1_)] => t197 n0_ n1_ | _ => .fail
theorem a197_ok : TrOk E 197 a197 := ⟨Tryz.f197, Tryz.func197, fun args C n H r => by unfold a197; split <;> intro h <;> first | exact (t197_eq _ _).symm | cases h⟩
noncomputable def a198 (args : List AV) : Tree := bodyK T (hs 198) Tryz.f198 args
theorem a198_ok : TrOk E 198 a198 := ⟨Tryz.f198, Tryz.func198, fun args C n H r _ => rfl⟩
noncomputable def a199 (args : List AV) : Tree := bodyK T (hs 199) Tryz.f199 args
theorem a199_ok : TrOk E 199 a199 := ⟨Tryz.f199, Tryz.func199, fun args C n H r _ => rfl⟩
noncomputable def a200 (args : List AV) : Tree := bodyK T (hs 200) Tryz.f200 args
theorem a200_ok : TrOk E 200 a200 := ⟨Tryz.f200, Tryz.func200, fun args C n H r _ => rfl⟩
def a201 (args : List AV) : Tree := match args with | [.ag [.s x0_0, .b b0_1], .sc (.i .i64 n1_)] => t201 x0_0 b0_1 n1_ | _ => .fail
theorem a201_ok : TrOk E 201 a201 := ⟨Tryz.f201, Tryz.func201, fun args C n H r => by unfold a201; split <;> intro h <;> first | exact (t201_eq _ _ _).symm | cases h⟩
noncomputable def a202 (args : List AV) : Tree := bodyK T (hs 202) Tryz.f202 args
theorem a202_ok : TrOk E 202 a202 := ⟨Tryz.f202, Tryz.func202, fun args C n H r _ => rfl⟩
noncomputable def a203 (args : List AV) : Tree := bodyK T (hs 203) Tryz.f203 args
theorem a203_ok : TrOk E 203 a203 := ⟨Tryz.f203, Tryz.func203, fun args C n H r _ => rfl⟩
noncomputable def a204 (args : List AV) : Tree := bodyK T (hs 204) Tryz.f204 args
theorem a204_ok : TrOk E 204 a204 := ⟨Tryz.f204, Tryz.func204, fun args C n H r _ => rfl⟩
noncomputable def a205 (args : List AV) : Tree := bodyK T (hs 205) Tryz.f205 args
theorem a205_ok : TrOk E 205 a205 := ⟨Tryz.f205, Tryz.func205, fun args C n H r _ => rfl⟩
noncomputable def a206 (args : List AV) : Tree := bodyK T (hs 206) Tryz.f206 args
theorem a206_ok : TrOk E 206 a206 := ⟨Tryz.f206, Tryz.func206, fun args C n H r _ => rfl⟩
noncomputable def a208 (args : List AV) : Tree := bodyK T (hs 208) Tryz.f208 args
theorem a208_ok : TrOk E 208 a208 := ⟨Tryz.f208, Tryz.func208, fun args C n H r _ => rfl⟩
noncomputable def a209 (args : List AV) : Tree := bodyK T (hs 209) Tryz.f209 args
theorem a209_ok : TrOk E 209 a209 := ⟨Tryz.f209, Tryz.func209, fun args C n H r _ => rfl⟩
def a210 (args : List AV) : Tree := match args with | [.sc (.fl .f64 n0_)] => t210 n0_ | _ => .fail
theorem a210_ok : TrOk E 210 a210 := ⟨Tryz.f210, Tryz.func210, fun args C n H r => by unfold a210; split <;> intro h <;> first | exact (t210_eq _).symm | cases h⟩
def a211 (args : List AV) : Tree := match args with | [.sc (.sl s0_), .sc (.i .i64 n1_)] => t211 s0_ n1_ | _ => .fail
theorem a211_ok : TrOk E 211 a211 := ⟨Tryz.f211, Tryz.func211, fun args C n H r => by unfold a211; split <;> intro h <;> first | exact (t211_eq _ _).symm | cases h⟩
noncomputable def a213 (args : List AV) : Tree := bodyK T (hs 213) Tryz.f213 args
theorem a213_ok : TrOk E 213 a213 := ⟨Tryz.f213, Tryz.func213, fun args C n H r _ => rfl⟩
noncomputable def a214 (args : List AV) : Tree := bodyK T (hs 214) Tryz.f214 args
theorem a214_ok : TrOk E 214 a214 := ⟨Tryz.f214, Tryz.func214, fun args C n H r _ => rfl⟩
noncomputable def a224 (args : List AV) : Tree := bodyK T (hs 224) Tryz.f224 args
theorem a224_ok : TrOk E 224 a224 := ⟨Tryz.f224, Tryz.func224, fun args C n H r _ => rfl⟩
noncomputable def a225 (args : List AV) : Tree := bodyK T (hs 225) Tryz.f225 args
theorem a225_ok : TrOk E 225 a225 := ⟨Tryz.f225, Tryz.func225, fun args C n H r _ => rfl⟩
noncomputable def a226 (args : List AV) : Tree := bodyK T (hs 226) Tryz.f226 args
theorem a226_ok : TrOk E 226 a226 := ⟨Tryz.f226, Tryz.func226, fun args C n H r _ => rfl⟩
def a228 (args : List AV) : Tree := match args with | [.sc (.sl s0_), .sc (.fn g1_ f1_ c1_)] => t228 s0_ g1_ f1_ c1_ | _ => .fail
theorem a228_ok : TrOk E 228 a228 := ⟨Tryz.f228, Tryz.func228, fun args C n H r => by unfold a228; split <;> intro h <;> first | exact (t228_eq _ _ _ _).symm | cases h⟩
def a229 (args : List AV) : Tree := match args with | [.ag [.i .i64 n0_0, .i .u32 n0_1, .i .u16 n0_2, .cx .f64 n0_3 m0_3], .sc (.p (some (p1_, q1_)))] => t229 n0_0 n0_1 n0_2 n0_3 m0_3 p1_ q1_ | _ => .fail
theorem a229_ok : TrOk E 229 a229 := ⟨Tryz.f229, Tryz.func229, fun args C n H r => by unfold a229; split <;> intro h <;> first | exact (t229_eq _ _ _ _ _ _ _).symm | cases h⟩
noncomputable def a230 (args : List AV) : Tree := bodyK T (hs 230) Tryz.f230 args
theorem a230_ok : TrOk E 230 a230 := ⟨Tryz.f230, Tryz.func230, fun args C n H r _ => rfl⟩
def a231 (args : List AV) : Tree := match args with | [.sc (.i .i64 n0_)] => t231 n0_ | _ => .fail
theorem a231_ok : TrOk E 231 a231 := ⟨Tryz.f231, Tryz.func231, fun args C n H r => by unfold a231; split <;> intro h <;> first | exact (t231_eq _).symm | cases h⟩
def a233 (args : List AV) : Tree := match args with | [.sc (.i .i64 n0_)] => t233 n0_ | _ => .fail
theorem a233_ok : TrOk E 233 a233 := ⟨Tryz.f233, Tryz.func233, fun args C n H r => by unfold a233; split <;> intro h <;> first | exact (t233_eq _).symm | cases h⟩
def a236 (args : List AV) : Tree := match args with | [.sc (.p (some (p0_, q0_))), .sc (.i .i64 n1_), .sc (.i .u64 n2_)] => t236 p0_ q0_ n1_ n2_ | _ => .fail
theorem a236_ok : TrOk E 236 a236 := ⟨Tryz.f236, Tryz.func236, fun args C n H r => by unfold a236; split <;> intro h <;> first | exact (t236_eq _ _ _ _).symm | cases h⟩
noncomputable def a242 (args : List AV) : Tree := bodyK T (hs 242) Tryz.f242 args
theorem a242_ok : TrOk E 242 a242 := ⟨Tryz.f242, Tryz.func242, fun args C n H r _ => rfl⟩
noncomputable def a258 (args : List AV) : Tree := bodyK T (hs 258) Tryz.f258 args
theorem a258_ok : TrOk E 258 a258 := ⟨Tryz.f258, Tryz.func258, fun args C n H r _ => rfl⟩
def a262 (args : List AV) : Tree := match args with | [.sc (.p (some (p0_, q0_))), .sc (.i .u64 n1_), .ag [.i .u32 n2_0, .i .u16 n2_1], .ag [.i .i64 n3_0, .i .i64 n3_1, .i .u32 n3_2, .i .i64 n3_3, .i .u32 n3_4, .i .u16 n3_5, .cx .f64 n3_6 m3_6, .b b3_7, .s x3_8, .sl s3_9], .sc (.b b4_)] => t262 p0_ q0_ n1_ n2_0 n2_1 n3_0 n3_1 n3_2 n3_3 n3_4 n3_5 n3_6 m3_6 b3_7 x3_8 s3_9 b4_ | _ => .fail
theorem a262_ok : TrOk E 262 a262 := ⟨Tryz.f262, Tryz.func262, fun args C n H r => by unfold a262; split <;> intro h <;> first | exact (t262_eq _ _ _ _ _ _ _ _ _ _ _ _ _ _ _ _ _).symm | cases h⟩
def a266 (args : List AV) : Tree := match args with | [.sc (.p (some (p0_, q0_))), .sc (.i .u64 n1_), .ag [.i .u32 n2_0, .i .u16 n2_1], .ag [.i .i64 n3_0, .i .i64 n3_1, .i .u32 n3_2, .i .i64 n3_3, .i .u32 n3_4, .i .u16 n3_5, .cx .f64 n3_6 m3_6, .b b3_7, .s x3_8, .sl s3_9]] => t266 p0_ q0_ n1_ n2_0 n2_1 n3_0 n3_1 n3_2 n3_3 n3_4 n3_5 n3_6 m3_6 b3_7 x3_8 s3_9 | _ => .fail
theorem a266_ok : TrOk E 266 a266 := ⟨Tryz.f266, Tryz.func266, fun args C n H r => by unfold a266; split <;> intro h <;> first | exact (t266_eq _ _ _ _ _ _ _ _ _ _ _ _ _ _ _ _).symm | cases h⟩
noncomputable def a270 (args : List AV) : Tree := bodyK T (hs 270) Tryz.f270 args
theorem a270_ok : TrOk E 270 a270 := ⟨Tryz.f270, Tryz.func270, fun args C n H r _ => rfl⟩
def a271 (args : List AV) : Tree := match args with | [.sc (.sl s0_), .sc (.fn g1_ f1_ c1_)] => t271 s0_ g1_ f1_ c1_ | _ => .fail
theorem a271_ok : TrOk E 271 a271 := ⟨Tryz.f271, Tryz.func271, fun args C n H r => by unfold a271; split <;> intro h <;> first | exact (t271_eq _ _ _ _).symm | cases h⟩
def a272 (args : List AV) : Tree := match args with | [.ag [.s x0_0, .b b0_1], .sc (.i .i64 n1_)] => t272 x0_0 b0_1 n1_ | _ => .fail
theorem a272_ok : TrOk E 272 a272 := ⟨Tryz.f272, Tryz.func272, fun args C n H r => by unfold a272; split <;> intro h <;> first | exact (t272_eq _ _ _).symm | cases h⟩
def a273 (args : List AV) : Tree := match args with | [.sc (.i .i64 n0_)] => t273 n0_ | _ => .fail
theorem a273_ok : TrOk E 273 a273 := ⟨Tryz.f273, Tryz.func273, fun args C n H r => by unfold a273; split <;> intro h <;> first | exact (t273_eq _).symm | cases h⟩
noncomputable def a274 (args : List AV) : Tree := bodyK T (hs 274) Tryz.f274 args
theorem a274_ok : TrOk E 274 a274 := ⟨Tryz.f274, Tryz.func274, fun args C n H r _ => rfl⟩
def a275 (args : List AV) : Tree := match args with | [.ag [.i .i64 n0_0, .i .i64 n0_1, .i .u32 n0_2, .i .u32 n0_3, .i .u16 n0_4]] => t275 n0_0 n0_1 n0_2 n0_3 n0_4 | _ => .fail
theorem a275_ok : TrOk E 275 a275 := ⟨Tryz.f275, Tryz.func275, fun args C n H r => by unfold a275; split <;> intro h <;> first | exact (t275_eq _ _ _ _ _).symm | cases h⟩
def a276 (args : List AV) : Tree := match args with | [.sc (.i .i64 n0_)] => t276 n0_ | _ => .fail
theorem a276_ok : TrOk E 276 a276 := ⟨Tryz.f276, Tryz.func276, fun args C n H r => by unfold a276; split <;> intro h <;> first | exact (t276_eq _).symm | cases h⟩
def a277 (args : List AV) : Tree := match args with | [.sc (.sl s0_), .sc (.fn g1_ f1_ c1_)] => t277 s0_ g1_ f1_ c1_ | _ => .fail
theorem a277_ok : TrOk E 277 a277 := ⟨Tryz.f277, Tryz.func277, fun args C n H r => by unfold a277; split <;> intro h <;> first | exact (t277_eq _ _ _ _).symm | cases h⟩
def a278 (args : List AV) : Tree := match args with | [.sc (.s x0_), .sc (.s x1_)] => t278 x0_ x1_ | _ => .fail
theorem a278_ok : TrOk E 278 a278 := ⟨Tryz.f278, Tryz.func278, fun args C n H r => by unfold a278; split <;> intro h <;> first | exact (t278_eq _ _).symm | cases h⟩
noncomputable def a279 (args : List AV) : Tree := bodyK T (hs 279) Tryz.f279 args
theorem a279_ok : TrOk E 279 a279 := ⟨Tryz.f279, Tryz.func279, fun args C n H r _ => rfl⟩
noncomputable def a280 (args : List AV) : Tree := bodyK T (hs 280) Tryz.f280 args
theorem a280_ok : TrOk E 280 a280 := ⟨Tryz.f280, Tryz.func280, fun args C n H r _ => rfl⟩
noncomputable def a281 (args : List AV) : Tree := bodyK T (hs 281) Tryz.f281 args
theorem a281_ok : TrOk E 281 a281 := ⟨Tryz.f281, Tryz.func281, fun args C n H r _ => rfl⟩
noncomputable def a282 (args : List AV) : Tree := bodyK T (hs 282) Tryz.f282 args
theorem a282_ok : TrOk E 282 a282 := ⟨Tryz.f282, Tryz.func282, fun args C n H r _ => rfl⟩
def a283 (args : List AV) : Tree := match args with | [.sc (.fl .f64 n0_)] => t283 n0_ | _ => .fail
theorem a283_ok : TrOk E 283 a283 := ⟨Tryz.f283, Tryz.func283, fun args C n H r => by unfold a283; split <;> intro h <;> first | exact (t283_eq _).symm | cases h⟩
noncomputable def a284 (args : List AV) : Tree := bodyK T (hs 284) Tryz.f284 args
theorem a284_ok : TrOk E 284 a284 := ⟨Tryz.f284, Tryz.func284, fun args C n H r _ => rfl⟩
noncomputable def a291 (args : List AV) : Tree := bodyK T (hs 291) Tryz.f291 args
theorem a291_ok : TrOk E 291 a291 := ⟨Tryz.f291, Tryz.func291, fun args C n H r _ => rfl⟩
noncomputable def a302 (args : List AV) : Tree := bodyK T (hs 302) Tryz.f302 args
theorem a302_ok : TrOk E 302 a302 := ⟨Tryz.f302, Tryz.func302, fun args C n H r _ => rfl⟩
def a313 (args : List AV) : Tree := match args with | [.sc (.p (some (p0_, q0_))), .sc (.i .i64 n1_), .ag [.i .u32 n2_0, .i .u16 n2_1], .sc (.i .u64 n3_)] => t313 p0_ q0_ n1_ n2_0 n2_1 n3_ | _ => .fail
theorem a313_ok : TrOk E 313 a313 := ⟨Tryz.f313, Tryz.func313, fun args C n H r => by unfold a313; split <;> intro h <;> first | exact (t313_eq _ _ _ _ _ _).symm | cases h⟩
noncomputable def a315 (args : List AV) : Tree := bodyK T (hs 315) Tryz.f315 args
theorem a315_ok : TrOk E 315 a315 := ⟨Tryz.f315, Tryz.func315, fun args C n H r _ => rfl⟩
def a316 (args : List AV) : Tree := match args with | [.sc (.fl .f64 n0_)] => t316 n0_ | _ => .fail
theorem a316_ok : TrOk E 316 a316 := ⟨Tryz.f316, Tryz.func316, fun args C n H r => by unfold a316; split <;> intro h <;> first | exact (t316_eq _).symm | cases h⟩
def a317 (args : List AV) : Tree := match args with | [.sc (.fl .f64 n0_)] => t317 n0_ | _ => .fail
theorem a317_ok : TrOk E 317 a317 := ⟨Tryz.f317, Tryz.func317, fun args C n H r => by unfold a317; split <;> intro h <;> first | exact (t317_eq _).symm | cases h⟩
def a318 (args : List AV) : Tree := match args with | [.sc (.sl s0_), .sc (.fn g1_ f1_ c1_)] => t318 s0_ g1_ f1_ c1_ | _ => .fail
theorem a318_ok : TrOk E 318 a318 := ⟨Tryz.f318, Tryz.func318, fun args C n H r => by unfold a318; split <;> intro h <;> first | exact (t318_eq _ _ _ _).symm | cases h⟩
def a319 (args : List AV) : Tree := match args with | [.sc (.s x0_), .sc (.s x1_)] => t319 x0_ x1_ | _ => .fail
theorem a319_ok : TrOk E 319 a319 := ⟨Tryz.f319, Tryz.func319, fun args C n H r => by unfold a319; split <;> intro h <;> first | exact (t319_eq _ _).symm | cases h⟩
noncomputable def a320 (args : List AV) : Tree := bodyK T (hs 320) Tryz.f320 args
theorem a320_ok : TrOk E 320 a320 := ⟨Tryz.f320, Tryz.func320, fun args C n H r _ => rfl⟩
noncomputable def a329 (args : List AV) : Tree := bodyK T (hs 329) Tryz.f329 args
theorem a329_ok : TrOk E 329 a329 := ⟨Tryz.f329, Tryz.func329, fun args C n H r _ => rfl⟩
noncomputable def a330 (args : List AV) : Tree := bodyK T (hs 330) Tryz.f330 args
theorem a330_ok : TrOk E 330 a330 := ⟨Tryz.f330, Tryz.func330, fun args C n H r _ => rfl⟩
noncomputable def a337 (args : List AV) : Tree := bodyK T (hs 337) Tryz.f337 args
theorem a337_ok : TrOk E 337 a337 := ⟨Tryz.f337, Tryz.func337, fun args C n H r _ => rfl⟩
noncomputable def a349 (args : List AV) : Tree := bodyK T (hs 349) Tryz.f349 args
theorem a349_ok : TrOk E 349 a349 := ⟨Tryz.f349, Tryz.func349, fun args C n H r _ => rfl⟩
noncomputable def a351 (args : List AV) : Tree := bodyK T (hs 351) Tryz.f351 args
theorem a351_ok : TrOk E 351 a351 := ⟨Tryz.f351, Tryz.func351, fun args C n H r _ => rfl⟩
def a352 (args : List AV) : Tree := match args with | [.sc (.s x0_), .sc (.s x1_)] => t352 x0_ x1_ | _ => .fail
theorem a352_ok : TrOk E 352 a352 := ⟨Tryz.f352, Tryz.func352, fun args C n H r => by unfold a352; split <;> intro h <;> first | exact (t352_eq _ _).symm | cases h⟩
def a367 (args : List AV) : Tree := match args with | [.sc (.s x0_), .sc (.i .u8 n1_)] => t367 x0_ n1_ | _ => .fail
theorem a367_ok : TrOk E 367 a367 := ⟨Tryz.f367, Tryz.func367, fun args C n H r => by unfold a367; split <;> intro h <;> first | exact (t367_eq _ _).symm | cases h⟩
noncomputable def a378 (args : List AV) : Tree := bodyK T (hs 378) Tryz.f378 args
theorem a378_ok : TrOk E 378 a378 := ⟨Tryz.f378, Tryz.func378, fun args C n H r _ => rfl⟩
noncomputable def TBX : Tbl := [(5, a5), (7, a7), (8, a8), (11, a11), (13, a13), (15, a15), (19, a19), (20, a20), (21, a21), (22, a22), (23, a23), (24, a24), (25, a25), (26, a26), (27, a27), (28, a28), (29, a29), (30, a30), (31, a31), (32, a32), (33, a33), (34, a34), (35, a35), (36, a36), (37, a37), (38, a38), (39, a39), (40, a40), (41, a41), (42, a42), (43, a43), (53, a53), (54, a54), (55, a55), (59, a59), (60, a60), (61, a61), (62, a62), (63, a63), (65, a65), (66, a66), (67, a67), (81, a81), (87, a87), (88, a88), (89, a89), (90, a90), (91, a91), (92, a92), (93, a93), (94, a94), (95, a95), (96, a96), (97, a97), (98, a98), (99, a99), (100, a100), (101, a101), (102, a102), (103, a103), (104, a104), (105, a105), (106, a106), (107, a107), (108, a108), (109, a109), (110, a110), (111, a111), (112, a112), (113, a113), (114, a114), (115, a115), (116, a116), (117, a117), (118, a118), (119, a119), (120, a120), (121, a121), (122, a122), (125, a125), (126, a126), (127, a127), (129, a129), (130, a130), (131, a131), (132, a132), (133, a133), (134, a134), (135, a135), (136, a136), (140, a140), (142, a142), (143, a143), (145, a145), (174, a174), (175, a175), (185, a185), (186, a186), (187, a187), (188, a188), (189, a189), (190, a190), (191, a191), (193, a193), (196, a196), (197, a197), (198, a198), (199, a199), (200, a200), (201, a201), (202, a202), (203, a203), (204, a204), (205, a205), (206, a206), (208, a208), (209, a209), (210, a210), (211, a211), (213, a213), (214, a214), (224, a224), (225, a225), (226, a226), (228, a228), (229, a229), (230, a230), (231, a231), (233, a233), (236, a236), (242, a242), (258, a258), (262, a262), (266, a266), (270, a270), (271, a271), (272, a272), (273, a273), (274, a274), (275, a275), (276, a276), (277, a277), (278, a278), (279, a279), (280, a280), (281, a281), (282, a282), (283, a283), (284, a284), (291, a291), (302, a302), (313, a313), (315, a315), (316, a316), (317, a317), (318, a318), (319, a319), (320, a320), (329, a329), (330, a330), (337, a337), (349, a349), (351, a351), (352, a352), (367, a367), (378, a378)]
theorem TBX_ok : TbOk E TBX := ⟨a5_ok, a7_ok, a8_ok, a11_ok, a13_ok, a15_ok, a19_ok, a20_ok, a21_ok, a22_ok, a23_ok, a24_ok, a25_ok, a26_ok, a27_ok, a28_ok, a29_ok, a30_ok, a31_ok, a32_ok, a33_ok, a34_ok, a35_ok, a36_ok, a37_ok, a38_ok, a39_ok, a40_ok, a41_ok, a42_ok, a43_ok, a53_ok, a54_ok, a55_ok, a59_ok, a60_ok, a61_ok, a62_ok, a63_ok, a65_ok, a66_ok, a67_ok, a81_ok, a87_ok, a88_ok, a89_ok, a90_ok, a91_ok, a92_ok, a93_ok, a94_ok, a95_ok, a96_ok, a97_ok, a98_ok, a99_ok, a100_ok, a101_ok, a102_ok, a103_ok, a104_ok, a105_ok, a106_ok, a107_ok, a108_ok, a109_ok, a110_ok, a111_ok, a112_ok, a113_ok, a114_ok, a115_ok, a116_ok, a117_ok, a118_ok, a119_ok, a120_ok, a121_ok, a122_ok, a125_ok, a126_ok, a127_ok, a129_ok, a130_ok, a131_ok, a132_ok, a133_ok, a134_ok, a135_ok, a136_ok, a140_ok, a142_ok, a143_ok, a145_ok, a174_ok, a175_ok, a185_ok, a186_ok, a187_ok, a188_ok, a189_ok, a190_ok, a191_ok, a193_ok, a196_ok, a197_ok, a198_ok, a199_ok, a200_ok, a201_ok, a202_ok, a203_ok, a204_ok, a205_ok, a206_ok, a208_ok, a209_ok, a210_ok, a211_ok, a213_ok, a214_ok, a224_ok, a225_ok, a226_ok, a228_ok, a229_ok, a230_ok, a231_ok, a233_ok, a236_ok, a242_ok, a258_ok, a262_ok, a266_ok, a270_ok, a271_ok, a272_ok, a273_ok, a274_ok, a275_ok, a276_ok, a277_ok, a278_ok, a279_ok, a280_ok, a281_ok, a282_ok, a283_ok, a284_ok, a291_ok, a302_ok, a313_ok, a315_ok, a316_ok, a317_ok, a318_ok, a319_ok, a320_ok, a329_ok, a330_ok, a337_ok, a349_ok, a351_ok, a352_ok, a367_ok, a378_ok, trivial⟩
end Go.Proofs.YtpbhfolaoccpkaaGreat
