/- A table of the functions that the law reaches: printed trees, and bodies as they are. -/
import Derived.Test.YtdfpjhlckjognaaGreatTreeMb
import Derived.Test.YtdfpjhlckjognaaGreatTreeMk
import Derived.Test.YtdfpjhlckjognaaGreatTreeNg
import Derived.Test.YtdfpjhlckjognaaGreatTreeLa
import Derived.Test.YtdfpjhlckjognaaGreatFwZu
namespace Go.Proofs.YtdfpjhlckjognaaGreat
open Go Go.Proofs.YtdfpjhlckjognaaGreat.Fw
set_option linter.unusedVariables false
set_option linter.unusedSimpArgs false
set_option maxRecDepth 100000
noncomputable def a3 (args : List AV) : Tree := bodyK T (hs 3) Tryz.f3 args
theorem a3_ok : TrOk E 3 a3 := ⟨Tryz.f3, Tryz.func3, fun args C n H r _ => rfl⟩
def a4 (x : List AV) : Tree := match x with | [] => t4 | _ => .fail
theorem a4_ok : TrOk E 4 a4 := ⟨Tryz.f4, Tryz.func4, fun x C n H r => by unfold a4; split <;> intro h <;> first | exact (t4_eq).symm | cases h⟩
def a5 (x : List AV) : Tree := match x with | [.ag [.sl a,.i .i64 b,.i .u64 c,.i .u64 d,.i .u64 e,.i .i64 f,.i .u64 g,.i .i64 h]] => t5 a b c d e f g h | _ => .fail
theorem a5_ok : TrOk E 5 a5 := ⟨Tryz.f5, Tryz.func5, fun x C n H r => by unfold a5; split <;> intro h <;> first | exact (t5_eq ..).symm | cases h⟩
def a6 (x : List AV) : Tree := match x with | [.sc (.p (some (a,b)))] => t6 a b | _ => .fail
theorem a6_ok : TrOk E 6 a6 := ⟨Tryz.f6, Tryz.func6, fun x C n H r => by unfold a6; split <;> intro h <;> first | exact (t6_eq ..).symm | cases h⟩
def a7 (x : List AV) : Tree := match x with | [.sc (.p (some (a,b)))] => t7 a b | _ => .fail
theorem a7_ok : TrOk E 7 a7 := ⟨Tryz.f7, Tryz.func7, fun x C n H r => by unfold a7; split <;> intro h <;> first | exact (t7_eq ..).symm | cases h⟩
def a8 (x : List AV) : Tree := match x with | [.sc (.p (some (a,b))),.ag [.i .i64 c,.i .i64 d,.i .i64 e,.i .u64 f,.i .u32 g,.i .u16 h,.i .u32 i,.i .u16 j,.s k]] => t8 a b c d e f g h i j k | _ => .fail
theorem a8_ok : TrOk E 8 a8 := ⟨Tryz.f8, Tryz.func8, fun x C n H r => by unfold a8; split <;> intro h <;> first | exact (t8_eq ..).symm | cases h⟩
def a9 (x : List AV) : Tree := match x with | [.sc (.p (some (a,b))),.sc (.i .i64 c)] => t9 a b c | _ => .fail
theorem a9_ok : TrOk E 9 a9 := ⟨Tryz.f9, Tryz.func9, fun x C n H r => by unfold a9; split <;> intro h <;> first | exact (t9_eq ..).symm | cases h⟩
def a10 (x : List AV) : Tree := match x with | [.sc (.p (some (a,b))),.sc (.i .i64 c)] => t10 a b c | _ => .fail
theorem a10_ok : TrOk E 10 a10 := ⟨Tryz.f10, Tryz.func10, fun x C n H r => by unfold a10; split <;> intro h <;> first | exact (t10_eq ..).symm | cases h⟩
def a11 (x : List AV) : Tree := match x with | [.sc (.p (some (a,b)))] => t11 a b | _ => .fail
theorem a11_ok : TrOk E 11 a11 := ⟨Tryz.f11, Tryz.func11, fun x C n H r => by unfold a11; split <;> intro h <;> first | exact (t11_eq ..).symm | cases h⟩
def a12 (x : List AV) : Tree := match x with | [.sc (.p (some (a,b))),.sc (.i .u64 c)] => t12 a b c | _ => .fail
theorem a12_ok : TrOk E 12 a12 := ⟨Tryz.f12, Tryz.func12, fun x C n H r => by unfold a12; split <;> intro h <;> first | exact (t12_eq ..).symm | cases h⟩
def a13 (x : List AV) : Tree := match x with | [.sc (.p (some (a,b)))] => t13 a b | _ => .fail
theorem a13_ok : TrOk E 13 a13 := ⟨Tryz.f13, Tryz.func13, fun x C n H r => by unfold a13; split <;> intro h <;> first | exact (t13_eq ..).symm | cases h⟩
def a14 (x : List AV) : Tree := match x with | [.sc (.p (some (a,b)))] => t14 a b | _ => .fail
theorem a14_ok : TrOk E 14 a14 := ⟨Tryz.f14, Tryz.func14, fun x C n H r => by unfold a14; split <;> intro h <;> first | exact (t14_eq ..).symm | cases h⟩
def a15 (x : List AV) : Tree := match x with | [.sc (.p (some (a,b))),.sc (.i .i64 c)] => t15 a b c | _ => .fail
theorem a15_ok : TrOk E 15 a15 := ⟨Tryz.f15, Tryz.func15, fun x C n H r => by unfold a15; split <;> intro h <;> first | exact (t15_eq ..).symm | cases h⟩
def a16 (x : List AV) : Tree := match x with | [.sc (.p (some (a,b)))] => t16 a b | _ => .fail
theorem a16_ok : TrOk E 16 a16 := ⟨Tryz.f16, Tryz.func16, fun x C n H r => by unfold a16; split <;> intro h <;> first | exact (t16_eq ..).symm | cases h⟩
def a17 (x : List AV) : Tree := match x with | [.sc (.p (some (a,b)))] => t17 a b | _ => .fail
theorem a17_ok : TrOk E 17 a17 := ⟨Tryz.f17, Tryz.func17, fun x C n H r => by unfold a17; split <;> intro h <;> first | exact (t17_eq ..).symm | cases h⟩
def a18 (x : List AV) : Tree := match x with | [.ag [.sl a,.i .i64 b,.i .u64 c,.i .u64 d,.i .u64 e,.i .i64 f,.i .u64 g,.i .i64 h],.sc (.i .i64 i)] => t18 a b c d e f g h i | _ => .fail
theorem a18_ok : TrOk E 18 a18 := ⟨Tryz.f18, Tryz.func18, fun x C n H r => by unfold a18; split <;> intro h <;> first | exact (t18_eq ..).symm | cases h⟩
def a19 (x : List AV) : Tree := match x with | [.sc (.p (some (a,b)))] => t19 a b | _ => .fail
theorem a19_ok : TrOk E 19 a19 := ⟨Tryz.f19, Tryz.func19, fun x C n H r => by unfold a19; split <;> intro h <;> first | exact (t19_eq ..).symm | cases h⟩
def a20 (x : List AV) : Tree := match x with | [.ag [.sl a,.i .i64 b,.i .u64 c,.i .u64 d,.i .u64 e,.i .i64 f,.i .u64 g,.i .i64 h]] => t20 a b c d e f g h | _ => .fail
theorem a20_ok : TrOk E 20 a20 := ⟨Tryz.f20, Tryz.func20, fun x C n H r => by unfold a20; split <;> intro h <;> first | exact (t20_eq ..).symm | cases h⟩
def a21 (x : List AV) : Tree := match x with | [.sc (.sl a)] => t21 a | _ => .fail
theorem a21_ok : TrOk E 21 a21 := ⟨Tryz.f21, Tryz.func21, fun x C n H r => by unfold a21; split <;> intro h <;> first | exact (t21_eq ..).symm | cases h⟩
def a22 (x : List AV) : Tree := match x with | [.ag [.i .i64 a,.i .u32 b,.i .u16 c,.cx .f64 d e,.i .u64 f,.i .u32 g,.sl h,.i .u64 i,.i .u64 j,.i .i64 k]] => t22 a b c d e f g h i j k | _ => .fail
theorem a22_ok : TrOk E 22 a22 := ⟨Tryz.f22, Tryz.func22, fun x C n H r => by unfold a22; split <;> intro h <;> first | exact (t22_eq ..).symm | cases h⟩
def a23 (x : List AV) : Tree := match x with | [.ag [.sl a,.i .i64 b,.i .u64 c,.i .u64 d,.i .u64 e,.i .i64 f,.i .u64 g,.i .i64 h],.sc (.i .i64 i),.sc (.i .u32 j)] => t23 a b c d e f g h i j | _ => .fail
theorem a23_ok : TrOk E 23 a23 := ⟨Tryz.f23, Tryz.func23, fun x C n H r => by unfold a23; split <;> intro h <;> first | exact (t23_eq ..).symm | cases h⟩
def a24 (x : List AV) : Tree := match x with | [.sc (.sl a),.sc (.sl b),.sc (.i .i64 c)] => t24 a b c | _ => .fail
theorem a24_ok : TrOk E 24 a24 := ⟨Tryz.f24, Tryz.func24, fun x C n H r => by unfold a24; split <;> intro h <;> first | exact (t24_eq ..).symm | cases h⟩
def a25 (x : List AV) : Tree := match x with | [.sc (.p (some (a,b))),.ag [.i .i64 c,.i .i64 d,.i .i64 e,.i .u64 f,.i .u32 g,.i .u16 h,.i .u32 i,.i .u16 j,.s k]] => t25 a b c d e f g h i j k | _ => .fail
theorem a25_ok : TrOk E 25 a25 := ⟨Tryz.f25, Tryz.func25, fun x C n H r => by unfold a25; split <;> intro h <;> first | exact (t25_eq ..).symm | cases h⟩
def a26 (x : List AV) : Tree := match x with | [.sc (.p (some (a,b))),.ag [.i .i64 c,.i .i64 d,.i .i64 e,.i .u64 f,.i .u32 g,.i .u16 h,.i .u32 i,.i .u16 j,.s k]] => t26 a b c d e f g h i j k | _ => .fail
theorem a26_ok : TrOk E 26 a26 := ⟨Tryz.f26, Tryz.func26, fun x C n H r => by unfold a26; split <;> intro h <;> first | exact (t26_eq ..).symm | cases h⟩
def a33 (x : List AV) : Tree := match x with | [.sc (.p (some (a,b))),.ag [.i .i64 c,.i .i64 d,.i .i64 e,.i .u64 f,.i .u32 g,.i .u16 h,.i .u32 i,.i .u16 j,.s k]] => t33 a b c d e f g h i j k | _ => .fail
theorem a33_ok : TrOk E 33 a33 := ⟨Tryz.f33, Tryz.func33, fun x C n H r => by unfold a33; split <;> intro h <;> first | exact (t33_eq ..).symm | cases h⟩
def a38 (x : List AV) : Tree := match x with | [.sc (.p (some (a,b))),.sc (.i .u64 c)] => t38 a b c | _ => .fail
theorem a38_ok : TrOk E 38 a38 := ⟨Tryz.f38, Tryz.func38, fun x C n H r => by unfold a38; split <;> intro h <;> first | exact (t38_eq ..).symm | cases h⟩
def a39 (x : List AV) : Tree := match x with | [.sc (.p (some (a,b))),.sc (.i .i64 c)] => t39 a b c | _ => .fail
theorem a39_ok : TrOk E 39 a39 := ⟨Tryz.f39, Tryz.func39, fun x C n H r => by unfold a39; split <;> intro h <;> first | exact (t39_eq ..).symm | cases h⟩
def a40 (x : List AV) : Tree := match x with | [.sc (.p (some (a,b))),.sc (.i .u64 c)] => t40 a b c | _ => .fail
theorem a40_ok : TrOk E 40 a40 := ⟨Tryz.f40, Tryz.func40, fun x C n H r => by unfold a40; split <;> intro h <;> first | exact (t40_eq ..).symm | cases h⟩
def a41 (x : List AV) : Tree := match x with | [.sc (.p (some (a,b)))] => t41 a b | _ => .fail
theorem a41_ok : TrOk E 41 a41 := ⟨Tryz.f41, Tryz.func41, fun x C n H r => by unfold a41; split <;> intro h <;> first | exact (t41_eq ..).symm | cases h⟩
def a42 (x : List AV) : Tree := match x with | [.sc (.p (some (a,b)))] => t42 a b | _ => .fail
theorem a42_ok : TrOk E 42 a42 := ⟨Tryz.f42, Tryz.func42, fun x C n H r => by unfold a42; split <;> intro h <;> first | exact (t42_eq ..).symm | cases h⟩
def a43 (x : List AV) : Tree := match x with | [.sc (.p (some (a,b)))] => t43 a b | _ => .fail
theorem a43_ok : TrOk E 43 a43 := ⟨Tryz.f43, Tryz.func43, fun x C n H r => by unfold a43; split <;> intro h <;> first | exact (t43_eq ..).symm | cases h⟩
def a44 (x : List AV) : Tree := match x with | [.sc (.cx .f64 a b)] => t44 a b | _ => .fail
theorem a44_ok : TrOk E 44 a44 := ⟨Tryz.f44, Tryz.func44, fun x C n H r => by unfold a44; split <;> intro h <;> first | exact (t44_eq ..).symm | cases h⟩
def a45 (x : List AV) : Tree := match x with | [.ag [.i .i64 a,.i .i64 b]] => t45 a b | _ => .fail
theorem a45_ok : TrOk E 45 a45 := ⟨Tryz.f45, Tryz.func45, fun x C n H r => by unfold a45; split <;> intro h <;> first | exact (t45_eq ..).symm | cases h⟩
def a46 (x : List AV) : Tree := match x with | [.ag [.i .i64 a,.i .u32 b,.i .u16 c,.cx .f64 d e,.i .u64 f,.i .u32 g,.sl h,.i .u64 i,.i .u64 j,.i .i64 k]] => t46 a b c d e f g h i j k | _ => .fail
theorem a46_ok : TrOk E 46 a46 := ⟨Tryz.f46, Tryz.func46, fun x C n H r => by unfold a46; split <;> intro h <;> first | exact (t46_eq ..).symm | cases h⟩
def a47 (x : List AV) : Tree := match x with | [.sc (.sl a)] => t47 a | _ => .fail
theorem a47_ok : TrOk E 47 a47 := ⟨Tryz.f47, Tryz.func47, fun x C n H r => by unfold a47; split <;> intro h <;> first | exact (t47_eq ..).symm | cases h⟩
def a48 (x : List AV) : Tree := match x with | [] => t48 | _ => .fail
theorem a48_ok : TrOk E 48 a48 := ⟨Tryz.f48, Tryz.func48, fun x C n H r => by unfold a48; split <;> intro h <;> first | exact (t48_eq).symm | cases h⟩
def a49 (x : List AV) : Tree := match x with | [.sc (.i .u64 a)] => t49 a | _ => .fail
theorem a49_ok : TrOk E 49 a49 := ⟨Tryz.f49, Tryz.func49, fun x C n H r => by unfold a49; split <;> intro h <;> first | exact (t49_eq ..).symm | cases h⟩
def a50 (x : List AV) : Tree := match x with | [] => t50 | _ => .fail
theorem a50_ok : TrOk E 50 a50 := ⟨Tryz.f50, Tryz.func50, fun x C n H r => by unfold a50; split <;> intro h <;> first | exact (t50_eq).symm | cases h⟩
def a51 (x : List AV) : Tree := match x with | [.sc (.i .i64 a)] => t51 a | _ => .fail
theorem a51_ok : TrOk E 51 a51 := ⟨Tryz.f51, Tryz.func51, fun x C n H r => by unfold a51; split <;> intro h <;> first | exact (t51_eq ..).symm | cases h⟩
def a52 (x : List AV) : Tree := match x with | [.sc (.i .u64 a),.sc (.i .u64 b)] => t52 a b | _ => .fail
theorem a52_ok : TrOk E 52 a52 := ⟨Tryz.f52, Tryz.func52, fun x C n H r => by unfold a52; split <;> intro h <;> first | exact (t52_eq ..).symm | cases h⟩
def a53 (x : List AV) : Tree := match x with | [.sc (.i .i64 a),.sc (.i .u64 b)] => t53 a b | _ => .fail
theorem a53_ok : TrOk E 53 a53 := ⟨Tryz.f53, Tryz.func53, fun x C n H r => by unfold a53; split <;> intro h <;> first | exact (t53_eq ..).symm | cases h⟩
def a54 (x : List AV) : Tree := match x with | [.sc (.i .i64 a),.sc (.i .u64 b)] => t54 a b | _ => .fail
theorem a54_ok : TrOk E 54 a54 := ⟨Tryz.f54, Tryz.func54, fun x C n H r => by unfold a54; split <;> intro h <;> first | exact (t54_eq ..).symm | cases h⟩
def a55 (x : List AV) : Tree := match x with | [.sc (.i .i64 a),.sc (.i .u64 b)] => t55 a b | _ => .fail
theorem a55_ok : TrOk E 55 a55 := ⟨Tryz.f55, Tryz.func55, fun x C n H r => by unfold a55; split <;> intro h <;> first | exact (t55_eq ..).symm | cases h⟩
def a56 (x : List AV) : Tree := match x with | [.sc (.i .i64 a),.sc (.i .u64 b),.sc (.i .u64 c),.sc (.i .u64 d)] => t56 a b c d | _ => .fail
theorem a56_ok : TrOk E 56 a56 := ⟨Tryz.f56, Tryz.func56, fun x C n H r => by unfold a56; split <;> intro h <;> first | exact (t56_eq ..).symm | cases h⟩
def a57 (x : List AV) : Tree := match x with | [.sc (.p (some (a,b))),.ag [.i .i64 c,.i .i64 d,.i .u32 e,.i .u32 f,.i .u16 g]] => t57 a b c d e f g | _ => .fail
theorem a57_ok : TrOk E 57 a57 := ⟨Tryz.f57, Tryz.func57, fun x C n H r => by unfold a57; split <;> intro h <;> first | exact (t57_eq ..).symm | cases h⟩
def a58 (x : List AV) : Tree := match x with | [.sc (.i .i64 a)] => t58 a | _ => .fail
theorem a58_ok : TrOk E 58 a58 := ⟨Tryz.f58, Tryz.func58, fun x C n H r => by unfold a58; split <;> intro h <;> first | exact (t58_eq ..).symm | cases h⟩
def a59 (x : List AV) : Tree := match x with | [.sc (.sl a),.sc (.fn b c d)] => t59 a b c d | _ => .fail
theorem a59_ok : TrOk E 59 a59 := ⟨Tryz.f59, Tryz.func59, fun x C n H r => by unfold a59; split <;> intro h <;> first | exact (t59_eq ..).symm | cases h⟩
def a60 (x : List AV) : Tree := match x with | [.ag [.i .u32 a,.i .u16 b,.i .i64 c],.sc (.p (some (d,e)))] => t60 a b c d e | _ => .fail
theorem a60_ok : TrOk E 60 a60 := ⟨Tryz.f60, Tryz.func60, fun x C n H r => by unfold a60; split <;> intro h <;> first | exact (t60_eq ..).symm | cases h⟩
def a61 (x : List AV) : Tree := match x with | [.ag [.i .u32 a,.i .u16 b]] => t61 a b | _ => .fail
theorem a61_ok : TrOk E 61 a61 := ⟨Tryz.f61, Tryz.func61, fun x C n H r => by unfold a61; split <;> intro h <;> first | exact (t61_eq ..).symm | cases h⟩
def a62 (x : List AV) : Tree := match x with | [.ag [.i .i64 a,.i .i64 b],.sc (.i .u32 c),.sc (.i .u64 d),.sc (.i .i64 e)] => t62 a b c d e | _ => .fail
theorem a62_ok : TrOk E 62 a62 := ⟨Tryz.f62, Tryz.func62, fun x C n H r => by unfold a62; split <;> intro h <;> first | exact (t62_eq ..).symm | cases h⟩
def a63 (x : List AV) : Tree := match x with | [.sc (.p (some (a,b))),.sc (.i .u32 c),.sc (.i .i64 d)] => t63 a b c d | _ => .fail
theorem a63_ok : TrOk E 63 a63 := ⟨Tryz.f63, Tryz.func63, fun x C n H r => by unfold a63; split <;> intro h <;> first | exact (t63_eq ..).symm | cases h⟩
def a64 (x : List AV) : Tree := match x with | [.sc (.p (some (a,b))),.sc (.i .u32 c)] => t64 a b c | _ => .fail
theorem a64_ok : TrOk E 64 a64 := ⟨Tryz.f64, Tryz.func64, fun x C n H r => by unfold a64; split <;> intro h <;> first | exact (t64_eq ..).symm | cases h⟩
def a65 (x : List AV) : Tree := match x with | [.sc (.p (some (a,b))),.sc (.i .i64 c),.sc (.sl d)] => t65 a b c d | _ => .fail
theorem a65_ok : TrOk E 65 a65 := ⟨Tryz.f65, Tryz.func65, fun x C n H r => by unfold a65; split <;> intro h <;> first | exact (t65_eq ..).symm | cases h⟩
def a66 (x : List AV) : Tree := match x with | [.sc (.p (some (a,b))),.sc (.i .u64 c)] => t66 a b c | _ => .fail
theorem a66_ok : TrOk E 66 a66 := ⟨Tryz.f66, Tryz.func66, fun x C n H r => by unfold a66; split <;> intro h <;> first | exact (t66_eq ..).symm | cases h⟩
def a67 (x : List AV) : Tree := match x with | [.sc (.p (some (a,b))),.sc (.i .u64 c),.sc (.i .i64 d)] => t67 a b c d | _ => .fail
theorem a67_ok : TrOk E 67 a67 := ⟨Tryz.f67, Tryz.func67, fun x C n H r => by unfold a67; split <;> intro h <;> first | exact (t67_eq ..).symm | cases h⟩
def a68 (x : List AV) : Tree := match x with | [.sc (.p (some (a,b))),.sc (.i .i64 c)] => t68 a b c | _ => .fail
theorem a68_ok : TrOk E 68 a68 := ⟨Tryz.f68, Tryz.func68, fun x C n H r => by unfold a68; split <;> intro h <;> first | exact (t68_eq ..).symm | cases h⟩
def a69 (x : List AV) : Tree := match x with | [.sc (.p (some (a,b))),.sc (.i .u64 c),.ag [.i .u32 d,.i .u16 e],.sc (.s f)] => t69 a b c d e f | _ => .fail
theorem a69_ok : TrOk E 69 a69 := ⟨Tryz.f69, Tryz.func69, fun x C n H r => by unfold a69; split <;> intro h <;> first | exact (t69_eq ..).symm | cases h⟩
def a74 (x : List AV) : Tree := match x with | [.sc (.p (some (a,b))),.ag [.i .i64 c,.i .i64 d,.i .i64 e,.i .u64 f,.i .u32 g,.i .u16 h,.i .u32 i,.i .u16 j,.s k],.sc (.fn l m n)] => t74 a b c d e f g h i j k l m n | _ => .fail
theorem a74_ok : TrOk E 74 a74 := ⟨Tryz.f74, Tryz.func74, fun x C n H r => by unfold a74; split <;> intro h <;> first | exact (t74_eq ..).symm | cases h⟩
def a75 (x : List AV) : Tree := match x with | [.sc (.p (some (a,b))),.sc (.i .u64 c)] => t75 a b c | _ => .fail
theorem a75_ok : TrOk E 75 a75 := ⟨Tryz.f75, Tryz.func75, fun x C n H r => by unfold a75; split <;> intro h <;> first | exact (t75_eq ..).symm | cases h⟩
def a77 (x : List AV) : Tree := match x with | [.sc (.p (some (a,b))),.sc (.i .u64 c),.ag [.i .u32 d,.i .u16 e],.ag [.i .u32 f,.i .u16 g],.sc (.s h)] => t77 a b c d e f g h | _ => .fail
theorem a77_ok : TrOk E 77 a77 := ⟨Tryz.f77, Tryz.func77, fun x C n H r => by unfold a77; split <;> intro h <;> first | exact (t77_eq ..).symm | cases h⟩
def a78 (x : List AV) : Tree := match x with | [.sc (.sl a),.sc (.fn b c d)] => t78 a b c d | _ => .fail
theorem a78_ok : TrOk E 78 a78 := ⟨Tryz.f78, Tryz.func78, fun x C n H r => by unfold a78; split <;> intro h <;> first | exact (t78_eq ..).symm | cases h⟩
def a79 (x : List AV) : Tree := match x with | [.sc (.sl a)] => t79 a | _ => .fail
theorem a79_ok : TrOk E 79 a79 := ⟨Tryz.f79, Tryz.func79, fun x C n H r => by unfold a79; split <;> intro h <;> first | exact (t79_eq ..).symm | cases h⟩
def a80 (x : List AV) : Tree := match x with | [.ag [.i .i64 a,.i .u32 b,.i .u16 c,.i .u64 d]] => t80 a b c d | _ => .fail
theorem a80_ok : TrOk E 80 a80 := ⟨Tryz.f80, Tryz.func80, fun x C n H r => by unfold a80; split <;> intro h <;> first | exact (t80_eq ..).symm | cases h⟩
def a81 (x : List AV) : Tree := match x with | [.sc (.p (some (a,b))),.sc (.i .i64 c)] => t81 a b c | _ => .fail
theorem a81_ok : TrOk E 81 a81 := ⟨Tryz.f81, Tryz.func81, fun x C n H r => by unfold a81; split <;> intro h <;> first | exact (t81_eq ..).symm | cases h⟩
def a82 (x : List AV) : Tree := match x with | [.sc (.sl a),.sc (.b b)] => t82 a b | _ => .fail
theorem a82_ok : TrOk E 82 a82 := ⟨Tryz.f82, Tryz.func82, fun x C n H r => by unfold a82; split <;> intro h <;> first | exact (t82_eq ..).symm | cases h⟩
def a83 (x : List AV) : Tree := match x with | [.sc (.fl .f64 a)] => t83 a | _ => .fail
theorem a83_ok : TrOk E 83 a83 := ⟨Tryz.f83, Tryz.func83, fun x C n H r => by unfold a83; split <;> intro h <;> first | exact (t83_eq ..).symm | cases h⟩
def a84 (x : List AV) : Tree := match x with | [.sc (.i .i64 a)] => t84 a | _ => .fail
theorem a84_ok : TrOk E 84 a84 := ⟨Tryz.f84, Tryz.func84, fun x C n H r => by unfold a84; split <;> intro h <;> first | exact (t84_eq ..).symm | cases h⟩
def a85 (x : List AV) : Tree := match x with | [.sc (.i .i64 a)] => t85 a | _ => .fail
theorem a85_ok : TrOk E 85 a85 := ⟨Tryz.f85, Tryz.func85, fun x C n H r => by unfold a85; split <;> intro h <;> first | exact (t85_eq ..).symm | cases h⟩
def a86 (x : List AV) : Tree := match x with | [.sc (.sl a),.sc (.i .i64 b)] => t86 a b | _ => .fail
theorem a86_ok : TrOk E 86 a86 := ⟨Tryz.f86, Tryz.func86, fun x C n H r => by unfold a86; split <;> intro h <;> first | exact (t86_eq ..).symm | cases h⟩
def a87 (x : List AV) : Tree := match x with | [.sc (.i .u64 a),.sc (.i .u64 b),.sc (.i .u64 c)] => t87 a b c | _ => .fail
theorem a87_ok : TrOk E 87 a87 := ⟨Tryz.f87, Tryz.func87, fun x C n H r => by unfold a87; split <;> intro h <;> first | exact (t87_eq ..).symm | cases h⟩
def a88 (x : List AV) : Tree := match x with | [.sc (.i .u64 a)] => t88 a | _ => .fail
theorem a88_ok : TrOk E 88 a88 := ⟨Tryz.f88, Tryz.func88, fun x C n H r => by unfold a88; split <;> intro h <;> first | exact (t88_eq ..).symm | cases h⟩
def a89 (x : List AV) : Tree := match x with | [.ag [.i .i64 a,.i .i64 b,.i .u32 c,.i .u32 d,.i .u16 e]] => t89 a b c d e | _ => .fail
theorem a89_ok : TrOk E 89 a89 := ⟨Tryz.f89, Tryz.func89, fun x C n H r => by unfold a89; split <;> intro h <;> first | exact (t89_eq ..).symm | cases h⟩
def a90 (x : List AV) : Tree := match x with | [.ag [.i .i64 a,.i .i64 b,.i .u32 c,.i .u32 d,.i .u16 e],.ag [.i .i64 f,.i .i64 g,.i .u32 h,.i .u32 i,.i .u16 j]] => t90 a b c d e f g h i j | _ => .fail
theorem a90_ok : TrOk E 90 a90 := ⟨Tryz.f90, Tryz.func90, fun x C n H r => by unfold a90; split <;> intro h <;> first | exact (t90_eq ..).symm | cases h⟩
def a91 (x : List AV) : Tree := match x with | [.sc (.p (some (a,b))),.ag [.i .i64 c,.i .i64 d,.i .i64 e,.i .u32 f]] => t91 a b c d e f | _ => .fail
theorem a91_ok : TrOk E 91 a91 := ⟨Tryz.f91, Tryz.func91, fun x C n H r => by unfold a91; split <;> intro h <;> first | exact (t91_eq ..).symm | cases h⟩
def a92 (x : List AV) : Tree := match x with | [.sc (.sl a),.sc (.fn b c d)] => t92 a b c d | _ => .fail
theorem a92_ok : TrOk E 92 a92 := ⟨Tryz.f92, Tryz.func92, fun x C n H r => by unfold a92; split <;> intro h <;> first | exact (t92_eq ..).symm | cases h⟩
def a93 (x : List AV) : Tree := match x with | [.sc (.p (some (a,b)))] => t93 a b | _ => .fail
theorem a93_ok : TrOk E 93 a93 := ⟨Tryz.f93, Tryz.func93, fun x C n H r => by unfold a93; split <;> intro h <;> first | exact (t93_eq ..).symm | cases h⟩
def a94 (x : List AV) : Tree := match x with | [.ag [.i .u32 a,.i .u16 b,.i .i64 c],.sc (.p (some (d,e)))] => t94 a b c d e | _ => .fail
theorem a94_ok : TrOk E 94 a94 := ⟨Tryz.f94, Tryz.func94, fun x C n H r => by unfold a94; split <;> intro h <;> first | exact (t94_eq ..).symm | cases h⟩
def a95 (x : List AV) : Tree := match x with | [.sc (.p (some (a,b))),.sc (.i .u64 c),.sc (.i .i64 d),.ag [.i .u32 e,.i .u16 f],.sc (.s g)] => t95 a b c d e f g | _ => .fail
theorem a95_ok : TrOk E 95 a95 := ⟨Tryz.f95, Tryz.func95, fun x C n H r => by unfold a95; split <;> intro h <;> first | exact (t95_eq ..).symm | cases h⟩
def a96 (x : List AV) : Tree := match x with | [.sc (.p (some (a,b))),.sc (.i .u64 c)] => t96 a b c | _ => .fail
theorem a96_ok : TrOk E 96 a96 := ⟨Tryz.f96, Tryz.func96, fun x C n H r => by unfold a96; split <;> intro h <;> first | exact (t96_eq ..).symm | cases h⟩
def a97 (x : List AV) : Tree := match x with | [.sc (.p (some (a,b))),.sc (.i .u64 c)] => t97 a b c | _ => .fail
theorem a97_ok : TrOk E 97 a97 := ⟨Tryz.f97, Tryz.func97, fun x C n H r => by unfold a97; split <;> intro h <;> first | exact (t97_eq ..).symm | cases h⟩
def a98 (x : List AV) : Tree := match x with | [.sc (.p (some (a,b))),.sc (.i .u64 c)] => t98 a b c | _ => .fail
theorem a98_ok : TrOk E 98 a98 := ⟨Tryz.f98, Tryz.func98, fun x C n H r => by unfold a98; split <;> intro h <;> first | exact (t98_eq ..).symm | cases h⟩
def a99 (x : List AV) : Tree := match x with | [.sc (.p (some (a,b))),.sc (.i .u64 c),.sc (.b d)] => t99 a b c d | _ => .fail
theorem a99_ok : TrOk E 99 a99 := ⟨Tryz.f99, Tryz.func99, fun x C n H r => by unfold a99; split <;> intro h <;> first | exact (t99_eq ..).symm | cases h⟩
def a100 (x : List AV) : Tree := match x with | [.sc (.p (some (a,b))),.sc (.i .u64 c)] => t100 a b c | _ => .fail
theorem a100_ok : TrOk E 100 a100 := ⟨Tryz.f100, Tryz.func100, fun x C n H r => by unfold a100; split <;> intro h <;> first | exact (t100_eq ..).symm | cases h⟩
def a101 (x : List AV) : Tree := match x with | [.sc (.p (some (a,b))),.sc (.i .u64 c)] => t101 a b c | _ => .fail
theorem a101_ok : TrOk E 101 a101 := ⟨Tryz.f101, Tryz.func101, fun x C n H r => by unfold a101; split <;> intro h <;> first | exact (t101_eq ..).symm | cases h⟩
noncomputable def a102 (args : List AV) : Tree := bodyK T (hs 102) Tryz.f102 args
theorem a102_ok : TrOk E 102 a102 := ⟨Tryz.f102, Tryz.func102, fun args C n H r _ => rfl⟩
def a103 (x : List AV) : Tree := match x with | [.sc (.p (some (a,b)))] => t103 a b | _ => .fail
theorem a103_ok : TrOk E 103 a103 := ⟨Tryz.f103, Tryz.func103, fun x C n H r => by unfold a103; split <;> intro h <;> first | exact (t103_eq ..).symm | cases h⟩
def a104 (x : List AV) : Tree := match x with | [.sc (.p (some (a,b))),.sc (.i .u64 c),.sc (.i .i64 d)] => t104 a b c d | _ => .fail
theorem a104_ok : TrOk E 104 a104 := ⟨Tryz.f104, Tryz.func104, fun x C n H r => by unfold a104; split <;> intro h <;> first | exact (t104_eq ..).symm | cases h⟩
def a105 (x : List AV) : Tree := match x with | [.sc (.p (some (a,b))),.sc (.i .u64 c),.ag [.i .u32 d,.i .u16 e],.ag [.i .u32 f,.i .u16 g]] => t105 a b c d e f g | _ => .fail
theorem a105_ok : TrOk E 105 a105 := ⟨Tryz.f105, Tryz.func105, fun x C n H r => by unfold a105; split <;> intro h <;> first | exact (t105_eq ..).symm | cases h⟩
def a106 (x : List AV) : Tree := match x with | [.sc (.p (some (a,b))),.sc (.i .u64 c),.ag [.i .u32 d,.i .u16 e],.sc (.s f),.sc (.b g)] => t106 a b c d e f g | _ => .fail
theorem a106_ok : TrOk E 106 a106 := ⟨Tryz.f106, Tryz.func106, fun x C n H r => by unfold a106; split <;> intro h <;> first | exact (t106_eq ..).symm | cases h⟩
def a110 (x : List AV) : Tree := match x with | [.sc (.p (some (a,b))),.sc (.i .i64 c)] => t110 a b c | _ => .fail
theorem a110_ok : TrOk E 110 a110 := ⟨Tryz.f110, Tryz.func110, fun x C n H r => by unfold a110; split <;> intro h <;> first | exact (t110_eq ..).symm | cases h⟩
def a112 (x : List AV) : Tree := match x with | [.sc (.p (some (a,b))),.ag [.i .u32 c,.i .u16 d],.ag [.i .i64 e,.i .i64 f,.i .u32 g,.i .i64 h,.i .u32 i,.i .u16 j,.cx .f64 k l,.b m,.s n,.sl o]] => t112 a b c d e f g h i j k l m n o | _ => .fail
theorem a112_ok : TrOk E 112 a112 := ⟨Tryz.f112, Tryz.func112, fun x C n H r => by unfold a112; split <;> intro h <;> first | exact (t112_eq ..).symm | cases h⟩
noncomputable def a113 (args : List AV) : Tree := bodyK T (hs 113) Tryz.f113 args
theorem a113_ok : TrOk E 113 a113 := ⟨Tryz.f113, Tryz.func113, fun args C n H r _ => rfl⟩
def a114 (x : List AV) : Tree := match x with | [.sc (.p (some (a,b))),.sc (.i .i64 c)] => t114 a b c | _ => .fail
theorem a114_ok : TrOk E 114 a114 := ⟨Tryz.f114, Tryz.func114, fun x C n H r => by unfold a114; split <;> intro h <;> first | exact (t114_eq ..).symm | cases h⟩
def a115 (x : List AV) : Tree := match x with | [.sc (.p (some (a,b))),.sc (.i .i64 c),.ag [.i .i64 d,.i .i64 e,.i .u32 f,.i .i64 g,.i .u32 h,.i .u16 i,.cx .f64 j k,.b l,.s m,.sl n]] => t115 a b c d e f g h i j k l m n | _ => .fail
theorem a115_ok : TrOk E 115 a115 := ⟨Tryz.f115, Tryz.func115, fun x C n H r => by unfold a115; split <;> intro h <;> first | exact (t115_eq ..).symm | cases h⟩
def a116 (x : List AV) : Tree := match x with | [.sc (.p (some (a,b))),.ag [.i .u32 c,.i .u16 d,.i .u32 e,.i .u16 f,.s g,.i .u64 h]] => t116 a b c d e f g h | _ => .fail
theorem a116_ok : TrOk E 116 a116 := ⟨Tryz.f116, Tryz.func116, fun x C n H r => by unfold a116; split <;> intro h <;> first | exact (t116_eq ..).symm | cases h⟩
def a117 (x : List AV) : Tree := match x with | [.sc (.sl a),.sc (.fn b c d)] => t117 a b c d | _ => .fail
theorem a117_ok : TrOk E 117 a117 := ⟨Tryz.f117, Tryz.func117, fun x C n H r => by unfold a117; split <;> intro h <;> first | exact (t117_eq ..).symm | cases h⟩
def a118 (x : List AV) : Tree := match x with | [.sc (.sl a),.sc (.fn b c d)] => t118 a b c d | _ => .fail
theorem a118_ok : TrOk E 118 a118 := ⟨Tryz.f118, Tryz.func118, fun x C n H r => by unfold a118; split <;> intro h <;> first | exact (t118_eq ..).symm | cases h⟩
def a119 (x : List AV) : Tree := match x with | [.ag [.i .i64 a,.i .u32 b,.i .u16 c,.cx .f64 d e],.sc (.p (some (f,g)))] => t119 a b c d e f g | _ => .fail
theorem a119_ok : TrOk E 119 a119 := ⟨Tryz.f119, Tryz.func119, fun x C n H r => by unfold a119; split <;> intro h <;> first | exact (t119_eq ..).symm | cases h⟩
def a120 (x : List AV) : Tree := match x with | [.sc (.sl a),.sc (.b b)] => t120 a b | _ => .fail
theorem a120_ok : TrOk E 120 a120 := ⟨Tryz.f120, Tryz.func120, fun x C n H r => by unfold a120; split <;> intro h <;> first | exact (t120_eq ..).symm | cases h⟩
def a121 (x : List AV) : Tree := match x with | [.sc (.fl .f64 a)] => t121 a | _ => .fail
theorem a121_ok : TrOk E 121 a121 := ⟨Tryz.f121, Tryz.func121, fun x C n H r => by unfold a121; split <;> intro h <;> first | exact (t121_eq ..).symm | cases h⟩
def a122 (x : List AV) : Tree := match x with | [.sc (.sl a),.sc (.i .i64 b)] => t122 a b | _ => .fail
theorem a122_ok : TrOk E 122 a122 := ⟨Tryz.f122, Tryz.func122, fun x C n H r => by unfold a122; split <;> intro h <;> first | exact (t122_eq ..).symm | cases h⟩
def a123 (x : List AV) : Tree := match x with | [.ag [.i .i64 a,.i .i64 b,.i .u32 c,.i .u32 d,.i .u16 e],.ag [.i .i64 f,.i .i64 g,.i .u32 h,.i .u32 i,.i .u16 j]] => t123 a b c d e f g h i j | _ => .fail
theorem a123_ok : TrOk E 123 a123 := ⟨Tryz.f123, Tryz.func123, fun x C n H r => by unfold a123; split <;> intro h <;> first | exact (t123_eq ..).symm | cases h⟩
def a124 (x : List AV) : Tree := match x with | [.sc (.p (some (a,b))),.sc (.i .u64 c),.ag [.i .u32 d,.i .u16 e],.ag [.i .u32 f,.i .u16 g]] => t124 a b c d e f g | _ => .fail
theorem a124_ok : TrOk E 124 a124 := ⟨Tryz.f124, Tryz.func124, fun x C n H r => by unfold a124; split <;> intro h <;> first | exact (t124_eq ..).symm | cases h⟩
def a125 (x : List AV) : Tree := match x with | [.sc (.p (some (a,b))),.sc (.i .u64 c)] => t125 a b c | _ => .fail
theorem a125_ok : TrOk E 125 a125 := ⟨Tryz.f125, Tryz.func125, fun x C n H r => by unfold a125; split <;> intro h <;> first | exact (t125_eq ..).symm | cases h⟩
def a126 (x : List AV) : Tree := match x with | [.sc (.p (some (a,b))),.sc (.i .u64 c),.ag [.i .i64 d,.i .i64 e,.i .u32 f,.i .u32 g,.i .u16 h],.sc (.i .i64 i)] => t126 a b c d e f g h i | _ => .fail
theorem a126_ok : TrOk E 126 a126 := ⟨Tryz.f126, Tryz.func126, fun x C n H r => by unfold a126; split <;> intro h <;> first | exact (t126_eq ..).symm | cases h⟩
def a127 (x : List AV) : Tree := match x with | [.ag [.i .i64 a,.i .i64 b,.i .i64 c,.i .u32 d,.i .u64 e,.i .u64 f,.i .u64 g],.sc (.i .u64 h)] => t127 a b c d e f g h | _ => .fail
theorem a127_ok : TrOk E 127 a127 := ⟨Tryz.f127, Tryz.func127, fun x C n H r => by unfold a127; split <;> intro h <;> first | exact (t127_eq ..).symm | cases h⟩
def a128 (x : List AV) : Tree := match x with | [.sc (.p (some (a,b))),.sc (.sl c),.sc (.i .i64 d)] => t128 a b c d | _ => .fail
theorem a128_ok : TrOk E 128 a128 := ⟨Tryz.f128, Tryz.func128, fun x C n H r => by unfold a128; split <;> intro h <;> first | exact (t128_eq ..).symm | cases h⟩
def a129 (x : List AV) : Tree := match x with | [.sc (.p (some (a,b)))] => t129 a b | _ => .fail
theorem a129_ok : TrOk E 129 a129 := ⟨Tryz.f129, Tryz.func129, fun x C n H r => by unfold a129; split <;> intro h <;> first | exact (t129_eq ..).symm | cases h⟩
def a130 (x : List AV) : Tree := match x with | [.sc (.p (some (a,b)))] => t130 a b | _ => .fail
theorem a130_ok : TrOk E 130 a130 := ⟨Tryz.f130, Tryz.func130, fun x C n H r => by unfold a130; split <;> intro h <;> first | exact (t130_eq ..).symm | cases h⟩
def a131 (x : List AV) : Tree := match x with | [.sc (.p (some (a,b))),.sc (.i .u32 c),.sc (.i .u64 d)] => t131 a b c d | _ => .fail
theorem a131_ok : TrOk E 131 a131 := ⟨Tryz.f131, Tryz.func131, fun x C n H r => by unfold a131; split <;> intro h <;> first | exact (t131_eq ..).symm | cases h⟩
def a132 (x : List AV) : Tree := match x with | [.sc (.p (some (a,b))),.sc (.sl c)] => t132 a b c | _ => .fail
theorem a132_ok : TrOk E 132 a132 := ⟨Tryz.f132, Tryz.func132, fun x C n H r => by unfold a132; split <;> intro h <;> first | exact (t132_eq ..).symm | cases h⟩
def a133 (x : List AV) : Tree := match x with | [.ag [.i .i64 a,.i .i64 b,.i .i64 c,.i .u32 d,.i .u64 e,.i .u64 f,.i .u64 g],.sc (.i .i64 h),.sc (.i .u32 i),.sc (.i .u64 j)] => t133 a b c d e f g h i j | _ => .fail
theorem a133_ok : TrOk E 133 a133 := ⟨Tryz.f133, Tryz.func133, fun x C n H r => by unfold a133; split <;> intro h <;> first | exact (t133_eq ..).symm | cases h⟩
def a134 (x : List AV) : Tree := match x with | [.sc (.p (some (a,b))),.sc (.i .i64 c),.sc (.i .u64 d)] => t134 a b c d | _ => .fail
theorem a134_ok : TrOk E 134 a134 := ⟨Tryz.f134, Tryz.func134, fun x C n H r => by unfold a134; split <;> intro h <;> first | exact (t134_eq ..).symm | cases h⟩
def a135 (x : List AV) : Tree := match x with | [.sc (.p (some (a,b))),.sc (.i .u64 c)] => t135 a b c | _ => .fail
theorem a135_ok : TrOk E 135 a135 := ⟨Tryz.f135, Tryz.func135, fun x C n H r => by unfold a135; split <;> intro h <;> first | exact (t135_eq ..).symm | cases h⟩
def a136 (x : List AV) : Tree := match x with | [.ag [.i .i64 a,.i .i64 b,.i .u32 c,.i .u32 d,.i .u16 e]] => t136 a b c d e | _ => .fail
theorem a136_ok : TrOk E 136 a136 := ⟨Tryz.f136, Tryz.func136, fun x C n H r => by unfold a136; split <;> intro h <;> first | exact (t136_eq ..).symm | cases h⟩
def a137 (x : List AV) : Tree := match x with | [.sc (.p (some (a,b))),.sc (.i .u64 c),.sc (.cx .f64 d e),.sc (.sl f),.sc (.sl g)] => t137 a b c d e f g | _ => .fail
theorem a137_ok : TrOk E 137 a137 := ⟨Tryz.f137, Tryz.func137, fun x C n H r => by unfold a137; split <;> intro h <;> first | exact (t137_eq ..).symm | cases h⟩
def a138 (x : List AV) : Tree := match x with | [.sc (.p (some (a,b))),.sc (.i .u64 c)] => t138 a b c | _ => .fail
theorem a138_ok : TrOk E 138 a138 := ⟨Tryz.f138, Tryz.func138, fun x C n H r => by unfold a138; split <;> intro h <;> first | exact (t138_eq ..).symm | cases h⟩
def a139 (x : List AV) : Tree := match x with | [.sc (.p (some (a,b))),.sc (.i .i64 c),.ag [.i .i64 d,.i .i64 e,.i .u32 f,.i .i64 g,.i .u32 h,.i .u16 i,.cx .f64 j k,.b l,.s m,.sl n]] => t139 a b c d e f g h i j k l m n | _ => .fail
theorem a139_ok : TrOk E 139 a139 := ⟨Tryz.f139, Tryz.func139, fun x C n H r => by unfold a139; split <;> intro h <;> first | exact (t139_eq ..).symm | cases h⟩
def a140 (x : List AV) : Tree := match x with | [.sc (.p (some (a,b))),.sc (.i .u64 c)] => t140 a b c | _ => .fail
theorem a140_ok : TrOk E 140 a140 := ⟨Tryz.f140, Tryz.func140, fun x C n H r => by unfold a140; split <;> intro h <;> first | exact (t140_eq ..).symm | cases h⟩
def a141 (x : List AV) : Tree := match x with | [.sc (.p (some (a,b))),.sc (.i .i64 c)] => t141 a b c | _ => .fail
theorem a141_ok : TrOk E 141 a141 := ⟨Tryz.f141, Tryz.func141, fun x C n H r => by unfold a141; split <;> intro h <;> first | exact (t141_eq ..).symm | cases h⟩
def a143 (x : List AV) : Tree := match x with | [.sc (.p (some (a,b))),.sc (.i .u64 c)] => t143 a b c | _ => .fail
theorem a143_ok : TrOk E 143 a143 := ⟨Tryz.f143, Tryz.func143, fun x C n H r => by unfold a143; split <;> intro h <;> first | exact (t143_eq ..).symm | cases h⟩
def a144 (x : List AV) : Tree := match x with | [.sc (.sl a)] => t144 a | _ => .fail
theorem a144_ok : TrOk E 144 a144 := ⟨Tryz.f144, Tryz.func144, fun x C n H r => by unfold a144; split <;> intro h <;> first | exact (t144_eq ..).symm | cases h⟩
def a145 (x : List AV) : Tree := match x with | [.sc (.p (some (a,b))),.sc (.i .u32 c),.ag [.i .u32 d,.i .u16 e]] => t145 a b c d e | _ => .fail
theorem a145_ok : TrOk E 145 a145 := ⟨Tryz.f145, Tryz.func145, fun x C n H r => by unfold a145; split <;> intro h <;> first | exact (t145_eq ..).symm | cases h⟩
def a146 (x : List AV) : Tree := match x with | [.sc (.p (some (a,b))),.sc (.i .u64 c),.sc (.i .i64 d)] => t146 a b c d | _ => .fail
theorem a146_ok : TrOk E 146 a146 := ⟨Tryz.f146, Tryz.func146, fun x C n H r => by unfold a146; split <;> intro h <;> first | exact (t146_eq ..).symm | cases h⟩
def a147 (x : List AV) : Tree := match x with | [.sc (.p (some (a,b))),.ag [.i .u32 c,.i .u16 d],.sc (.i .i64 e)] => t147 a b c d e | _ => .fail
theorem a147_ok : TrOk E 147 a147 := ⟨Tryz.f147, Tryz.func147, fun x C n H r => by unfold a147; split <;> intro h <;> first | exact (t147_eq ..).symm | cases h⟩
def a148 (x : List AV) : Tree := match x with | [.sc (.p (some (a,b))),.sc (.i .u64 c),.sc (.i .u16 d),.ag [.i .u32 e,.i .u16 f]] => t148 a b c d e f | _ => .fail
theorem a148_ok : TrOk E 148 a148 := ⟨Tryz.f148, Tryz.func148, fun x C n H r => by unfold a148; split <;> intro h <;> first | exact (t148_eq ..).symm | cases h⟩
def a149 (x : List AV) : Tree := match x with | [.sc (.s a)] => t149 a | _ => .fail
theorem a149_ok : TrOk E 149 a149 := ⟨Tryz.f149, Tryz.func149, fun x C n H r => by unfold a149; split <;> intro h <;> first | exact (t149_eq ..).symm | cases h⟩
def a150 (x : List AV) : Tree := match x with | [.sc (.p (some (a,b))),.sc (.i .i64 c),.ag [.i .u32 d,.i .u16 e],.sc (.i .u64 f)] => t150 a b c d e f | _ => .fail
theorem a150_ok : TrOk E 150 a150 := ⟨Tryz.f150, Tryz.func150, fun x C n H r => by unfold a150; split <;> intro h <;> first | exact (t150_eq ..).symm | cases h⟩
def a151 (x : List AV) : Tree := match x with | [.sc (.p (some (a,b))),.sc (.i .u64 c),.ag [.i .u32 d,.i .u16 e],.ag [.i .i64 f,.i .i64 g,.i .u32 h,.i .i64 i,.i .u32 j,.i .u16 k,.cx .f64 l m,.b n,.s o,.sl p]] => t151 a b c d e f g h i j k l m n o p | _ => .fail
theorem a151_ok : TrOk E 151 a151 := ⟨Tryz.f151, Tryz.func151, fun x C n H r => by unfold a151; split <;> intro h <;> first | exact (t151_eq ..).symm | cases h⟩
def a152 (x : List AV) : Tree := match x with | [.sc (.p (some (a,b))),.sc (.i .u64 c),.sc (.i .i64 d)] => t152 a b c d | _ => .fail
theorem a152_ok : TrOk E 152 a152 := ⟨Tryz.f152, Tryz.func152, fun x C n H r => by unfold a152; split <;> intro h <;> first | exact (t152_eq ..).symm | cases h⟩
def a153 (x : List AV) : Tree := match x with | [.ag [.i .i64 a,.i .i64 b,.i .u32 c,.i .i64 d,.i .u32 e,.i .u16 f,.cx .f64 g h,.b i,.s j,.sl k]] => t153 a b c d e f g h i j k | _ => .fail
theorem a153_ok : TrOk E 153 a153 := ⟨Tryz.f153, Tryz.func153, fun x C n H r => by unfold a153; split <;> intro h <;> first | exact (t153_eq ..).symm | cases h⟩
def a154 (x : List AV) : Tree := match x with | [.sc (.sl a),.sc (.fn b c d)] => t154 a b c d | _ => .fail
theorem a154_ok : TrOk E 154 a154 := ⟨Tryz.f154, Tryz.func154, fun x C n H r => by unfold a154; split <;> intro h <;> first | exact (t154_eq ..).symm | cases h⟩
def a155 (x : List AV) : Tree := match x with | [.sc (.p (some (a,b)))] => t155 a b | _ => .fail
theorem a155_ok : TrOk E 155 a155 := ⟨Tryz.f155, Tryz.func155, fun x C n H r => by unfold a155; split <;> intro h <;> first | exact (t155_eq ..).symm | cases h⟩
def a156 (x : List AV) : Tree := match x with | [.sc (.i .i64 a),.sc (.p (some (b,c))),.sc (.p (some (d,e)))] => t156 a b c d e | _ => .fail
theorem a156_ok : TrOk E 156 a156 := ⟨Tryz.f156, Tryz.func156, fun x C n H r => by unfold a156; split <;> intro h <;> first | exact (t156_eq ..).symm | cases h⟩
noncomputable def a157 (args : List AV) : Tree := bodyK T (hs 157) Tryz.f157 args
theorem a157_ok : TrOk E 157 a157 := ⟨Tryz.f157, Tryz.func157, fun args C n H r _ => rfl⟩
def a159 (x : List AV) : Tree := match x with | [.sc (.sl a)] => t159 a | _ => .fail
theorem a159_ok : TrOk E 159 a159 := ⟨Tryz.f159, Tryz.func159, fun x C n H r => by unfold a159; split <;> intro h <;> first | exact (t159_eq ..).symm | cases h⟩
def a160 (x : List AV) : Tree := match x with | [.sc (.i .u32 a),.sc (.i .u32 b)] => t160 a b | _ => .fail
theorem a160_ok : TrOk E 160 a160 := ⟨Tryz.f160, Tryz.func160, fun x C n H r => by unfold a160; split <;> intro h <;> first | exact (t160_eq ..).symm | cases h⟩
def a161 (x : List AV) : Tree := match x with | [.sc (.i .i64 a),.sc (.i .i64 b)] => t161 a b | _ => .fail
theorem a161_ok : TrOk E 161 a161 := ⟨Tryz.f161, Tryz.func161, fun x C n H r => by unfold a161; split <;> intro h <;> first | exact (t161_eq ..).symm | cases h⟩
def a162 (x : List AV) : Tree := match x with | [.ag [.i .u32 a,.i .u16 b],.ag [.i .u32 c,.i .u16 d]] => t162 a b c d | _ => .fail
theorem a162_ok : TrOk E 162 a162 := ⟨Tryz.f162, Tryz.func162, fun x C n H r => by unfold a162; split <;> intro h <;> first | exact (t162_eq ..).symm | cases h⟩
def a163 (x : List AV) : Tree := match x with | [.sc (.p (some (a,b))),.sc (.i .u64 c)] => t163 a b c | _ => .fail
theorem a163_ok : TrOk E 163 a163 := ⟨Tryz.f163, Tryz.func163, fun x C n H r => by unfold a163; split <;> intro h <;> first | exact (t163_eq ..).symm | cases h⟩
def a164 (x : List AV) : Tree := match x with | [.sc (.p (some (a,b))),.ag [.i .u32 c,.i .u16 d],.ag [.i .u32 e,.i .u16 f]] => t164 a b c d e f | _ => .fail
theorem a164_ok : TrOk E 164 a164 := ⟨Tryz.f164, Tryz.func164, fun x C n H r => by unfold a164; split <;> intro h <;> first | exact (t164_eq ..).symm | cases h⟩
def a165 (x : List AV) : Tree := match x with | [.ag [.i .i64 a,.i .i64 b],.ag [.i .u32 c,.i .u16 d]] => t165 a b c d | _ => .fail
theorem a165_ok : TrOk E 165 a165 := ⟨Tryz.f165, Tryz.func165, fun x C n H r => by unfold a165; split <;> intro h <;> first | exact (t165_eq ..).symm | cases h⟩
def a166 (x : List AV) : Tree := match x with | [.sc (.sl a),.ag [.i .u32 b,.i .u16 c]] => t166 a b c | _ => .fail
theorem a166_ok : TrOk E 166 a166 := ⟨Tryz.f166, Tryz.func166, fun x C n H r => by unfold a166; split <;> intro h <;> first | exact (t166_eq ..).symm | cases h⟩
def a167 (x : List AV) : Tree := match x with | [.sc (.sl a)] => t167 a | _ => .fail
theorem a167_ok : TrOk E 167 a167 := ⟨Tryz.f167, Tryz.func167, fun x C n H r => by unfold a167; split <;> intro h <;> first | exact (t167_eq ..).symm | cases h⟩
def a168 (x : List AV) : Tree := match x with | [.sc (.p (some (a,b))),.sc (.fn c d e),.sc (.b f)] => t168 a b c d e f | _ => .fail
theorem a168_ok : TrOk E 168 a168 := ⟨Tryz.f168, Tryz.func168, fun x C n H r => by unfold a168; split <;> intro h <;> first | exact (t168_eq ..).symm | cases h⟩
def a169 (x : List AV) : Tree := match x with | [.ag [.i .i64 a,.i .u32 b,.i .u64 c,.i .u64 d,.sl e],.sc (.p (some (f,g)))] => t169 a b c d e f g | _ => .fail
theorem a169_ok : TrOk E 169 a169 := ⟨Tryz.f169, Tryz.func169, fun x C n H r => by unfold a169; split <;> intro h <;> first | exact (t169_eq ..).symm | cases h⟩
def a170 (x : List AV) : Tree := match x with | [.ag [.i .i64 a,.i .u32 b,.i .u64 c,.i .u64 d,.sl e]] => t170 a b c d e | _ => .fail
theorem a170_ok : TrOk E 170 a170 := ⟨Tryz.f170, Tryz.func170, fun x C n H r => by unfold a170; split <;> intro h <;> first | exact (t170_eq ..).symm | cases h⟩
def a171 (x : List AV) : Tree := match x with | [.sc (.p (some (a,b))),.ag [.i .i64 c,.i .i64 d,.i .u32 e,.i .u32 f,.i .u16 g]] => t171 a b c d e f g | _ => .fail
theorem a171_ok : TrOk E 171 a171 := ⟨Tryz.f171, Tryz.func171, fun x C n H r => by unfold a171; split <;> intro h <;> first | exact (t171_eq ..).symm | cases h⟩
def a172 (x : List AV) : Tree := match x with | [.sc (.p (some (a,b))),.ag [.i .i64 c,.i .i64 d,.i .u32 e,.i .u32 f,.i .u16 g]] => t172 a b c d e f g | _ => .fail
theorem a172_ok : TrOk E 172 a172 := ⟨Tryz.f172, Tryz.func172, fun x C n H r => by unfold a172; split <;> intro h <;> first | exact (t172_eq ..).symm | cases h⟩
def a173 (x : List AV) : Tree := match x with | [.sc (.p (some (a,b))),.sc (.i .i64 c),.sc (.i .u32 d),.sc (.i .u64 e),.sc (.i .u64 f)] => t173 a b c d e f | _ => .fail
theorem a173_ok : TrOk E 173 a173 := ⟨Tryz.f173, Tryz.func173, fun x C n H r => by unfold a173; split <;> intro h <;> first | exact (t173_eq ..).symm | cases h⟩
def a175 (x : List AV) : Tree := match x with | [.sc (.p (some (a,b))),.sc (.i .i64 c),.sc (.i .u32 d)] => t175 a b c d | _ => .fail
theorem a175_ok : TrOk E 175 a175 := ⟨Tryz.f175, Tryz.func175, fun x C n H r => by unfold a175; split <;> intro h <;> first | exact (t175_eq ..).symm | cases h⟩
def a178 (x : List AV) : Tree := match x with | [.ag [.i .i64 a,.i .i64 b,.i .i64 c,.i .u32 d,.i .u64 e,.i .u64 f,.i .u64 g]] => t178 a b c d e f g | _ => .fail
theorem a178_ok : TrOk E 178 a178 := ⟨Tryz.f178, Tryz.func178, fun x C n H r => by unfold a178; split <;> intro h <;> first | exact (t178_eq ..).symm | cases h⟩
def a179 (x : List AV) : Tree := match x with | [.ag [.i .u64 a],.sc (.sl b),.sc (.i .i64 c)] => t179 a b c | _ => .fail
theorem a179_ok : TrOk E 179 a179 := ⟨Tryz.f179, Tryz.func179, fun x C n H r => by unfold a179; split <;> intro h <;> first | exact (t179_eq ..).symm | cases h⟩
def a180 (x : List AV) : Tree := match x with | [.sc (.p (some (a,b))),.sc (.i .i64 c)] => t180 a b c | _ => .fail
theorem a180_ok : TrOk E 180 a180 := ⟨Tryz.f180, Tryz.func180, fun x C n H r => by unfold a180; split <;> intro h <;> first | exact (t180_eq ..).symm | cases h⟩
def a181 (x : List AV) : Tree := match x with | [.sc (.sl a)] => t181 a | _ => .fail
theorem a181_ok : TrOk E 181 a181 := ⟨Tryz.f181, Tryz.func181, fun x C n H r => by unfold a181; split <;> intro h <;> first | exact (t181_eq ..).symm | cases h⟩
def a182 (x : List AV) : Tree := match x with | [.ag [.i .u64 a],.sc (.sl b)] => t182 a b | _ => .fail
theorem a182_ok : TrOk E 182 a182 := ⟨Tryz.f182, Tryz.func182, fun x C n H r => by unfold a182; split <;> intro h <;> first | exact (t182_eq ..).symm | cases h⟩
def a183 (x : List AV) : Tree := match x with | [.sc (.i .i64 a)] => t183 a | _ => .fail
theorem a183_ok : TrOk E 183 a183 := ⟨Tryz.f183, Tryz.func183, fun x C n H r => by unfold a183; split <;> intro h <;> first | exact (t183_eq ..).symm | cases h⟩
def a184 (x : List AV) : Tree := match x with | [.sc (.i .i64 a)] => t184 a | _ => .fail
theorem a184_ok : TrOk E 184 a184 := ⟨Tryz.f184, Tryz.func184, fun x C n H r => by unfold a184; split <;> intro h <;> first | exact (t184_eq ..).symm | cases h⟩
noncomputable def a185 (args : List AV) : Tree := bodyK T (hs 185) Tryz.f185 args
theorem a185_ok : TrOk E 185 a185 := ⟨Tryz.f185, Tryz.func185, fun args C n H r _ => rfl⟩
def a186 (x : List AV) : Tree := match x with | [.sc (.p (some (a,b))),.sc (.p (some (c,d))),.sc (.i .u64 e)] => t186 a b c d e | _ => .fail
theorem a186_ok : TrOk E 186 a186 := ⟨Tryz.f186, Tryz.func186, fun x C n H r => by unfold a186; split <;> intro h <;> first | exact (t186_eq ..).symm | cases h⟩
def a187 (x : List AV) : Tree := match x with | [.sc (.p (some (a,b))),.sc (.i .i64 c),.sc (.i .u64 d)] => t187 a b c d | _ => .fail
theorem a187_ok : TrOk E 187 a187 := ⟨Tryz.f187, Tryz.func187, fun x C n H r => by unfold a187; split <;> intro h <;> first | exact (t187_eq ..).symm | cases h⟩
def a188 (x : List AV) : Tree := match x with | [.sc (.sl a),.sc (.fn b c d)] => t188 a b c d | _ => .fail
theorem a188_ok : TrOk E 188 a188 := ⟨Tryz.f188, Tryz.func188, fun x C n H r => by unfold a188; split <;> intro h <;> first | exact (t188_eq ..).symm | cases h⟩
def a189 (x : List AV) : Tree := match x with | [.sc (.p (some (a,b)))] => t189 a b | _ => .fail
theorem a189_ok : TrOk E 189 a189 := ⟨Tryz.f189, Tryz.func189, fun x C n H r => by unfold a189; split <;> intro h <;> first | exact (t189_eq ..).symm | cases h⟩
def a191 (x : List AV) : Tree := match x with | [.sc (.sl a),.sc (.fn b c d)] => t191 a b c d | _ => .fail
theorem a191_ok : TrOk E 191 a191 := ⟨Tryz.f191, Tryz.func191, fun x C n H r => by unfold a191; split <;> intro h <;> first | exact (t191_eq ..).symm | cases h⟩
def a194 (x : List AV) : Tree := match x with | [.sc (.sl a),.sc (.i .i64 b),.sc (.i .i64 c)] => t194 a b c | _ => .fail
theorem a194_ok : TrOk E 194 a194 := ⟨Tryz.f194, Tryz.func194, fun x C n H r => by unfold a194; split <;> intro h <;> first | exact (t194_eq ..).symm | cases h⟩
def a195 (x : List AV) : Tree := match x with | [.sc (.sl a),.ag [.i .u32 b,.i .u16 c,.i .i64 d]] => t195 a b c d | _ => .fail
theorem a195_ok : TrOk E 195 a195 := ⟨Tryz.f195, Tryz.func195, fun x C n H r => by unfold a195; split <;> intro h <;> first | exact (t195_eq ..).symm | cases h⟩
def a196 (x : List AV) : Tree := match x with | [.sc (.sl a),.sc (.fn b c d)] => t196 a b c d | _ => .fail
theorem a196_ok : TrOk E 196 a196 := ⟨Tryz.f196, Tryz.func196, fun x C n H r => by unfold a196; split <;> intro h <;> first | exact (t196_eq ..).symm | cases h⟩
def a197 (x : List AV) : Tree := match x with | [.ag [.i .u32 a,.i .u16 b,.i .u32 c,.i .u16 d,.i .u16 e,.sl f,.i .u64 g],.sc (.p (some (h,i)))] => t197 a b c d e f g h i | _ => .fail
theorem a197_ok : TrOk E 197 a197 := ⟨Tryz.f197, Tryz.func197, fun x C n H r => by unfold a197; split <;> intro h <;> first | exact (t197_eq ..).symm | cases h⟩
def a198 (x : List AV) : Tree := match x with | [.ag [.i .i64 a,.i .i64 b],.sc (.sl c),.ag [.i .u32 d,.i .u16 e]] => t198 a b c d e | _ => .fail
theorem a198_ok : TrOk E 198 a198 := ⟨Tryz.f198, Tryz.func198, fun x C n H r => by unfold a198; split <;> intro h <;> first | exact (t198_eq ..).symm | cases h⟩
def a199 (x : List AV) : Tree := match x with | [.sc (.s a)] => t199 a | _ => .fail
theorem a199_ok : TrOk E 199 a199 := ⟨Tryz.f199, Tryz.func199, fun x C n H r => by unfold a199; split <;> intro h <;> first | exact (t199_eq ..).symm | cases h⟩
def a200 (x : List AV) : Tree := match x with | [.sc (.p (some (a,b))),.sc (.i .i64 c)] => t200 a b c | _ => .fail
theorem a200_ok : TrOk E 200 a200 := ⟨Tryz.f200, Tryz.func200, fun x C n H r => by unfold a200; split <;> intro h <;> first | exact (t200_eq ..).symm | cases h⟩
def a201 (x : List AV) : Tree := match x with | [.sc (.i .i64 a)] => t201 a | _ => .fail
theorem a201_ok : TrOk E 201 a201 := ⟨Tryz.f201, Tryz.func201, fun x C n H r => by unfold a201; split <;> intro h <;> first | exact (t201_eq ..).symm | cases h⟩
def a202 (x : List AV) : Tree := match x with | [.sc (.p (some (a,b))),.sc (.p (some (c,d))),.sc (.i .i32 e)] => t202 a b c d e | _ => .fail
theorem a202_ok : TrOk E 202 a202 := ⟨Tryz.f202, Tryz.func202, fun x C n H r => by unfold a202; split <;> intro h <;> first | exact (t202_eq ..).symm | cases h⟩
def a203 (x : List AV) : Tree := match x with | [.ag [.s a,.b b]] => t203 a b | _ => .fail
theorem a203_ok : TrOk E 203 a203 := ⟨Tryz.f203, Tryz.func203, fun x C n H r => by unfold a203; split <;> intro h <;> first | exact (t203_eq ..).symm | cases h⟩
def a204 (x : List AV) : Tree := match x with | [.sc (.p (some (a,b))),.ag [.i .u32 c,.i .u16 d],.ag [.i .i64 e,.i .i64 f,.i .u32 g,.i .i64 h,.i .u32 i,.i .u16 j,.cx .f64 k l,.b m,.s n,.sl o],.sc (.b p)] => t204 a b c d e f g h i j k l m n o p | _ => .fail
theorem a204_ok : TrOk E 204 a204 := ⟨Tryz.f204, Tryz.func204, fun x C n H r => by unfold a204; split <;> intro h <;> first | exact (t204_eq ..).symm | cases h⟩
def a205 (x : List AV) : Tree := match x with | [.sc (.p (some (a,b))),.ag [.i .i64 c,.i .i64 d,.i .u32 e,.i .i64 f,.i .u32 g,.i .u16 h,.cx .f64 i j,.b k,.s l,.sl m]] => t205 a b c d e f g h i j k l m | _ => .fail
theorem a205_ok : TrOk E 205 a205 := ⟨Tryz.f205, Tryz.func205, fun x C n H r => by unfold a205; split <;> intro h <;> first | exact (t205_eq ..).symm | cases h⟩
def a208 (x : List AV) : Tree := match x with | [.sc (.p (some (a,b))),.sc (.i .u64 c),.ag [.i .u32 d,.i .u16 e],.ag [.i .i64 f,.i .i64 g,.i .u32 h,.i .i64 i,.i .u32 j,.i .u16 k,.cx .f64 l m,.b n,.s o,.sl p],.sc (.b q)] => t208 a b c d e f g h i j k l m n o p q | _ => .fail
theorem a208_ok : TrOk E 208 a208 := ⟨Tryz.f208, Tryz.func208, fun x C n H r => by unfold a208; split <;> intro h <;> first | exact (t208_eq ..).symm | cases h⟩
def a209 (x : List AV) : Tree := match x with | [.sc (.p (some (a,b))),.ag [.i .u32 c,.i .u16 d],.ag [.i .i64 e,.i .i64 f,.i .u32 g,.i .i64 h,.i .u32 i,.i .u16 j,.cx .f64 k l,.b m,.s n,.sl o]] => t209 a b c d e f g h i j k l m n o | _ => .fail
theorem a209_ok : TrOk E 209 a209 := ⟨Tryz.f209, Tryz.func209, fun x C n H r => by unfold a209; split <;> intro h <;> first | exact (t209_eq ..).symm | cases h⟩
def a210 (x : List AV) : Tree := match x with | [.sc (.p (some (a,b))),.sc (.i .u64 c),.ag [.i .i64 d,.i .i64 e,.i .u32 f,.i .i64 g,.i .u32 h,.i .u16 i,.cx .f64 j k,.b l,.s m,.sl n]] => t210 a b c d e f g h i j k l m n | _ => .fail
theorem a210_ok : TrOk E 210 a210 := ⟨Tryz.f210, Tryz.func210, fun x C n H r => by unfold a210; split <;> intro h <;> first | exact (t210_eq ..).symm | cases h⟩
def a212 (x : List AV) : Tree := match x with | [.sc (.p (some (a,b))),.sc (.i .u64 c),.ag [.i .u32 d,.i .u16 e],.ag [.i .i64 f,.i .i64 g,.i .u32 h,.i .i64 i,.i .u32 j,.i .u16 k,.cx .f64 l m,.b n,.s o,.sl p]] => t212 a b c d e f g h i j k l m n o p | _ => .fail
theorem a212_ok : TrOk E 212 a212 := ⟨Tryz.f212, Tryz.func212, fun x C n H r => by unfold a212; split <;> intro h <;> first | exact (t212_eq ..).symm | cases h⟩
def a213 (x : List AV) : Tree := match x with | [.sc (.p (some (a,b))),.sc (.i .u64 c),.ag [.i .i64 d,.i .i64 e,.i .u32 f,.i .i64 g,.i .u32 h,.i .u16 i,.cx .f64 j k,.b l,.s m,.sl n]] => t213 a b c d e f g h i j k l m n | _ => .fail
theorem a213_ok : TrOk E 213 a213 := ⟨Tryz.f213, Tryz.func213, fun x C n H r => by unfold a213; split <;> intro h <;> first | exact (t213_eq ..).symm | cases h⟩
def a215 (x : List AV) : Tree := match x with | [.ag [.i .i64 a,.i .i64 b,.i .u32 c,.i .i64 d,.i .u32 e,.i .u16 f,.cx .f64 g h,.b i,.s j,.sl k]] => t215 a b c d e f g h i j k | _ => .fail
theorem a215_ok : TrOk E 215 a215 := ⟨Tryz.f215, Tryz.func215, fun x C n H r => by unfold a215; split <;> intro h <;> first | exact (t215_eq ..).symm | cases h⟩
def a216 (x : List AV) : Tree := match x with | [.sc (.i .u64 a),.sc (.i .i64 b)] => t216 a b | _ => .fail
theorem a216_ok : TrOk E 216 a216 := ⟨Tryz.f216, Tryz.func216, fun x C n H r => by unfold a216; split <;> intro h <;> first | exact (t216_eq ..).symm | cases h⟩
def a217 (x : List AV) : Tree := match x with | [.ag [.i .u32 a,.i .u16 b]] => t217 a b | _ => .fail
theorem a217_ok : TrOk E 217 a217 := ⟨Tryz.f217, Tryz.func217, fun x C n H r => by unfold a217; split <;> intro h <;> first | exact (t217_eq ..).symm | cases h⟩
noncomputable def a218 (args : List AV) : Tree := bodyK T (hs 218) Tryz.f218 args
theorem a218_ok : TrOk E 218 a218 := ⟨Tryz.f218, Tryz.func218, fun args C n H r _ => rfl⟩
def a219 (x : List AV) : Tree := match x with | [.ag [.i .i64 a,.i .i64 b,.i .u32 c,.i .u32 d,.i .u16 e]] => t219 a b c d e | _ => .fail
theorem a219_ok : TrOk E 219 a219 := ⟨Tryz.f219, Tryz.func219, fun x C n H r => by unfold a219; split <;> intro h <;> first | exact (t219_eq ..).symm | cases h⟩
def a220 (x : List AV) : Tree := match x with | [.sc (.sl a),.sc (.fn b c d)] => t220 a b c d | _ => .fail
theorem a220_ok : TrOk E 220 a220 := ⟨Tryz.f220, Tryz.func220, fun x C n H r => by unfold a220; split <;> intro h <;> first | exact (t220_eq ..).symm | cases h⟩
def a224 (x : List AV) : Tree := match x with | [.sc (.i .u32 a)] => t224 a | _ => .fail
theorem a224_ok : TrOk E 224 a224 := ⟨Tryz.f224, Tryz.func224, fun x C n H r => by unfold a224; split <;> intro h <;> first | exact (t224_eq ..).symm | cases h⟩
def a225 (x : List AV) : Tree := match x with | [.sc (.i .i64 a)] => t225 a | _ => .fail
theorem a225_ok : TrOk E 225 a225 := ⟨Tryz.f225, Tryz.func225, fun x C n H r => by unfold a225; split <;> intro h <;> first | exact (t225_eq ..).symm | cases h⟩
def a226 (x : List AV) : Tree := match x with | [.sc (.i .u16 a),.sc (.i .u16 b)] => t226 a b | _ => .fail
theorem a226_ok : TrOk E 226 a226 := ⟨Tryz.f226, Tryz.func226, fun x C n H r => by unfold a226; split <;> intro h <;> first | exact (t226_eq ..).symm | cases h⟩
def a227 (x : List AV) : Tree := match x with | [.sc (.sl a),.sc (.fn b c d)] => t227 a b c d | _ => .fail
theorem a227_ok : TrOk E 227 a227 := ⟨Tryz.f227, Tryz.func227, fun x C n H r => by unfold a227; split <;> intro h <;> first | exact (t227_eq ..).symm | cases h⟩
def a228 (x : List AV) : Tree := match x with | [.ag [.i .u32 a,.i .u16 b,.i .u32 c,.i .u16 d,.i .u16 e,.sl f,.i .u64 g],.sc (.p (some (h,i)))] => t228 a b c d e f g h i | _ => .fail
theorem a228_ok : TrOk E 228 a228 := ⟨Tryz.f228, Tryz.func228, fun x C n H r => by unfold a228; split <;> intro h <;> first | exact (t228_eq ..).symm | cases h⟩
def a229 (x : List AV) : Tree := match x with | [.ag [.i .u32 a,.i .u16 b,.i .u32 c,.i .u16 d,.i .u16 e,.sl f,.i .u64 g],.sc (.p (some (h,i))),.sc (.p (some (j,k)))] => t229 a b c d e f g h i j k | _ => .fail
theorem a229_ok : TrOk E 229 a229 := ⟨Tryz.f229, Tryz.func229, fun x C n H r => by unfold a229; split <;> intro h <;> first | exact (t229_eq ..).symm | cases h⟩
def a234 (x : List AV) : Tree := match x with | [.sc (.p (some (a,b)))] => t234 a b | _ => .fail
theorem a234_ok : TrOk E 234 a234 := ⟨Tryz.f234, Tryz.func234, fun x C n H r => by unfold a234; split <;> intro h <;> first | exact (t234_eq ..).symm | cases h⟩
def a235 (x : List AV) : Tree := match x with | [.sc (.sl a),.ag [.i .u32 b,.i .u16 c]] => t235 a b c | _ => .fail
theorem a235_ok : TrOk E 235 a235 := ⟨Tryz.f235, Tryz.func235, fun x C n H r => by unfold a235; split <;> intro h <;> first | exact (t235_eq ..).symm | cases h⟩
def a236 (x : List AV) : Tree := match x with | [.sc (.sl a)] => t236 a | _ => .fail
theorem a236_ok : TrOk E 236 a236 := ⟨Tryz.f236, Tryz.func236, fun x C n H r => by unfold a236; split <;> intro h <;> first | exact (t236_eq ..).symm | cases h⟩
def a237 (x : List AV) : Tree := match x with | [.sc (.p (some (a,b))),.ag [.i .i64 c,.i .i64 d,.i .u32 e,.i .u32 f,.i .u16 g],.sc (.i .i64 h)] => t237 a b c d e f g h | _ => .fail
theorem a237_ok : TrOk E 237 a237 := ⟨Tryz.f237, Tryz.func237, fun x C n H r => by unfold a237; split <;> intro h <;> first | exact (t237_eq ..).symm | cases h⟩
def a238 (x : List AV) : Tree := match x with | [.sc (.i .i64 a)] => t238 a | _ => .fail
theorem a238_ok : TrOk E 238 a238 := ⟨Tryz.f238, Tryz.func238, fun x C n H r => by unfold a238; split <;> intro h <;> first | exact (t238_eq ..).symm | cases h⟩
def a239 (x : List AV) : Tree := match x with | [.sc (.i .i64 a)] => t239 a | _ => .fail
theorem a239_ok : TrOk E 239 a239 := ⟨Tryz.f239, Tryz.func239, fun x C n H r => by unfold a239; split <;> intro h <;> first | exact (t239_eq ..).symm | cases h⟩
def a240 (x : List AV) : Tree := match x with | [.sc (.p (some (a,b))),.sc (.i .i64 c)] => t240 a b c | _ => .fail
theorem a240_ok : TrOk E 240 a240 := ⟨Tryz.f240, Tryz.func240, fun x C n H r => by unfold a240; split <;> intro h <;> first | exact (t240_eq ..).symm | cases h⟩
def a243 (x : List AV) : Tree := match x with | [.sc (.p (some (a,b)))] => t243 a b | _ => .fail
theorem a243_ok : TrOk E 243 a243 := ⟨Tryz.f243, Tryz.func243, fun x C n H r => by unfold a243; split <;> intro h <;> first | exact (t243_eq ..).symm | cases h⟩
def a244 (x : List AV) : Tree := match x with | [.sc (.sl a),.sc (.fn b c d)] => t244 a b c d | _ => .fail
theorem a244_ok : TrOk E 244 a244 := ⟨Tryz.f244, Tryz.func244, fun x C n H r => by unfold a244; split <;> intro h <;> first | exact (t244_eq ..).symm | cases h⟩
def a245 (x : List AV) : Tree := match x with | [.ag [.i .i64 a,.i .i64 b,.i .u32 c,.i .u32 d,.i .u16 e,.i .i64 f]] => t245 a b c d e f | _ => .fail
theorem a245_ok : TrOk E 245 a245 := ⟨Tryz.f245, Tryz.func245, fun x C n H r => by unfold a245; split <;> intro h <;> first | exact (t245_eq ..).symm | cases h⟩
def a247 (x : List AV) : Tree := match x with | [.sc (.sl a),.sc (.fn b c d)] => t247 a b c d | _ => .fail
theorem a247_ok : TrOk E 247 a247 := ⟨Tryz.f247, Tryz.func247, fun x C n H r => by unfold a247; split <;> intro h <;> first | exact (t247_eq ..).symm | cases h⟩
def a250 (x : List AV) : Tree := match x with | [.sc (.sl a),.sc (.fn b c d)] => t250 a b c d | _ => .fail
theorem a250_ok : TrOk E 250 a250 := ⟨Tryz.f250, Tryz.func250, fun x C n H r => by unfold a250; split <;> intro h <;> first | exact (t250_eq ..).symm | cases h⟩
def a251 (x : List AV) : Tree := match x with | [.sc (.sl a)] => t251 a | _ => .fail
theorem a251_ok : TrOk E 251 a251 := ⟨Tryz.f251, Tryz.func251, fun x C n H r => by unfold a251; split <;> intro h <;> first | exact (t251_eq ..).symm | cases h⟩
def a252 (x : List AV) : Tree := match x with | [.ag [.i .i64 a,.i .u32 b,.i .u16 c,.i .u64 d]] => t252 a b c d | _ => .fail
theorem a252_ok : TrOk E 252 a252 := ⟨Tryz.f252, Tryz.func252, fun x C n H r => by unfold a252; split <;> intro h <;> first | exact (t252_eq ..).symm | cases h⟩
def a253 (x : List AV) : Tree := match x with | [.sc (.sl a),.sc (.i .i64 b),.sc (.i .i64 c),.sc (.i .i64 d),.sc (.fn e f g)] => t253 a b c d e f g | _ => .fail
theorem a253_ok : TrOk E 253 a253 := ⟨Tryz.f253, Tryz.func253, fun x C n H r => by unfold a253; split <;> intro h <;> first | exact (t253_eq ..).symm | cases h⟩
def a254 (x : List AV) : Tree := match x with | [.sc (.i .u64 a)] => t254 a | _ => .fail
theorem a254_ok : TrOk E 254 a254 := ⟨Tryz.f254, Tryz.func254, fun x C n H r => by unfold a254; split <;> intro h <;> first | exact (t254_eq ..).symm | cases h⟩
def a255 (x : List AV) : Tree := match x with | [.sc (.sl a),.sc (.fn b c d)] => t255 a b c d | _ => .fail
theorem a255_ok : TrOk E 255 a255 := ⟨Tryz.f255, Tryz.func255, fun x C n H r => by unfold a255; split <;> intro h <;> first | exact (t255_eq ..).symm | cases h⟩
def a256 (x : List AV) : Tree := match x with | [.ag [.i .u32 a,.i .u16 b],.sc (.p (some (c,d)))] => t256 a b c d | _ => .fail
theorem a256_ok : TrOk E 256 a256 := ⟨Tryz.f256, Tryz.func256, fun x C n H r => by unfold a256; split <;> intro h <;> first | exact (t256_eq ..).symm | cases h⟩
def a257 (x : List AV) : Tree := match x with | [.ag [.s a,.b b],.sc (.i .i64 c)] => t257 a b c | _ => .fail
theorem a257_ok : TrOk E 257 a257 := ⟨Tryz.f257, Tryz.func257, fun x C n H r => by unfold a257; split <;> intro h <;> first | exact (t257_eq ..).symm | cases h⟩
def a258 (x : List AV) : Tree := match x with | [.sc (.s a)] => t258 a | _ => .fail
theorem a258_ok : TrOk E 258 a258 := ⟨Tryz.f258, Tryz.func258, fun x C n H r => by unfold a258; split <;> intro h <;> first | exact (t258_eq ..).symm | cases h⟩
def a259 (x : List AV) : Tree := match x with | [.sc (.p (some (a,b))),.sc (.i .i64 c)] => t259 a b c | _ => .fail
theorem a259_ok : TrOk E 259 a259 := ⟨Tryz.f259, Tryz.func259, fun x C n H r => by unfold a259; split <;> intro h <;> first | exact (t259_eq ..).symm | cases h⟩
noncomputable def a260 (args : List AV) : Tree := bodyK T (hs 260) Tryz.f260 args
theorem a260_ok : TrOk E 260 a260 := ⟨Tryz.f260, Tryz.func260, fun args C n H r _ => rfl⟩
def a261 (x : List AV) : Tree := match x with | [.sc (.s a)] => t261 a | _ => .fail
theorem a261_ok : TrOk E 261 a261 := ⟨Tryz.f261, Tryz.func261, fun x C n H r => by unfold a261; split <;> intro h <;> first | exact (t261_eq ..).symm | cases h⟩
def a262 (x : List AV) : Tree := match x with | [.ag [.i .i64 a,.i .i64 b,.i .i64 c,.i .u32 d,.i .u64 e,.i .u64 f,.i .u64 g],.sc (.i .u32 h)] => t262 a b c d e f g h | _ => .fail
theorem a262_ok : TrOk E 262 a262 := ⟨Tryz.f262, Tryz.func262, fun x C n H r => by unfold a262; split <;> intro h <;> first | exact (t262_eq ..).symm | cases h⟩
def a263 (x : List AV) : Tree := match x with | [.sc (.sl a),.sc (.fn b c d)] => t263 a b c d | _ => .fail
theorem a263_ok : TrOk E 263 a263 := ⟨Tryz.f263, Tryz.func263, fun x C n H r => by unfold a263; split <;> intro h <;> first | exact (t263_eq ..).symm | cases h⟩
def a267 (x : List AV) : Tree := match x with | [.sc (.p (some (a,b))),.sc (.i .i64 c),.ag [.i .u32 d,.i .u16 e],.sc (.i .u64 f)] => t267 a b c d e f | _ => .fail
theorem a267_ok : TrOk E 267 a267 := ⟨Tryz.f267, Tryz.func267, fun x C n H r => by unfold a267; split <;> intro h <;> first | exact (t267_eq ..).symm | cases h⟩
def a269 (x : List AV) : Tree := match x with | [.sc (.p (some (a,b))),.sc (.i .i64 c),.ag [.i .u32 d,.i .u16 e],.sc (.i .u64 f)] => t269 a b c d e f | _ => .fail
theorem a269_ok : TrOk E 269 a269 := ⟨Tryz.f269, Tryz.func269, fun x C n H r => by unfold a269; split <;> intro h <;> first | exact (t269_eq ..).symm | cases h⟩
def a270 (x : List AV) : Tree := match x with | [.sc (.p (some (a,b))),.sc (.i .i64 c),.sc (.i .u64 d),.sc (.i .u64 e)] => t270 a b c d e | _ => .fail
theorem a270_ok : TrOk E 270 a270 := ⟨Tryz.f270, Tryz.func270, fun x C n H r => by unfold a270; split <;> intro h <;> first | exact (t270_eq ..).symm | cases h⟩
def a271 (x : List AV) : Tree := match x with | [.sc (.i .i64 a)] => t271 a | _ => .fail
theorem a271_ok : TrOk E 271 a271 := ⟨Tryz.f271, Tryz.func271, fun x C n H r => by unfold a271; split <;> intro h <;> first | exact (t271_eq ..).symm | cases h⟩
def a272 (x : List AV) : Tree := match x with | [.sc (.cx .f64 a b)] => t272 a b | _ => .fail
theorem a272_ok : TrOk E 272 a272 := ⟨Tryz.f272, Tryz.func272, fun x C n H r => by unfold a272; split <;> intro h <;> first | exact (t272_eq ..).symm | cases h⟩
def a273 (x : List AV) : Tree := match x with | [.ag [.i .i64 a,.i .i64 b,.i .u32 c,.i .u32 d,.i .u16 e]] => t273 a b c d e | _ => .fail
theorem a273_ok : TrOk E 273 a273 := ⟨Tryz.f273, Tryz.func273, fun x C n H r => by unfold a273; split <;> intro h <;> first | exact (t273_eq ..).symm | cases h⟩
def a274 (x : List AV) : Tree := match x with | [.sc (.i .i64 a)] => t274 a | _ => .fail
theorem a274_ok : TrOk E 274 a274 := ⟨Tryz.f274, Tryz.func274, fun x C n H r => by unfold a274; split <;> intro h <;> first | exact (t274_eq ..).symm | cases h⟩
def a275 (x : List AV) : Tree := match x with | [.sc (.sl a),.sc (.fn b c d)] => t275 a b c d | _ => .fail
theorem a275_ok : TrOk E 275 a275 := ⟨Tryz.f275, Tryz.func275, fun x C n H r => by unfold a275; split <;> intro h <;> first | exact (t275_eq ..).symm | cases h⟩
def a276 (x : List AV) : Tree := match x with | [.sc (.s a),.sc (.s b)] => t276 a b | _ => .fail
theorem a276_ok : TrOk E 276 a276 := ⟨Tryz.f276, Tryz.func276, fun x C n H r => by unfold a276; split <;> intro h <;> first | exact (t276_eq ..).symm | cases h⟩
def a280 (x : List AV) : Tree := match x with | [.sc (.i .u16 a)] => t280 a | _ => .fail
theorem a280_ok : TrOk E 280 a280 := ⟨Tryz.f280, Tryz.func280, fun x C n H r => by unfold a280; split <;> intro h <;> first | exact (t280_eq ..).symm | cases h⟩
def a282 (x : List AV) : Tree := match x with | [.sc (.sl a),.sc (.i .i64 b),.sc (.i .i64 c)] => t282 a b c | _ => .fail
theorem a282_ok : TrOk E 282 a282 := ⟨Tryz.f282, Tryz.func282, fun x C n H r => by unfold a282; split <;> intro h <;> first | exact (t282_eq ..).symm | cases h⟩
def a287 (x : List AV) : Tree := match x with | [.sc (.sl a)] => t287 a | _ => .fail
theorem a287_ok : TrOk E 287 a287 := ⟨Tryz.f287, Tryz.func287, fun x C n H r => by unfold a287; split <;> intro h <;> first | exact (t287_eq ..).symm | cases h⟩
def a288 (x : List AV) : Tree := match x with | [.sc (.sl a),.sc (.fn b c d)] => t288 a b c d | _ => .fail
theorem a288_ok : TrOk E 288 a288 := ⟨Tryz.f288, Tryz.func288, fun x C n H r => by unfold a288; split <;> intro h <;> first | exact (t288_eq ..).symm | cases h⟩
def a289 (x : List AV) : Tree := match x with | [.ag [.i .i64 a,.i .i64 b,.i .u32 c,.i .u32 d,.i .u16 e,.i .i64 f],.ag [.i .i64 g,.i .i64 h,.i .u32 i,.i .u32 j,.i .u16 k,.i .i64 l]] => t289 a b c d e f g h i j k l | _ => .fail
theorem a289_ok : TrOk E 289 a289 := ⟨Tryz.f289, Tryz.func289, fun x C n H r => by unfold a289; split <;> intro h <;> first | exact (t289_eq ..).symm | cases h⟩
def a290 (x : List AV) : Tree := match x with | [.sc (.sl a),.sc (.fn b c d)] => t290 a b c d | _ => .fail
theorem a290_ok : TrOk E 290 a290 := ⟨Tryz.f290, Tryz.func290, fun x C n H r => by unfold a290; split <;> intro h <;> first | exact (t290_eq ..).symm | cases h⟩
def a292 (x : List AV) : Tree := match x with | [.sc (.sl a),.sc (.i .i64 b),.sc (.fn c d e)] => t292 a b c d e | _ => .fail
theorem a292_ok : TrOk E 292 a292 := ⟨Tryz.f292, Tryz.func292, fun x C n H r => by unfold a292; split <;> intro h <;> first | exact (t292_eq ..).symm | cases h⟩
def a293 (x : List AV) : Tree := match x with | [.sc (.sl a),.sc (.i .i64 b),.sc (.i .i64 c),.sc (.fn d e f)] => t293 a b c d e f | _ => .fail
theorem a293_ok : TrOk E 293 a293 := ⟨Tryz.f293, Tryz.func293, fun x C n H r => by unfold a293; split <;> intro h <;> first | exact (t293_eq ..).symm | cases h⟩
noncomputable def a302 (args : List AV) : Tree := bodyK T (hs 302) Tryz.f302 args
theorem a302_ok : TrOk E 302 a302 := ⟨Tryz.f302, Tryz.func302, fun args C n H r _ => rfl⟩
def a303 (x : List AV) : Tree := match x with | [.sc (.sl a),.sc (.fn b c d)] => t303 a b c d | _ => .fail
theorem a303_ok : TrOk E 303 a303 := ⟨Tryz.f303, Tryz.func303, fun x C n H r => by unfold a303; split <;> intro h <;> first | exact (t303_eq ..).symm | cases h⟩
def a304 (x : List AV) : Tree := match x with | [.ag [.s a,.b b],.sc (.i .i64 c)] => t304 a b c | _ => .fail
theorem a304_ok : TrOk E 304 a304 := ⟨Tryz.f304, Tryz.func304, fun x C n H r => by unfold a304; split <;> intro h <;> first | exact (t304_eq ..).symm | cases h⟩
def a305 (x : List AV) : Tree := match x with | [.sc (.fl .f64 a)] => t305 a | _ => .fail
theorem a305_ok : TrOk E 305 a305 := ⟨Tryz.f305, Tryz.func305, fun x C n H r => by unfold a305; split <;> intro h <;> first | exact (t305_eq ..).symm | cases h⟩
def a306 (x : List AV) : Tree := match x with | [.sc (.fl .f64 a)] => t306 a | _ => .fail
theorem a306_ok : TrOk E 306 a306 := ⟨Tryz.f306, Tryz.func306, fun x C n H r => by unfold a306; split <;> intro h <;> first | exact (t306_eq ..).symm | cases h⟩
def a307 (x : List AV) : Tree := match x with | [.sc (.sl a),.sc (.fn b c d)] => t307 a b c d | _ => .fail
theorem a307_ok : TrOk E 307 a307 := ⟨Tryz.f307, Tryz.func307, fun x C n H r => by unfold a307; split <;> intro h <;> first | exact (t307_eq ..).symm | cases h⟩
def a308 (x : List AV) : Tree := match x with | [.sc (.s a),.sc (.s b)] => t308 a b | _ => .fail
theorem a308_ok : TrOk E 308 a308 := ⟨Tryz.f308, Tryz.func308, fun x C n H r => by unfold a308; split <;> intro h <;> first | exact (t308_eq ..).symm | cases h⟩
noncomputable def a310 (args : List AV) : Tree := bodyK T (hs 310) Tryz.f310 args
theorem a310_ok : TrOk E 310 a310 := ⟨Tryz.f310, Tryz.func310, fun args C n H r _ => rfl⟩
def a314 (x : List AV) : Tree := match x with | [.sc (.sl a),.sc (.i .i64 b),.sc (.i .i64 c),.sc (.i .i64 d),.sc (.fn e f g)] => t314 a b c d e f g | _ => .fail
theorem a314_ok : TrOk E 314 a314 := ⟨Tryz.f314, Tryz.func314, fun x C n H r => by unfold a314; split <;> intro h <;> first | exact (t314_eq ..).symm | cases h⟩
def a315 (x : List AV) : Tree := match x with | [.sc (.sl a),.sc (.i .i64 b),.sc (.i .i64 c),.sc (.fn d e f)] => t315 a b c d e f | _ => .fail
theorem a315_ok : TrOk E 315 a315 := ⟨Tryz.f315, Tryz.func315, fun x C n H r => by unfold a315; split <;> intro h <;> first | exact (t315_eq ..).symm | cases h⟩
def a322 (x : List AV) : Tree := match x with | [.sc (.s a),.sc (.s b)] => t322 a b | _ => .fail
theorem a322_ok : TrOk E 322 a322 := ⟨Tryz.f322, Tryz.func322, fun x C n H r => by unfold a322; split <;> intro h <;> first | exact (t322_eq ..).symm | cases h⟩
def a324 (x : List AV) : Tree := match x with | [.sc (.sl a),.sc (.i .i64 b),.sc (.i .i64 c),.sc (.fn d e f)] => t324 a b c d e f | _ => .fail
theorem a324_ok : TrOk E 324 a324 := ⟨Tryz.f324, Tryz.func324, fun x C n H r => by unfold a324; split <;> intro h <;> first | exact (t324_eq ..).symm | cases h⟩
def a334 (x : List AV) : Tree := match x with | [.sc (.s a),.sc (.i .u8 b)] => t334 a b | _ => .fail
theorem a334_ok : TrOk E 334 a334 := ⟨Tryz.f334, Tryz.func334, fun x C n H r => by unfold a334; split <;> intro h <;> first | exact (t334_eq ..).symm | cases h⟩
noncomputable def a342 (args : List AV) : Tree := bodyK T (hs 342) Tryz.f342 args
theorem a342_ok : TrOk E 342 a342 := ⟨Tryz.f342, Tryz.func342, fun args C n H r _ => rfl⟩
noncomputable def TBT : Tbl := [(3, a3), (4, a4), (5, a5), (6, a6), (7, a7), (8, a8), (9, a9), (10, a10), (11, a11), (12, a12), (13, a13), (14, a14), (15, a15), (16, a16), (17, a17), (18, a18), (19, a19), (20, a20), (21, a21), (22, a22), (23, a23), (24, a24), (25, a25), (26, a26), (33, a33), (38, a38), (39, a39), (40, a40), (41, a41), (42, a42), (43, a43), (44, a44), (45, a45), (46, a46), (47, a47), (48, a48), (49, a49), (50, a50), (51, a51), (52, a52), (53, a53), (54, a54), (55, a55), (56, a56), (57, a57), (58, a58), (59, a59), (60, a60), (61, a61), (62, a62), (63, a63), (64, a64), (65, a65), (66, a66), (67, a67), (68, a68), (69, a69), (74, a74), (75, a75), (77, a77), (78, a78), (79, a79), (80, a80), (81, a81), (82, a82), (83, a83), (84, a84), (85, a85), (86, a86), (87, a87), (88, a88), (89, a89), (90, a90), (91, a91), (92, a92), (93, a93), (94, a94), (95, a95), (96, a96), (97, a97), (98, a98), (99, a99), (100, a100), (101, a101), (102, a102), (103, a103), (104, a104), (105, a105), (106, a106), (110, a110), (112, a112), (113, a113), (114, a114), (115, a115), (116, a116), (117, a117), (118, a118), (119, a119), (120, a120), (121, a121), (122, a122), (123, a123), (124, a124), (125, a125), (126, a126), (127, a127), (128, a128), (129, a129), (130, a130), (131, a131), (132, a132), (133, a133), (134, a134), (135, a135), (136, a136), (137, a137), (138, a138), (139, a139), (140, a140), (141, a141), (143, a143), (144, a144), (145, a145), (146, a146), (147, a147), (148, a148), (149, a149), (150, a150), (151, a151), (152, a152), (153, a153), (154, a154), (155, a155), (156, a156), (157, a157), (159, a159), (160, a160), (161, a161), (162, a162), (163, a163), (164, a164), (165, a165), (166, a166), (167, a167), (168, a168), (169, a169), (170, a170), (171, a171), (172, a172), (173, a173), (175, a175), (178, a178), (179, a179), (180, a180), (181, a181), (182, a182), (183, a183), (184, a184), (185, a185), (186, a186), (187, a187), (188, a188), (189, a189), (191, a191), (194, a194), (195, a195), (196, a196), (197, a197), (198, a198), (199, a199), (200, a200), (201, a201), (202, a202), (203, a203), (204, a204), (205, a205), (208, a208), (209, a209), (210, a210), (212, a212), (213, a213), (215, a215), (216, a216), (217, a217), (218, a218), (219, a219), (220, a220), (224, a224), (225, a225), (226, a226), (227, a227), (228, a228), (229, a229), (234, a234), (235, a235), (236, a236), (237, a237), (238, a238), (239, a239), (240, a240), (243, a243), (244, a244), (245, a245), (247, a247), (250, a250), (251, a251), (252, a252), (253, a253), (254, a254), (255, a255), (256, a256), (257, a257), (258, a258), (259, a259), (260, a260), (261, a261), (262, a262), (263, a263), (267, a267), (269, a269), (270, a270), (271, a271), (272, a272), (273, a273), (274, a274), (275, a275), (276, a276), (280, a280), (282, a282), (287, a287), (288, a288), (289, a289), (290, a290), (292, a292), (293, a293), (302, a302), (303, a303), (304, a304), (305, a305), (306, a306), (307, a307), (308, a308), (310, a310), (314, a314), (315, a315), (322, a322), (324, a324), (334, a334), (342, a342)]
theorem TBT_ok : TbOk2 E TBT := TbOk.two (E := E) (tb := TBT) ⟨a3_ok, a4_ok, a5_ok, a6_ok, a7_ok, a8_ok, a9_ok, a10_ok, a11_ok, a12_ok, a13_ok, a14_ok, a15_ok, a16_ok, a17_ok, a18_ok, a19_ok, a20_ok, a21_ok, a22_ok, a23_ok, a24_ok, a25_ok, a26_ok, a33_ok, a38_ok, a39_ok, a40_ok, a41_ok, a42_ok, a43_ok, a44_ok, a45_ok, a46_ok, a47_ok, a48_ok, a49_ok, a50_ok, a51_ok, a52_ok, a53_ok, a54_ok, a55_ok, a56_ok, a57_ok, a58_ok, a59_ok, a60_ok, a61_ok, a62_ok, a63_ok, a64_ok, a65_ok, a66_ok, a67_ok, a68_ok, a69_ok, a74_ok, a75_ok, a77_ok, a78_ok, a79_ok, a80_ok, a81_ok, a82_ok, a83_ok, a84_ok, a85_ok, a86_ok, a87_ok, a88_ok, a89_ok, a90_ok, a91_ok, a92_ok, a93_ok, a94_ok, a95_ok, a96_ok, a97_ok, a98_ok, a99_ok, a100_ok, a101_ok, a102_ok, a103_ok, a104_ok, a105_ok, a106_ok, a110_ok, a112_ok, a113_ok, a114_ok, a115_ok, a116_ok, a117_ok, a118_ok, a119_ok, a120_ok, a121_ok, a122_ok, a123_ok, a124_ok, a125_ok, a126_ok, a127_ok, a128_ok, a129_ok, a130_ok, a131_ok, a132_ok, a133_ok, a134_ok, a135_ok, a136_ok, a137_ok, a138_ok, a139_ok, a140_ok, a141_ok, a143_ok, a144_ok, a145_ok, a146_ok, a147_ok, a148_ok, a149_ok, a150_ok, a151_ok, a152_ok, a153_ok, a154_ok, a155_ok, a156_ok, a157_ok, a159_ok, a160_ok, a161_ok, a162_ok, a163_ok, a164_ok, a165_ok, a166_ok, a167_ok, a168_ok, a169_ok, a170_ok, a171_ok, a172_ok, a173_ok, a175_ok, a178_ok, a179_ok, a180_ok, a181_ok, a182_ok, a183_ok, a184_ok, a185_ok, a186_ok, a187_ok, a188_ok, a189_ok, a191_ok, a194_ok, a195_ok, a196_ok, a197_ok, a198_ok, a199_ok, a200_ok, a201_ok, a202_ok, a203_ok, a204_ok, a205_ok, a208_ok, a209_ok, a210_ok, a212_ok, a213_ok, a215_ok, a216_ok, a217_ok, a218_ok, a219_ok, a220_ok, a224_ok, a225_ok, a226_ok, a227_ok, a228_ok, a229_ok, a234_ok, a235_ok, a236_ok, a237_ok, a238_ok, a239_ok, a240_ok, a243_ok, a244_ok, a245_ok, a247_ok, a250_ok, a251_ok, a252_ok, a253_ok, a254_ok, a255_ok, a256_ok, a257_ok, a258_ok, a259_ok, a260_ok, a261_ok, a262_ok, a263_ok, a267_ok, a269_ok, a270_ok, a271_ok, a272_ok, a273_ok, a274_ok, a275_ok, a276_ok, a280_ok, a282_ok, a287_ok, a288_ok, a289_ok, a290_ok, a292_ok, a293_ok, a302_ok, a303_ok, a304_ok, a305_ok, a306_ok, a307_ok, a308_ok, a310_ok, a314_ok, a315_ok, a322_ok, a324_ok, a334_ok, a342_ok, trivial⟩
theorem fv0 {x : Fact} (hw : wfF x = true) (hb : outS x (callV TBT [] [] [] 3000 x.f x.args (ofL x.n0 x.l0)) = (outS x (callV TBT [] [] [] 3000 x.f x.args (ofL x.n0 x.l0))).map Ob.self) : x.okF E :=
  facV_ok TBT_ok (ps := []) (gs := []) (av := []) trivial trivial trivial (n := 3000) hw hb
theorem fv1 {x : Fact} (gs : List Fact) (hg : allF E gs) (hw : wfF x = true) (hb : outS x (callV TBT [] gs [] 3000 x.f x.args (ofL x.n0 x.l0)) = (outS x (callV TBT [] gs [] 3000 x.f x.args (ofL x.n0 x.l0))).map Ob.self) : x.okF E :=
  facV_ok TBT_ok (ps := []) (gs := gs) (av := []) trivial hg trivial (n := 3000) hw hb
end Go.Proofs.YtdfpjhlckjognaaGreat
