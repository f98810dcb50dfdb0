/- The chapter's examples: the trees that they reach as a table; run by the kernel. -/
import Derived.Test.YtmbnikcnmjpheaaTreeA
import Derived.Test.YtmbnikcnmjpheaaTreeC
import Derived.Test.YtmbnikcnmjpheaaTreeD
import Derived.Test.YtmbnikcnmjpheaaFwZl
import Derived.Test.YtmbnikcnmjpheaaFwZn
namespace Go.Proofs.Ytmbnikcnmjpheaa
open Go Go.Proofs.Ytmbnikcnmjpheaa.Fw
set_option linter.unusedVariables false
set_option linter.unusedSimpArgs false
def a7 (args : List AV) : Tree := match args with | [.sc (.i .i64 n0_), .sc (.i .u64 n1_)] => t7 n0_ n1_ | _ => .fail
theorem a7_ok : TrOk E 7 a7 := ⟨Try.f7, Try.func7, fun args C n H r => by unfold a7; split <;> intro h <;> first | exact (t7_eq _ _).symm | cases h⟩
def a8 (args : List AV) : Tree := match args with | [.sc (.p (some (p0_, q0_))), .sc (.i .i64 n1_), .sc (.i .u64 n2_)] => t8 p0_ q0_ n1_ n2_ | _ => .fail
theorem a8_ok : TrOk E 8 a8 := ⟨Try.f8, Try.func8, fun args C n H r => by unfold a8; split <;> intro h <;> first | exact (t8_eq _ _ _ _).symm | cases h⟩
def a9 (args : List AV) : Tree := match args with | [.sc (.p (some (p0_, q0_))), .sc (.i .u64 n1_)] => t9 p0_ q0_ n1_ | _ => .fail
theorem a9_ok : TrOk E 9 a9 := ⟨Try.f9, Try.func9, fun args C n H r => by unfold a9; split <;> intro h <;> first | exact (t9_eq _ _ _).symm | cases h⟩
def a10 (args : List AV) : Tree := match args with | [.sc (.p (some (p0_, q0_)))] => t10 p0_ q0_ | _ => .fail
theorem a10_ok : TrOk E 10 a10 := ⟨Try.f10, Try.func10, fun args C n H r => by unfold a10; split <;> intro h <;> first | exact (t10_eq _ _).symm | cases h⟩
def a11 (args : List AV) : Tree := match args with | [.sc (.p (some (p0_, q0_))), .sc (.i .i64 n1_), .ag [.i .u32 n2_0, .i .u16 n2_1], .sc (.i .u64 n3_)] => t11 p0_ q0_ n1_ n2_0 n2_1 n3_ | _ => .fail
theorem a11_ok : TrOk E 11 a11 := ⟨Try.f11, Try.func11, fun args C n H r => by unfold a11; split <;> intro h <;> first | exact (t11_eq _ _ _ _ _ _).symm | cases h⟩
def a12 (args : List AV) : Tree := match args with | [.sc (.p (some (p0_, q0_))), .sc (.i .i64 n1_)] => t12 p0_ q0_ n1_ | _ => .fail
theorem a12_ok : TrOk E 12 a12 := ⟨Try.f12, Try.func12, fun args C n H r => by unfold a12; split <;> intro h <;> first | exact (t12_eq _ _ _).symm | cases h⟩
def a20 (args : List AV) : Tree := match args with | [.sc (.sl s0_), .sc (.fn g1_ f1_ c1_)] => t20 s0_ g1_ f1_ c1_ | _ => .fail
theorem a20_ok : TrOk E 20 a20 := ⟨Try.f20, Try.func20, fun args C n H r => by unfold a20; split <;> intro h <;> first | exact (t20_eq _ _ _ _).symm | cases h⟩
def a21 (args : List AV) : Tree := match args with | [.sc (.sl s0_)] => t21 s0_ | _ => .fail
theorem a21_ok : TrOk E 21 a21 := ⟨Try.f21, Try.func21, fun args C n H r => by unfold a21; split <;> intro h <;> first | exact (t21_eq _).symm | cases h⟩
def a22 (args : List AV) : Tree := match args with | [.ag [.i .i64 n0_0, .i .u32 n0_1, .i .u16 n0_2, .i .u64 n0_3]] => t22 n0_0 n0_1 n0_2 n0_3 | _ => .fail
theorem a22_ok : TrOk E 22 a22 := ⟨Try.f22, Try.func22, fun args C n H r => by unfold a22; split <;> intro h <;> first | exact (t22_eq _ _ _ _).symm | cases h⟩
def a23 (args : List AV) : Tree := match args with | [.ag [.i .u32 n0_0, .i .u16 n0_1]] => t23 n0_0 n0_1 | _ => .fail
theorem a23_ok : TrOk E 23 a23 := ⟨Try.f23, Try.func23, fun args C n H r => by unfold a23; split <;> intro h <;> first | exact (t23_eq _ _).symm | cases h⟩
def a26 (args : List AV) : Tree := match args with | [.sc (.sl s0_), .sc (.fn g1_ f1_ c1_)] => t26 s0_ g1_ f1_ c1_ | _ => .fail
theorem a26_ok : TrOk E 26 a26 := ⟨Try.f26, Try.func26, fun args C n H r => by unfold a26; split <;> intro h <;> first | exact (t26_eq _ _ _ _).symm | cases h⟩
def a13 (args : List AV) : Tree := match args with | [.sc (.i .i64 n0_), .sc (.i .u64 n1_)] => t13 n0_ n1_ | _ => .fail
theorem a13_ok : TrOk E 13 a13 := ⟨Try.f13, Try.func13, fun args C n H r => by unfold a13; split <;> intro h <;> first | exact (t13_eq _ _).symm | cases h⟩
def a14 (args : List AV) : Tree := match args with | [.sc (.p (some (p0_, q0_))), .sc (.i .u64 n1_), .sc (.cx .f64 n2_ m2_), .sc (.sl s3_), .sc (.sl s4_)] => t14 p0_ q0_ n1_ n2_ m2_ s3_ s4_ | _ => .fail
theorem a14_ok : TrOk E 14 a14 := ⟨Try.f14, Try.func14, fun args C n H r => by unfold a14; split <;> intro h <;> first | exact (t14_eq _ _ _ _ _ _ _).symm | cases h⟩
def a15 (args : List AV) : Tree := match args with | [.sc (.p (some (p0_, q0_))), .sc (.i .i64 n1_), .sc (.i .u64 n2_), .sc (.i .u64 n3_)] => t15 p0_ q0_ n1_ n2_ n3_ | _ => .fail
theorem a15_ok : TrOk E 15 a15 := ⟨Try.f15, Try.func15, fun args C n H r => by unfold a15; split <;> intro h <;> first | exact (t15_eq _ _ _ _ _).symm | cases h⟩
def a16 (args : List AV) : Tree := match args with | [.sc (.p (some (p0_, q0_))), .sc (.i .i64 n1_)] => t16 p0_ q0_ n1_ | _ => .fail
theorem a16_ok : TrOk E 16 a16 := ⟨Try.f16, Try.func16, fun args C n H r => by unfold a16; split <;> intro h <;> first | exact (t16_eq _ _ _).symm | cases h⟩
def a17 (args : List AV) : Tree := match args with | [.sc (.p (some (p0_, q0_))), .sc (.i .u64 n1_)] => t17 p0_ q0_ n1_ | _ => .fail
theorem a17_ok : TrOk E 17 a17 := ⟨Try.f17, Try.func17, fun args C n H r => by unfold a17; split <;> intro h <;> first | exact (t17_eq _ _ _).symm | cases h⟩
def a19 (args : List AV) : Tree := match args with | [.sc (.i .i64 n0_)] => t19 n0_ | _ => .fail
theorem a19_ok : TrOk E 19 a19 := ⟨Try.f19, Try.func19, fun args C n H r => by unfold a19; split <;> intro h <;> first | exact (t19_eq _).symm | cases h⟩
def a24 (args : List AV) : Tree := match args with | [.sc (.sl s0_), .sc (.i .i64 n1_)] => t24 s0_ n1_ | _ => .fail
theorem a24_ok : TrOk E 24 a24 := ⟨Try.f24, Try.func24, fun args C n H r => by unfold a24; split <;> intro h <;> first | exact (t24_eq _ _).symm | cases h⟩
def a25 (args : List AV) : Tree := match args with | [.sc (.cx .f64 n0_ m0_), .sc (.sl s1_), .sc (.i .i64 n2_)] => t25 n0_ m0_ s1_ n2_ | _ => .fail
theorem a25_ok : TrOk E 25 a25 := ⟨Try.f25, Try.func25, fun args C n H r => by unfold a25; split <;> intro h <;> first | exact (t25_eq _ _ _ _).symm | cases h⟩
def a27 (args : List AV) : Tree := match args with | [.sc (.sl s0_), .sc (.i .i64 n1_)] => t27 s0_ n1_ | _ => .fail
theorem a27_ok : TrOk E 27 a27 := ⟨Try.f27, Try.func27, fun args C n H r => by unfold a27; split <;> intro h <;> first | exact (t27_eq _ _).symm | cases h⟩
def a28 (args : List AV) : Tree := match args with | [.sc (.sl s0_), .sc (.fn g1_ f1_ c1_)] => t28 s0_ g1_ f1_ c1_ | _ => .fail
theorem a28_ok : TrOk E 28 a28 := ⟨Try.f28, Try.func28, fun args C n H r => by unfold a28; split <;> intro h <;> first | exact (t28_eq _ _ _ _).symm | cases h⟩
def a29 (args : List AV) : Tree := match args with | [.sc (.i .i64 n0_), .sc (.i .i64 n1_), .sc (.p (some (p2_, q2_))), .sc (.p (some (p3_, q3_)))] => t29 n0_ n1_ p2_ q2_ p3_ q3_ | _ => .fail
theorem a29_ok : TrOk E 29 a29 := ⟨Try.f29, Try.func29, fun args C n H r => by unfold a29; split <;> intro h <;> first | exact (t29_eq _ _ _ _ _ _).symm | cases h⟩
def a30 (args : List AV) : Tree := match args with | [.sc (.i .u64 n0_), .sc (.i .u64 n1_)] => t30 n0_ n1_ | _ => .fail
theorem a30_ok : TrOk E 30 a30 := ⟨Try.f30, Try.func30, fun args C n H r => by unfold a30; split <;> intro h <;> first | exact (t30_eq _ _).symm | cases h⟩
def a32 (args : List AV) : Tree := match args with | [.sc (.sl s0_), .sc (.i .i64 n1_), .sc (.fn g2_ f2_ c2_)] => t32 s0_ n1_ g2_ f2_ c2_ | _ => .fail
theorem a32_ok : TrOk E 32 a32 := ⟨Try.f32, Try.func32, fun args C n H r => by unfold a32; split <;> intro h <;> first | exact (t32_eq _ _ _ _ _).symm | cases h⟩
def a33 (args : List AV) : Tree := match args with | [.sc (.i .u64 n0_)] => t33 n0_ | _ => .fail
theorem a33_ok : TrOk E 33 a33 := ⟨Try.f33, Try.func33, fun args C n H r => by unfold a33; split <;> intro h <;> first | exact (t33_eq _).symm | cases h⟩
def a35 (args : List AV) : Tree := match args with | [.sc (.sl s0_), .sc (.i .i64 n1_), .sc (.i .i64 n2_), .sc (.fn g3_ f3_ c3_)] => t35 s0_ n1_ n2_ g3_ f3_ c3_ | _ => .fail
theorem a35_ok : TrOk E 35 a35 := ⟨Try.f35, Try.func35, fun args C n H r => by unfold a35; split <;> intro h <;> first | exact (t35_eq _ _ _ _ _ _).symm | cases h⟩
def a6 (args : List AV) : Tree := match args with | [] => t6 | _ => .fail
theorem a6_ok : TrOk E 6 a6 := ⟨Try.f6, Try.func6, fun args C n H r => by unfold a6; split <;> intro h <;> first | exact (t6_eq).symm | cases h⟩
def a18 (args : List AV) : Tree := match args with | [.sc (.p (some (p0_, q0_))), .sc (.i .u64 n1_)] => t18 p0_ q0_ n1_ | _ => .fail
theorem a18_ok : TrOk E 18 a18 := ⟨Try.f18, Try.func18, fun args C n H r => by unfold a18; split <;> intro h <;> first | exact (t18_eq _ _ _).symm | cases h⟩
def a36 (args : List AV) : Tree := match args with | [.sc (.sl s0_), .sc (.i .i64 n1_), .sc (.i .i64 n2_), .sc (.i .i64 n3_), .sc (.fn g4_ f4_ c4_)] => t36 s0_ n1_ n2_ n3_ g4_ f4_ c4_ | _ => .fail
theorem a36_ok : TrOk E 36 a36 := ⟨Try.f36, Try.func36, fun args C n H r => by unfold a36; split <;> intro h <;> first | exact (t36_eq _ _ _ _ _ _ _).symm | cases h⟩
def a38 (args : List AV) : Tree := match args with | [.sc (.sl s0_), .sc (.i .i64 n1_), .sc (.i .i64 n2_), .sc (.i .i64 n3_), .sc (.fn g4_ f4_ c4_)] => t38 s0_ n1_ n2_ n3_ g4_ f4_ c4_ | _ => .fail
theorem a38_ok : TrOk E 38 a38 := ⟨Try.f38, Try.func38, fun args C n H r => by unfold a38; split <;> intro h <;> first | exact (t38_eq _ _ _ _ _ _ _).symm | cases h⟩
def a40 (args : List AV) : Tree := match args with | [.sc (.sl s0_), .sc (.i .i64 n1_), .sc (.i .i64 n2_), .sc (.i .i64 n3_), .sc (.fn g4_ f4_ c4_)] => t40 s0_ n1_ n2_ n3_ g4_ f4_ c4_ | _ => .fail
theorem a40_ok : TrOk E 40 a40 := ⟨Try.f40, Try.func40, fun args C n H r => by unfold a40; split <;> intro h <;> first | exact (t40_eq _ _ _ _ _ _ _).symm | cases h⟩
def a37 (args : List AV) : Tree := match args with | [.sc (.cx .f64 n0_ m0_)] => t37 n0_ m0_ | _ => .fail
theorem a37_ok : TrOk E 37 a37 := ⟨Try.f37, Try.func37, fun args C n H r => by unfold a37; split <;> intro h <;> first | exact (t37_eq _ _).symm | cases h⟩
def a41 (args : List AV) : Tree := match args with | [.sc (.fl .f64 n0_)] => t41 n0_ | _ => .fail
theorem a41_ok : TrOk E 41 a41 := ⟨Try.f41, Try.func41, fun args C n H r => by unfold a41; split <;> intro h <;> first | exact (t41_eq _).symm | cases h⟩
noncomputable def a31 (args : List AV) : Tree := bodyK T (hs 31) Try.f31 args
theorem a31_ok : TrOk E 31 a31 := ⟨Try.f31, Try.func31, fun args C n H r h => rfl⟩
noncomputable def a34 (args : List AV) : Tree := bodyK T (hs 34) Try.f34 args
theorem a34_ok : TrOk E 34 a34 := ⟨Try.f34, Try.func34, fun args C n H r h => rfl⟩
noncomputable def a39 (args : List AV) : Tree := bodyK T (hs 39) Try.f39 args
theorem a39_ok : TrOk E 39 a39 := ⟨Try.f39, Try.func39, fun args C n H r h => rfl⟩
noncomputable def a42 (args : List AV) : Tree := bodyK T (hs 42) Try.f42 args
theorem a42_ok : TrOk E 42 a42 := ⟨Try.f42, Try.func42, fun args C n H r h => rfl⟩
noncomputable def TB : Tbl := [(7, a7), (8, a8), (9, a9), (10, a10), (11, a11), (12, a12), (20, a20), (21, a21), (22, a22), (23, a23), (26, a26), (13, a13), (14, a14), (15, a15), (16, a16), (17, a17), (19, a19), (24, a24), (25, a25), (27, a27), (28, a28), (29, a29), (30, a30), (32, a32), (33, a33), (35, a35), (6, a6), (18, a18), (36, a36), (38, a38), (40, a40), (37, a37), (41, a41), (31, a31), (34, a34), (39, a39), (42, a42)]
theorem TB_ok : TbOk E TB := ⟨a7_ok, a8_ok, a9_ok, a10_ok, a11_ok, a12_ok, a20_ok, a21_ok, a22_ok, a23_ok, a26_ok, a13_ok, a14_ok, a15_ok, a16_ok, a17_ok, a19_ok, a24_ok, a25_ok, a27_ok, a28_ok, a29_ok, a30_ok, a32_ok, a33_ok, a35_ok, a6_ok, a18_ok, a36_ok, a38_ok, a40_ok, a37_ok, a41_ok, a31_ok, a34_ok, a39_ok, a42_ok, trivial⟩
theorem ex1 (h : Nat → Option AO) : (callT TB 300 6 [] ⟨1, h⟩).map (fun r => (r.1, r.2.obj 0, decide (0 < r.2.next))) = some (.sc (.b true), h 0, true) := by kernel_rfl
theorem exW1 (h : Nat → Option AO) : CallWp E 6 [] ⟨1, h⟩ fun v H' => v = .sc (.b true) ∧ H'.obj 0 = h 0 ∧ 0 < H'.next := by
  have hx := ex1 h
  cases hc : callT TB 300 6 [] ⟨1, h⟩ with
  | none => rw [hc] at hx; cases hx
  | some r =>
    rw [hc] at hx
    simp only [Option.map_some, Option.some.injEq, Prod.mk.injEq, decide_eq_true_eq] at hx
    exact ⟨300, r.1, r.2, callT_sound (E := E) TB_ok 300 hc, hx.1, hx.2.1, hx.2.2⟩
theorem exW0 : CallWp E 6 [] ⟨0, fun _ => none⟩ fun v _ => v = .sc (.b true) := by
  have hx : (callT TB 300 6 [] ⟨0, fun _ => none⟩).map Prod.fst = some (.sc (.b true)) := by kernel_rfl
  cases hc : callT TB 300 6 [] ⟨0, fun _ => none⟩ with
  | none => rw [hc] at hx; cases hx
  | some r =>
    rw [hc] at hx
    simp only [Option.map_some, Option.some.injEq] at hx
    exact ⟨300, r.1, r.2, callT_sound (E := E) TB_ok 300 hc, hx⟩
end Go.Proofs.Ytmbnikcnmjpheaa
