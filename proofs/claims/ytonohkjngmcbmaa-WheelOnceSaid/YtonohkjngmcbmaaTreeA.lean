/- Trees of functions, printed by a program of mine; each is proved to be the function's. -/
import Derived.Test.YtonohkjngmcbmaaGen
namespace Go.Proofs.Ytonohkjngmcbmaa
open Go Go.Proofs.Ytonohkjngmcbmaa.Fw
set_option linter.unusedVariables false
/-- scuttlebutt/wheel.New -/
def t9  : Tree :=
  .al [(.sl .none)] fun a0 =>
  .ret 0 [(.sc (.p (.some (a0, 0))))]
theorem t9_eq  : bodyK T (hs 9) Try.f9 [] = t9 := by kernel_rfl
/-- (*scuttlebutt/wheel.Wheel).Len -/
def t20 (p0_ q0_ : Nat) : Tree :=
  .nn (.some (p0_, q0_)) fun a0 a1 =>
  .ld a0 (a1 + 0) 1 fun l2 =>
  .nth l2 0 fun v3 =>
  .asL (.sc v3) fun o4 =>
  .ret 0 [(.sc (.i .i64 (slLen o4)))]
theorem t20_eq (p0_ q0_ : Nat) : bodyK T (hs 20) Try.f20 [.sc (.p (some (p0_, q0_)))] = t20 p0_ q0_ := by kernel_rfl
/-- (*scuttlebutt/wheel.Wheel).find -/
def t21 (p0_ q0_ : Nat) (n1_ : Int) (n2_ : Int) : Tree :=
  .join (
    .ret 3 [(.sc (.p (.some (p0_, q0_)))), (.sc (.i .i64 n1_)), (.sc (.i .i64 n2_)), (.sc (.i .i64 (0 : Int)))]) fun a0 l1 =>
  .tg a0 3
    (.loop (fun l2 =>
      .asI .i64 (l2.getD 0 .un) fun n3 =>
      .br (n3 == (0 : Int))
        (.asP (l2.getD 1 .un) fun o4 =>
        .asI .i64 (l2.getD 2 .un) fun n5 =>
        .asI .i64 (l2.getD 3 .un) fun n6 =>
        .asI .i64 (l2.getD 4 .un) fun n7 =>
        .nn o4 fun a8 a9 =>
        .ld a8 (a9 + 0) 1 fun l10 =>
        .nth l10 0 fun v11 =>
        .asL (.sc v11) fun o12 =>
        cond (n7 == (slLen o12))
          (.ret 2 [(.sc (.i .i64 n7)), (.sc (.b .false))])
          (.nn o4 fun a13 a14 =>
          .ld a13 (a14 + 0) 1 fun l15 =>
          .nth l15 0 fun v16 =>
          .asL (.sc v16) fun o17 =>
          .ixS 3 o17 n7 fun a18 a19 a20 =>
          .ld a18 (a19 + (a20 * 3)) 3 fun l21 =>
          .nth l21 0 fun v22 =>
          .asI .i64 (.sc v22) fun n23 =>
          .nth l21 1 fun v24 =>
          .asI .i64 (.sc v24) fun n25 =>
          .nth l21 2 fun v26 =>
          .asI .u64 (.sc v26) fun n27 =>
          .al [(.i .i64 (0 : Int)), (.i .i64 (0 : Int)), (.i .u64 (0 : Int))] fun a28 =>
          .st a28 0 [(.i .i64 n23), (.i .i64 n25), (.i .u64 n27)] (
          .ld a28 (0 + 0) 1 fun l29 =>
          .nth l29 0 fun v30 =>
          .asI .i64 (.sc v30) fun n31 =>
          cond (n31 != n5)
            (.ret 0 [(.sc (.i .i64 (0 : Int))), (.sc (.p o4)), (.sc (.i .i64 n5)), (.sc (.i .i64 n6)), (.sc (.i .i64 (IntKind.wrap .i64 (n7 + (1 : Int)))))])
            (.ld a28 (0 + 1) 1 fun l32 =>
            .nth l32 0 fun v33 =>
            .asI .i64 (.sc v33) fun n34 =>
            cond (n34 != n6)
              (.ret 0 [(.sc (.i .i64 (0 : Int))), (.sc (.p o4)), (.sc (.i .i64 n5)), (.sc (.i .i64 n6)), (.sc (.i .i64 (IntKind.wrap .i64 (n7 + (1 : Int)))))])
              (.ret 2 [(.sc (.i .i64 n7)), (.sc (.b .true))])))))
        (.fail)) ((.sc (.i .i64 (0 : Int))) :: l1) fun a35 l36 =>
    .tg a35 2
      (.asI .i64 (l36.getD 0 .un) fun n37 =>
      .asB (l36.getD 1 .un) fun b38 =>
      .ret 0 [(.tu [(.sc (.i .i64 n37)), (.sc (.b b38))])])
      (.fail))
    (.tg a0 1
      (.asI .i64 (l1.getD 0 .un) fun n39 =>
      .asB (l1.getD 1 .un) fun b40 =>
      .ret 0 [(.tu [(.sc (.i .i64 n39)), (.sc (.b b40))])])
      (.fail))
theorem t21_eq (p0_ q0_ : Nat) (n1_ : Int) (n2_ : Int) : bodyK T (hs 21) Try.f21 [.sc (.p (some (p0_, q0_))), .sc (.i .i64 n1_), .sc (.i .i64 n2_)] = t21 p0_ q0_ n1_ n2_ := by kernel_rfl
/-- slices.Delete[[]scuttlebutt/wheel.Timer,scuttlebutt/wheel.Timer] -/
def t22 (s0_ : Option SlD) (n1_ : Int) (n2_ : Int) : Tree :=
  .slc 3 s0_ (.some n1_) (.some n2_) (.some (slLen s0_)) fun o0 =>
  cond (n1_ == n2_)
    (.ret 0 [(.sc (.sl s0_))])
    (.slc 3 s0_ .none (.some n1_) .none fun o1 =>
    .slc 3 s0_ (.some n2_) .none .none fun o2 =>
    .lds 3 o2 (slN o2) fun l3 =>
    .app 3 24 o1 l3 (slN o2) fun o4 =>
    .slc 3 o4 (.some (slLen o4)) (.some (slLen s0_)) .none fun o5 =>
    .sts 3 o5 (zeros [(.i .i64 (0 : Int)), (.i .i64 (0 : Int)), (.i .u64 (0 : Int))] (slN o5)) (
    .ret 0 [(.sc (.sl o4))]))
theorem t22_eq (s0_ : Option SlD) (n1_ : Int) (n2_ : Int) : bodyK T (hs 22) Try.f22 [.sc (.sl s0_), .sc (.i .i64 n1_), .sc (.i .i64 n2_)] = t22 s0_ n1_ n2_ := by kernel_rfl
/-- (*scuttlebutt/wheel.Wheel).Stop -/
def t10 (p0_ q0_ : Nat) (n1_ : Int) (n2_ : Int) : Tree :=
  .call 21 [(.sc (.p (.some (p0_, q0_)))), (.sc (.i .i64 n1_)), (.sc (.i .i64 n2_))] fun v0 =>
  .asT 2 v0 fun l1 =>
  .nthC l1 0 fun v2 =>
  .asI .i64 (v2.av) fun n3 =>
  .nthC l1 1 fun v4 =>
  .asB (v4.av) fun b5 =>
  cond b5
    (.nn (.some (p0_, q0_)) fun a6 a7 =>
    .ld a6 (a7 + 0) 1 fun l8 =>
    .nth l8 0 fun v9 =>
    .asL (.sc v9) fun o10 =>
    .call 22 [(.sc (.sl o10)), (.sc (.i .i64 n3)), (.sc (.i .i64 (IntKind.wrap .i64 (n3 + (1 : Int)))))] fun v11 =>
    .asL v11 fun o12 =>
    .nn (.some (p0_, q0_)) fun a13 a14 =>
    .st a13 (a14 + 0) [(.sl o12)] (
    .ret 0 [(.sc (.b b5))]))
    (.ret 0 [(.sc (.b b5))])
theorem t10_eq (p0_ q0_ : Nat) (n1_ : Int) (n2_ : Int) : bodyK T (hs 10) Try.f10 [.sc (.p (some (p0_, q0_))), .sc (.i .i64 n1_), .sc (.i .i64 n2_)] = t10 p0_ q0_ n1_ n2_ := by kernel_rfl
/-- (*scuttlebutt/wheel.Wheel).At -/
def t14 (p0_ q0_ : Nat) (n1_ : Int) (n2_ : Int) : Tree :=
  .call 21 [(.sc (.p (.some (p0_, q0_)))), (.sc (.i .i64 n1_)), (.sc (.i .i64 n2_))] fun v0 =>
  .asT 2 v0 fun l1 =>
  .nthC l1 0 fun v2 =>
  .asI .i64 (v2.av) fun n3 =>
  .nthC l1 1 fun v4 =>
  .asB (v4.av) fun b5 =>
  cond (!b5)
    (.ret 0 [(.tu [(.sc (.i .u64 (0 : Int))), (.sc (.b .false))])])
    (.nn (.some (p0_, q0_)) fun a6 a7 =>
    .ld a6 (a7 + 0) 1 fun l8 =>
    .nth l8 0 fun v9 =>
    .asL (.sc v9) fun o10 =>
    .ixS 3 o10 n3 fun a11 a12 a13 =>
    .ld a11 ((a12 + (a13 * 3)) + 2) 1 fun l14 =>
    .nth l14 0 fun v15 =>
    .asI .u64 (.sc v15) fun n16 =>
    .ret 0 [(.tu [(.sc (.i .u64 n16)), (.sc (.b .true))])])
theorem t14_eq (p0_ q0_ : Nat) (n1_ : Int) (n2_ : Int) : bodyK T (hs 14) Try.f14 [.sc (.p (some (p0_, q0_))), .sc (.i .i64 n1_), .sc (.i .i64 n2_)] = t14 p0_ q0_ n1_ n2_ := by kernel_rfl
/-- (*scuttlebutt/wheel.Wheel).Set -/
def t16 (p0_ q0_ : Nat) (n1_ : Int) (n2_ : Int) (n3_ : Int) : Tree :=
  cond (decide (n1_ < (0 : Int)))
    (.ret 0 [(.sc (.i .i64 (1 : Int)))])
    (cond (decide (n1_ > (15 : Int)))
      (.ret 0 [(.sc (.i .i64 (1 : Int)))])
      (cond (decide (n2_ < (0 : Int)))
        (.ret 0 [(.sc (.i .i64 (1 : Int)))])
        (cond (decide (n2_ > (1023 : Int)))
          (.ret 0 [(.sc (.i .i64 (1 : Int)))])
          (.call 10 [(.sc (.p (.some (p0_, q0_)))), (.sc (.i .i64 n1_)), (.sc (.i .i64 n2_))] fun v0 =>
          .asB v0 fun b1 =>
          cond (!b1)
            (.nn (.some (p0_, q0_)) fun a2 a3 =>
            .ld a2 (a3 + 0) 1 fun l4 =>
            .nth l4 0 fun v5 =>
            .asL (.sc v5) fun o6 =>
            cond (decide ((slLen o6) ≥ (256 : Int)))
              (.ret 0 [(.sc (.i .i64 (4 : Int)))])
              (.nn (.some (p0_, q0_)) fun a7 a8 =>
              .ld a7 (a8 + 0) 1 fun l9 =>
              .nth l9 0 fun v10 =>
              .asL (.sc v10) fun o11 =>
              .al [(.i .i64 n1_), (.i .i64 n2_), (.i .u64 n3_)] fun a12 =>
              .lds 3 (.some (.mk a12 0 1 1 3)) (slN (.some (.mk a12 0 1 1 3))) fun l13 =>
              .app 3 24 o11 l13 (slN (.some (.mk a12 0 1 1 3))) fun o14 =>
              .nn (.some (p0_, q0_)) fun a15 a16 =>
              .st a15 (a16 + 0) [(.sl o14)] (
              .ret 0 [(.sc (.i .i64 (0 : Int)))])))
            (.nn (.some (p0_, q0_)) fun a17 a18 =>
            .ld a17 (a18 + 0) 1 fun l19 =>
            .nth l19 0 fun v20 =>
            .asL (.sc v20) fun o21 =>
            .al [(.i .i64 n1_), (.i .i64 n2_), (.i .u64 n3_)] fun a22 =>
            .lds 3 (.some (.mk a22 0 1 1 3)) (slN (.some (.mk a22 0 1 1 3))) fun l23 =>
            .app 3 24 o21 l23 (slN (.some (.mk a22 0 1 1 3))) fun o24 =>
            .nn (.some (p0_, q0_)) fun a25 a26 =>
            .st a25 (a26 + 0) [(.sl o24)] (
            .ret 0 [(.sc (.i .i64 (0 : Int)))]))))))
theorem t16_eq (p0_ q0_ : Nat) (n1_ : Int) (n2_ : Int) (n3_ : Int) : bodyK T (hs 16) Try.f16 [.sc (.p (some (p0_, q0_))), .sc (.i .i64 n1_), .sc (.i .i64 n2_), .sc (.i .u64 n3_)] = t16 p0_ q0_ n1_ n2_ n3_ := by kernel_rfl
/-- (*scuttlebutt/wheel.Wheel).Due$1 -/
def t24 (n0_0 : Int) (n0_1 : Int) (n0_2 : Int) (p1_ q1_ : Nat) : Tree :=
  .al [(.i .i64 n0_0), (.i .i64 n0_1), (.i .u64 n0_2)] fun a0 =>
  .ld a0 (0 + 2) 1 fun l1 =>
  .nth l1 0 fun v2 =>
  .asI .u64 (.sc v2) fun n3 =>
  .ld p1_ q1_ 1 fun l4 =>
  .nth l4 0 fun v5 =>
  .asI .u64 (.sc v5) fun n6 =>
  .ret 0 [(.sc (.b (decide (n3 ≤ n6))))]
theorem t24_eq (n0_0 : Int) (n0_1 : Int) (n0_2 : Int) (p1_ q1_ : Nat) : bodyK T (hs 24) Try.f24 [.ag [.i .i64 n0_0, .i .i64 n0_1, .i .u64 n0_2], .sc (.p (some (p1_, q1_)))] = t24 n0_0 n0_1 n0_2 p1_ q1_ := by kernel_rfl
/-- (*scuttlebutt/wheel.Wheel).Due$2 -/
def t26 (n0_0 : Int) (n0_1 : Int) (n0_2 : Int) (p1_ q1_ : Nat) : Tree :=
  .al [(.i .i64 n0_0), (.i .i64 n0_1), (.i .u64 n0_2)] fun a0 =>
  .ld p1_ q1_ 1 fun l1 =>
  .nth l1 0 fun v2 =>
  .ld a0 0 3 fun l3 =>
  .nth l3 0 fun v4 =>
  .asI .i64 (.sc v4) fun n5 =>
  .nth l3 1 fun v6 =>
  .asI .i64 (.sc v6) fun n7 =>
  .nth l3 2 fun v8 =>
  .asI .u64 (.sc v8) fun n9 =>
  .callv (.sc v2) [(.ag [(.i .i64 n5), (.i .i64 n7), (.i .u64 n9)])] fun v10 =>
  .asB v10 fun b11 =>
  .ret 0 [(.sc (.b (!b11)))]
theorem t26_eq (n0_0 : Int) (n0_1 : Int) (n0_2 : Int) (p1_ q1_ : Nat) : bodyK T (hs 26) Try.f26 [.ag [.i .i64 n0_0, .i .i64 n0_1, .i .u64 n0_2], .sc (.p (some (p1_, q1_)))] = t26 n0_0 n0_1 n0_2 p1_ q1_ := by kernel_rfl
/-- (*scuttlebutt/wheel.Wheel).All$1 -/
def t29 (n0_0 : Int) (n0_1 : Int) (n0_2 : Int) (n1_0 : Int) (n1_1 : Int) (n1_2 : Int) : Tree :=
  .al [(.i .i64 n0_0), (.i .i64 n0_1), (.i .u64 n0_2)] fun a0 =>
  .al [(.i .i64 n1_0), (.i .i64 n1_1), (.i .u64 n1_2)] fun a1 =>
  .ld a0 (0 + 2) 1 fun l2 =>
  .nth l2 0 fun v3 =>
  .asI .u64 (.sc v3) fun n4 =>
  .ld a1 (0 + 2) 1 fun l5 =>
  .nth l5 0 fun v6 =>
  .asI .u64 (.sc v6) fun n7 =>
  .call 30 [(.sc (.i .u64 n4)), (.sc (.i .u64 n7))] fun v8 =>
  .asI .i64 v8 fun n9 =>
  .ret 0 [(.sc (.i .i64 n9))]
theorem t29_eq (n0_0 : Int) (n0_1 : Int) (n0_2 : Int) (n1_0 : Int) (n1_1 : Int) (n1_2 : Int) : bodyK T (hs 29) Try.f29 [.ag [.i .i64 n0_0, .i .i64 n0_1, .i .u64 n0_2], .ag [.i .i64 n1_0, .i .i64 n1_1, .i .u64 n1_2]] = t29 n0_0 n0_1 n0_2 n1_0 n1_1 n1_2 := by kernel_rfl
/-- slices.IndexFunc[[]scuttlebutt/wheel.Timer,scuttlebutt/wheel.Timer] -/
def t31 (s0_ : Option SlD) (g1_ : FuncId) (f1_ c1_ : List (Nat × Nat)) : Tree :=
  .loop (fun l0 =>
    .asL (l0.getD 0 .un) fun o1 =>
    .asX (l0.getD 1 .un) fun v2 =>
    .asI .i64 (l0.getD 2 .un) fun n3 =>
    .asI .i64 (l0.getD 3 .un) fun n4 =>
    cond (decide (n4 < n3))
      (.ixS 3 o1 n4 fun a5 a6 a7 =>
      .ld a5 (a6 + (a7 * 3)) 3 fun l8 =>
      .nth l8 0 fun v9 =>
      .asI .i64 (.sc v9) fun n10 =>
      .nth l8 1 fun v11 =>
      .asI .i64 (.sc v11) fun n12 =>
      .nth l8 2 fun v13 =>
      .asI .u64 (.sc v13) fun n14 =>
      .callv (.sc v2) [(.ag [(.i .i64 n10), (.i .i64 n12), (.i .u64 n14)])] fun v15 =>
      .asB v15 fun b16 =>
      cond b16
        (.ret 1 [(.sc (.i .i64 n4))])
        (.ret 0 [(.sc (.sl o1)), (.sc v2), (.sc (.i .i64 n3)), (.sc (.i .i64 (IntKind.wrap .i64 (n4 + (1 : Int)))))]))
      (.ret 2 [])) [(.sc (.sl s0_)), (.sc (.fn g1_ f1_ c1_)), (.sc (.i .i64 (slLen s0_))), (.sc (.i .i64 (0 : Int)))] fun a17 l18 =>
  .tg a17 2
    (.ret 0 [(.sc (.i .i64 (-1 : Int)))])
    (.tg a17 1
      (.asI .i64 (l18.getD 0 .un) fun n19 =>
      .ret 0 [(.sc (.i .i64 n19))])
      (.fail))
theorem t31_eq (s0_ : Option SlD) (g1_ : FuncId) (f1_ c1_ : List (Nat × Nat)) : bodyK T (hs 31) Try.f31 [.sc (.sl s0_), .sc (.fn g1_ f1_ c1_)] = t31 s0_ g1_ f1_ c1_ := by kernel_rfl
/-- slices.DeleteFunc[[]scuttlebutt/wheel.Timer,scuttlebutt/wheel.Timer] -/
def t25 (s0_ : Option SlD) (g1_ : FuncId) (f1_ c1_ : List (Nat × Nat)) : Tree :=
  .call 31 [(.sc (.sl s0_)), (.sc (.fn g1_ f1_ c1_))] fun v0 =>
  .asI .i64 v0 fun n1 =>
  cond (n1 == (-1 : Int))
    (.ret 0 [(.sc (.sl s0_))])
    (.loop (fun l2 =>
      .asL (l2.getD 0 .un) fun o3 =>
      .asX (l2.getD 1 .un) fun v4 =>
      .asI .i64 (l2.getD 2 .un) fun n5 =>
      .asI .i64 (l2.getD 3 .un) fun n6 =>
      cond (decide (n6 < (slLen o3)))
        (.ixS 3 o3 n6 fun a7 a8 a9 =>
        .ld a7 (a8 + (a9 * 3)) 3 fun l10 =>
        .nth l10 0 fun v11 =>
        .asI .i64 (.sc v11) fun n12 =>
        .nth l10 1 fun v13 =>
        .asI .i64 (.sc v13) fun n14 =>
        .nth l10 2 fun v15 =>
        .asI .u64 (.sc v15) fun n16 =>
        .al [(.i .i64 (0 : Int)), (.i .i64 (0 : Int)), (.i .u64 (0 : Int))] fun a17 =>
        .st a17 0 [(.i .i64 n12), (.i .i64 n14), (.i .u64 n16)] (
        .ld a17 0 3 fun l18 =>
        .nth l18 0 fun v19 =>
        .asI .i64 (.sc v19) fun n20 =>
        .nth l18 1 fun v21 =>
        .asI .i64 (.sc v21) fun n22 =>
        .nth l18 2 fun v23 =>
        .asI .u64 (.sc v23) fun n24 =>
        .callv (.sc v4) [(.ag [(.i .i64 n20), (.i .i64 n22), (.i .u64 n24)])] fun v25 =>
        .asB v25 fun b26 =>
        cond (!b26)
          (.ld a17 0 3 fun l27 =>
          .nth l27 0 fun v28 =>
          .asI .i64 (.sc v28) fun n29 =>
          .nth l27 1 fun v30 =>
          .asI .i64 (.sc v30) fun n31 =>
          .nth l27 2 fun v32 =>
          .asI .u64 (.sc v32) fun n33 =>
          .ixS 3 o3 n5 fun a34 a35 a36 =>
          .st a34 (a35 + (a36 * 3)) [(.i .i64 n29), (.i .i64 n31), (.i .u64 n33)] (
          .ret 0 [(.sc (.sl o3)), (.sc v4), (.sc (.i .i64 (IntKind.wrap .i64 (n5 + (1 : Int))))), (.sc (.i .i64 (IntKind.wrap .i64 (n6 + (1 : Int)))))]))
          (.ret 0 [(.sc (.sl o3)), (.sc v4), (.sc (.i .i64 n5)), (.sc (.i .i64 (IntKind.wrap .i64 (n6 + (1 : Int)))))])))
        (.ret 2 [(.sc (.sl o3)), (.sc (.i .i64 n5))])) [(.sc (.sl s0_)), (.sc (.fn g1_ f1_ c1_)), (.sc (.i .i64 n1)), (.sc (.i .i64 (IntKind.wrap .i64 (n1 + (1 : Int)))))] fun a37 l38 =>
    .tg a37 2
      (.asL (l38.getD 0 .un) fun o39 =>
      .asI .i64 (l38.getD 1 .un) fun n40 =>
      .slc 3 o39 (.some n40) .none .none fun o41 =>
      .sts 3 o41 (zeros [(.i .i64 (0 : Int)), (.i .i64 (0 : Int)), (.i .u64 (0 : Int))] (slN o41)) (
      .slc 3 o39 .none (.some n40) .none fun o42 =>
      .ret 0 [(.sc (.sl o42))]))
      (.fail))
theorem t25_eq (s0_ : Option SlD) (g1_ : FuncId) (f1_ c1_ : List (Nat × Nat)) : bodyK T (hs 25) Try.f25 [.sc (.sl s0_), .sc (.fn g1_ f1_ c1_)] = t25 s0_ g1_ f1_ c1_ := by kernel_rfl
/-- slices.Clone[[]scuttlebutt/wheel.Timer,scuttlebutt/wheel.Timer] -/
def t27 (s0_ : Option SlD) : Tree :=
  cond (Option.isNone s0_)
    (.ret 0 [(.sc (.sl .none))])
    (.al (zeros [(.i .i64 (0 : Int)), (.i .i64 (0 : Int)), (.i .u64 (0 : Int))] 0) fun a0 =>
    .lds 3 s0_ (slN s0_) fun l1 =>
    .app 3 24 (.some (.mk a0 0 0 0 3)) l1 (slN s0_) fun o2 =>
    .ret 0 [(.sc (.sl o2))])
theorem t27_eq (s0_ : Option SlD) : bodyK T (hs 27) Try.f27 [.sc (.sl s0_)] = t27 s0_ := by kernel_rfl
/-- slices.SortStableFunc[[]scuttlebutt/wheel.Timer,scuttlebutt/wheel.Timer] -/
def t28 (s0_ : Option SlD) (g1_ : FuncId) (f1_ c1_ : List (Nat × Nat)) : Tree :=
  .call 32 [(.sc (.sl s0_)), (.sc (.i .i64 (slLen s0_))), (.sc (.fn g1_ f1_ c1_))] fun v0 =>
  .ret 0 [(.tu [])]
theorem t28_eq (s0_ : Option SlD) (g1_ : FuncId) (f1_ c1_ : List (Nat × Nat)) : bodyK T (hs 28) Try.f28 [.sc (.sl s0_), .sc (.fn g1_ f1_ c1_)] = t28 s0_ g1_ f1_ c1_ := by kernel_rfl
/-- (*scuttlebutt/wheel.Wheel).All -/
def t18 (p0_ q0_ : Nat) : Tree :=
  .nn (.some (p0_, q0_)) fun a0 a1 =>
  .ld a0 (a1 + 0) 1 fun l2 =>
  .nth l2 0 fun v3 =>
  .asL (.sc v3) fun o4 =>
  .call 27 [(.sc (.sl o4))] fun v5 =>
  .asL v5 fun o6 =>
  .call 28 [(.sc (.sl o6)), (.sc (.fn 29 [] []))] fun v7 =>
  .ret 0 [(.sc (.sl o6))]
theorem t18_eq (p0_ q0_ : Nat) : bodyK T (hs 18) Try.f18 [.sc (.p (some (p0_, q0_)))] = t18 p0_ q0_ := by kernel_rfl
/-- (*scuttlebutt/wheel.Wheel).Due -/
def t12 (p0_ q0_ : Nat) (n1_ : Int) : Tree :=
  .al [(.i .u64 n1_)] fun a0 =>
  .al [.nf] fun a1 =>
  .st a1 0 [(.fn 24 [] [(a0, 0)])] (
  .call 18 [(.sc (.p (.some (p0_, q0_))))] fun v2 =>
  .asL v2 fun o3 =>
  .call 25 [(.sc (.sl o3)), (.sc (.fn 26 [] [(a1, 0)]))] fun v4 =>
  .asL v4 fun o5 =>
  .nn (.some (p0_, q0_)) fun a6 a7 =>
  .ld a6 (a7 + 0) 1 fun l8 =>
  .nth l8 0 fun v9 =>
  .asL (.sc v9) fun o10 =>
  .ld a1 0 1 fun l11 =>
  .nth l11 0 fun v12 =>
  .call 25 [(.sc (.sl o10)), (.sc v12)] fun v13 =>
  .asL v13 fun o14 =>
  .nn (.some (p0_, q0_)) fun a15 a16 =>
  .st a15 (a16 + 0) [(.sl o14)] (
  .ret 0 [(.sc (.sl o5))]))
theorem t12_eq (p0_ q0_ : Nat) (n1_ : Int) : bodyK T (hs 12) Try.f12 [.sc (.p (some (p0_, q0_))), .sc (.i .u64 n1_)] = t12 p0_ q0_ n1_ := by kernel_rfl
end Go.Proofs.Ytonohkjngmcbmaa
