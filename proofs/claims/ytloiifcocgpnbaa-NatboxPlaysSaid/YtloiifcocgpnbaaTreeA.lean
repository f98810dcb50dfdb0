/- Trees of functions, printed by a program of mine; each is proved to be the function's. -/
import Derived.Test.YtloiifcocgpnbaaGen
namespace Go.Proofs.Ytloiifcocgpnbaa
open Go Go.Proofs.Ytloiifcocgpnbaa.Fw
set_option linter.unusedVariables false
/-- scuttlebutt/natbox.New -/
def t11 (n0_0 : Int) (n0_1 : Int) (n1_ : Int) (n2_ : Int) (n3_ : Int) : Tree :=
  .al [(.i .i64 n0_0), (.i .i64 n0_1)] fun a0 =>
  .ld a0 0 2 fun l1 =>
  .nth l1 0 fun v2 =>
  .asI .i64 (.sc v2) fun n3 =>
  .nth l1 1 fun v4 =>
  .asI .i64 (.sc v4) fun n5 =>
  .call 32 [(.ag [(.i .i64 n3), (.i .i64 n5)])] fun v6 =>
  .asB v6 fun b7 =>
  cond (!b7)
    (.ret 0 [(.tu [(.sc (.p .none)), (.sc (.i .i64 (1 : Int)))])])
    (cond (n1_ == (0 : Int))
      (.ret 0 [(.tu [(.sc (.p .none)), (.sc (.i .i64 (1 : Int)))])])
      (cond (n2_ == (0 : Int))
        (.ret 0 [(.tu [(.sc (.p .none)), (.sc (.i .i64 (1 : Int)))])])
        (cond (decide (n2_ > (1000000 : Int)))
          (.ret 0 [(.tu [(.sc (.p .none)), (.sc (.i .i64 (1 : Int)))])])
          (cond (decide (n3_ < (1 : Int)))
            (.ret 0 [(.tu [(.sc (.p .none)), (.sc (.i .i64 (1 : Int)))])])
            (cond (decide (n3_ > (64 : Int)))
              (.ret 0 [(.tu [(.sc (.p .none)), (.sc (.i .i64 (1 : Int)))])])
              (.ld a0 0 2 fun l8 =>
              .nth l8 0 fun v9 =>
              .asI .i64 (.sc v9) fun n10 =>
              .nth l8 1 fun v11 =>
              .asI .i64 (.sc v11) fun n12 =>
              .al [(.i .i64 n10), (.i .i64 n12), (.i .u32 n1_), (.i .u64 n2_), (.i .i64 n3_), (.sl .none)] fun a13 =>
              .ret 0 [(.tu [(.sc (.p (.some (a13, 0)))), (.sc (.i .i64 (0 : Int)))])]))))))
theorem t11_eq (n0_0 : Int) (n0_1 : Int) (n1_ : Int) (n2_ : Int) (n3_ : Int) : bodyK T (hs 11) Try.f11 [.ag [.i .i64 n0_0, .i .i64 n0_1], .sc (.i .u32 n1_), .sc (.i .u64 n2_), .sc (.i .i64 n3_)] = t11 n0_0 n0_1 n1_ n2_ n3_ := by kernel_rfl
/-- (*scuttlebutt/natbox.Box).Out -/
def t12 (p0_ q0_ : Nat) (n1_ : Int) (n2_0 : Int) (n2_1 : Int) (n3_0 : Int) (n3_1 : Int) : Tree :=
  .al [(.i .u32 n2_0), (.i .u16 n2_1)] fun a0 =>
  .al [(.i .u32 n3_0), (.i .u16 n3_1)] fun a1 =>
  .al [(.i .u32 (0 : Int)), (.i .u16 (0 : Int))] fun a2 =>
  .ld a0 0 2 fun l3 =>
  .nth l3 0 fun v4 =>
  .asI .u32 (.sc v4) fun n5 =>
  .nth l3 1 fun v6 =>
  .asI .u16 (.sc v6) fun n7 =>
  .call 33 [(.ag [(.i .u32 n5), (.i .u16 n7)])] fun v8 =>
  .asB v8 fun b9 =>
  cond b9
    (.st a2 0 [(.i .u32 (0 : Int)), (.i .u16 (0 : Int))] (
    .ld a2 0 2 fun l10 =>
    .nth l10 0 fun v11 =>
    .asI .u32 (.sc v11) fun n12 =>
    .nth l10 1 fun v13 =>
    .asI .u16 (.sc v13) fun n14 =>
    .ret 0 [(.tu [(.ag [(.i .u32 n12), (.i .u16 n14)]), (.sc (.i .i64 (1 : Int)))])]))
    (.ld a1 0 2 fun l15 =>
    .nth l15 0 fun v16 =>
    .asI .u32 (.sc v16) fun n17 =>
    .nth l15 1 fun v18 =>
    .asI .u16 (.sc v18) fun n19 =>
    .call 33 [(.ag [(.i .u32 n17), (.i .u16 n19)])] fun v20 =>
    .asB v20 fun b21 =>
    cond b21
      (.st a2 0 [(.i .u32 (0 : Int)), (.i .u16 (0 : Int))] (
      .ld a2 0 2 fun l22 =>
      .nth l22 0 fun v23 =>
      .asI .u32 (.sc v23) fun n24 =>
      .nth l22 1 fun v25 =>
      .asI .u16 (.sc v25) fun n26 =>
      .ret 0 [(.tu [(.ag [(.i .u32 n24), (.i .u16 n26)]), (.sc (.i .i64 (1 : Int)))])]))
      (cond (decide (n1_ > (4611686018427387904 : Int)))
        (.st a2 0 [(.i .u32 (0 : Int)), (.i .u16 (0 : Int))] (
        .ld a2 0 2 fun l27 =>
        .nth l27 0 fun v28 =>
        .asI .u32 (.sc v28) fun n29 =>
        .nth l27 1 fun v30 =>
        .asI .u16 (.sc v30) fun n31 =>
        .ret 0 [(.tu [(.ag [(.i .u32 n29), (.i .u16 n31)]), (.sc (.i .i64 (1 : Int)))])]))
        (.call 17 [(.sc (.p (.some (p0_, q0_)))), (.sc (.i .u64 n1_))] fun v32 =>
        .asI .i64 v32 fun n33 =>
        .ld a0 0 2 fun l34 =>
        .nth l34 0 fun v35 =>
        .asI .u32 (.sc v35) fun n36 =>
        .nth l34 1 fun v37 =>
        .asI .u16 (.sc v37) fun n38 =>
        .nn (.some (p0_, q0_)) fun a39 a40 =>
        .ld a39 (a40 + 0) 2 fun l41 =>
        .nth l41 0 fun v42 =>
        .asI .i64 (.sc v42) fun n43 =>
        .nth l41 1 fun v44 =>
        .asI .i64 (.sc v44) fun n45 =>
        .ld a1 0 2 fun l46 =>
        .nth l46 0 fun v47 =>
        .asI .u32 (.sc v47) fun n48 =>
        .nth l46 1 fun v49 =>
        .asI .u16 (.sc v49) fun n50 =>
        .call 18 [(.ag [(.i .i64 n43), (.i .i64 n45)]), (.ag [(.i .u32 n48), (.i .u16 n50)])] fun v51 =>
        .asA 2 v51 fun l52 =>
        .nth l52 0 fun v53 =>
        .asI .u32 (.sc v53) fun n54 =>
        .nth l52 1 fun v55 =>
        .asI .u16 (.sc v55) fun n56 =>
        .same a0 0 [(.i .u32 n36), (.i .u16 n38)] (
        .call 34 [(.sc (.p (.some (p0_, q0_)))), (.ag [(.i .u32 n36), (.i .u16 n38)]), (.ag [(.i .u32 n54), (.i .u16 n56)])] fun v57 =>
        .asP v57 fun o58 =>
        .nn (.some (p0_, q0_)) fun a59 a60 =>
        .ld a59 (a60 + 3) 1 fun l61 =>
        .nth l61 0 fun v62 =>
        .asI .u64 (.sc v62) fun n63 =>
        .nn o58 fun a64 a65 =>
        .st a64 (a65 + 6) [(.i .u64 (IntKind.wrap .u64 (n1_ + n63)))] (
        .nn o58 fun a66 a67 =>
        .ld a66 (a67 + 5) 1 fun l68 =>
        .nth l68 0 fun v69 =>
        .asL (.sc v69) fun o70 =>
        .ld a1 0 2 fun l71 =>
        .nth l71 0 fun v72 =>
        .asI .u32 (.sc v72) fun n73 =>
        .nth l71 1 fun v74 =>
        .asI .u16 (.sc v74) fun n75 =>
        .call 35 [(.sc (.sl o70)), (.ag [(.i .u32 n73), (.i .u16 n75)])] fun v76 =>
        .asB v76 fun b77 =>
        cond (!b77)
          (.nn o58 fun a78 a79 =>
          .ld a78 (a79 + 5) 1 fun l80 =>
          .nth l80 0 fun v81 =>
          .asL (.sc v81) fun o82 =>
          .nn o58 fun a83 a84 =>
          .ld a83 (a84 + 5) 1 fun l85 =>
          .nth l85 0 fun v86 =>
          .asL (.sc v86) fun o87 =>
          .slc 2 o82 (.some (maxI (IntKind.wrap .i64 ((IntKind.wrap .i64 ((slLen o87) + (1 : Int))) - (16 : Int))) (0 : Int))) .none .none fun o88 =>
          .ld a1 0 2 fun l89 =>
          .nth l89 0 fun v90 =>
          .asI .u32 (.sc v90) fun n91 =>
          .nth l89 1 fun v92 =>
          .asI .u16 (.sc v92) fun n93 =>
          .al [(.i .u32 n91), (.i .u16 n93)] fun a94 =>
          .call 36 [(.sc (.sl o88))] fun v95 =>
          .asL v95 fun o96 =>
          .same a1 0 [(.i .u32 n91), (.i .u16 n93)] (
          .lds 2 (.some (.mk a94 0 1 1 2)) (slN (.some (.mk a94 0 1 1 2))) fun l97 =>
          .app 2 8 o96 l97 (slN (.some (.mk a94 0 1 1 2))) fun o98 =>
          .nn o58 fun a99 a100 =>
          .st a99 (a100 + 5) [(.sl o98)] (
          .nn (.some (p0_, q0_)) fun a101 a102 =>
          .ld a101 (a102 + 2) 1 fun l103 =>
          .nth l103 0 fun v104 =>
          .asI .u32 (.sc v104) fun n105 =>
          .nn o58 fun a106 a107 =>
          .ld a106 (a107 + 4) 1 fun l108 =>
          .nth l108 0 fun v109 =>
          .asI .u16 (.sc v109) fun n110 =>
          .st a2 0 [(.i .u32 n105), (.i .u16 n110)] (
          .ld a2 0 2 fun l111 =>
          .nth l111 0 fun v112 =>
          .asI .u32 (.sc v112) fun n113 =>
          .nth l111 1 fun v114 =>
          .asI .u16 (.sc v114) fun n115 =>
          .ret 0 [(.tu [(.ag [(.i .u32 n113), (.i .u16 n115)]), (.sc (.i .i64 (0 : Int)))])]))))
          (.nn (.some (p0_, q0_)) fun a116 a117 =>
          .ld a116 (a117 + 2) 1 fun l118 =>
          .nth l118 0 fun v119 =>
          .asI .u32 (.sc v119) fun n120 =>
          .nn o58 fun a121 a122 =>
          .ld a121 (a122 + 4) 1 fun l123 =>
          .nth l123 0 fun v124 =>
          .asI .u16 (.sc v124) fun n125 =>
          .st a2 0 [(.i .u32 n120), (.i .u16 n125)] (
          .ld a2 0 2 fun l126 =>
          .nth l126 0 fun v127 =>
          .asI .u32 (.sc v127) fun n128 =>
          .nth l126 1 fun v129 =>
          .asI .u16 (.sc v129) fun n130 =>
          .ret 0 [(.tu [(.ag [(.i .u32 n128), (.i .u16 n130)]), (.sc (.i .i64 (0 : Int)))])])))))))
theorem t12_eq (p0_ q0_ : Nat) (n1_ : Int) (n2_0 : Int) (n2_1 : Int) (n3_0 : Int) (n3_1 : Int) : bodyK T (hs 12) Try.f12 [.sc (.p (some (p0_, q0_))), .sc (.i .u64 n1_), .ag [.i .u32 n2_0, .i .u16 n2_1], .ag [.i .u32 n3_0, .i .u16 n3_1]] = t12 p0_ q0_ n1_ n2_0 n2_1 n3_0 n3_1 := by kernel_rfl
/-- (scuttlebutt/scuttlebuttlaw08.Deed).inner -/
def t13 (n0_0 : Int) (n0_1 : Int) (n0_2 : Int) (n0_3 : Int) (n0_4 : Int) (n0_5 : Int) (n0_6 : Int) (n0_7 : Int) : Tree :=
  .al [(.i .u8 n0_0), (.i .u8 n0_1), (.i .u8 n0_2), (.i .u8 n0_3), (.i .u8 n0_4), (.i .u32 n0_5), (.i .u16 n0_6), (.i .u64 n0_7)] fun a0 =>
  .al [(.i .u32 (0 : Int)), (.i .u16 (0 : Int))] fun a1 =>
  .ld a0 (0 + 1) 1 fun l2 =>
  .nth l2 0 fun v3 =>
  .asI .u8 (.sc v3) fun n4 =>
  cond (decide (n4 > (250 : Int)))
    (.ld a0 (0 + 5) 2 fun l5 =>
    .nth l5 0 fun v6 =>
    .asI .u32 (.sc v6) fun n7 =>
    .nth l5 1 fun v8 =>
    .asI .u16 (.sc v8) fun n9 =>
    .st a1 0 [(.i .u32 n7), (.i .u16 n9)] (
    .ld a1 0 2 fun l10 =>
    .nth l10 0 fun v11 =>
    .asI .u32 (.sc v11) fun n12 =>
    .nth l10 1 fun v13 =>
    .asI .u16 (.sc v13) fun n14 =>
    .ret 0 [(.ag [(.i .u32 n12), (.i .u16 n14)])]))
    (.ld a0 (0 + 1) 1 fun l15 =>
    .nth l15 0 fun v16 =>
    .asI .u8 (.sc v16) fun n17 =>
    .br .true
      (.st a1 0 [(.i .u32 (IntKind.wrap .u32 ((167772160 : Int) + (IntKind.wrap .u32 (Int.tmod n17 (8 : Int)))))), (.i .u16 (7 : Int))] (
      .ld a1 0 2 fun l18 =>
      .nth l18 0 fun v19 =>
      .asI .u32 (.sc v19) fun n20 =>
      .nth l18 1 fun v21 =>
      .asI .u16 (.sc v21) fun n22 =>
      .ret 0 [(.ag [(.i .u32 n20), (.i .u16 n22)])]))
      (.fail))
theorem t13_eq (n0_0 : Int) (n0_1 : Int) (n0_2 : Int) (n0_3 : Int) (n0_4 : Int) (n0_5 : Int) (n0_6 : Int) (n0_7 : Int) : bodyK T (hs 13) Try.f13 [.ag [.i .u8 n0_0, .i .u8 n0_1, .i .u8 n0_2, .i .u8 n0_3, .i .u8 n0_4, .i .u32 n0_5, .i .u16 n0_6, .i .u64 n0_7]] = t13 n0_0 n0_1 n0_2 n0_3 n0_4 n0_5 n0_6 n0_7 := by kernel_rfl
/-- (scuttlebutt/scuttlebuttlaw08.Deed).outer -/
def t14 (n0_0 : Int) (n0_1 : Int) (n0_2 : Int) (n0_3 : Int) (n0_4 : Int) (n0_5 : Int) (n0_6 : Int) (n0_7 : Int) : Tree :=
  .al [(.i .u8 n0_0), (.i .u8 n0_1), (.i .u8 n0_2), (.i .u8 n0_3), (.i .u8 n0_4), (.i .u32 n0_5), (.i .u16 n0_6), (.i .u64 n0_7)] fun a0 =>
  .al [(.i .u32 (0 : Int)), (.i .u16 (0 : Int))] fun a1 =>
  .ld a0 (0 + 2) 1 fun l2 =>
  .nth l2 0 fun v3 =>
  .asI .u8 (.sc v3) fun n4 =>
  cond (decide (n4 > (250 : Int)))
    (.ld a0 (0 + 5) 2 fun l5 =>
    .nth l5 0 fun v6 =>
    .asI .u32 (.sc v6) fun n7 =>
    .nth l5 1 fun v8 =>
    .asI .u16 (.sc v8) fun n9 =>
    .st a1 0 [(.i .u32 n7), (.i .u16 n9)] (
    .ld a1 0 2 fun l10 =>
    .nth l10 0 fun v11 =>
    .asI .u32 (.sc v11) fun n12 =>
    .nth l10 1 fun v13 =>
    .asI .u16 (.sc v13) fun n14 =>
    .ret 0 [(.ag [(.i .u32 n12), (.i .u16 n14)])]))
    (.ld a0 (0 + 2) 1 fun l15 =>
    .nth l15 0 fun v16 =>
    .asI .u8 (.sc v16) fun n17 =>
    .br .true
      (.ld a0 (0 + 2) 1 fun l18 =>
      .nth l18 0 fun v19 =>
      .asI .u8 (.sc v19) fun n20 =>
      .br .true
        (.br .true
          (.st a1 0 [(.i .u32 (IntKind.wrap .u32 ((50 : Int) + (IntKind.wrap .u32 (Int.tmod n17 (4 : Int)))))), (.i .u16 (IntKind.wrap .u16 ((8 : Int) + (IntKind.wrap .u16 (Int.tmod (IntKind.wrap .u8 (Int.tdiv n20 (4 : Int))) (3 : Int))))))] (
          .ld a1 0 2 fun l21 =>
          .nth l21 0 fun v22 =>
          .asI .u32 (.sc v22) fun n23 =>
          .nth l21 1 fun v24 =>
          .asI .u16 (.sc v24) fun n25 =>
          .ret 0 [(.ag [(.i .u32 n23), (.i .u16 n25)])]))
          (.fail))
        (.fail))
      (.fail))
theorem t14_eq (n0_0 : Int) (n0_1 : Int) (n0_2 : Int) (n0_3 : Int) (n0_4 : Int) (n0_5 : Int) (n0_6 : Int) (n0_7 : Int) : bodyK T (hs 14) Try.f14 [.ag [.i .u8 n0_0, .i .u8 n0_1, .i .u8 n0_2, .i .u8 n0_3, .i .u8 n0_4, .i .u32 n0_5, .i .u16 n0_6, .i .u64 n0_7]] = t14 n0_0 n0_1 n0_2 n0_3 n0_4 n0_5 n0_6 n0_7 := by kernel_rfl
/-- (*scuttlebutt/natbox.Box).In -/
def t15 (p0_ q0_ : Nat) (n1_ : Int) (n2_ : Int) (n3_0 : Int) (n3_1 : Int) : Tree :=
  .al [(.i .u16 n2_)] fun a0 =>
  .al [(.i .u32 n3_0), (.i .u16 n3_1)] fun a1 =>
  .al [(.i .u32 (0 : Int)), (.i .u16 (0 : Int))] fun a2 =>
  .ld a1 0 2 fun l3 =>
  .nth l3 0 fun v4 =>
  .asI .u32 (.sc v4) fun n5 =>
  .nth l3 1 fun v6 =>
  .asI .u16 (.sc v6) fun n7 =>
  .call 33 [(.ag [(.i .u32 n5), (.i .u16 n7)])] fun v8 =>
  .asB v8 fun b9 =>
  cond b9
    (.st a2 0 [(.i .u32 (0 : Int)), (.i .u16 (0 : Int))] (
    .ld a2 0 2 fun l10 =>
    .nth l10 0 fun v11 =>
    .asI .u32 (.sc v11) fun n12 =>
    .nth l10 1 fun v13 =>
    .asI .u16 (.sc v13) fun n14 =>
    .ret 0 [(.tu [(.ag [(.i .u32 n12), (.i .u16 n14)]), (.sc (.i .i64 (1 : Int)))])]))
    (cond (decide (n1_ > (4611686018427387904 : Int)))
      (.st a2 0 [(.i .u32 (0 : Int)), (.i .u16 (0 : Int))] (
      .ld a2 0 2 fun l15 =>
      .nth l15 0 fun v16 =>
      .asI .u32 (.sc v16) fun n17 =>
      .nth l15 1 fun v18 =>
      .asI .u16 (.sc v18) fun n19 =>
      .ret 0 [(.tu [(.ag [(.i .u32 n17), (.i .u16 n19)]), (.sc (.i .i64 (1 : Int)))])]))
      (.call 17 [(.sc (.p (.some (p0_, q0_)))), (.sc (.i .u64 n1_))] fun v20 =>
      .asI .i64 v20 fun n21 =>
      .nn (.some (p0_, q0_)) fun a22 a23 =>
      .ld a22 (a23 + 5) 1 fun l24 =>
      .nth l24 0 fun v25 =>
      .asL (.sc v25) fun o26 =>
      .call 37 [(.sc (.sl o26)), (.sc (.fn 38 [] [(a0, 0)]))] fun v27 =>
      .asI .i64 v27 fun n28 =>
      cond (decide (n28 < (0 : Int)))
        (.st a2 0 [(.i .u32 (0 : Int)), (.i .u16 (0 : Int))] (
        .ld a2 0 2 fun l29 =>
        .nth l29 0 fun v30 =>
        .asI .u32 (.sc v30) fun n31 =>
        .nth l29 1 fun v32 =>
        .asI .u16 (.sc v32) fun n33 =>
        .ret 0 [(.tu [(.ag [(.i .u32 n31), (.i .u16 n33)]), (.sc (.i .i64 (5 : Int)))])]))
        (.nn (.some (p0_, q0_)) fun a34 a35 =>
        .ld a34 (a35 + 0) 2 fun l36 =>
        .nth l36 0 fun v37 =>
        .asI .i64 (.sc v37) fun n38 =>
        .nth l36 1 fun v39 =>
        .asI .i64 (.sc v39) fun n40 =>
        .nn (.some (p0_, q0_)) fun a41 a42 =>
        .ld a41 (a42 + 5) 1 fun l43 =>
        .nth l43 0 fun v44 =>
        .asL (.sc v44) fun o45 =>
        .ixS 7 o45 n28 fun a46 a47 a48 =>
        .ld a46 ((a47 + (a48 * 7)) + 5) 1 fun l49 =>
        .nth l49 0 fun v50 =>
        .asL (.sc v50) fun o51 =>
        .ld a1 0 2 fun l52 =>
        .nth l52 0 fun v53 =>
        .asI .u32 (.sc v53) fun n54 =>
        .nth l52 1 fun v55 =>
        .asI .u16 (.sc v55) fun n56 =>
        .call 39 [(.ag [(.i .i64 n38), (.i .i64 n40)]), (.sc (.sl o51)), (.ag [(.i .u32 n54), (.i .u16 n56)])] fun v57 =>
        .asB v57 fun b58 =>
        cond (!b58)
          (.st a2 0 [(.i .u32 (0 : Int)), (.i .u16 (0 : Int))] (
          .ld a2 0 2 fun l59 =>
          .nth l59 0 fun v60 =>
          .asI .u32 (.sc v60) fun n61 =>
          .nth l59 1 fun v62 =>
          .asI .u16 (.sc v62) fun n63 =>
          .ret 0 [(.tu [(.ag [(.i .u32 n61), (.i .u16 n63)]), (.sc (.i .i64 (5 : Int)))])]))
          (.nn (.some (p0_, q0_)) fun a64 a65 =>
          .ld a64 (a65 + 5) 1 fun l66 =>
          .nth l66 0 fun v67 =>
          .asL (.sc v67) fun o68 =>
          .nn (.some (p0_, q0_)) fun a69 a70 =>
          .ld a69 (a70 + 3) 1 fun l71 =>
          .nth l71 0 fun v72 =>
          .asI .u64 (.sc v72) fun n73 =>
          .ixS 7 o68 n28 fun a74 a75 a76 =>
          .st a74 ((a75 + (a76 * 7)) + 6) [(.i .u64 (IntKind.wrap .u64 (n1_ + n73)))] (
          .nn (.some (p0_, q0_)) fun a77 a78 =>
          .ld a77 (a78 + 5) 1 fun l79 =>
          .nth l79 0 fun v80 =>
          .asL (.sc v80) fun o81 =>
          .ixS 7 o81 n28 fun a82 a83 a84 =>
          .ld a82 ((a83 + (a84 * 7)) + 0) 2 fun l85 =>
          .nth l85 0 fun v86 =>
          .asI .u32 (.sc v86) fun n87 =>
          .nth l85 1 fun v88 =>
          .asI .u16 (.sc v88) fun n89 =>
          .st a2 0 [(.i .u32 n87), (.i .u16 n89)] (
          .ld a2 0 2 fun l90 =>
          .nth l90 0 fun v91 =>
          .asI .u32 (.sc v91) fun n92 =>
          .nth l90 1 fun v93 =>
          .asI .u16 (.sc v93) fun n94 =>
          .ret 0 [(.tu [(.ag [(.i .u32 n92), (.i .u16 n94)]), (.sc (.i .i64 (0 : Int)))])]))))))
theorem t15_eq (p0_ q0_ : Nat) (n1_ : Int) (n2_ : Int) (n3_0 : Int) (n3_1 : Int) : bodyK T (hs 15) Try.f15 [.sc (.p (some (p0_, q0_))), .sc (.i .u64 n1_), .sc (.i .u16 n2_), .ag [.i .u32 n3_0, .i .u16 n3_1]] = t15 p0_ q0_ n1_ n2_ n3_0 n3_1 := by kernel_rfl
def t16_b7  : List AV → Tree := fun l8 =>
  .asL (l8.getD 0 .un) fun o9 =>
  .asI .i64 (l8.getD 1 .un) fun n10 =>
  .asI .i64 (l8.getD 2 .un) fun n11 =>
  cond (decide (n11 < n10))
    (.ixS 7 o9 n11 fun a12 a13 a14 =>
    .ld a12 ((a13 + (a14 * 7)) + 5) 1 fun l15 =>
    .nth l15 0 fun v16 =>
    .asL (.sc v16) fun o17 =>
    .call 36 [(.sc (.sl o17))] fun v18 =>
    .asL v18 fun o19 =>
    .ixS 7 o9 n11 fun a20 a21 a22 =>
    .st a20 ((a21 + (a22 * 7)) + 5) [(.sl o19)] (
    .ret 0 [(.sc (.sl o9)), (.sc (.i .i64 n10)), (.sc (.i .i64 (IntKind.wrap .i64 (n11 + (1 : Int)))))]))
    (.ret 2 [(.sc (.sl o9))])
def t16_k7  : Nat → List AV → Tree := fun a23 l24 =>
  .tg a23 2
    (.asL (l24.getD 0 .un) fun o25 =>
    .call 41 [(.sc (.sl o25)), (.sc (.fn 42 [] []))] fun v26 =>
    .ret 0 [(.sc (.sl o25))])
    (.fail)
/-- (*scuttlebutt/natbox.Box).Binds -/
def t16 (p0_ q0_ : Nat) : Tree :=
  .nn (.some (p0_, q0_)) fun a0 a1 =>
  .ld a0 (a1 + 5) 1 fun l2 =>
  .nth l2 0 fun v3 =>
  .asL (.sc v3) fun o4 =>
  .call 40 [(.sc (.sl o4))] fun v5 =>
  .asL v5 fun o6 =>
  .loop t16_b7 [(.sc (.sl o6)), (.sc (.i .i64 (slLen o6))), (.sc (.i .i64 (0 : Int)))] t16_k7
theorem t16_eq (p0_ q0_ : Nat) : bodyK T (hs 16) Try.f16 [.sc (.p (some (p0_, q0_)))] = t16 p0_ q0_ := by kernel_rfl
/-- (*scuttlebutt/natbox.Box).Sweep -/
def t17 (p0_ q0_ : Nat) (n1_ : Int) : Tree :=
  .al [(.i .u64 n1_)] fun a0 =>
  .nn (.some (p0_, q0_)) fun a1 a2 =>
  .ld a1 (a2 + 5) 1 fun l3 =>
  .nth l3 0 fun v4 =>
  .asL (.sc v4) fun o5 =>
  .nn (.some (p0_, q0_)) fun a6 a7 =>
  .ld a6 (a7 + 5) 1 fun l8 =>
  .nth l8 0 fun v9 =>
  .asL (.sc v9) fun o10 =>
  .call 44 [(.sc (.sl o10)), (.sc (.fn 45 [] [(a0, 0)]))] fun v11 =>
  .asL v11 fun o12 =>
  .nn (.some (p0_, q0_)) fun a13 a14 =>
  .st a13 (a14 + 5) [(.sl o12)] (
  .nn (.some (p0_, q0_)) fun a15 a16 =>
  .ld a15 (a16 + 5) 1 fun l17 =>
  .nth l17 0 fun v18 =>
  .asL (.sc v18) fun o19 =>
  .ret 0 [(.sc (.i .i64 (IntKind.wrap .i64 ((slLen o5) - (slLen o19)))))])
theorem t17_eq (p0_ q0_ : Nat) (n1_ : Int) : bodyK T (hs 17) Try.f17 [.sc (.p (some (p0_, q0_))), .sc (.i .u64 n1_)] = t17 p0_ q0_ n1_ := by kernel_rfl
/-- scuttlebutt/rule.Key -/
def t18 (n0_0 : Int) (n0_1 : Int) (n1_0 : Int) (n1_1 : Int) : Tree :=
  .al [(.i .i64 n0_0), (.i .i64 n0_1)] fun a0 =>
  .al [(.i .u32 n1_0), (.i .u16 n1_1)] fun a1 =>
  .al [(.i .u32 (0 : Int)), (.i .u16 (0 : Int))] fun a2 =>
  .ld a0 (0 + 0) 1 fun l3 =>
  .nth l3 0 fun v4 =>
  .asI .i64 (.sc v4) fun n5 =>
  cond (n5 == (2 : Int))
    (.ld a1 (0 + 1) 1 fun l6 =>
    .nth l6 0 fun v7 =>
    .asI .u16 (.sc v7) fun n8 =>
    .st a2 (0 + 1) [(.i .u16 n8)] (
    .ld a1 (0 + 0) 1 fun l9 =>
    .nth l9 0 fun v10 =>
    .asI .u32 (.sc v10) fun n11 =>
    .st a2 (0 + 0) [(.i .u32 n11)] (
    .ld a2 0 2 fun l12 =>
    .nth l12 0 fun v13 =>
    .asI .u32 (.sc v13) fun n14 =>
    .nth l12 1 fun v15 =>
    .asI .u16 (.sc v15) fun n16 =>
    .st a2 0 [(.i .u32 n14), (.i .u16 n16)] (
    .ld a2 0 2 fun l17 =>
    .nth l17 0 fun v18 =>
    .asI .u32 (.sc v18) fun n19 =>
    .nth l17 1 fun v20 =>
    .asI .u16 (.sc v20) fun n21 =>
    .ret 0 [(.ag [(.i .u32 n19), (.i .u16 n21)])]))))
    (cond (n5 == (1 : Int))
      (.ld a1 (0 + 0) 1 fun l22 =>
      .nth l22 0 fun v23 =>
      .asI .u32 (.sc v23) fun n24 =>
      .st a2 (0 + 0) [(.i .u32 n24)] (
      .ld a2 0 2 fun l25 =>
      .nth l25 0 fun v26 =>
      .asI .u32 (.sc v26) fun n27 =>
      .nth l25 1 fun v28 =>
      .asI .u16 (.sc v28) fun n29 =>
      .st a2 0 [(.i .u32 n27), (.i .u16 n29)] (
      .ld a2 0 2 fun l30 =>
      .nth l30 0 fun v31 =>
      .asI .u32 (.sc v31) fun n32 =>
      .nth l30 1 fun v33 =>
      .asI .u16 (.sc v33) fun n34 =>
      .ret 0 [(.ag [(.i .u32 n32), (.i .u16 n34)])])))
      (.ld a2 0 2 fun l35 =>
      .nth l35 0 fun v36 =>
      .asI .u32 (.sc v36) fun n37 =>
      .nth l35 1 fun v38 =>
      .asI .u16 (.sc v38) fun n39 =>
      .st a2 0 [(.i .u32 n37), (.i .u16 n39)] (
      .ld a2 0 2 fun l40 =>
      .nth l40 0 fun v41 =>
      .asI .u32 (.sc v41) fun n42 =>
      .nth l40 1 fun v43 =>
      .asI .u16 (.sc v43) fun n44 =>
      .ret 0 [(.ag [(.i .u32 n42), (.i .u16 n44)])])))
theorem t18_eq (n0_0 : Int) (n0_1 : Int) (n1_0 : Int) (n1_1 : Int) : bodyK T (hs 18) Try.f18 [.ag [.i .i64 n0_0, .i .i64 n0_1], .ag [.i .u32 n1_0, .i .u16 n1_1]] = t18 n0_0 n0_1 n1_0 n1_1 := by kernel_rfl
/-- (*scuttlebutt/natbox.Box).Rebind -/
def t19 (p0_ q0_ : Nat) (n1_ : Int) : Tree :=
  cond (n1_ == (0 : Int))
    (.ret 0 [(.sc (.i .i64 (1 : Int)))])
    (.nn (.some (p0_, q0_)) fun a0 a1 =>
    .st a0 (a1 + 2) [(.i .u32 n1_)] (
    .nn (.some (p0_, q0_)) fun a2 a3 =>
    .st a2 (a3 + 5) [(.sl .none)] (
    .ret 0 [(.sc (.i .i64 (0 : Int)))])))
theorem t19_eq (p0_ q0_ : Nat) (n1_ : Int) : bodyK T (hs 19) Try.f19 [.sc (.p (some (p0_, q0_))), .sc (.i .u32 n1_)] = t19 p0_ q0_ n1_ := by kernel_rfl
/-- (*scuttlebutt/natbox.Box).IP -/
def t20 (p0_ q0_ : Nat) : Tree :=
  .nn (.some (p0_, q0_)) fun a0 a1 =>
  .ld a0 (a1 + 2) 1 fun l2 =>
  .nth l2 0 fun v3 =>
  .asI .u32 (.sc v3) fun n4 =>
  .ret 0 [(.sc (.i .u32 n4))]
theorem t20_eq (p0_ q0_ : Nat) : bodyK T (hs 20) Try.f20 [.sc (.p (some (p0_, q0_)))] = t20 p0_ q0_ := by kernel_rfl
/-- scuttlebutt/rule.Right -/
def t32 (n0_0 : Int) (n0_1 : Int) : Tree :=
  .al [(.i .i64 n0_0), (.i .i64 n0_1)] fun a0 =>
  .ld a0 (0 + 0) 1 fun l1 =>
  .nth l1 0 fun v2 =>
  .asI .i64 (.sc v2) fun n3 =>
  .call 53 [(.sc (.i .i64 n3))] fun v4 =>
  .asB v4 fun b5 =>
  cond b5
    (.ld a0 (0 + 1) 1 fun l6 =>
    .nth l6 0 fun v7 =>
    .asI .i64 (.sc v7) fun n8 =>
    .call 53 [(.sc (.i .i64 n8))] fun v9 =>
    .asB v9 fun b10 =>
    .ret 0 [(.sc (.b b10))])
    (.ret 0 [(.sc (.b .false))])
theorem t32_eq (n0_0 : Int) (n0_1 : Int) : bodyK T (hs 32) Try.f32 [.ag [.i .i64 n0_0, .i .i64 n0_1]] = t32 n0_0 n0_1 := by kernel_rfl
/-- (scuttlebutt/addr.Addr).None -/
def t33 (n0_0 : Int) (n0_1 : Int) : Tree :=
  .al [(.i .u32 n0_0), (.i .u16 n0_1)] fun a0 =>
  .ld a0 (0 + 0) 1 fun l1 =>
  .nth l1 0 fun v2 =>
  .asI .u32 (.sc v2) fun n3 =>
  cond (n3 == (0 : Int))
    (.ret 0 [(.sc (.b .true))])
    (.ld a0 (0 + 1) 1 fun l4 =>
    .nth l4 0 fun v5 =>
    .asI .u16 (.sc v5) fun n6 =>
    .ret 0 [(.sc (.b (n6 == (0 : Int))))])
theorem t33_eq (n0_0 : Int) (n0_1 : Int) : bodyK T (hs 33) Try.f33 [.ag [.i .u32 n0_0, .i .u16 n0_1]] = t33 n0_0 n0_1 := by kernel_rfl
def t34_k27  : Nat → List AV → Tree := fun a59 l60 =>
  .tg a59 0
    (.asP (l60.getD 0 .un) fun o61 =>
    .asP (l60.getD 1 .un) fun o62 =>
    .nn o62 fun a63 a64 =>
    .asP (l60.getD 2 .un) fun o65 =>
    .nn o65 fun a66 a67 =>
    .nn o61 fun a68 a69 =>
    .ld a68 (a69 + 5) 1 fun l70 =>
    .nth l70 0 fun v71 =>
    .asL (.sc v71) fun o72 =>
    .ld a63 a64 2 fun l73 =>
    .nth l73 0 fun v74 =>
    .asI .u32 (.sc v74) fun n75 =>
    .nth l73 1 fun v76 =>
    .asI .u16 (.sc v76) fun n77 =>
    .ld a66 a67 2 fun l78 =>
    .nth l78 0 fun v79 =>
    .asI .u32 (.sc v79) fun n80 =>
    .nth l78 1 fun v81 =>
    .asI .u16 (.sc v81) fun n82 =>
    .call 60 [(.sc (.p o61))] fun v83 =>
    .asI .u16 v83 fun n84 =>
    .same a66 a67 [(.i .u32 n80), (.i .u16 n82)] (
    .same a63 a64 [(.i .u32 n75), (.i .u16 n77)] (
    .same a68 (a69 + 5) [(.sl o72)] (
    .al [(.i .u32 n75), (.i .u16 n77), (.i .u32 n80), (.i .u16 n82), (.i .u16 n84), (.sl .none), (.i .u64 (0 : Int))] fun a85 =>
    .lds 7 (.some (.mk a85 0 1 1 7)) (slN (.some (.mk a85 0 1 1 7))) fun l86 =>
    .app 7 56 o72 l86 (slN (.some (.mk a85 0 1 1 7))) fun o87 =>
    .nn o61 fun a88 a89 =>
    .st a88 (a89 + 5) [(.sl o87)] (
    .nn o61 fun a90 a91 =>
    .ld a90 (a91 + 5) 1 fun l92 =>
    .nth l92 0 fun v93 =>
    .asL (.sc v93) fun o94 =>
    .nn o61 fun a95 a96 =>
    .ld a95 (a96 + 5) 1 fun l97 =>
    .nth l97 0 fun v98 =>
    .asL (.sc v98) fun o99 =>
    .ixS 7 o94 (IntKind.wrap .i64 ((slLen o99) - (1 : Int))) fun a100 a101 a102 =>
    .ret 0 [(.sc (.p (.some (a100, (a101 + (a102 * 7))))))])))))
    (.fail)
/-- (*scuttlebutt/natbox.Box).bind -/
def t34 (p0_ q0_ : Nat) (n1_0 : Int) (n1_1 : Int) (n2_0 : Int) (n2_1 : Int) : Tree :=
  .al [(.i .u32 n1_0), (.i .u16 n1_1)] fun a0 =>
  .al [(.i .u32 n2_0), (.i .u16 n2_1)] fun a1 =>
  .nn (.some (p0_, q0_)) fun a2 a3 =>
  .ld a2 (a3 + 5) 1 fun l4 =>
  .nth l4 0 fun v5 =>
  .asL (.sc v5) fun o6 =>
  .call 37 [(.sc (.sl o6)), (.sc (.fn 54 [] [(a0, 0), (a1, 0)]))] fun v7 =>
  .asI .i64 v7 fun n8 =>
  cond (decide (n8 ≥ (0 : Int)))
    (.nn (.some (p0_, q0_)) fun a9 a10 =>
    .ld a9 (a10 + 5) 1 fun l11 =>
    .nth l11 0 fun v12 =>
    .asL (.sc v12) fun o13 =>
    .ixS 7 o13 n8 fun a14 a15 a16 =>
    .ret 0 [(.sc (.p (.some (a14, (a15 + (a16 * 7))))))])
    (.nn (.some (p0_, q0_)) fun a17 a18 =>
    .ld a17 (a18 + 5) 1 fun l19 =>
    .nth l19 0 fun v20 =>
    .asL (.sc v20) fun o21 =>
    .nn (.some (p0_, q0_)) fun a22 a23 =>
    .ld a22 (a23 + 4) 1 fun l24 =>
    .nth l24 0 fun v25 =>
    .asI .i64 (.sc v25) fun n26 =>
    .join (
      cond (decide ((slLen o21) ≥ n26))
        (.nn (.some (p0_, q0_)) fun a28 a29 =>
        .ld a28 (a29 + 5) 1 fun l30 =>
        .nth l30 0 fun v31 =>
        .asL (.sc v31) fun o32 =>
        .call 55 [(.sc (.sl o32)), (.sc (.fn 56 [] []))] fun v33 =>
        .asA 7 v33 fun l34 =>
        .nth l34 0 fun v35 =>
        .asI .u32 (.sc v35) fun n36 =>
        .nth l34 1 fun v37 =>
        .asI .u16 (.sc v37) fun n38 =>
        .nth l34 2 fun v39 =>
        .asI .u32 (.sc v39) fun n40 =>
        .nth l34 3 fun v41 =>
        .asI .u16 (.sc v41) fun n42 =>
        .nth l34 4 fun v43 =>
        .asI .u16 (.sc v43) fun n44 =>
        .nth l34 5 fun v45 =>
        .asL (.sc v45) fun o46 =>
        .nth l34 6 fun v47 =>
        .asI .u64 (.sc v47) fun n48 =>
        .al [(.i .u32 (0 : Int)), (.i .u16 (0 : Int)), (.i .u32 (0 : Int)), (.i .u16 (0 : Int)), (.i .u16 (0 : Int)), (.sl .none), (.i .u64 (0 : Int))] fun a49 =>
        .st a49 0 [(.i .u32 n36), (.i .u16 n38), (.i .u32 n40), (.i .u16 n42), (.i .u16 n44), (.sl o46), (.i .u64 n48)] (
        .nn (.some (p0_, q0_)) fun a50 a51 =>
        .ld a50 (a51 + 5) 1 fun l52 =>
        .nth l52 0 fun v53 =>
        .asL (.sc v53) fun o54 =>
        .call 44 [(.sc (.sl o54)), (.sc (.fn 59 [] [(a49, 0)]))] fun v55 =>
        .asL v55 fun o56 =>
        .nn (.some (p0_, q0_)) fun a57 a58 =>
        .st a57 (a58 + 5) [(.sl o56)] (
        .ret 0 [(.sc (.p (.some (p0_, q0_)))), (.sc (.p (.some (a0, 0)))), (.sc (.p (.some (a1, 0))))])))
        (.ret 0 [(.sc (.p (.some (p0_, q0_)))), (.sc (.p (.some (a0, 0)))), (.sc (.p (.some (a1, 0))))])) t34_k27)
theorem t34_eq (p0_ q0_ : Nat) (n1_0 : Int) (n1_1 : Int) (n2_0 : Int) (n2_1 : Int) : bodyK T (hs 34) Try.f34 [.sc (.p (some (p0_, q0_))), .ag [.i .u32 n1_0, .i .u16 n1_1], .ag [.i .u32 n2_0, .i .u16 n2_1]] = t34 p0_ q0_ n1_0 n1_1 n2_0 n2_1 := by kernel_rfl
/-- slices.Contains[[]scuttlebutt/addr.Addr,scuttlebutt/addr.Addr] -/
def t35 (s0_ : Option SlD) (n1_0 : Int) (n1_1 : Int) : Tree :=
  .al [(.i .u32 n1_0), (.i .u16 n1_1)] fun a0 =>
  .ld a0 0 2 fun l1 =>
  .nth l1 0 fun v2 =>
  .asI .u32 (.sc v2) fun n3 =>
  .nth l1 1 fun v4 =>
  .asI .u16 (.sc v4) fun n5 =>
  .call 61 [(.sc (.sl s0_)), (.ag [(.i .u32 n3), (.i .u16 n5)])] fun v6 =>
  .asI .i64 v6 fun n7 =>
  .ret 0 [(.sc (.b (decide (n7 ≥ (0 : Int)))))]
theorem t35_eq (s0_ : Option SlD) (n1_0 : Int) (n1_1 : Int) : bodyK T (hs 35) Try.f35 [.sc (.sl s0_), .ag [.i .u32 n1_0, .i .u16 n1_1]] = t35 s0_ n1_0 n1_1 := by kernel_rfl
/-- slices.Clone[[]scuttlebutt/addr.Addr,scuttlebutt/addr.Addr] -/
def t36 (s0_ : Option SlD) : Tree :=
  cond (Option.isNone s0_)
    (.ret 0 [(.sc (.sl .none))])
    (.al (zeros [(.i .u32 (0 : Int)), (.i .u16 (0 : Int))] 0) fun a0 =>
    .lds 2 s0_ (slN s0_) fun l1 =>
    .app 2 8 (.some (.mk a0 0 0 0 2)) l1 (slN s0_) fun o2 =>
    .ret 0 [(.sc (.sl o2))])
theorem t36_eq (s0_ : Option SlD) : bodyK T (hs 36) Try.f36 [.sc (.sl s0_)] = t36 s0_ := by kernel_rfl
/-- (*scuttlebutt/natbox.Box).In$1 -/
def t38 (n0_0 : Int) (n0_1 : Int) (n0_2 : Int) (n0_3 : Int) (n0_4 : Int) (s0_5 : Option SlD) (n0_6 : Int) (p1_ q1_ : Nat) : Tree :=
  .al [(.i .u32 n0_0), (.i .u16 n0_1), (.i .u32 n0_2), (.i .u16 n0_3), (.i .u16 n0_4), (.sl s0_5), (.i .u64 n0_6)] fun a0 =>
  .ld a0 (0 + 4) 1 fun l1 =>
  .nth l1 0 fun v2 =>
  .asI .u16 (.sc v2) fun n3 =>
  .ld p1_ q1_ 1 fun l4 =>
  .nth l4 0 fun v5 =>
  .asI .u16 (.sc v5) fun n6 =>
  .ret 0 [(.sc (.b (n3 == n6)))]
theorem t38_eq (n0_0 : Int) (n0_1 : Int) (n0_2 : Int) (n0_3 : Int) (n0_4 : Int) (s0_5 : Option SlD) (n0_6 : Int) (p1_ q1_ : Nat) : bodyK T (hs 38) Try.f38 [.ag [.i .u32 n0_0, .i .u16 n0_1, .i .u32 n0_2, .i .u16 n0_3, .i .u16 n0_4, .sl s0_5, .i .u64 n0_6], .sc (.p (some (p1_, q1_)))] = t38 n0_0 n0_1 n0_2 n0_3 n0_4 s0_5 n0_6 p1_ q1_ := by kernel_rfl
/-- scuttlebutt/rule.Passes -/
def t39 (n0_0 : Int) (n0_1 : Int) (s1_ : Option SlD) (n2_0 : Int) (n2_1 : Int) : Tree :=
  .al [(.i .i64 n0_0), (.i .i64 n0_1)] fun a0 =>
  .al [(.i .u32 n2_0), (.i .u16 n2_1)] fun a1 =>
  .ld a0 (0 + 1) 1 fun l2 =>
  .nth l2 0 fun v3 =>
  .asI .i64 (.sc v3) fun n4 =>
  cond (n4 == (0 : Int))
    (.ret 0 [(.sc (.b .true))])
    (cond (n4 == (1 : Int))
      (.call 62 [(.sc (.sl s1_)), (.sc (.fn 63 [] [(a1, 0)]))] fun v5 =>
      .asB v5 fun b6 =>
      .ret 0 [(.sc (.b b6))])
      (cond (n4 == (2 : Int))
        (.ld a1 0 2 fun l7 =>
        .nth l7 0 fun v8 =>
        .asI .u32 (.sc v8) fun n9 =>
        .nth l7 1 fun v10 =>
        .asI .u16 (.sc v10) fun n11 =>
        .call 35 [(.sc (.sl s1_)), (.ag [(.i .u32 n9), (.i .u16 n11)])] fun v12 =>
        .asB v12 fun b13 =>
        .ret 0 [(.sc (.b b13))])
        (.ret 0 [(.sc (.b .false))])))
theorem t39_eq (n0_0 : Int) (n0_1 : Int) (s1_ : Option SlD) (n2_0 : Int) (n2_1 : Int) : bodyK T (hs 39) Try.f39 [.ag [.i .i64 n0_0, .i .i64 n0_1], .sc (.sl s1_), .ag [.i .u32 n2_0, .i .u16 n2_1]] = t39 n0_0 n0_1 s1_ n2_0 n2_1 := by kernel_rfl
/-- slices.Clone[[]scuttlebutt/natbox.Bind,scuttlebutt/natbox.Bind] -/
def t40 (s0_ : Option SlD) : Tree :=
  cond (Option.isNone s0_)
    (.ret 0 [(.sc (.sl .none))])
    (.al (zeros [(.i .u32 (0 : Int)), (.i .u16 (0 : Int)), (.i .u32 (0 : Int)), (.i .u16 (0 : Int)), (.i .u16 (0 : Int)), (.sl .none), (.i .u64 (0 : Int))] 0) fun a0 =>
    .lds 7 s0_ (slN s0_) fun l1 =>
    .app 7 56 (.some (.mk a0 0 0 0 7)) l1 (slN s0_) fun o2 =>
    .ret 0 [(.sc (.sl o2))])
theorem t40_eq (s0_ : Option SlD) : bodyK T (hs 40) Try.f40 [.sc (.sl s0_)] = t40 s0_ := by kernel_rfl
/-- (*scuttlebutt/natbox.Box).Binds$1 -/
def t42 (n0_0 : Int) (n0_1 : Int) (n0_2 : Int) (n0_3 : Int) (n0_4 : Int) (s0_5 : Option SlD) (n0_6 : Int) (n1_0 : Int) (n1_1 : Int) (n1_2 : Int) (n1_3 : Int) (n1_4 : Int) (s1_5 : Option SlD) (n1_6 : Int) : Tree :=
  .al [(.i .u32 n0_0), (.i .u16 n0_1), (.i .u32 n0_2), (.i .u16 n0_3), (.i .u16 n0_4), (.sl s0_5), (.i .u64 n0_6)] fun a0 =>
  .al [(.i .u32 n1_0), (.i .u16 n1_1), (.i .u32 n1_2), (.i .u16 n1_3), (.i .u16 n1_4), (.sl s1_5), (.i .u64 n1_6)] fun a1 =>
  .ld a0 (0 + 4) 1 fun l2 =>
  .nth l2 0 fun v3 =>
  .asI .u16 (.sc v3) fun n4 =>
  .ld a1 (0 + 4) 1 fun l5 =>
  .nth l5 0 fun v6 =>
  .asI .u16 (.sc v6) fun n7 =>
  .call 43 [(.sc (.i .u16 n4)), (.sc (.i .u16 n7))] fun v8 =>
  .asI .i64 v8 fun n9 =>
  .ret 0 [(.sc (.i .i64 n9))]
theorem t42_eq (n0_0 : Int) (n0_1 : Int) (n0_2 : Int) (n0_3 : Int) (n0_4 : Int) (s0_5 : Option SlD) (n0_6 : Int) (n1_0 : Int) (n1_1 : Int) (n1_2 : Int) (n1_3 : Int) (n1_4 : Int) (s1_5 : Option SlD) (n1_6 : Int) : bodyK T (hs 42) Try.f42 [.ag [.i .u32 n0_0, .i .u16 n0_1, .i .u32 n0_2, .i .u16 n0_3, .i .u16 n0_4, .sl s0_5, .i .u64 n0_6], .ag [.i .u32 n1_0, .i .u16 n1_1, .i .u32 n1_2, .i .u16 n1_3, .i .u16 n1_4, .sl s1_5, .i .u64 n1_6]] = t42 n0_0 n0_1 n0_2 n0_3 n0_4 s0_5 n0_6 n1_0 n1_1 n1_2 n1_3 n1_4 s1_5 n1_6 := by kernel_rfl
/-- cmp.Compare[uint16] -/
def t43 (n0_ : Int) (n1_ : Int) : Tree :=
  .call 66 [(.sc (.i .u16 n0_))] fun v0 =>
  .asB v0 fun b1 =>
  .call 66 [(.sc (.i .u16 n1_))] fun v2 =>
  .asB v2 fun b3 =>
  cond b1
    (cond b3
      (.ret 0 [(.sc (.i .i64 (0 : Int)))])
      (.ret 0 [(.sc (.i .i64 (-1 : Int)))]))
    (cond b3
      (.ret 0 [(.sc (.i .i64 (1 : Int)))])
      (cond (decide (n0_ < n1_))
        (.ret 0 [(.sc (.i .i64 (-1 : Int)))])
        (cond (decide (n0_ > n1_))
          (.ret 0 [(.sc (.i .i64 (1 : Int)))])
          (.ret 0 [(.sc (.i .i64 (0 : Int)))]))))
theorem t43_eq (n0_ : Int) (n1_ : Int) : bodyK T (hs 43) Try.f43 [.sc (.i .u16 n0_), .sc (.i .u16 n1_)] = t43 n0_ n1_ := by kernel_rfl
/-- (*scuttlebutt/natbox.Box).Sweep$1 -/
def t45 (n0_0 : Int) (n0_1 : Int) (n0_2 : Int) (n0_3 : Int) (n0_4 : Int) (s0_5 : Option SlD) (n0_6 : Int) (p1_ q1_ : Nat) : Tree :=
  .al [(.i .u32 n0_0), (.i .u16 n0_1), (.i .u32 n0_2), (.i .u16 n0_3), (.i .u16 n0_4), (.sl s0_5), (.i .u64 n0_6)] fun a0 =>
  .ld p1_ q1_ 1 fun l1 =>
  .nth l1 0 fun v2 =>
  .asI .u64 (.sc v2) fun n3 =>
  .ld a0 (0 + 6) 1 fun l4 =>
  .nth l4 0 fun v5 =>
  .asI .u64 (.sc v5) fun n6 =>
  .ret 0 [(.sc (.b (decide (n3 ≥ n6))))]
theorem t45_eq (n0_0 : Int) (n0_1 : Int) (n0_2 : Int) (n0_3 : Int) (n0_4 : Int) (s0_5 : Option SlD) (n0_6 : Int) (p1_ q1_ : Nat) : bodyK T (hs 45) Try.f45 [.ag [.i .u32 n0_0, .i .u16 n0_1, .i .u32 n0_2, .i .u16 n0_3, .i .u16 n0_4, .sl s0_5, .i .u64 n0_6], .sc (.p (some (p1_, q1_)))] = t45 n0_0 n0_1 n0_2 n0_3 n0_4 s0_5 n0_6 p1_ q1_ := by kernel_rfl
/-- (*scuttlebutt/natbox.Box).Type -/
def t51 (p0_ q0_ : Nat) : Tree :=
  .al [(.i .i64 (0 : Int)), (.i .i64 (0 : Int))] fun a0 =>
  .nn (.some (p0_, q0_)) fun a1 a2 =>
  .ld a1 (a2 + 0) 2 fun l3 =>
  .nth l3 0 fun v4 =>
  .asI .i64 (.sc v4) fun n5 =>
  .nth l3 1 fun v6 =>
  .asI .i64 (.sc v6) fun n7 =>
  .st a0 0 [(.i .i64 n5), (.i .i64 n7)] (
  .ld a0 0 2 fun l8 =>
  .nth l8 0 fun v9 =>
  .asI .i64 (.sc v9) fun n10 =>
  .nth l8 1 fun v11 =>
  .asI .i64 (.sc v11) fun n12 =>
  .ret 0 [(.ag [(.i .i64 n10), (.i .i64 n12)])])
theorem t51_eq (p0_ q0_ : Nat) : bodyK T (hs 51) Try.f51 [.sc (.p (some (p0_, q0_)))] = t51 p0_ q0_ := by kernel_rfl
/-- scuttlebutt/rule.answered -/
def t52 (n0_0 : Int) (n0_1 : Int) (n1_0 : Int) (n1_1 : Int) : Tree :=
  .al [(.i .i64 n0_0), (.i .i64 n0_1)] fun a0 =>
  .al [(.i .i64 n1_0), (.i .i64 n1_1)] fun a1 =>
  .ld a0 0 2 fun l2 =>
  .nth l2 0 fun v3 =>
  .asI .i64 (.sc v3) fun n4 =>
  .nth l2 1 fun v5 =>
  .asI .i64 (.sc v5) fun n6 =>
  .ld a1 0 2 fun l7 =>
  .nth l7 0 fun v8 =>
  .asI .i64 (.sc v8) fun n9 =>
  .nth l7 1 fun v10 =>
  .asI .i64 (.sc v10) fun n11 =>
  .call 30 [(.ag [(.i .i64 n4), (.i .i64 n6)]), (.ag [(.i .i64 n9), (.i .i64 n11)])] fun v12 =>
  .asB v12 fun b13 =>
  cond b13
    (.ld a1 (0 + 0) 1 fun l14 =>
    .nth l14 0 fun v15 =>
    .asI .i64 (.sc v15) fun n16 =>
    cond (n16 == (0 : Int))
      (.ret 0 [(.sc (.b .true))])
      (.ld a0 (0 + 1) 1 fun l17 =>
      .nth l17 0 fun v18 =>
      .asI .i64 (.sc v18) fun n19 =>
      .ret 0 [(.sc (.b (n19 != (2 : Int))))]))
    (.ret 0 [(.sc (.b .false))])
theorem t52_eq (n0_0 : Int) (n0_1 : Int) (n1_0 : Int) (n1_1 : Int) : bodyK T (hs 52) Try.f52 [.ag [.i .i64 n0_0, .i .i64 n0_1], .ag [.i .i64 n1_0, .i .i64 n1_1]] = t52 n0_0 n0_1 n1_0 n1_1 := by kernel_rfl
/-- scuttlebutt/rule.kind -/
def t53 (n0_ : Int) : Tree :=
  cond (decide (n0_ ≥ (0 : Int)))
    (.ret 0 [(.sc (.b (decide (n0_ < (3 : Int)))))])
    (.ret 0 [(.sc (.b .false))])
theorem t53_eq (n0_ : Int) : bodyK T (hs 53) Try.f53 [.sc (.i .i64 n0_)] = t53 n0_ := by kernel_rfl
/-- (*scuttlebutt/natbox.Box).bind$1 -/
def t54 (n0_0 : Int) (n0_1 : Int) (n0_2 : Int) (n0_3 : Int) (n0_4 : Int) (s0_5 : Option SlD) (n0_6 : Int) (p1_ q1_ : Nat) (p2_ q2_ : Nat) : Tree :=
  .al [(.i .u32 n0_0), (.i .u16 n0_1), (.i .u32 n0_2), (.i .u16 n0_3), (.i .u16 n0_4), (.sl s0_5), (.i .u64 n0_6)] fun a0 =>
  .ld a0 (0 + 0) 2 fun l1 =>
  .nth l1 0 fun v2 =>
  .asI .u32 (.sc v2) fun n3 =>
  .nth l1 1 fun v4 =>
  .asI .u16 (.sc v4) fun n5 =>
  .ld p1_ q1_ 2 fun l6 =>
  .nth l6 0 fun v7 =>
  .asI .u32 (.sc v7) fun n8 =>
  .nth l6 1 fun v9 =>
  .asI .u16 (.sc v9) fun n10 =>
  cond ((n3 == n8) && ((n5 == n10) && .true))
    (.ld a0 (0 + 2) 2 fun l11 =>
    .nth l11 0 fun v12 =>
    .asI .u32 (.sc v12) fun n13 =>
    .nth l11 1 fun v14 =>
    .asI .u16 (.sc v14) fun n15 =>
    .ld p2_ q2_ 2 fun l16 =>
    .nth l16 0 fun v17 =>
    .asI .u32 (.sc v17) fun n18 =>
    .nth l16 1 fun v19 =>
    .asI .u16 (.sc v19) fun n20 =>
    .ret 0 [(.sc (.b ((n13 == n18) && ((n15 == n20) && .true))))])
    (.ret 0 [(.sc (.b .false))])
theorem t54_eq (n0_0 : Int) (n0_1 : Int) (n0_2 : Int) (n0_3 : Int) (n0_4 : Int) (s0_5 : Option SlD) (n0_6 : Int) (p1_ q1_ : Nat) (p2_ q2_ : Nat) : bodyK T (hs 54) Try.f54 [.ag [.i .u32 n0_0, .i .u16 n0_1, .i .u32 n0_2, .i .u16 n0_3, .i .u16 n0_4, .sl s0_5, .i .u64 n0_6], .sc (.p (some (p1_, q1_))), .sc (.p (some (p2_, q2_)))] = t54 n0_0 n0_1 n0_2 n0_3 n0_4 s0_5 n0_6 p1_ q1_ p2_ q2_ := by kernel_rfl
def t55_b28  : List AV → Tree := fun l29 =>
  .asL (l29.getD 0 .un) fun o30 =>
  .asX (l29.getD 1 .un) fun v31 =>
  .asP (l29.getD 2 .un) fun o32 =>
  .nn o32 fun a33 a34 =>
  .asP (l29.getD 3 .un) fun o35 =>
  .nn o35 fun a36 a37 =>
  .asI .i64 (l29.getD 4 .un) fun n38 =>
  cond (decide (n38 < (slLen o30)))
    (.ixS 7 o30 n38 fun a39 a40 a41 =>
    .ld a39 (a40 + (a41 * 7)) 7 fun l42 =>
    .nth l42 0 fun v43 =>
    .asI .u32 (.sc v43) fun n44 =>
    .nth l42 1 fun v45 =>
    .asI .u16 (.sc v45) fun n46 =>
    .nth l42 2 fun v47 =>
    .asI .u32 (.sc v47) fun n48 =>
    .nth l42 3 fun v49 =>
    .asI .u16 (.sc v49) fun n50 =>
    .nth l42 4 fun v51 =>
    .asI .u16 (.sc v51) fun n52 =>
    .nth l42 5 fun v53 =>
    .asL (.sc v53) fun o54 =>
    .nth l42 6 fun v55 =>
    .asI .u64 (.sc v55) fun n56 =>
    .ld a36 a37 7 fun l57 =>
    .nth l57 0 fun v58 =>
    .asI .u32 (.sc v58) fun n59 =>
    .nth l57 1 fun v60 =>
    .asI .u16 (.sc v60) fun n61 =>
    .nth l57 2 fun v62 =>
    .asI .u32 (.sc v62) fun n63 =>
    .nth l57 3 fun v64 =>
    .asI .u16 (.sc v64) fun n65 =>
    .nth l57 4 fun v66 =>
    .asI .u16 (.sc v66) fun n67 =>
    .nth l57 5 fun v68 =>
    .asL (.sc v68) fun o69 =>
    .nth l57 6 fun v70 =>
    .asI .u64 (.sc v70) fun n71 =>
    .callv (.sc v31) [(.ag [(.i .u32 n44), (.i .u16 n46), (.i .u32 n48), (.i .u16 n50), (.i .u16 n52), (.sl o54), (.i .u64 n56)]), (.ag [(.i .u32 n59), (.i .u16 n61), (.i .u32 n63), (.i .u16 n65), (.i .u16 n67), (.sl o69), (.i .u64 n71)])] fun v72 =>
    .asI .i64 v72 fun n73 =>
    cond (decide (n73 < (0 : Int)))
      (.ixS 7 o30 n38 fun a74 a75 a76 =>
      .ld a74 (a75 + (a76 * 7)) 7 fun l77 =>
      .nth l77 0 fun v78 =>
      .asI .u32 (.sc v78) fun n79 =>
      .nth l77 1 fun v80 =>
      .asI .u16 (.sc v80) fun n81 =>
      .nth l77 2 fun v82 =>
      .asI .u32 (.sc v82) fun n83 =>
      .nth l77 3 fun v84 =>
      .asI .u16 (.sc v84) fun n85 =>
      .nth l77 4 fun v86 =>
      .asI .u16 (.sc v86) fun n87 =>
      .nth l77 5 fun v88 =>
      .asL (.sc v88) fun o89 =>
      .nth l77 6 fun v90 =>
      .asI .u64 (.sc v90) fun n91 =>
      .st a36 a37 [(.i .u32 n79), (.i .u16 n81), (.i .u32 n83), (.i .u16 n85), (.i .u16 n87), (.sl o89), (.i .u64 n91)] (
      .ret 0 [(.sc (.sl o30)), (.sc v31), (.sc (.p (.some (a33, a34)))), (.sc (.p (.some (a36, a37)))), (.sc (.i .i64 (IntKind.wrap .i64 (n38 + (1 : Int)))))]))
      (.ret 0 [(.sc (.sl o30)), (.sc v31), (.sc (.p (.some (a33, a34)))), (.sc (.p (.some (a36, a37)))), (.sc (.i .i64 (IntKind.wrap .i64 (n38 + (1 : Int)))))]))
    (.ret 2 [(.sc (.p (.some (a33, a34)))), (.sc (.p (.some (a36, a37))))])
def t55_k28  : Nat → List AV → Tree := fun a92 l93 =>
  .tg a92 2
    (.asP (l93.getD 0 .un) fun o94 =>
    .nn o94 fun a95 a96 =>
    .asP (l93.getD 1 .un) fun o97 =>
    .nn o97 fun a98 a99 =>
    .ld a98 a99 7 fun l100 =>
    .nth l100 0 fun v101 =>
    .asI .u32 (.sc v101) fun n102 =>
    .nth l100 1 fun v103 =>
    .asI .u16 (.sc v103) fun n104 =>
    .nth l100 2 fun v105 =>
    .asI .u32 (.sc v105) fun n106 =>
    .nth l100 3 fun v107 =>
    .asI .u16 (.sc v107) fun n108 =>
    .nth l100 4 fun v109 =>
    .asI .u16 (.sc v109) fun n110 =>
    .nth l100 5 fun v111 =>
    .asL (.sc v111) fun o112 =>
    .nth l100 6 fun v113 =>
    .asI .u64 (.sc v113) fun n114 =>
    .st a95 a96 [(.i .u32 n102), (.i .u16 n104), (.i .u32 n106), (.i .u16 n108), (.i .u16 n110), (.sl o112), (.i .u64 n114)] (
    .ld a95 a96 7 fun l115 =>
    .nth l115 0 fun v116 =>
    .asI .u32 (.sc v116) fun n117 =>
    .nth l115 1 fun v118 =>
    .asI .u16 (.sc v118) fun n119 =>
    .nth l115 2 fun v120 =>
    .asI .u32 (.sc v120) fun n121 =>
    .nth l115 3 fun v122 =>
    .asI .u16 (.sc v122) fun n123 =>
    .nth l115 4 fun v124 =>
    .asI .u16 (.sc v124) fun n125 =>
    .nth l115 5 fun v126 =>
    .asL (.sc v126) fun o127 =>
    .nth l115 6 fun v128 =>
    .asI .u64 (.sc v128) fun n129 =>
    .ret 0 [(.ag [(.i .u32 n117), (.i .u16 n119), (.i .u32 n121), (.i .u16 n123), (.i .u16 n125), (.sl o127), (.i .u64 n129)])]))
    (.fail)
def t55_k1  : Nat → List AV → Tree := fun a2 l3 =>
  .tg a2 0
    (.asL (l3.getD 0 .un) fun o4 =>
    .asX (l3.getD 1 .un) fun v5 =>
    .asP (l3.getD 2 .un) fun o6 =>
    .nn o6 fun a7 a8 =>
    .ixS 7 o4 (0 : Int) fun a9 a10 a11 =>
    .ld a9 (a10 + (a11 * 7)) 7 fun l12 =>
    .nth l12 0 fun v13 =>
    .asI .u32 (.sc v13) fun n14 =>
    .nth l12 1 fun v15 =>
    .asI .u16 (.sc v15) fun n16 =>
    .nth l12 2 fun v17 =>
    .asI .u32 (.sc v17) fun n18 =>
    .nth l12 3 fun v19 =>
    .asI .u16 (.sc v19) fun n20 =>
    .nth l12 4 fun v21 =>
    .asI .u16 (.sc v21) fun n22 =>
    .nth l12 5 fun v23 =>
    .asL (.sc v23) fun o24 =>
    .nth l12 6 fun v25 =>
    .asI .u64 (.sc v25) fun n26 =>
    .al [(.i .u32 (0 : Int)), (.i .u16 (0 : Int)), (.i .u32 (0 : Int)), (.i .u16 (0 : Int)), (.i .u16 (0 : Int)), (.sl .none), (.i .u64 (0 : Int))] fun a27 =>
    .st a27 0 [(.i .u32 n14), (.i .u16 n16), (.i .u32 n18), (.i .u16 n20), (.i .u16 n22), (.sl o24), (.i .u64 n26)] (
    .loop t55_b28 [(.sc (.sl o4)), (.sc v5), (.sc (.p (.some (a7, a8)))), (.sc (.p (.some (a27, 0)))), (.sc (.i .i64 (1 : Int)))] t55_k28))
    (.fail)
/-- slices.MinFunc[[]scuttlebutt/natbox.Bind,scuttlebutt/natbox.Bind] -/
def t55 (s0_ : Option SlD) (g1_ : FuncId) (f1_ c1_ : List (Nat × Nat)) : Tree :=
  .al [(.i .u32 (0 : Int)), (.i .u16 (0 : Int)), (.i .u32 (0 : Int)), (.i .u16 (0 : Int)), (.i .u16 (0 : Int)), (.sl .none), (.i .u64 (0 : Int))] fun a0 =>
  .join (
    cond (decide ((slLen s0_) < (1 : Int)))
      (.fail)
      (.ret 0 [(.sc (.sl s0_)), (.sc (.fn g1_ f1_ c1_)), (.sc (.p (.some (a0, 0))))])) t55_k1
theorem t55_eq (s0_ : Option SlD) (g1_ : FuncId) (f1_ c1_ : List (Nat × Nat)) : bodyK T (hs 55) Try.f55 [.sc (.sl s0_), .sc (.fn g1_ f1_ c1_)] = t55 s0_ g1_ f1_ c1_ := by kernel_rfl
/-- (*scuttlebutt/natbox.Box).bind$2 -/
def t56 (n0_0 : Int) (n0_1 : Int) (n0_2 : Int) (n0_3 : Int) (n0_4 : Int) (s0_5 : Option SlD) (n0_6 : Int) (n1_0 : Int) (n1_1 : Int) (n1_2 : Int) (n1_3 : Int) (n1_4 : Int) (s1_5 : Option SlD) (n1_6 : Int) : Tree :=
  .al [(.i .u32 n0_0), (.i .u16 n0_1), (.i .u32 n0_2), (.i .u16 n0_3), (.i .u16 n0_4), (.sl s0_5), (.i .u64 n0_6)] fun a0 =>
  .al [(.i .u32 n1_0), (.i .u16 n1_1), (.i .u32 n1_2), (.i .u16 n1_3), (.i .u16 n1_4), (.sl s1_5), (.i .u64 n1_6)] fun a1 =>
  .ld a0 (0 + 6) 1 fun l2 =>
  .nth l2 0 fun v3 =>
  .asI .u64 (.sc v3) fun n4 =>
  .ld a1 (0 + 6) 1 fun l5 =>
  .nth l5 0 fun v6 =>
  .asI .u64 (.sc v6) fun n7 =>
  .ld a0 (0 + 4) 1 fun l8 =>
  .nth l8 0 fun v9 =>
  .asI .u16 (.sc v9) fun n10 =>
  .ld a1 (0 + 4) 1 fun l11 =>
  .nth l11 0 fun v12 =>
  .asI .u16 (.sc v12) fun n13 =>
  .call 58 [(.sc (.i .u64 n4)), (.sc (.i .u64 n7))] fun v14 =>
  .asI .i64 v14 fun n15 =>
  .same a1 (0 + 4) [(.i .u16 n13)] (
  .same a0 (0 + 4) [(.i .u16 n10)] (
  .call 43 [(.sc (.i .u16 n10)), (.sc (.i .u16 n13))] fun v16 =>
  .asI .i64 v16 fun n17 =>
  .al [(.i .i64 n15), (.i .i64 n17)] fun a18 =>
  .call 57 [(.sc (.sl (.some (.mk a18 0 2 2 1))))] fun v19 =>
  .asI .i64 v19 fun n20 =>
  .ret 0 [(.sc (.i .i64 n20))]))
theorem t56_eq (n0_0 : Int) (n0_1 : Int) (n0_2 : Int) (n0_3 : Int) (n0_4 : Int) (s0_5 : Option SlD) (n0_6 : Int) (n1_0 : Int) (n1_1 : Int) (n1_2 : Int) (n1_3 : Int) (n1_4 : Int) (s1_5 : Option SlD) (n1_6 : Int) : bodyK T (hs 56) Try.f56 [.ag [.i .u32 n0_0, .i .u16 n0_1, .i .u32 n0_2, .i .u16 n0_3, .i .u16 n0_4, .sl s0_5, .i .u64 n0_6], .ag [.i .u32 n1_0, .i .u16 n1_1, .i .u32 n1_2, .i .u16 n1_3, .i .u16 n1_4, .sl s1_5, .i .u64 n1_6]] = t56 n0_0 n0_1 n0_2 n0_3 n0_4 s0_5 n0_6 n1_0 n1_1 n1_2 n1_3 n1_4 s1_5 n1_6 := by kernel_rfl
/-- cmp.Compare[uint64] -/
def t58 (n0_ : Int) (n1_ : Int) : Tree :=
  .call 68 [(.sc (.i .u64 n0_))] fun v0 =>
  .asB v0 fun b1 =>
  .call 68 [(.sc (.i .u64 n1_))] fun v2 =>
  .asB v2 fun b3 =>
  cond b1
    (cond b3
      (.ret 0 [(.sc (.i .i64 (0 : Int)))])
      (.ret 0 [(.sc (.i .i64 (-1 : Int)))]))
    (cond b3
      (.ret 0 [(.sc (.i .i64 (1 : Int)))])
      (cond (decide (n0_ < n1_))
        (.ret 0 [(.sc (.i .i64 (-1 : Int)))])
        (cond (decide (n0_ > n1_))
          (.ret 0 [(.sc (.i .i64 (1 : Int)))])
          (.ret 0 [(.sc (.i .i64 (0 : Int)))]))))
theorem t58_eq (n0_ : Int) (n1_ : Int) : bodyK T (hs 58) Try.f58 [.sc (.i .u64 n0_), .sc (.i .u64 n1_)] = t58 n0_ n1_ := by kernel_rfl
/-- (*scuttlebutt/natbox.Box).bind$3 -/
def t59 (n0_0 : Int) (n0_1 : Int) (n0_2 : Int) (n0_3 : Int) (n0_4 : Int) (s0_5 : Option SlD) (n0_6 : Int) (p1_ q1_ : Nat) : Tree :=
  .al [(.i .u32 n0_0), (.i .u16 n0_1), (.i .u32 n0_2), (.i .u16 n0_3), (.i .u16 n0_4), (.sl s0_5), (.i .u64 n0_6)] fun a0 =>
  .ld a0 (0 + 4) 1 fun l1 =>
  .nth l1 0 fun v2 =>
  .asI .u16 (.sc v2) fun n3 =>
  .ld p1_ (q1_ + 4) 1 fun l4 =>
  .nth l4 0 fun v5 =>
  .asI .u16 (.sc v5) fun n6 =>
  .ret 0 [(.sc (.b (n3 == n6)))]
theorem t59_eq (n0_0 : Int) (n0_1 : Int) (n0_2 : Int) (n0_3 : Int) (n0_4 : Int) (s0_5 : Option SlD) (n0_6 : Int) (p1_ q1_ : Nat) : bodyK T (hs 59) Try.f59 [.ag [.i .u32 n0_0, .i .u16 n0_1, .i .u32 n0_2, .i .u16 n0_3, .i .u16 n0_4, .sl s0_5, .i .u64 n0_6], .sc (.p (some (p1_, q1_)))] = t59 n0_0 n0_1 n0_2 n0_3 n0_4 s0_5 n0_6 p1_ q1_ := by kernel_rfl
def t60_b13  : List AV → Tree := fun l14 =>
  .asP (l14.getD 0 .un) fun o15 =>
  .asI .u16 (l14.getD 1 .un) fun n16 =>
  .asL (l14.getD 2 .un) fun o17 =>
  .asI .i64 (l14.getD 3 .un) fun n18 =>
  .asI .i64 (l14.getD 4 .un) fun n19 =>
  cond (decide (n19 < n18))
    (.ixS 7 o17 n19 fun a20 a21 a22 =>
    .ld a20 (a21 + (a22 * 7)) 7 fun l23 =>
    .nth l23 0 fun v24 =>
    .asI .u32 (.sc v24) fun n25 =>
    .nth l23 1 fun v26 =>
    .asI .u16 (.sc v26) fun n27 =>
    .nth l23 2 fun v28 =>
    .asI .u32 (.sc v28) fun n29 =>
    .nth l23 3 fun v30 =>
    .asI .u16 (.sc v30) fun n31 =>
    .nth l23 4 fun v32 =>
    .asI .u16 (.sc v32) fun n33 =>
    .nth l23 5 fun v34 =>
    .asL (.sc v34) fun o35 =>
    .nth l23 6 fun v36 =>
    .asI .u64 (.sc v36) fun n37 =>
    .al [(.i .u32 (0 : Int)), (.i .u16 (0 : Int)), (.i .u32 (0 : Int)), (.i .u16 (0 : Int)), (.i .u16 (0 : Int)), (.sl .none), (.i .u64 (0 : Int))] fun a38 =>
    .st a38 0 [(.i .u32 n25), (.i .u16 n27), (.i .u32 n29), (.i .u16 n31), (.i .u16 n33), (.sl o35), (.i .u64 n37)] (
    .ld a38 (0 + 4) 1 fun l39 =>
    .nth l39 0 fun v40 =>
    .asI .u16 (.sc v40) fun n41 =>
    cond (n41 == n16)
      (.ret 3 [(.sc (.p o15)), (.sc (.i .u16 (IntKind.wrap .u16 (n16 + (1 : Int)))))])
      (.ret 0 [(.sc (.p o15)), (.sc (.i .u16 n16)), (.sc (.sl o17)), (.sc (.i .i64 n18)), (.sc (.i .i64 (IntKind.wrap .i64 (n19 + (1 : Int)))))])))
    (.ret 2 [(.sc (.i .u16 n16))])
def t60_k13  : Nat → List AV → Tree := fun a42 l43 =>
  .tg a42 2
    (.asI .u16 (l43.getD 0 .un) fun n44 =>
    .ret 2 [(.sc (.i .u16 n44))])
    (.tg a42 3
      (.asP (l43.getD 0 .un) fun o45 =>
      .asI .u16 (l43.getD 1 .un) fun n46 =>
      .ret 0 [(.sc (.i .i64 (0 : Int))), (.sc (.p o45)), (.sc (.i .u16 n46))])
      (.fail))
def t60_b3  : List AV → Tree := fun l4 =>
  .asI .i64 (l4.getD 0 .un) fun n5 =>
  .br (n5 == (0 : Int))
    (.asP (l4.getD 1 .un) fun o6 =>
    .asI .u16 (l4.getD 2 .un) fun n7 =>
    .nn o6 fun a8 a9 =>
    .ld a8 (a9 + 5) 1 fun l10 =>
    .nth l10 0 fun v11 =>
    .asL (.sc v11) fun o12 =>
    .loop t60_b13 [(.sc (.p o6)), (.sc (.i .u16 n7)), (.sc (.sl o12)), (.sc (.i .i64 (slLen o12))), (.sc (.i .i64 (0 : Int)))] t60_k13)
    (.fail)
def t60_k3  : Nat → List AV → Tree := fun a47 l48 =>
  .tg a47 2
    (.asI .u16 (l48.getD 0 .un) fun n49 =>
    .ret 0 [(.sc (.i .u16 n49))])
    (.fail)
def t60_k0  : Nat → List AV → Tree := fun a1 l2 =>
  .tg a1 3
    (.loop t60_b3 ((.sc (.i .i64 (0 : Int))) :: l2) t60_k3)
    (.tg a1 1
      (.asI .u16 (l2.getD 0 .un) fun n50 =>
      .ret 0 [(.sc (.i .u16 n50))])
      (.fail))
/-- (*scuttlebutt/natbox.Box).free -/
def t60 (p0_ q0_ : Nat) : Tree :=
  .join (
    .ret 3 [(.sc (.p (.some (p0_, q0_)))), (.sc (.i .u16 (20000 : Int)))]) t60_k0
theorem t60_eq (p0_ q0_ : Nat) : bodyK T (hs 60) Try.f60 [.sc (.p (some (p0_, q0_)))] = t60 p0_ q0_ := by kernel_rfl
def t61_b1  : List AV → Tree := fun l2 =>
  .asL (l2.getD 0 .un) fun o3 =>
  .asP (l2.getD 1 .un) fun o4 =>
  .nn o4 fun a5 a6 =>
  .asI .i64 (l2.getD 2 .un) fun n7 =>
  .asI .i64 (l2.getD 3 .un) fun n8 =>
  cond (decide (n8 < n7))
    (.ld a5 a6 2 fun l9 =>
    .nth l9 0 fun v10 =>
    .asI .u32 (.sc v10) fun n11 =>
    .nth l9 1 fun v12 =>
    .asI .u16 (.sc v12) fun n13 =>
    .ixS 2 o3 n8 fun a14 a15 a16 =>
    .ld a14 (a15 + (a16 * 2)) 2 fun l17 =>
    .nth l17 0 fun v18 =>
    .asI .u32 (.sc v18) fun n19 =>
    .nth l17 1 fun v20 =>
    .asI .u16 (.sc v20) fun n21 =>
    cond ((n11 == n19) && ((n13 == n21) && .true))
      (.ret 1 [(.sc (.i .i64 n8))])
      (.ret 0 [(.sc (.sl o3)), (.sc (.p (.some (a5, a6)))), (.sc (.i .i64 n7)), (.sc (.i .i64 (IntKind.wrap .i64 (n8 + (1 : Int)))))]))
    (.ret 2 [])
def t61_k1  : Nat → List AV → Tree := fun a22 l23 =>
  .tg a22 2
    (.ret 0 [(.sc (.i .i64 (-1 : Int)))])
    (.tg a22 1
      (.asI .i64 (l23.getD 0 .un) fun n24 =>
      .ret 0 [(.sc (.i .i64 n24))])
      (.fail))
/-- slices.Index[[]scuttlebutt/addr.Addr,scuttlebutt/addr.Addr] -/
def t61 (s0_ : Option SlD) (n1_0 : Int) (n1_1 : Int) : Tree :=
  .al [(.i .u32 n1_0), (.i .u16 n1_1)] fun a0 =>
  .loop t61_b1 [(.sc (.sl s0_)), (.sc (.p (.some (a0, 0)))), (.sc (.i .i64 (slLen s0_))), (.sc (.i .i64 (0 : Int)))] t61_k1
theorem t61_eq (s0_ : Option SlD) (n1_0 : Int) (n1_1 : Int) : bodyK T (hs 61) Try.f61 [.sc (.sl s0_), .ag [.i .u32 n1_0, .i .u16 n1_1]] = t61 s0_ n1_0 n1_1 := by kernel_rfl
/-- slices.ContainsFunc[[]scuttlebutt/addr.Addr,scuttlebutt/addr.Addr] -/
def t62 (s0_ : Option SlD) (g1_ : FuncId) (f1_ c1_ : List (Nat × Nat)) : Tree :=
  .call 69 [(.sc (.sl s0_)), (.sc (.fn g1_ f1_ c1_))] fun v0 =>
  .asI .i64 v0 fun n1 =>
  .ret 0 [(.sc (.b (decide (n1 ≥ (0 : Int)))))]
theorem t62_eq (s0_ : Option SlD) (g1_ : FuncId) (f1_ c1_ : List (Nat × Nat)) : bodyK T (hs 62) Try.f62 [.sc (.sl s0_), .sc (.fn g1_ f1_ c1_)] = t62 s0_ g1_ f1_ c1_ := by kernel_rfl
/-- scuttlebutt/rule.Passes$1 -/
def t63 (n0_0 : Int) (n0_1 : Int) (p1_ q1_ : Nat) : Tree :=
  .al [(.i .u32 n0_0), (.i .u16 n0_1)] fun a0 =>
  .ld a0 (0 + 0) 1 fun l1 =>
  .nth l1 0 fun v2 =>
  .asI .u32 (.sc v2) fun n3 =>
  .ld p1_ (q1_ + 0) 1 fun l4 =>
  .nth l4 0 fun v5 =>
  .asI .u32 (.sc v5) fun n6 =>
  .ret 0 [(.sc (.b (n3 == n6)))]
theorem t63_eq (n0_0 : Int) (n0_1 : Int) (p1_ q1_ : Nat) : bodyK T (hs 63) Try.f63 [.ag [.i .u32 n0_0, .i .u16 n0_1], .sc (.p (some (p1_, q1_)))] = t63 n0_0 n0_1 p1_ q1_ := by kernel_rfl
/-- cmp.isNaN[uint16] -/
def t66 (n0_ : Int) : Tree :=
  .ret 0 [(.sc (.b (n0_ != n0_)))]
theorem t66_eq (n0_ : Int) : bodyK T (hs 66) Try.f66 [.sc (.i .u16 n0_)] = t66 n0_ := by kernel_rfl
/-- cmp.isNaN[uint64] -/
def t68 (n0_ : Int) : Tree :=
  .ret 0 [(.sc (.b (n0_ != n0_)))]
theorem t68_eq (n0_ : Int) : bodyK T (hs 68) Try.f68 [.sc (.i .u64 n0_)] = t68 n0_ := by kernel_rfl
def t69_b0  : List AV → Tree := fun l1 =>
  .asL (l1.getD 0 .un) fun o2 =>
  .asX (l1.getD 1 .un) fun v3 =>
  .asI .i64 (l1.getD 2 .un) fun n4 =>
  .asI .i64 (l1.getD 3 .un) fun n5 =>
  cond (decide (n5 < n4))
    (.ixS 2 o2 n5 fun a6 a7 a8 =>
    .ld a6 (a7 + (a8 * 2)) 2 fun l9 =>
    .nth l9 0 fun v10 =>
    .asI .u32 (.sc v10) fun n11 =>
    .nth l9 1 fun v12 =>
    .asI .u16 (.sc v12) fun n13 =>
    .callv (.sc v3) [(.ag [(.i .u32 n11), (.i .u16 n13)])] fun v14 =>
    .asB v14 fun b15 =>
    cond b15
      (.ret 1 [(.sc (.i .i64 n5))])
      (.ret 0 [(.sc (.sl o2)), (.sc v3), (.sc (.i .i64 n4)), (.sc (.i .i64 (IntKind.wrap .i64 (n5 + (1 : Int)))))]))
    (.ret 2 [])
def t69_k0  : Nat → List AV → Tree := fun a16 l17 =>
  .tg a16 2
    (.ret 0 [(.sc (.i .i64 (-1 : Int)))])
    (.tg a16 1
      (.asI .i64 (l17.getD 0 .un) fun n18 =>
      .ret 0 [(.sc (.i .i64 n18))])
      (.fail))
/-- slices.IndexFunc[[]scuttlebutt/addr.Addr,scuttlebutt/addr.Addr] -/
def t69 (s0_ : Option SlD) (g1_ : FuncId) (f1_ c1_ : List (Nat × Nat)) : Tree :=
  .loop t69_b0 [(.sc (.sl s0_)), (.sc (.fn g1_ f1_ c1_)), (.sc (.i .i64 (slLen s0_))), (.sc (.i .i64 (0 : Int)))] t69_k0
theorem t69_eq (s0_ : Option SlD) (g1_ : FuncId) (f1_ c1_ : List (Nat × Nat)) : bodyK T (hs 69) Try.f69 [.sc (.sl s0_), .sc (.fn g1_ f1_ c1_)] = t69 s0_ g1_ f1_ c1_ := by kernel_rfl
end Go.Proofs.Ytloiifcocgpnbaa
