/- Trees of functions, printed by a program of mine; each is proved to be the function's. -/
import Derived.Test.YtloiifcocgpnbaaGen
namespace Go.Proofs.Ytloiifcocgpnbaa
open Go Go.Proofs.Ytloiifcocgpnbaa.Fw
set_option linter.unusedVariables false
/-- scuttlebutt/scuttlebuttlaw08.pair -/
def t28 (n0_0 : Int) (n0_1 : Int) (n1_0 : Int) (n1_1 : Int) : Tree :=
  .al [(.i .i64 n0_0), (.i .i64 n0_1)] fun a0 =>
  .al [(.i .i64 n1_0), (.i .i64 n1_1)] fun a1 =>
  .al [(.i .u32 (0 : Int)), (.i .u16 (0 : Int))] fun a2 =>
  .al [(.i .u32 (0 : Int)), (.i .u16 (0 : Int))] fun a3 =>
  .ld a0 0 2 fun l4 =>
  .nth l4 0 fun v5 =>
  .asI .i64 (.sc v5) fun n6 =>
  .nth l4 1 fun v7 =>
  .asI .i64 (.sc v7) fun n8 =>
  .call 11 [(.ag [(.i .i64 n6), (.i .i64 n8)]), (.sc (.i .u32 (1001 : Int))), (.sc (.i .u64 (100 : Int))), (.sc (.i .i64 (8 : Int)))] fun v9 =>
  .asT 2 v9 fun l10 =>
  .nthC l10 0 fun v11 =>
  .asP (v11.av) fun o12 =>
  .nthC l10 1 fun v13 =>
  .asI .i64 (v13.av) fun n14 =>
  .ld a1 0 2 fun l15 =>
  .nth l15 0 fun v16 =>
  .asI .i64 (.sc v16) fun n17 =>
  .nth l15 1 fun v18 =>
  .asI .i64 (.sc v18) fun n19 =>
  .call 11 [(.ag [(.i .i64 n17), (.i .i64 n19)]), (.sc (.i .u32 (1002 : Int))), (.sc (.i .u64 (100 : Int))), (.sc (.i .i64 (8 : Int)))] fun v20 =>
  .asT 2 v20 fun l21 =>
  .nthC l21 0 fun v22 =>
  .asP (v22.av) fun o23 =>
  .nthC l21 1 fun v24 =>
  .asI .i64 (v24.av) fun n25 =>
  cond (Option.isNone o12)
    (.st a2 0 [(.i .u32 (0 : Int)), (.i .u16 (0 : Int))] (
    .st a3 0 [(.i .u32 (0 : Int)), (.i .u16 (0 : Int))] (
    .ld a2 0 2 fun l26 =>
    .nth l26 0 fun v27 =>
    .asI .u32 (.sc v27) fun n28 =>
    .nth l26 1 fun v29 =>
    .asI .u16 (.sc v29) fun n30 =>
    .ld a3 0 2 fun l31 =>
    .nth l31 0 fun v32 =>
    .asI .u32 (.sc v32) fun n33 =>
    .nth l31 1 fun v34 =>
    .asI .u16 (.sc v34) fun n35 =>
    .ret 0 [(.tu [(.sc (.p .none)), (.sc (.p .none)), (.ag [(.i .u32 n28), (.i .u16 n30)]), (.ag [(.i .u32 n33), (.i .u16 n35)])])])))
    (cond (Option.isNone o23)
      (.st a2 0 [(.i .u32 (0 : Int)), (.i .u16 (0 : Int))] (
      .st a3 0 [(.i .u32 (0 : Int)), (.i .u16 (0 : Int))] (
      .ld a2 0 2 fun l36 =>
      .nth l36 0 fun v37 =>
      .asI .u32 (.sc v37) fun n38 =>
      .nth l36 1 fun v39 =>
      .asI .u16 (.sc v39) fun n40 =>
      .ld a3 0 2 fun l41 =>
      .nth l41 0 fun v42 =>
      .asI .u32 (.sc v42) fun n43 =>
      .nth l41 1 fun v44 =>
      .asI .u16 (.sc v44) fun n45 =>
      .ret 0 [(.tu [(.sc (.p .none)), (.sc (.p .none)), (.ag [(.i .u32 n38), (.i .u16 n40)]), (.ag [(.i .u32 n43), (.i .u16 n45)])])])))
      (.al [(.i .u32 (0 : Int)), (.i .u16 (0 : Int))] fun a46 =>
      .st a46 0 [(.i .u32 (500 : Int)), (.i .u16 (5 : Int))] (
      .ld a46 0 2 fun l47 =>
      .nth l47 0 fun v48 =>
      .asI .u32 (.sc v48) fun n49 =>
      .nth l47 1 fun v50 =>
      .asI .u16 (.sc v50) fun n51 =>
      .call 12 [(.sc (.p o12)), (.sc (.i .u64 (0 : Int))), (.ag [(.i .u32 (10 : Int)), (.i .u16 (7 : Int))]), (.ag [(.i .u32 n49), (.i .u16 n51)])] fun v52 =>
      .asT 2 v52 fun l53 =>
      .nthC l53 0 fun v54 =>
      .asA 2 (v54.av) fun l55 =>
      .nth l55 0 fun v56 =>
      .asI .u32 (.sc v56) fun n57 =>
      .nth l55 1 fun v58 =>
      .asI .u16 (.sc v58) fun n59 =>
      .nthC l53 1 fun v60 =>
      .asI .i64 (v60.av) fun n61 =>
      .al [(.i .u32 (0 : Int)), (.i .u16 (0 : Int))] fun a62 =>
      .st a62 0 [(.i .u32 n57), (.i .u16 n59)] (
      .ld a46 0 2 fun l63 =>
      .nth l63 0 fun v64 =>
      .asI .u32 (.sc v64) fun n65 =>
      .nth l63 1 fun v66 =>
      .asI .u16 (.sc v66) fun n67 =>
      .call 12 [(.sc (.p o23)), (.sc (.i .u64 (0 : Int))), (.ag [(.i .u32 (20 : Int)), (.i .u16 (7 : Int))]), (.ag [(.i .u32 n65), (.i .u16 n67)])] fun v68 =>
      .asT 2 v68 fun l69 =>
      .nthC l69 0 fun v70 =>
      .asA 2 (v70.av) fun l71 =>
      .nth l71 0 fun v72 =>
      .asI .u32 (.sc v72) fun n73 =>
      .nth l71 1 fun v74 =>
      .asI .u16 (.sc v74) fun n75 =>
      .nthC l69 1 fun v76 =>
      .asI .i64 (v76.av) fun n77 =>
      .al [(.i .u32 (0 : Int)), (.i .u16 (0 : Int))] fun a78 =>
      .st a78 0 [(.i .u32 n73), (.i .u16 n75)] (
      .ld a62 0 2 fun l79 =>
      .nth l79 0 fun v80 =>
      .asI .u32 (.sc v80) fun n81 =>
      .nth l79 1 fun v82 =>
      .asI .u16 (.sc v82) fun n83 =>
      .ld a78 0 2 fun l84 =>
      .nth l84 0 fun v85 =>
      .asI .u32 (.sc v85) fun n86 =>
      .nth l84 1 fun v87 =>
      .asI .u16 (.sc v87) fun n88 =>
      .st a2 0 [(.i .u32 n81), (.i .u16 n83)] (
      .same a78 0 [(.i .u32 n86), (.i .u16 n88)] (
      .st a3 0 [(.i .u32 n86), (.i .u16 n88)] (
      .ld a2 0 2 fun l89 =>
      .nth l89 0 fun v90 =>
      .asI .u32 (.sc v90) fun n91 =>
      .nth l89 1 fun v92 =>
      .asI .u16 (.sc v92) fun n93 =>
      .ld a3 0 2 fun l94 =>
      .nth l94 0 fun v95 =>
      .asI .u32 (.sc v95) fun n96 =>
      .nth l94 1 fun v97 =>
      .asI .u16 (.sc v97) fun n98 =>
      .ret 0 [(.tu [(.sc (.p o12)), (.sc (.p o23)), (.ag [(.i .u32 n91), (.i .u16 n93)]), (.ag [(.i .u32 n96), (.i .u16 n98)])])]))))))))
theorem t28_eq (n0_0 : Int) (n0_1 : Int) (n1_0 : Int) (n1_1 : Int) : bodyK T (hs 28) Try.f28 [.ag [.i .i64 n0_0, .i .i64 n0_1], .ag [.i .i64 n1_0, .i .i64 n1_1]] = t28 n0_0 n0_1 n1_0 n1_1 := by kernel_rfl
/-- scuttlebutt/scuttlebuttlaw08.gets -/
def t29 (p0_ q0_ : Nat) (p1_ q1_ : Nat) (n2_0 : Int) (n2_1 : Int) (n3_0 : Int) (n3_1 : Int) : Tree :=
  .al [(.i .u32 n2_0), (.i .u16 n2_1)] fun a0 =>
  .al [(.i .u32 n3_0), (.i .u16 n3_1)] fun a1 =>
  .al [(.i .u32 (0 : Int)), (.i .u16 (0 : Int))] fun a2 =>
  .ld a0 0 2 fun l3 =>
  .nth l3 0 fun v4 =>
  .asI .u32 (.sc v4) fun n5 =>
  .nth l3 1 fun v6 =>
  .asI .u16 (.sc v6) fun n7 =>
  .ld a1 0 2 fun l8 =>
  .nth l8 0 fun v9 =>
  .asI .u32 (.sc v9) fun n10 =>
  .nth l8 1 fun v11 =>
  .asI .u16 (.sc v11) fun n12 =>
  .call 12 [(.sc (.p (.some (p0_, q0_)))), (.sc (.i .u64 (1 : Int))), (.ag [(.i .u32 n5), (.i .u16 n7)]), (.ag [(.i .u32 n10), (.i .u16 n12)])] fun v13 =>
  .asT 2 v13 fun l14 =>
  .nthC l14 0 fun v15 =>
  .asA 2 (v15.av) fun l16 =>
  .nth l16 0 fun v17 =>
  .asI .u32 (.sc v17) fun n18 =>
  .nth l16 1 fun v19 =>
  .asI .u16 (.sc v19) fun n20 =>
  .nthC l14 1 fun v21 =>
  .asI .i64 (v21.av) fun n22 =>
  .al [(.i .u32 (0 : Int)), (.i .u16 (0 : Int))] fun a23 =>
  .st a23 0 [(.i .u32 n18), (.i .u16 n20)] (
  .ld a1 (0 + 1) 1 fun l24 =>
  .nth l24 0 fun v25 =>
  .asI .u16 (.sc v25) fun n26 =>
  .ld a23 0 2 fun l27 =>
  .nth l27 0 fun v28 =>
  .asI .u32 (.sc v28) fun n29 =>
  .nth l27 1 fun v30 =>
  .asI .u16 (.sc v30) fun n31 =>
  .call 15 [(.sc (.p (.some (p1_, q1_)))), (.sc (.i .u64 (1 : Int))), (.sc (.i .u16 n26)), (.ag [(.i .u32 n29), (.i .u16 n31)])] fun v32 =>
  .asT 2 v32 fun l33 =>
  .nthC l33 0 fun v34 =>
  .asA 2 (v34.av) fun l35 =>
  .nth l35 0 fun v36 =>
  .asI .u32 (.sc v36) fun n37 =>
  .nth l35 1 fun v38 =>
  .asI .u16 (.sc v38) fun n39 =>
  .nthC l33 1 fun v40 =>
  .asI .i64 (v40.av) fun n41 =>
  .al [(.i .u32 (0 : Int)), (.i .u16 (0 : Int))] fun a42 =>
  .st a42 0 [(.i .u32 n37), (.i .u16 n39)] (
  .ld a23 0 2 fun l43 =>
  .nth l43 0 fun v44 =>
  .asI .u32 (.sc v44) fun n45 =>
  .nth l43 1 fun v46 =>
  .asI .u16 (.sc v46) fun n47 =>
  .st a2 0 [(.i .u32 n45), (.i .u16 n47)] (
  .ld a2 0 2 fun l48 =>
  .nth l48 0 fun v49 =>
  .asI .u32 (.sc v49) fun n50 =>
  .nth l48 1 fun v51 =>
  .asI .u16 (.sc v51) fun n52 =>
  .ret 0 [(.tu [(.ag [(.i .u32 n50), (.i .u16 n52)]), (.sc (.b (n41 == (0 : Int))))])])))
theorem t29_eq (p0_ q0_ : Nat) (p1_ q1_ : Nat) (n2_0 : Int) (n2_1 : Int) (n3_0 : Int) (n3_1 : Int) : bodyK T (hs 29) Try.f29 [.sc (.p (some (p0_, q0_))), .sc (.p (some (p1_, q1_))), .ag [.i .u32 n2_0, .i .u16 n2_1], .ag [.i .u32 n3_0, .i .u16 n3_1]] = t29 p0_ q0_ p1_ q1_ n2_0 n2_1 n3_0 n3_1 := by kernel_rfl
/-- scuttlebutt/rule.Through -/
def t30 (n0_0 : Int) (n0_1 : Int) (n1_0 : Int) (n1_1 : Int) : Tree :=
  .al [(.i .i64 n0_0), (.i .i64 n0_1)] fun a0 =>
  .al [(.i .i64 n1_0), (.i .i64 n1_1)] fun a1 =>
  .ld a0 0 2 fun l2 =>
  .nth l2 0 fun v3 =>
  .asI .i64 (.sc v3) fun n4 =>
  .nth l2 1 fun v5 =>
  .asI .i64 (.sc v5) fun n6 =>
  .call 32 [(.ag [(.i .i64 n4), (.i .i64 n6)])] fun v7 =>
  .asB v7 fun b8 =>
  cond (!b8)
    (.ret 0 [(.sc (.b .false))])
    (.ld a1 0 2 fun l9 =>
    .nth l9 0 fun v10 =>
    .asI .i64 (.sc v10) fun n11 =>
    .nth l9 1 fun v12 =>
    .asI .i64 (.sc v12) fun n13 =>
    .call 32 [(.ag [(.i .i64 n11), (.i .i64 n13)])] fun v14 =>
    .asB v14 fun b15 =>
    cond (!b15)
      (.ret 0 [(.sc (.b .false))])
      (.ld a1 (0 + 0) 1 fun l16 =>
      .nth l16 0 fun v17 =>
      .asI .i64 (.sc v17) fun n18 =>
      cond (n18 == (0 : Int))
        (.ld a1 (0 + 1) 1 fun l19 =>
        .nth l19 0 fun v20 =>
        .asI .i64 (.sc v20) fun n21 =>
        cond (n21 != (2 : Int))
          (.ret 0 [(.sc (.b .true))])
          (.ld a0 (0 + 0) 1 fun l22 =>
          .nth l22 0 fun v23 =>
          .asI .i64 (.sc v23) fun n24 =>
          .ret 0 [(.sc (.b (n24 == (0 : Int))))]))
        (.ld a1 (0 + 1) 1 fun l25 =>
        .nth l25 0 fun v26 =>
        .asI .i64 (.sc v26) fun n27 =>
        .ret 0 [(.sc (.b (n27 == (0 : Int))))])))
theorem t30_eq (n0_0 : Int) (n0_1 : Int) (n1_0 : Int) (n1_1 : Int) : bodyK T (hs 30) Try.f30 [.ag [.i .i64 n0_0, .i .i64 n0_1], .ag [.i .i64 n1_0, .i .i64 n1_1]] = t30 n0_0 n0_1 n1_0 n1_1 := by kernel_rfl
/-- scuttlebutt/rule.Punch -/
def t31 (n0_0 : Int) (n0_1 : Int) (n1_0 : Int) (n1_1 : Int) : Tree :=
  .al [(.i .i64 n0_0), (.i .i64 n0_1)] fun a0 =>
  .al [(.i .i64 n1_0), (.i .i64 n1_1)] fun a1 =>
  .ld a0 0 2 fun l2 =>
  .nth l2 0 fun v3 =>
  .asI .i64 (.sc v3) fun n4 =>
  .nth l2 1 fun v5 =>
  .asI .i64 (.sc v5) fun n6 =>
  .ld a1 0 2 fun l7 =>
  .nth l7 0 fun v8 =>
  .asI .i64 (.sc v8) fun n9 =>
  .nth l7 1 fun v10 =>
  .asI .i64 (.sc v10) fun n11 =>
  .call 52 [(.ag [(.i .i64 n4), (.i .i64 n6)]), (.ag [(.i .i64 n9), (.i .i64 n11)])] fun v12 =>
  .asB v12 fun b13 =>
  cond b13
    (.ret 0 [(.sc (.b .true))])
    (.ld a1 0 2 fun l14 =>
    .nth l14 0 fun v15 =>
    .asI .i64 (.sc v15) fun n16 =>
    .nth l14 1 fun v17 =>
    .asI .i64 (.sc v17) fun n18 =>
    .ld a0 0 2 fun l19 =>
    .nth l19 0 fun v20 =>
    .asI .i64 (.sc v20) fun n21 =>
    .nth l19 1 fun v22 =>
    .asI .i64 (.sc v22) fun n23 =>
    .call 52 [(.ag [(.i .i64 n16), (.i .i64 n18)]), (.ag [(.i .i64 n21), (.i .i64 n23)])] fun v24 =>
    .asB v24 fun b25 =>
    .ret 0 [(.sc (.b b25))])
theorem t31_eq (n0_0 : Int) (n0_1 : Int) (n1_0 : Int) (n1_1 : Int) : bodyK T (hs 31) Try.f31 [.ag [.i .i64 n0_0, .i .i64 n0_1], .ag [.i .i64 n1_0, .i .i64 n1_1]] = t31 n0_0 n0_1 n1_0 n1_1 := by kernel_rfl
/-- scuttlebutt/scuttlebuttlaw08.NatboxThrough -/
def t8 (n0_ : Int) (n1_ : Int) : Tree :=
  .call 10 [] fun v0 =>
  .asB v0 fun b1 =>
  cond (!b1)
    (.ret 0 [(.sc (.b .false))])
    (.br .true
      (.br .true
        (.br .true
          (.al [(.i .i64 (0 : Int)), (.i .i64 (0 : Int))] fun a2 =>
          .st a2 0 [(.i .i64 (IntKind.wrap .i64 (Int.tmod n0_ (3 : Int)))), (.i .i64 (IntKind.wrap .i64 (Int.tmod (IntKind.wrap .u8 (Int.tdiv n0_ (3 : Int))) (3 : Int))))] (
          .br .true
            (.br .true
              (.br .true
                (.al [(.i .i64 (0 : Int)), (.i .i64 (0 : Int))] fun a3 =>
                .st a3 0 [(.i .i64 (IntKind.wrap .i64 (Int.tmod n1_ (3 : Int)))), (.i .i64 (IntKind.wrap .i64 (Int.tmod (IntKind.wrap .u8 (Int.tdiv n1_ (3 : Int))) (3 : Int))))] (
                .ld a2 0 2 fun l4 =>
                .nth l4 0 fun v5 =>
                .asI .i64 (.sc v5) fun n6 =>
                .nth l4 1 fun v7 =>
                .asI .i64 (.sc v7) fun n8 =>
                .ld a3 0 2 fun l9 =>
                .nth l9 0 fun v10 =>
                .asI .i64 (.sc v10) fun n11 =>
                .nth l9 1 fun v12 =>
                .asI .i64 (.sc v12) fun n13 =>
                .call 28 [(.ag [(.i .i64 n6), (.i .i64 n8)]), (.ag [(.i .i64 n11), (.i .i64 n13)])] fun v14 =>
                .asT 4 v14 fun l15 =>
                .nthC l15 0 fun v16 =>
                .asP (v16.av) fun o17 =>
                .nthC l15 1 fun v18 =>
                .asP (v18.av) fun o19 =>
                .nthC l15 2 fun v20 =>
                .asA 2 (v20.av) fun l21 =>
                .nth l21 0 fun v22 =>
                .asI .u32 (.sc v22) fun n23 =>
                .nth l21 1 fun v24 =>
                .asI .u16 (.sc v24) fun n25 =>
                .nthC l15 3 fun v26 =>
                .asA 2 (v26.av) fun l27 =>
                .nth l27 0 fun v28 =>
                .asI .u32 (.sc v28) fun n29 =>
                .nth l27 1 fun v30 =>
                .asI .u16 (.sc v30) fun n31 =>
                .al [(.i .u32 (0 : Int)), (.i .u16 (0 : Int))] fun a32 =>
                .al [(.i .u32 (0 : Int)), (.i .u16 (0 : Int))] fun a33 =>
                .st a32 0 [(.i .u32 n23), (.i .u16 n25)] (
                .st a33 0 [(.i .u32 n29), (.i .u16 n31)] (
                cond (Option.isNone o17)
                  (.ret 0 [(.sc (.b .false))])
                  (cond (Option.isNone o19)
                    (.ret 0 [(.sc (.b .false))])
                    (.al [(.i .u32 (0 : Int)), (.i .u16 (0 : Int))] fun a34 =>
                    .st a34 0 [(.i .u32 (10 : Int)), (.i .u16 (7 : Int))] (
                    .al [(.i .u32 (0 : Int)), (.i .u16 (0 : Int))] fun a35 =>
                    .st a35 0 [(.i .u32 (20 : Int)), (.i .u16 (7 : Int))] (
                    .ld a35 0 2 fun l36 =>
                    .nth l36 0 fun v37 =>
                    .asI .u32 (.sc v37) fun n38 =>
                    .nth l36 1 fun v39 =>
                    .asI .u16 (.sc v39) fun n40 =>
                    .ld a32 0 2 fun l41 =>
                    .nth l41 0 fun v42 =>
                    .asI .u32 (.sc v42) fun n43 =>
                    .nth l41 1 fun v44 =>
                    .asI .u16 (.sc v44) fun n45 =>
                    .call 12 [(.sc (.p o19)), (.sc (.i .u64 (1 : Int))), (.ag [(.i .u32 n38), (.i .u16 n40)]), (.ag [(.i .u32 n43), (.i .u16 n45)])] fun v46 =>
                    .asT 2 v46 fun l47 =>
                    .nthC l47 0 fun v48 =>
                    .asA 2 (v48.av) fun l49 =>
                    .nth l49 0 fun v50 =>
                    .asI .u32 (.sc v50) fun n51 =>
                    .nth l49 1 fun v52 =>
                    .asI .u16 (.sc v52) fun n53 =>
                    .nthC l47 1 fun v54 =>
                    .asI .i64 (v54.av) fun n55 =>
                    .ld a34 0 2 fun l56 =>
                    .nth l56 0 fun v57 =>
                    .asI .u32 (.sc v57) fun n58 =>
                    .nth l56 1 fun v59 =>
                    .asI .u16 (.sc v59) fun n60 =>
                    .ld a33 0 2 fun l61 =>
                    .nth l61 0 fun v62 =>
                    .asI .u32 (.sc v62) fun n63 =>
                    .nth l61 1 fun v64 =>
                    .asI .u16 (.sc v64) fun n65 =>
                    .call 12 [(.sc (.p o17)), (.sc (.i .u64 (1 : Int))), (.ag [(.i .u32 n58), (.i .u16 n60)]), (.ag [(.i .u32 n63), (.i .u16 n65)])] fun v66 =>
                    .asT 2 v66 fun l67 =>
                    .nthC l67 0 fun v68 =>
                    .asA 2 (v68.av) fun l69 =>
                    .nth l69 0 fun v70 =>
                    .asI .u32 (.sc v70) fun n71 =>
                    .nth l69 1 fun v72 =>
                    .asI .u16 (.sc v72) fun n73 =>
                    .nthC l67 1 fun v74 =>
                    .asI .i64 (v74.av) fun n75 =>
                    .ld a34 0 2 fun l76 =>
                    .nth l76 0 fun v77 =>
                    .asI .u32 (.sc v77) fun n78 =>
                    .nth l76 1 fun v79 =>
                    .asI .u16 (.sc v79) fun n80 =>
                    .ld a33 0 2 fun l81 =>
                    .nth l81 0 fun v82 =>
                    .asI .u32 (.sc v82) fun n83 =>
                    .nth l81 1 fun v84 =>
                    .asI .u16 (.sc v84) fun n85 =>
                    .call 29 [(.sc (.p o17)), (.sc (.p o19)), (.ag [(.i .u32 n78), (.i .u16 n80)]), (.ag [(.i .u32 n83), (.i .u16 n85)])] fun v86 =>
                    .asT 2 v86 fun l87 =>
                    .nthC l87 0 fun v88 =>
                    .asA 2 (v88.av) fun l89 =>
                    .nth l89 0 fun v90 =>
                    .asI .u32 (.sc v90) fun n91 =>
                    .nth l89 1 fun v92 =>
                    .asI .u16 (.sc v92) fun n93 =>
                    .nthC l87 1 fun v94 =>
                    .asB (v94.av) fun b95 =>
                    .al [(.i .u32 (0 : Int)), (.i .u16 (0 : Int))] fun a96 =>
                    .st a96 0 [(.i .u32 n91), (.i .u16 n93)] (
                    .ld a35 0 2 fun l97 =>
                    .nth l97 0 fun v98 =>
                    .asI .u32 (.sc v98) fun n99 =>
                    .nth l97 1 fun v100 =>
                    .asI .u16 (.sc v100) fun n101 =>
                    .ld a32 0 2 fun l102 =>
                    .nth l102 0 fun v103 =>
                    .asI .u32 (.sc v103) fun n104 =>
                    .nth l102 1 fun v105 =>
                    .asI .u16 (.sc v105) fun n106 =>
                    .call 29 [(.sc (.p o19)), (.sc (.p o17)), (.ag [(.i .u32 n99), (.i .u16 n101)]), (.ag [(.i .u32 n104), (.i .u16 n106)])] fun v107 =>
                    .asT 2 v107 fun l108 =>
                    .nthC l108 0 fun v109 =>
                    .asA 2 (v109.av) fun l110 =>
                    .nth l110 0 fun v111 =>
                    .asI .u32 (.sc v111) fun n112 =>
                    .nth l110 1 fun v113 =>
                    .asI .u16 (.sc v113) fun n114 =>
                    .nthC l108 1 fun v115 =>
                    .asB (v115.av) fun b116 =>
                    .al [(.i .u32 (0 : Int)), (.i .u16 (0 : Int))] fun a117 =>
                    .st a117 0 [(.i .u32 n112), (.i .u16 n114)] (
                    cond b1
                      (.ld a2 0 2 fun l118 =>
                      .nth l118 0 fun v119 =>
                      .asI .i64 (.sc v119) fun n120 =>
                      .nth l118 1 fun v121 =>
                      .asI .i64 (.sc v121) fun n122 =>
                      .ld a3 0 2 fun l123 =>
                      .nth l123 0 fun v124 =>
                      .asI .i64 (.sc v124) fun n125 =>
                      .nth l123 1 fun v126 =>
                      .asI .i64 (.sc v126) fun n127 =>
                      .call 30 [(.ag [(.i .i64 n120), (.i .i64 n122)]), (.ag [(.i .i64 n125), (.i .i64 n127)])] fun v128 =>
                      .asB v128 fun b129 =>
                      cond (b95 == b129)
                        (.ld a3 0 2 fun l130 =>
                        .nth l130 0 fun v131 =>
                        .asI .i64 (.sc v131) fun n132 =>
                        .nth l130 1 fun v133 =>
                        .asI .i64 (.sc v133) fun n134 =>
                        .ld a2 0 2 fun l135 =>
                        .nth l135 0 fun v136 =>
                        .asI .i64 (.sc v136) fun n137 =>
                        .nth l135 1 fun v138 =>
                        .asI .i64 (.sc v138) fun n139 =>
                        .call 30 [(.ag [(.i .i64 n132), (.i .i64 n134)]), (.ag [(.i .i64 n137), (.i .i64 n139)])] fun v140 =>
                        .asB v140 fun b141 =>
                        .ret 0 [(.sc (.b (b116 == b141)))])
                        (.ret 0 [(.sc (.b .false))]))
                      (.ret 0 [(.sc (.b .false))])))))))))))
                (.fail))
              (.fail))
            (.fail)))
          (.fail))
        (.fail))
      (.fail))
theorem t8_eq (n0_ : Int) (n1_ : Int) : bodyK T (hs 8) Try.f8 [.sc (.i .u8 n0_), .sc (.i .u8 n1_)] = t8 n0_ n1_ := by kernel_rfl
def t9_b6  : List AV → Tree := fun l7 =>
  .asB (l7.getD 0 .un) fun b8 =>
  .asP (l7.getD 1 .un) fun o9 =>
  .nn o9 fun a10 a11 =>
  .asP (l7.getD 2 .un) fun o12 =>
  .nn o12 fun a13 a14 =>
  .asP (l7.getD 3 .un) fun o15 =>
  .nn o15 fun a16 a17 =>
  .asP (l7.getD 4 .un) fun o18 =>
  .nn o18 fun a19 a20 =>
  .asB (l7.getD 5 .un) fun b21 =>
  .asI .i64 (l7.getD 6 .un) fun n22 =>
  cond (decide (n22 < (2 : Int)))
    (.ld a10 a11 2 fun l23 =>
    .nth l23 0 fun v24 =>
    .asI .i64 (.sc v24) fun n25 =>
    .nth l23 1 fun v26 =>
    .asI .i64 (.sc v26) fun n27 =>
    .ld a13 a14 2 fun l28 =>
    .nth l28 0 fun v29 =>
    .asI .i64 (.sc v29) fun n30 =>
    .nth l28 1 fun v31 =>
    .asI .i64 (.sc v31) fun n32 =>
    .call 28 [(.ag [(.i .i64 n25), (.i .i64 n27)]), (.ag [(.i .i64 n30), (.i .i64 n32)])] fun v33 =>
    .asT 4 v33 fun l34 =>
    .nthC l34 0 fun v35 =>
    .asP (v35.av) fun o36 =>
    .nthC l34 1 fun v37 =>
    .asP (v37.av) fun o38 =>
    .nthC l34 2 fun v39 =>
    .asA 2 (v39.av) fun l40 =>
    .nth l40 0 fun v41 =>
    .asI .u32 (.sc v41) fun n42 =>
    .nth l40 1 fun v43 =>
    .asI .u16 (.sc v43) fun n44 =>
    .nthC l34 3 fun v45 =>
    .asA 2 (v45.av) fun l46 =>
    .nth l46 0 fun v47 =>
    .asI .u32 (.sc v47) fun n48 =>
    .nth l46 1 fun v49 =>
    .asI .u16 (.sc v49) fun n50 =>
    .al [(.i .u32 (0 : Int)), (.i .u16 (0 : Int))] fun a51 =>
    .al [(.i .u32 (0 : Int)), (.i .u16 (0 : Int))] fun a52 =>
    .st a51 0 [(.i .u32 n42), (.i .u16 n44)] (
    .st a52 0 [(.i .u32 n48), (.i .u16 n50)] (
    cond (Option.isNone o36)
      (.ret 1 [(.sc (.b .false))])
      (cond (Option.isNone o38)
        (.ret 1 [(.sc (.b .false))])
        (.ld a16 a17 2 fun l53 =>
        .nth l53 0 fun v54 =>
        .asI .u32 (.sc v54) fun n55 =>
        .nth l53 1 fun v56 =>
        .asI .u16 (.sc v56) fun n57 =>
        .ld a52 0 2 fun l58 =>
        .nth l58 0 fun v59 =>
        .asI .u32 (.sc v59) fun n60 =>
        .nth l58 1 fun v61 =>
        .asI .u16 (.sc v61) fun n62 =>
        .call 12 [(.sc (.p o36)), (.sc (.i .u64 (1 : Int))), (.ag [(.i .u32 n55), (.i .u16 n57)]), (.ag [(.i .u32 n60), (.i .u16 n62)])] fun v63 =>
        .asT 2 v63 fun l64 =>
        .nthC l64 0 fun v65 =>
        .asA 2 (v65.av) fun l66 =>
        .nth l66 0 fun v67 =>
        .asI .u32 (.sc v67) fun n68 =>
        .nth l66 1 fun v69 =>
        .asI .u16 (.sc v69) fun n70 =>
        .nthC l64 1 fun v71 =>
        .asI .i64 (v71.av) fun n72 =>
        .ld a19 a20 2 fun l73 =>
        .nth l73 0 fun v74 =>
        .asI .u32 (.sc v74) fun n75 =>
        .nth l73 1 fun v76 =>
        .asI .u16 (.sc v76) fun n77 =>
        .ld a51 0 2 fun l78 =>
        .nth l78 0 fun v79 =>
        .asI .u32 (.sc v79) fun n80 =>
        .nth l78 1 fun v81 =>
        .asI .u16 (.sc v81) fun n82 =>
        .call 12 [(.sc (.p o38)), (.sc (.i .u64 (1 : Int))), (.ag [(.i .u32 n75), (.i .u16 n77)]), (.ag [(.i .u32 n80), (.i .u16 n82)])] fun v83 =>
        .asT 2 v83 fun l84 =>
        .nthC l84 0 fun v85 =>
        .asA 2 (v85.av) fun l86 =>
        .nth l86 0 fun v87 =>
        .asI .u32 (.sc v87) fun n88 =>
        .nth l86 1 fun v89 =>
        .asI .u16 (.sc v89) fun n90 =>
        .nthC l84 1 fun v91 =>
        .asI .i64 (v91.av) fun n92 =>
        cond (n22 == (0 : Int))
          (.ld a16 a17 2 fun l93 =>
          .nth l93 0 fun v94 =>
          .asI .u32 (.sc v94) fun n95 =>
          .nth l93 1 fun v96 =>
          .asI .u16 (.sc v96) fun n97 =>
          .ld a52 0 2 fun l98 =>
          .nth l98 0 fun v99 =>
          .asI .u32 (.sc v99) fun n100 =>
          .nth l98 1 fun v101 =>
          .asI .u16 (.sc v101) fun n102 =>
          .call 29 [(.sc (.p o36)), (.sc (.p o38)), (.ag [(.i .u32 n95), (.i .u16 n97)]), (.ag [(.i .u32 n100), (.i .u16 n102)])] fun v103 =>
          .asT 2 v103 fun l104 =>
          .nthC l104 0 fun v105 =>
          .asA 2 (v105.av) fun l106 =>
          .nth l106 0 fun v107 =>
          .asI .u32 (.sc v107) fun n108 =>
          .nth l106 1 fun v109 =>
          .asI .u16 (.sc v109) fun n110 =>
          .nthC l104 1 fun v111 =>
          .asB (v111.av) fun b112 =>
          .al [(.i .u32 (0 : Int)), (.i .u16 (0 : Int))] fun a113 =>
          .st a113 0 [(.i .u32 n108), (.i .u16 n110)] (
          .ld a19 a20 2 fun l114 =>
          .nth l114 0 fun v115 =>
          .asI .u32 (.sc v115) fun n116 =>
          .nth l114 1 fun v117 =>
          .asI .u16 (.sc v117) fun n118 =>
          .ld a113 0 2 fun l119 =>
          .nth l119 0 fun v120 =>
          .asI .u32 (.sc v120) fun n121 =>
          .nth l119 1 fun v122 =>
          .asI .u16 (.sc v122) fun n123 =>
          .call 12 [(.sc (.p o38)), (.sc (.i .u64 (1 : Int))), (.ag [(.i .u32 n116), (.i .u16 n118)]), (.ag [(.i .u32 n121), (.i .u16 n123)])] fun v124 =>
          .asT 2 v124 fun l125 =>
          .nthC l125 0 fun v126 =>
          .asA 2 (v126.av) fun l127 =>
          .nth l127 0 fun v128 =>
          .asI .u32 (.sc v128) fun n129 =>
          .nth l127 1 fun v130 =>
          .asI .u16 (.sc v130) fun n131 =>
          .nthC l125 1 fun v132 =>
          .asI .i64 (v132.av) fun n133 =>
          .al [(.i .u32 (0 : Int)), (.i .u16 (0 : Int))] fun a134 =>
          .st a134 0 [(.i .u32 n129), (.i .u16 n131)] (
          .ld a113 (0 + 1) 1 fun l135 =>
          .nth l135 0 fun v136 =>
          .asI .u16 (.sc v136) fun n137 =>
          .ld a134 0 2 fun l138 =>
          .nth l138 0 fun v139 =>
          .asI .u32 (.sc v139) fun n140 =>
          .nth l138 1 fun v141 =>
          .asI .u16 (.sc v141) fun n142 =>
          .call 15 [(.sc (.p o36)), (.sc (.i .u64 (1 : Int))), (.sc (.i .u16 n137)), (.ag [(.i .u32 n140), (.i .u16 n142)])] fun v143 =>
          .asT 2 v143 fun l144 =>
          .nthC l144 0 fun v145 =>
          .asA 2 (v145.av) fun l146 =>
          .nth l146 0 fun v147 =>
          .asI .u32 (.sc v147) fun n148 =>
          .nth l146 1 fun v149 =>
          .asI .u16 (.sc v149) fun n150 =>
          .nthC l144 1 fun v151 =>
          .asI .i64 (v151.av) fun n152 =>
          .al [(.i .u32 (0 : Int)), (.i .u16 (0 : Int))] fun a153 =>
          .st a153 0 [(.i .u32 n148), (.i .u16 n150)] (
          cond b21
            (.ret 0 [(.sc (.b b8)), (.sc (.p (.some (a10, a11)))), (.sc (.p (.some (a13, a14)))), (.sc (.p (.some (a16, a17)))), (.sc (.p (.some (a19, a20)))), (.sc (.b .true)), (.sc (.i .i64 (IntKind.wrap .i64 (n22 + (1 : Int)))))])
            (cond b112
              (.ret 0 [(.sc (.b b8)), (.sc (.p (.some (a10, a11)))), (.sc (.p (.some (a13, a14)))), (.sc (.p (.some (a16, a17)))), (.sc (.p (.some (a19, a20)))), (.sc (.b (n152 == (0 : Int)))), (.sc (.i .i64 (IntKind.wrap .i64 (n22 + (1 : Int)))))])
              (.ret 0 [(.sc (.b b8)), (.sc (.p (.some (a10, a11)))), (.sc (.p (.some (a13, a14)))), (.sc (.p (.some (a16, a17)))), (.sc (.p (.some (a19, a20)))), (.sc (.b .false)), (.sc (.i .i64 (IntKind.wrap .i64 (n22 + (1 : Int)))))]))))))
          (.ld a19 a20 2 fun l154 =>
          .nth l154 0 fun v155 =>
          .asI .u32 (.sc v155) fun n156 =>
          .nth l154 1 fun v157 =>
          .asI .u16 (.sc v157) fun n158 =>
          .ld a51 0 2 fun l159 =>
          .nth l159 0 fun v160 =>
          .asI .u32 (.sc v160) fun n161 =>
          .nth l159 1 fun v162 =>
          .asI .u16 (.sc v162) fun n163 =>
          .call 29 [(.sc (.p o38)), (.sc (.p o36)), (.ag [(.i .u32 n156), (.i .u16 n158)]), (.ag [(.i .u32 n161), (.i .u16 n163)])] fun v164 =>
          .asT 2 v164 fun l165 =>
          .nthC l165 0 fun v166 =>
          .asA 2 (v166.av) fun l167 =>
          .nth l167 0 fun v168 =>
          .asI .u32 (.sc v168) fun n169 =>
          .nth l167 1 fun v170 =>
          .asI .u16 (.sc v170) fun n171 =>
          .nthC l165 1 fun v172 =>
          .asB (v172.av) fun b173 =>
          .al [(.i .u32 (0 : Int)), (.i .u16 (0 : Int))] fun a174 =>
          .st a174 0 [(.i .u32 n169), (.i .u16 n171)] (
          .ld a16 a17 2 fun l175 =>
          .nth l175 0 fun v176 =>
          .asI .u32 (.sc v176) fun n177 =>
          .nth l175 1 fun v178 =>
          .asI .u16 (.sc v178) fun n179 =>
          .ld a174 0 2 fun l180 =>
          .nth l180 0 fun v181 =>
          .asI .u32 (.sc v181) fun n182 =>
          .nth l180 1 fun v183 =>
          .asI .u16 (.sc v183) fun n184 =>
          .call 12 [(.sc (.p o36)), (.sc (.i .u64 (1 : Int))), (.ag [(.i .u32 n177), (.i .u16 n179)]), (.ag [(.i .u32 n182), (.i .u16 n184)])] fun v185 =>
          .asT 2 v185 fun l186 =>
          .nthC l186 0 fun v187 =>
          .asA 2 (v187.av) fun l188 =>
          .nth l188 0 fun v189 =>
          .asI .u32 (.sc v189) fun n190 =>
          .nth l188 1 fun v191 =>
          .asI .u16 (.sc v191) fun n192 =>
          .nthC l186 1 fun v193 =>
          .asI .i64 (v193.av) fun n194 =>
          .al [(.i .u32 (0 : Int)), (.i .u16 (0 : Int))] fun a195 =>
          .st a195 0 [(.i .u32 n190), (.i .u16 n192)] (
          .ld a174 (0 + 1) 1 fun l196 =>
          .nth l196 0 fun v197 =>
          .asI .u16 (.sc v197) fun n198 =>
          .ld a195 0 2 fun l199 =>
          .nth l199 0 fun v200 =>
          .asI .u32 (.sc v200) fun n201 =>
          .nth l199 1 fun v202 =>
          .asI .u16 (.sc v202) fun n203 =>
          .call 15 [(.sc (.p o38)), (.sc (.i .u64 (1 : Int))), (.sc (.i .u16 n198)), (.ag [(.i .u32 n201), (.i .u16 n203)])] fun v204 =>
          .asT 2 v204 fun l205 =>
          .nthC l205 0 fun v206 =>
          .asA 2 (v206.av) fun l207 =>
          .nth l207 0 fun v208 =>
          .asI .u32 (.sc v208) fun n209 =>
          .nth l207 1 fun v210 =>
          .asI .u16 (.sc v210) fun n211 =>
          .nthC l205 1 fun v212 =>
          .asI .i64 (v212.av) fun n213 =>
          .al [(.i .u32 (0 : Int)), (.i .u16 (0 : Int))] fun a214 =>
          .st a214 0 [(.i .u32 n209), (.i .u16 n211)] (
          cond b21
            (.ret 0 [(.sc (.b b8)), (.sc (.p (.some (a10, a11)))), (.sc (.p (.some (a13, a14)))), (.sc (.p (.some (a16, a17)))), (.sc (.p (.some (a19, a20)))), (.sc (.b .true)), (.sc (.i .i64 (IntKind.wrap .i64 (n22 + (1 : Int)))))])
            (cond b173
              (.ret 0 [(.sc (.b b8)), (.sc (.p (.some (a10, a11)))), (.sc (.p (.some (a13, a14)))), (.sc (.p (.some (a16, a17)))), (.sc (.p (.some (a19, a20)))), (.sc (.b (n213 == (0 : Int)))), (.sc (.i .i64 (IntKind.wrap .i64 (n22 + (1 : Int)))))])
              (.ret 0 [(.sc (.b b8)), (.sc (.p (.some (a10, a11)))), (.sc (.p (.some (a13, a14)))), (.sc (.p (.some (a16, a17)))), (.sc (.p (.some (a19, a20)))), (.sc (.b .false)), (.sc (.i .i64 (IntKind.wrap .i64 (n22 + (1 : Int)))))])))))))))))
    (.ret 2 [(.sc (.b b8)), (.sc (.p (.some (a10, a11)))), (.sc (.p (.some (a13, a14)))), (.sc (.b b21))])
def t9_k6  : Nat → List AV → Tree := fun a215 l216 =>
  .tg a215 2
    (.asB (l216.getD 0 .un) fun b217 =>
    .asP (l216.getD 1 .un) fun o218 =>
    .nn o218 fun a219 a220 =>
    .asP (l216.getD 2 .un) fun o221 =>
    .nn o221 fun a222 a223 =>
    .asB (l216.getD 3 .un) fun b224 =>
    cond b217
      (.ld a219 a220 2 fun l225 =>
      .nth l225 0 fun v226 =>
      .asI .i64 (.sc v226) fun n227 =>
      .nth l225 1 fun v228 =>
      .asI .i64 (.sc v228) fun n229 =>
      .ld a222 a223 2 fun l230 =>
      .nth l230 0 fun v231 =>
      .asI .i64 (.sc v231) fun n232 =>
      .nth l230 1 fun v233 =>
      .asI .i64 (.sc v233) fun n234 =>
      .call 31 [(.ag [(.i .i64 n227), (.i .i64 n229)]), (.ag [(.i .i64 n232), (.i .i64 n234)])] fun v235 =>
      .asB v235 fun b236 =>
      .ret 0 [(.sc (.b (b224 == b236)))])
      (.ret 0 [(.sc (.b .false))]))
    (.tg a215 1
      (.asB (l216.getD 0 .un) fun b237 =>
      .ret 0 [(.sc (.b b237))])
      (.fail))
/-- scuttlebutt/scuttlebuttlaw08.NatboxPunch -/
def t9 (n0_ : Int) (n1_ : Int) : Tree :=
  .call 10 [] fun v0 =>
  .asB v0 fun b1 =>
  cond (!b1)
    (.ret 0 [(.sc (.b .false))])
    (.br .true
      (.br .true
        (.br .true
          (.al [(.i .i64 (0 : Int)), (.i .i64 (0 : Int))] fun a2 =>
          .st a2 0 [(.i .i64 (IntKind.wrap .i64 (Int.tmod n0_ (3 : Int)))), (.i .i64 (IntKind.wrap .i64 (Int.tmod (IntKind.wrap .u8 (Int.tdiv n0_ (3 : Int))) (3 : Int))))] (
          .br .true
            (.br .true
              (.br .true
                (.al [(.i .i64 (0 : Int)), (.i .i64 (0 : Int))] fun a3 =>
                .st a3 0 [(.i .i64 (IntKind.wrap .i64 (Int.tmod n1_ (3 : Int)))), (.i .i64 (IntKind.wrap .i64 (Int.tmod (IntKind.wrap .u8 (Int.tdiv n1_ (3 : Int))) (3 : Int))))] (
                .al [(.i .u32 (0 : Int)), (.i .u16 (0 : Int))] fun a4 =>
                .st a4 0 [(.i .u32 (10 : Int)), (.i .u16 (7 : Int))] (
                .al [(.i .u32 (0 : Int)), (.i .u16 (0 : Int))] fun a5 =>
                .st a5 0 [(.i .u32 (20 : Int)), (.i .u16 (7 : Int))] (
                .loop t9_b6 [(.sc (.b b1)), (.sc (.p (.some (a2, 0)))), (.sc (.p (.some (a3, 0)))), (.sc (.p (.some (a4, 0)))), (.sc (.p (.some (a5, 0)))), (.sc (.b .false)), (.sc (.i .i64 (0 : Int)))] t9_k6))))
                (.fail))
              (.fail))
            (.fail)))
          (.fail))
        (.fail))
      (.fail))
theorem t9_eq (n0_ : Int) (n1_ : Int) : bodyK T (hs 9) Try.f9 [.sc (.i .u8 n0_), .sc (.i .u8 n1_)] = t9 n0_ n1_ := by kernel_rfl
end Go.Proofs.Ytloiifcocgpnbaa
