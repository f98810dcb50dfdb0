/- Trees of functions, printed by a program of mine; each is proved to be the function's. -/
import Derived.Test.YtloiifcocgpnbaaGen
namespace Go.Proofs.Ytloiifcocgpnbaa
open Go Go.Proofs.Ytloiifcocgpnbaa.Fw
set_option linter.unusedVariables false
set_option maxRecDepth 20000
/-- scuttlebutt/scuttlebuttlaw08.examples -/
def t10  : Tree :=
  .call 11 [(.ag [(.i .i64 (0 : Int)), (.i .i64 (0 : Int))]), (.sc (.i .u32 (0 : Int))), (.sc (.i .u64 (1 : Int))), (.sc (.i .i64 (1 : Int)))] fun v0 =>
  .asT 2 v0 fun l1 =>
  .nthC l1 0 fun v2 =>
  .asP (v2.av) fun o3 =>
  .nthC l1 1 fun v4 =>
  .asI .i64 (v4.av) fun n5 =>
  .call 11 [(.ag [(.i .i64 (0 : Int)), (.i .i64 (2 : Int))]), (.sc (.i .u32 (9 : Int))), (.sc (.i .u64 (10 : Int))), (.sc (.i .i64 (2 : Int)))] fun v6 =>
  .asT 2 v6 fun l7 =>
  .nthC l7 0 fun v8 =>
  .asP (v8.av) fun o9 =>
  .nthC l7 1 fun v10 =>
  .asI .i64 (v10.av) fun n11 =>
  cond (Option.isNone o9)
    (.ret 0 [(.sc (.b .false))])
    (.al [(.i .u32 (0 : Int)), (.i .u16 (0 : Int))] fun a12 =>
    .st a12 0 [(.i .u32 (10 : Int)), (.i .u16 (7 : Int))] (
    .al [(.i .u32 (0 : Int)), (.i .u16 (0 : Int))] fun a13 =>
    .st a13 0 [(.i .u32 (50 : Int)), (.i .u16 (8 : Int))] (
    .ld a12 0 2 fun l14 =>
    .nth l14 0 fun v15 =>
    .asI .u32 (.sc v15) fun n16 =>
    .nth l14 1 fun v17 =>
    .asI .u16 (.sc v17) fun n18 =>
    .ld a13 0 2 fun l19 =>
    .nth l19 0 fun v20 =>
    .asI .u32 (.sc v20) fun n21 =>
    .nth l19 1 fun v22 =>
    .asI .u16 (.sc v22) fun n23 =>
    .call 12 [(.sc (.p o9)), (.sc (.i .u64 (0 : Int))), (.ag [(.i .u32 n16), (.i .u16 n18)]), (.ag [(.i .u32 n21), (.i .u16 n23)])] fun v24 =>
    .asT 2 v24 fun l25 =>
    .nthC l25 0 fun v26 =>
    .asA 2 (v26.av) fun l27 =>
    .nth l27 0 fun v28 =>
    .asI .u32 (.sc v28) fun n29 =>
    .nth l27 1 fun v30 =>
    .asI .u16 (.sc v30) fun n31 =>
    .nthC l25 1 fun v32 =>
    .asI .i64 (v32.av) fun n33 =>
    .al [(.i .u32 (0 : Int)), (.i .u16 (0 : Int))] fun a34 =>
    .st a34 0 [(.i .u32 n29), (.i .u16 n31)] (
    .ld a34 (0 + 1) 1 fun l35 =>
    .nth l35 0 fun v36 =>
    .asI .u16 (.sc v36) fun n37 =>
    .ld a13 0 2 fun l38 =>
    .nth l38 0 fun v39 =>
    .asI .u32 (.sc v39) fun n40 =>
    .nth l38 1 fun v41 =>
    .asI .u16 (.sc v41) fun n42 =>
    .call 15 [(.sc (.p o9)), (.sc (.i .u64 (5 : Int))), (.sc (.i .u16 n37)), (.ag [(.i .u32 n40), (.i .u16 n42)])] fun v43 =>
    .asT 2 v43 fun l44 =>
    .nthC l44 0 fun v45 =>
    .asA 2 (v45.av) fun l46 =>
    .nth l46 0 fun v47 =>
    .asI .u32 (.sc v47) fun n48 =>
    .nth l46 1 fun v49 =>
    .asI .u16 (.sc v49) fun n50 =>
    .nthC l44 1 fun v51 =>
    .asI .i64 (v51.av) fun n52 =>
    .al [(.i .u32 (0 : Int)), (.i .u16 (0 : Int))] fun a53 =>
    .st a53 0 [(.i .u32 n48), (.i .u16 n50)] (
    .ld a34 (0 + 1) 1 fun l54 =>
    .nth l54 0 fun v55 =>
    .asI .u16 (.sc v55) fun n56 =>
    .call 15 [(.sc (.p o9)), (.sc (.i .u64 (5 : Int))), (.sc (.i .u16 n56)), (.ag [(.i .u32 (50 : Int)), (.i .u16 (9 : Int))])] fun v57 =>
    .asT 2 v57 fun l58 =>
    .nthC l58 0 fun v59 =>
    .asA 2 (v59.av) fun l60 =>
    .nth l60 0 fun v61 =>
    .asI .u32 (.sc v61) fun n62 =>
    .nth l60 1 fun v63 =>
    .asI .u16 (.sc v63) fun n64 =>
    .nthC l58 1 fun v65 =>
    .asI .i64 (v65.av) fun n66 =>
    .al [(.i .u32 (0 : Int)), (.i .u16 (0 : Int))] fun a67 =>
    .st a67 0 [(.i .u32 n62), (.i .u16 n64)] (
    .ld a34 (0 + 1) 1 fun l68 =>
    .nth l68 0 fun v69 =>
    .asI .u16 (.sc v69) fun n70 =>
    .ld a13 0 2 fun l71 =>
    .nth l71 0 fun v72 =>
    .asI .u32 (.sc v72) fun n73 =>
    .nth l71 1 fun v74 =>
    .asI .u16 (.sc v74) fun n75 =>
    .call 15 [(.sc (.p o9)), (.sc (.i .u64 (99 : Int))), (.sc (.i .u16 n70)), (.ag [(.i .u32 n73), (.i .u16 n75)])] fun v76 =>
    .asT 2 v76 fun l77 =>
    .nthC l77 0 fun v78 =>
    .asA 2 (v78.av) fun l79 =>
    .nth l79 0 fun v80 =>
    .asI .u32 (.sc v80) fun n81 =>
    .nth l79 1 fun v82 =>
    .asI .u16 (.sc v82) fun n83 =>
    .nthC l77 1 fun v84 =>
    .asI .i64 (v84.av) fun n85 =>
    .al [(.i .u32 (0 : Int)), (.i .u16 (0 : Int))] fun a86 =>
    .st a86 0 [(.i .u32 n81), (.i .u16 n83)] (
    cond (n5 == (1 : Int))
      (cond (n11 == (0 : Int))
        (.ld a34 (0 + 0) 1 fun l87 =>
        .nth l87 0 fun v88 =>
        .asI .u32 (.sc v88) fun n89 =>
        cond (n89 == (9 : Int))
          (.ld a34 (0 + 1) 1 fun l90 =>
          .nth l90 0 fun v91 =>
          .asI .u16 (.sc v91) fun n92 =>
          cond (n92 == (20000 : Int))
            (cond (n33 == (0 : Int))
              (.ld a53 0 2 fun l93 =>
              .nth l93 0 fun v94 =>
              .asI .u32 (.sc v94) fun n95 =>
              .nth l93 1 fun v96 =>
              .asI .u16 (.sc v96) fun n97 =>
              .ld a12 0 2 fun l98 =>
              .nth l98 0 fun v99 =>
              .asI .u32 (.sc v99) fun n100 =>
              .nth l98 1 fun v101 =>
              .asI .u16 (.sc v101) fun n102 =>
              cond ((n95 == n100) && ((n97 == n102) && .true))
                (cond (n52 == (0 : Int))
                  (cond (n66 == (5 : Int))
                    (cond (n85 == (5 : Int))
                      (.call 16 [(.sc (.p o9))] fun v103 =>
                      .asL v103 fun o104 =>
                      cond ((slLen o104) == (0 : Int))
                        (.call 19 [(.sc (.p o9)), (.sc (.i .u32 (7 : Int)))] fun v105 =>
                        .asI .i64 v105 fun n106 =>
                        cond (n106 == (0 : Int))
                          (.call 20 [(.sc (.p o9))] fun v107 =>
                          .asI .u32 v107 fun n108 =>
                          cond (n108 == (7 : Int))
                            (.call 19 [(.sc (.p o9)), (.sc (.i .u32 (0 : Int)))] fun v109 =>
                            .asI .i64 v109 fun n110 =>
                            .ret 0 [(.sc (.b (n110 == (1 : Int))))])
                            (.ret 0 [(.sc (.b .false))]))
                          (.ret 0 [(.sc (.b .false))]))
                        (.ret 0 [(.sc (.b .false))]))
                      (.ret 0 [(.sc (.b .false))]))
                    (.ret 0 [(.sc (.b .false))]))
                  (.ret 0 [(.sc (.b .false))]))
                (.ret 0 [(.sc (.b .false))]))
              (.ret 0 [(.sc (.b .false))]))
            (.ret 0 [(.sc (.b .false))]))
          (.ret 0 [(.sc (.b .false))]))
        (.ret 0 [(.sc (.b .false))]))
      (.ret 0 [(.sc (.b .false))]))))))))
theorem t10_eq  : bodyK T (hs 10) Try.f10 [] = t10 := by kernel_rfl
end Go.Proofs.Ytloiifcocgpnbaa
