/- Trees of functions, printed by a program of mine; each is proved to be the function's. -/
import Derived.Test.YtonohkjngmcbmaaGen
namespace Go.Proofs.Ytonohkjngmcbmaa
open Go Go.Proofs.Ytonohkjngmcbmaa.Fw
set_option linter.unusedVariables false
/-- scuttlebutt/scuttlebuttlaw10.WheelFull -/
def t5 (n0_ : Int) : Tree :=
  .call 8 [] fun v0 =>
  .asB v0 fun b1 =>
  cond (!b1)
    (.ret 0 [(.sc (.b .false))])
    (.call 9 [] fun v2 =>
    .asP v2 fun o3 =>
    cond (Option.isNone o3)
      (.ret 0 [(.sc (.b .false))])
      (.br .true
        (.loop (fun l4 =>
          .asB (l4.getD 0 .un) fun b5 =>
          .asP (l4.getD 1 .un) fun o6 =>
          .asI .i64 (l4.getD 2 .un) fun n7 =>
          .asI .i64 (l4.getD 3 .un) fun n8 =>
          cond (decide (n8 < n7))
            (.br .true
              (.call 16 [(.sc (.p o6)), (.sc (.i .i64 (Int.tmod n8 (16 : Int)))), (.sc (.i .i64 n8)), (.sc (.i .u64 (IntKind.wrap .u64 (IntKind.wrap .i64 (n7 - n8)))))] fun v9 =>
              .asI .i64 v9 fun n10 =>
              cond (!((n10 == (0 : Int)) == (decide (n8 < (256 : Int)))))
                (.ret 1 [(.sc (.b .false))])
                (cond (n10 != (0 : Int))
                  (cond (n10 != (4 : Int))
                    (.ret 1 [(.sc (.b .false))])
                    (.ret 0 [(.sc (.b b5)), (.sc (.p o6)), (.sc (.i .i64 n7)), (.sc (.i .i64 (IntKind.wrap .i64 (n8 + (1 : Int)))))]))
                  (.ret 0 [(.sc (.b b5)), (.sc (.p o6)), (.sc (.i .i64 n7)), (.sc (.i .i64 (IntKind.wrap .i64 (n8 + (1 : Int)))))])))
              (.fail))
            (.ret 2 [(.sc (.b b5)), (.sc (.p o6))])) [(.sc (.b b1)), (.sc (.p o3)), (.sc (.i .i64 (IntKind.wrap .i64 ((256 : Int) + (IntKind.wrap .i64 (Int.tmod n0_ (10 : Int))))))), (.sc (.i .i64 (0 : Int)))] fun a11 l12 =>
        .tg a11 2
          (.asB (l12.getD 0 .un) fun b13 =>
          .asP (l12.getD 1 .un) fun o14 =>
          .call 16 [(.sc (.p o14)), (.sc (.i .i64 (3 : Int))), (.sc (.i .i64 (3 : Int))), (.sc (.i .u64 (0 : Int)))] fun v15 =>
          .asI .i64 v15 fun n16 =>
          .call 18 [(.sc (.p o14))] fun v17 =>
          .asL v17 fun o18 =>
          cond b13
            (cond (n16 == (0 : Int))
              (.call 20 [(.sc (.p o14))] fun v19 =>
              .asI .i64 v19 fun n20 =>
              cond (n20 == (256 : Int))
                (cond ((slLen o18) == (256 : Int))
                  (.ixS 3 o18 (0 : Int) fun a21 a22 a23 =>
                  .ld a21 ((a22 + (a23 * 3)) + 1) 1 fun l24 =>
                  .nth l24 0 fun v25 =>
                  .asI .i64 (.sc v25) fun n26 =>
                  cond (n26 == (3 : Int))
                    (.ixS 3 o18 (0 : Int) fun a27 a28 a29 =>
                    .ld a27 ((a28 + (a29 * 3)) + 2) 1 fun l30 =>
                    .nth l30 0 fun v31 =>
                    .asI .u64 (.sc v31) fun n32 =>
                    .ret 0 [(.sc (.b (n32 == (0 : Int))))])
                    (.ret 0 [(.sc (.b .false))]))
                  (.ret 0 [(.sc (.b .false))]))
                (.ret 0 [(.sc (.b .false))]))
              (.ret 0 [(.sc (.b .false))]))
            (.ret 0 [(.sc (.b .false))]))
          (.tg a11 1
            (.asB (l12.getD 0 .un) fun b33 =>
            .ret 0 [(.sc (.b b33))])
            (.fail)))
        (.fail)))
theorem t5_eq (n0_ : Int) : bodyK T (hs 5) Try.f5 [.sc (.i .u8 n0_)] = t5 n0_ := by kernel_rfl
/-- scuttlebutt/scuttlebuttlaw10.WheelAnew -/
def t6 (n0_ : Int) (n1_ : Int) (n2_ : Int) : Tree :=
  .call 8 [] fun v0 =>
  .asB v0 fun b1 =>
  cond (!b1)
    (.ret 0 [(.sc (.b .false))])
    (.call 9 [] fun v2 =>
    .asP v2 fun o3 =>
    cond (Option.isNone o3)
      (.ret 0 [(.sc (.b .false))])
      (.call 16 [(.sc (.p o3)), (.sc (.i .i64 (1 : Int))), (.sc (.i .i64 (1 : Int))), (.sc (.i .u64 (IntKind.wrap .u64 n0_)))] fun v4 =>
      .asI .i64 v4 fun n5 =>
      .call 16 [(.sc (.p o3)), (.sc (.i .i64 (1 : Int))), (.sc (.i .i64 (2 : Int))), (.sc (.i .u64 (IntKind.wrap .u64 n2_)))] fun v6 =>
      .asI .i64 v6 fun n7 =>
      .call 16 [(.sc (.p o3)), (.sc (.i .i64 (1 : Int))), (.sc (.i .i64 (1 : Int))), (.sc (.i .u64 (IntKind.wrap .u64 n1_)))] fun v8 =>
      .asI .i64 v8 fun n9 =>
      .call 14 [(.sc (.p o3)), (.sc (.i .i64 (1 : Int))), (.sc (.i .i64 (1 : Int)))] fun v10 =>
      .asT 2 v10 fun l11 =>
      .nthC l11 0 fun v12 =>
      .asI .u64 (v12.av) fun n13 =>
      .nthC l11 1 fun v14 =>
      .asB (v14.av) fun b15 =>
      .call 18 [(.sc (.p o3))] fun v16 =>
      .asL v16 fun o17 =>
      cond ((slLen o17) != (2 : Int))
        (.ret 0 [(.sc (.b .false))])
        (.join (
          cond (decide (n1_ < n2_))
            (.ret 0 [(.sc (.i .u8 n1_)), (.sc (.b b1)), (.sc (.p o3)), (.sc (.i .i64 n9)), (.sc (.i .u64 n13)), (.sc (.b b15)), (.sc (.sl o17)), (.sc (.i .i64 (1 : Int)))])
            (.ret 0 [(.sc (.i .u8 n1_)), (.sc (.b b1)), (.sc (.p o3)), (.sc (.i .i64 n9)), (.sc (.i .u64 n13)), (.sc (.b b15)), (.sc (.sl o17)), (.sc (.i .i64 (2 : Int)))])) fun a18 l19 =>
        .tg a18 0
          (.asI .u8 (l19.getD 0 .un) fun n20 =>
          .asB (l19.getD 1 .un) fun b21 =>
          .asP (l19.getD 2 .un) fun o22 =>
          .asI .i64 (l19.getD 3 .un) fun n23 =>
          .asI .u64 (l19.getD 4 .un) fun n24 =>
          .asB (l19.getD 5 .un) fun b25 =>
          .asL (l19.getD 6 .un) fun o26 =>
          .asI .i64 (l19.getD 7 .un) fun n27 =>
          .call 10 [(.sc (.p o22)), (.sc (.i .i64 (1 : Int))), (.sc (.i .i64 (2 : Int)))] fun v28 =>
          .asB v28 fun b29 =>
          .call 14 [(.sc (.p o22)), (.sc (.i .i64 (1 : Int))), (.sc (.i .i64 (2 : Int)))] fun v30 =>
          .asT 2 v30 fun l31 =>
          .nthC l31 0 fun v32 =>
          .asI .u64 (v32.av) fun n33 =>
          .nthC l31 1 fun v34 =>
          .asB (v34.av) fun b35 =>
          .join (
            cond (decide (n20 > (0 : Int)))
              (.call 12 [(.sc (.p o22)), (.sc (.i .u64 (IntKind.wrap .u64 ((IntKind.wrap .u64 n20) - (1 : Int)))))] fun v36 =>
              .asL v36 fun o37 =>
              .ret 0 [(.sc (.i .u8 n20)), (.sc (.b b21)), (.sc (.p o22)), (.sc (.i .i64 n23)), (.sc (.i .u64 n24)), (.sc (.b b25)), (.sc (.sl o26)), (.sc (.i .i64 n27)), (.sc (.b b29)), (.sc (.b b35)), (.sc (.sl o37))])
              (.ret 0 [(.sc (.i .u8 n20)), (.sc (.b b21)), (.sc (.p o22)), (.sc (.i .i64 n23)), (.sc (.i .u64 n24)), (.sc (.b b25)), (.sc (.sl o26)), (.sc (.i .i64 n27)), (.sc (.b b29)), (.sc (.b b35)), (.sc (.sl .none))])) fun a38 l39 =>
          .tg a38 0
            (.asI .u8 (l39.getD 0 .un) fun n40 =>
            .asB (l39.getD 1 .un) fun b41 =>
            .asP (l39.getD 2 .un) fun o42 =>
            .asI .i64 (l39.getD 3 .un) fun n43 =>
            .asI .u64 (l39.getD 4 .un) fun n44 =>
            .asB (l39.getD 5 .un) fun b45 =>
            .asL (l39.getD 6 .un) fun o46 =>
            .asI .i64 (l39.getD 7 .un) fun n47 =>
            .asB (l39.getD 8 .un) fun b48 =>
            .asB (l39.getD 9 .un) fun b49 =>
            .asL (l39.getD 10 .un) fun o50 =>
            .call 12 [(.sc (.p o42)), (.sc (.i .u64 (IntKind.wrap .u64 n40)))] fun v51 =>
            .asL v51 fun o52 =>
            cond b41
              (cond (n43 == (0 : Int))
                (cond (n44 == (IntKind.wrap .u64 n40))
                  (cond b45
                    (.ixS 3 o46 (0 : Int) fun a53 a54 a55 =>
                    .ld a53 ((a54 + (a55 * 3)) + 1) 1 fun l56 =>
                    .nth l56 0 fun v57 =>
                    .asI .i64 (.sc v57) fun n58 =>
                    cond (n58 == n47)
                      (cond b48
                        (cond (!b49)
                          (cond ((slLen o50) == (0 : Int))
                            (cond ((slLen o52) == (1 : Int))
                              (.ixS 3 o52 (0 : Int) fun a59 a60 a61 =>
                              .ld a59 ((a60 + (a61 * 3)) + 1) 1 fun l62 =>
                              .nth l62 0 fun v63 =>
                              .asI .i64 (.sc v63) fun n64 =>
                              .ret 0 [(.sc (.b (n64 == (1 : Int))))])
                              (.ret 0 [(.sc (.b .false))]))
                            (.ret 0 [(.sc (.b .false))]))
                          (.ret 0 [(.sc (.b .false))]))
                        (.ret 0 [(.sc (.b .false))]))
                      (.ret 0 [(.sc (.b .false))]))
                    (.ret 0 [(.sc (.b .false))]))
                  (.ret 0 [(.sc (.b .false))]))
                (.ret 0 [(.sc (.b .false))]))
              (.ret 0 [(.sc (.b .false))]))
            (.fail))
          (.fail))))
theorem t6_eq (n0_ : Int) (n1_ : Int) (n2_ : Int) : bodyK T (hs 6) Try.f6 [.sc (.i .u8 n0_), .sc (.i .u8 n1_), .sc (.i .u8 n2_)] = t6 n0_ n1_ n2_ := by kernel_rfl
end Go.Proofs.Ytonohkjngmcbmaa
