/- Trees of functions, printed by a program of mine; each is proved to be the function's. -/
import Derived.Test.YtonohkjngmcbmaaGen
namespace Go.Proofs.Ytonohkjngmcbmaa
open Go Go.Proofs.Ytonohkjngmcbmaa.Fw
set_option linter.unusedVariables false
/-- scuttlebutt/scuttlebuttlaw10.WheelBounds -/
def t7 (n0_ : Int) (n1_ : Int) (n2_ : Int) : Tree :=
  .call 8 [] fun v0 =>
  .asB v0 fun b1 =>
  cond (!b1)
    (.ret 0 [(.sc (.b .false))])
    (.call 9 [] fun v2 =>
    .asP v2 fun o3 =>
    cond (Option.isNone o3)
      (.ret 0 [(.sc (.b .false))])
      (cond (decide (n0_ ≥ (0 : Int)))
        (cond (decide (n0_ ≤ (15 : Int)))
          (cond (decide (n1_ ≥ (0 : Int)))
            (.call 16 [(.sc (.p o3)), (.sc (.i .i64 n0_)), (.sc (.i .i64 n1_)), (.sc (.i .u64 n2_))] fun v4 =>
            .asI .i64 v4 fun n5 =>
            .call 14 [(.sc (.p o3)), (.sc (.i .i64 n0_)), (.sc (.i .i64 n1_))] fun v6 =>
            .asT 2 v6 fun l7 =>
            .nthC l7 0 fun v8 =>
            .asI .u64 (v8.av) fun n9 =>
            .nthC l7 1 fun v10 =>
            .asB (v10.av) fun b11 =>
            cond b1
              (cond ((n5 == (0 : Int)) == (decide (n1_ ≤ (1023 : Int))))
                (cond (decide (n1_ ≤ (1023 : Int)))
                  (cond (b11 == (decide (n1_ ≤ (1023 : Int))))
                    (cond (!(decide (n1_ ≤ (1023 : Int))))
                      (.call 20 [(.sc (.p o3))] fun v12 =>
                      .asI .i64 v12 fun n13 =>
                      cond ((n13 == (1 : Int)) == (decide (n1_ ≤ (1023 : Int))))
                        (.call 10 [(.sc (.p o3)), (.sc (.i .i64 n0_)), (.sc (.i .i64 n1_))] fun v14 =>
                        .asB v14 fun b15 =>
                        cond (b15 == (decide (n1_ ≤ (1023 : Int))))
                          (.call 20 [(.sc (.p o3))] fun v16 =>
                          .asI .i64 v16 fun n17 =>
                          .ret 0 [(.sc (.b (n17 == (0 : Int))))])
                          (.ret 0 [(.sc (.b .false))]))
                        (.ret 0 [(.sc (.b .false))]))
                      (cond (n9 == n2_)
                        (.call 20 [(.sc (.p o3))] fun v18 =>
                        .asI .i64 v18 fun n19 =>
                        cond ((n19 == (1 : Int)) == (decide (n1_ ≤ (1023 : Int))))
                          (.call 10 [(.sc (.p o3)), (.sc (.i .i64 n0_)), (.sc (.i .i64 n1_))] fun v20 =>
                          .asB v20 fun b21 =>
                          cond (b21 == (decide (n1_ ≤ (1023 : Int))))
                            (.call 20 [(.sc (.p o3))] fun v22 =>
                            .asI .i64 v22 fun n23 =>
                            .ret 0 [(.sc (.b (n23 == (0 : Int))))])
                            (.ret 0 [(.sc (.b .false))]))
                          (.ret 0 [(.sc (.b .false))]))
                        (.ret 0 [(.sc (.b .false))])))
                    (.ret 0 [(.sc (.b .false))]))
                  (cond (n5 == (1 : Int))
                    (cond (b11 == (decide (n1_ ≤ (1023 : Int))))
                      (cond (!(decide (n1_ ≤ (1023 : Int))))
                        (.call 20 [(.sc (.p o3))] fun v24 =>
                        .asI .i64 v24 fun n25 =>
                        cond ((n25 == (1 : Int)) == (decide (n1_ ≤ (1023 : Int))))
                          (.call 10 [(.sc (.p o3)), (.sc (.i .i64 n0_)), (.sc (.i .i64 n1_))] fun v26 =>
                          .asB v26 fun b27 =>
                          cond (b27 == (decide (n1_ ≤ (1023 : Int))))
                            (.call 20 [(.sc (.p o3))] fun v28 =>
                            .asI .i64 v28 fun n29 =>
                            .ret 0 [(.sc (.b (n29 == (0 : Int))))])
                            (.ret 0 [(.sc (.b .false))]))
                          (.ret 0 [(.sc (.b .false))]))
                        (cond (n9 == n2_)
                          (.call 20 [(.sc (.p o3))] fun v30 =>
                          .asI .i64 v30 fun n31 =>
                          cond ((n31 == (1 : Int)) == (decide (n1_ ≤ (1023 : Int))))
                            (.call 10 [(.sc (.p o3)), (.sc (.i .i64 n0_)), (.sc (.i .i64 n1_))] fun v32 =>
                            .asB v32 fun b33 =>
                            cond (b33 == (decide (n1_ ≤ (1023 : Int))))
                              (.call 20 [(.sc (.p o3))] fun v34 =>
                              .asI .i64 v34 fun n35 =>
                              .ret 0 [(.sc (.b (n35 == (0 : Int))))])
                              (.ret 0 [(.sc (.b .false))]))
                            (.ret 0 [(.sc (.b .false))]))
                          (.ret 0 [(.sc (.b .false))])))
                      (.ret 0 [(.sc (.b .false))]))
                    (.ret 0 [(.sc (.b .false))])))
                (.ret 0 [(.sc (.b .false))]))
              (.ret 0 [(.sc (.b .false))]))
            (.call 16 [(.sc (.p o3)), (.sc (.i .i64 n0_)), (.sc (.i .i64 n1_)), (.sc (.i .u64 n2_))] fun v36 =>
            .asI .i64 v36 fun n37 =>
            .call 14 [(.sc (.p o3)), (.sc (.i .i64 n0_)), (.sc (.i .i64 n1_))] fun v38 =>
            .asT 2 v38 fun l39 =>
            .nthC l39 0 fun v40 =>
            .asI .u64 (v40.av) fun n41 =>
            .nthC l39 1 fun v42 =>
            .asB (v42.av) fun b43 =>
            cond b1
              (cond ((n37 == (0 : Int)) == .false)
                (cond (n37 == (1 : Int))
                  (cond (b43 == .false)
                    (.call 20 [(.sc (.p o3))] fun v44 =>
                    .asI .i64 v44 fun n45 =>
                    cond ((n45 == (1 : Int)) == .false)
                      (.call 10 [(.sc (.p o3)), (.sc (.i .i64 n0_)), (.sc (.i .i64 n1_))] fun v46 =>
                      .asB v46 fun b47 =>
                      cond (b47 == .false)
                        (.call 20 [(.sc (.p o3))] fun v48 =>
                        .asI .i64 v48 fun n49 =>
                        .ret 0 [(.sc (.b (n49 == (0 : Int))))])
                        (.ret 0 [(.sc (.b .false))]))
                      (.ret 0 [(.sc (.b .false))]))
                    (.ret 0 [(.sc (.b .false))]))
                  (.ret 0 [(.sc (.b .false))]))
                (.ret 0 [(.sc (.b .false))]))
              (.ret 0 [(.sc (.b .false))])))
          (.call 16 [(.sc (.p o3)), (.sc (.i .i64 n0_)), (.sc (.i .i64 n1_)), (.sc (.i .u64 n2_))] fun v50 =>
          .asI .i64 v50 fun n51 =>
          .call 14 [(.sc (.p o3)), (.sc (.i .i64 n0_)), (.sc (.i .i64 n1_))] fun v52 =>
          .asT 2 v52 fun l53 =>
          .nthC l53 0 fun v54 =>
          .asI .u64 (v54.av) fun n55 =>
          .nthC l53 1 fun v56 =>
          .asB (v56.av) fun b57 =>
          cond b1
            (cond ((n51 == (0 : Int)) == .false)
              (cond (n51 == (1 : Int))
                (cond (b57 == .false)
                  (.call 20 [(.sc (.p o3))] fun v58 =>
                  .asI .i64 v58 fun n59 =>
                  cond ((n59 == (1 : Int)) == .false)
                    (.call 10 [(.sc (.p o3)), (.sc (.i .i64 n0_)), (.sc (.i .i64 n1_))] fun v60 =>
                    .asB v60 fun b61 =>
                    cond (b61 == .false)
                      (.call 20 [(.sc (.p o3))] fun v62 =>
                      .asI .i64 v62 fun n63 =>
                      .ret 0 [(.sc (.b (n63 == (0 : Int))))])
                      (.ret 0 [(.sc (.b .false))]))
                    (.ret 0 [(.sc (.b .false))]))
                  (.ret 0 [(.sc (.b .false))]))
                (.ret 0 [(.sc (.b .false))]))
              (.ret 0 [(.sc (.b .false))]))
            (.ret 0 [(.sc (.b .false))])))
        (.call 16 [(.sc (.p o3)), (.sc (.i .i64 n0_)), (.sc (.i .i64 n1_)), (.sc (.i .u64 n2_))] fun v64 =>
        .asI .i64 v64 fun n65 =>
        .call 14 [(.sc (.p o3)), (.sc (.i .i64 n0_)), (.sc (.i .i64 n1_))] fun v66 =>
        .asT 2 v66 fun l67 =>
        .nthC l67 0 fun v68 =>
        .asI .u64 (v68.av) fun n69 =>
        .nthC l67 1 fun v70 =>
        .asB (v70.av) fun b71 =>
        cond b1
          (cond ((n65 == (0 : Int)) == .false)
            (cond (n65 == (1 : Int))
              (cond (b71 == .false)
                (.call 20 [(.sc (.p o3))] fun v72 =>
                .asI .i64 v72 fun n73 =>
                cond ((n73 == (1 : Int)) == .false)
                  (.call 10 [(.sc (.p o3)), (.sc (.i .i64 n0_)), (.sc (.i .i64 n1_))] fun v74 =>
                  .asB v74 fun b75 =>
                  cond (b75 == .false)
                    (.call 20 [(.sc (.p o3))] fun v76 =>
                    .asI .i64 v76 fun n77 =>
                    .ret 0 [(.sc (.b (n77 == (0 : Int))))])
                    (.ret 0 [(.sc (.b .false))]))
                  (.ret 0 [(.sc (.b .false))]))
                (.ret 0 [(.sc (.b .false))]))
              (.ret 0 [(.sc (.b .false))]))
            (.ret 0 [(.sc (.b .false))]))
          (.ret 0 [(.sc (.b .false))]))))
theorem t7_eq (n0_ : Int) (n1_ : Int) (n2_ : Int) : bodyK T (hs 7) Try.f7 [.sc (.i .i64 n0_), .sc (.i .i64 n1_), .sc (.i .u64 n2_)] = t7 n0_ n1_ n2_ := by kernel_rfl
end Go.Proofs.Ytonohkjngmcbmaa
