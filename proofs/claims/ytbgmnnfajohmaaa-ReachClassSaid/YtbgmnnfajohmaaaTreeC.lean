/- Trees of functions, printed by a program of mine; each is proved to be the function's. -/
import Derived.Test.YtbgmnnfajohmaaaGen
namespace Go.Proofs.Ytbgmnnfajohmaaa
open Go Go.Proofs.Ytbgmnnfajohmaaa.Fw
set_option linter.unusedVariables false
/-- scuttlebutt/scuttlebuttlaw16.ReachWrong -/
def t6 (n0_ : Int) (n1_ : Int) (n2_ : Int) (n3_ : Int) : Tree :=
  .call 9 [] fun v0 =>
  .asB v0 fun b1 =>
  cond (!b1)
    (.ret 0 [(.sc (.b .false))])
    (.call 10 [(.sc (.i .i64 n0_)), (.sc (.i .u64 n1_))] fun v2 =>
    .asT 2 v2 fun l3 =>
    .nthC l3 0 fun v4 =>
    .asP (v4.av) fun o5 =>
    .nthC l3 1 fun v6 =>
    .asI .i64 (v6.av) fun n7 =>
    .call 10 [(.sc (.i .i64 (3 : Int))), (.sc (.i .u64 (9 : Int)))] fun v8 =>
    .asT 2 v8 fun l9 =>
    .nthC l9 0 fun v10 =>
    .asP (v10.av) fun o11 =>
    .nthC l9 1 fun v12 =>
    .asI .i64 (v12.av) fun n13 =>
    cond (Option.isNone o11)
      (.ret 0 [(.sc (.b .false))])
      (.call 11 [(.sc (.p o11)), (.sc (.i .u32 n3_)), (.sc (.i .u64 n2_))] fun v14 =>
      .asI .i64 v14 fun n15 =>
      cond b1
        (cond (decide (n0_ ≥ (1 : Int)))
          (cond (decide (n0_ ≤ (8 : Int)))
            (cond (decide (n1_ ≥ (1 : Int)))
              (cond ((n7 == (0 : Int)) == (decide (n1_ ≤ (1000000 : Int))))
                (cond (n13 == (0 : Int))
                  (cond ((n15 == (0 : Int)) == (decide (n2_ ≤ (4611686018427387904 : Int))))
                    (cond (decide (n2_ ≤ (4611686018427387904 : Int)))
                      (.call 12 [(.sc (.p o11)), (.sc (.i .u32 n3_))] fun v16 =>
                      .asB v16 fun b17 =>
                      cond (b17 == (decide (n2_ ≤ (4611686018427387904 : Int))))
                        (.call 13 [(.sc (.p o11))] fun v18 =>
                        .asB v18 fun b19 =>
                        .ret 0 [(.sc (.b (b19 == (decide (n2_ ≤ (4611686018427387904 : Int))))))])
                        (.ret 0 [(.sc (.b .false))]))
                      (cond (n15 == (1 : Int))
                        (.call 12 [(.sc (.p o11)), (.sc (.i .u32 n3_))] fun v20 =>
                        .asB v20 fun b21 =>
                        cond (b21 == (decide (n2_ ≤ (4611686018427387904 : Int))))
                          (.call 13 [(.sc (.p o11))] fun v22 =>
                          .asB v22 fun b23 =>
                          .ret 0 [(.sc (.b (b23 == (decide (n2_ ≤ (4611686018427387904 : Int))))))])
                          (.ret 0 [(.sc (.b .false))]))
                        (.ret 0 [(.sc (.b .false))])))
                    (.ret 0 [(.sc (.b .false))]))
                  (.ret 0 [(.sc (.b .false))]))
                (.ret 0 [(.sc (.b .false))]))
              (cond ((n7 == (0 : Int)) == .false)
                (cond (n13 == (0 : Int))
                  (cond ((n15 == (0 : Int)) == (decide (n2_ ≤ (4611686018427387904 : Int))))
                    (cond (decide (n2_ ≤ (4611686018427387904 : Int)))
                      (.call 12 [(.sc (.p o11)), (.sc (.i .u32 n3_))] fun v24 =>
                      .asB v24 fun b25 =>
                      cond (b25 == (decide (n2_ ≤ (4611686018427387904 : Int))))
                        (.call 13 [(.sc (.p o11))] fun v26 =>
                        .asB v26 fun b27 =>
                        .ret 0 [(.sc (.b (b27 == (decide (n2_ ≤ (4611686018427387904 : Int))))))])
                        (.ret 0 [(.sc (.b .false))]))
                      (cond (n15 == (1 : Int))
                        (.call 12 [(.sc (.p o11)), (.sc (.i .u32 n3_))] fun v28 =>
                        .asB v28 fun b29 =>
                        cond (b29 == (decide (n2_ ≤ (4611686018427387904 : Int))))
                          (.call 13 [(.sc (.p o11))] fun v30 =>
                          .asB v30 fun b31 =>
                          .ret 0 [(.sc (.b (b31 == (decide (n2_ ≤ (4611686018427387904 : Int))))))])
                          (.ret 0 [(.sc (.b .false))]))
                        (.ret 0 [(.sc (.b .false))])))
                    (.ret 0 [(.sc (.b .false))]))
                  (.ret 0 [(.sc (.b .false))]))
                (.ret 0 [(.sc (.b .false))])))
            (cond ((n7 == (0 : Int)) == .false)
              (cond (n13 == (0 : Int))
                (cond ((n15 == (0 : Int)) == (decide (n2_ ≤ (4611686018427387904 : Int))))
                  (cond (decide (n2_ ≤ (4611686018427387904 : Int)))
                    (.call 12 [(.sc (.p o11)), (.sc (.i .u32 n3_))] fun v32 =>
                    .asB v32 fun b33 =>
                    cond (b33 == (decide (n2_ ≤ (4611686018427387904 : Int))))
                      (.call 13 [(.sc (.p o11))] fun v34 =>
                      .asB v34 fun b35 =>
                      .ret 0 [(.sc (.b (b35 == (decide (n2_ ≤ (4611686018427387904 : Int))))))])
                      (.ret 0 [(.sc (.b .false))]))
                    (cond (n15 == (1 : Int))
                      (.call 12 [(.sc (.p o11)), (.sc (.i .u32 n3_))] fun v36 =>
                      .asB v36 fun b37 =>
                      cond (b37 == (decide (n2_ ≤ (4611686018427387904 : Int))))
                        (.call 13 [(.sc (.p o11))] fun v38 =>
                        .asB v38 fun b39 =>
                        .ret 0 [(.sc (.b (b39 == (decide (n2_ ≤ (4611686018427387904 : Int))))))])
                        (.ret 0 [(.sc (.b .false))]))
                      (.ret 0 [(.sc (.b .false))])))
                  (.ret 0 [(.sc (.b .false))]))
                (.ret 0 [(.sc (.b .false))]))
              (.ret 0 [(.sc (.b .false))])))
          (cond ((n7 == (0 : Int)) == .false)
            (cond (n13 == (0 : Int))
              (cond ((n15 == (0 : Int)) == (decide (n2_ ≤ (4611686018427387904 : Int))))
                (cond (decide (n2_ ≤ (4611686018427387904 : Int)))
                  (.call 12 [(.sc (.p o11)), (.sc (.i .u32 n3_))] fun v40 =>
                  .asB v40 fun b41 =>
                  cond (b41 == (decide (n2_ ≤ (4611686018427387904 : Int))))
                    (.call 13 [(.sc (.p o11))] fun v42 =>
                    .asB v42 fun b43 =>
                    .ret 0 [(.sc (.b (b43 == (decide (n2_ ≤ (4611686018427387904 : Int))))))])
                    (.ret 0 [(.sc (.b .false))]))
                  (cond (n15 == (1 : Int))
                    (.call 12 [(.sc (.p o11)), (.sc (.i .u32 n3_))] fun v44 =>
                    .asB v44 fun b45 =>
                    cond (b45 == (decide (n2_ ≤ (4611686018427387904 : Int))))
                      (.call 13 [(.sc (.p o11))] fun v46 =>
                      .asB v46 fun b47 =>
                      .ret 0 [(.sc (.b (b47 == (decide (n2_ ≤ (4611686018427387904 : Int))))))])
                      (.ret 0 [(.sc (.b .false))]))
                    (.ret 0 [(.sc (.b .false))])))
                (.ret 0 [(.sc (.b .false))]))
              (.ret 0 [(.sc (.b .false))]))
            (.ret 0 [(.sc (.b .false))])))
        (.ret 0 [(.sc (.b .false))])))
theorem t6_eq (n0_ : Int) (n1_ : Int) (n2_ : Int) (n3_ : Int) : bodyK T (hs 6) Try.f6 [.sc (.i .i64 n0_), .sc (.i .u64 n1_), .sc (.i .u64 n2_), .sc (.i .u32 n3_)] = t6 n0_ n1_ n2_ n3_ := by kernel_rfl
def t3_k26  : Nat → List AV → Tree := fun a29 l30 =>
  .tg a29 1
    (.asB (l30.getD 0 .un) fun b31 =>
    .ret 1 [(.sc (.b b31))])
    (.tg a29 0
      (.asL (l30.getD 0 .un) fun o32 =>
      .asB (l30.getD 1 .un) fun b33 =>
      .asI .i64 (l30.getD 2 .un) fun n34 =>
      .asP (l30.getD 3 .un) fun o35 =>
      .asI .i64 (l30.getD 4 .un) fun n36 =>
      .asI .i64 (l30.getD 5 .un) fun n37 =>
      .call 13 [(.sc (.p o35))] fun v38 =>
      .asB v38 fun b39 =>
      cond (!b39)
        (.ret 1 [(.sc (.b .false))])
        (.call 12 [(.sc (.p o35)), (.sc (.i .u32 (IntKind.wrap .u32 n37)))] fun v40 =>
        .asB v40 fun b41 =>
        cond b41
          (.ret 1 [(.sc (.b .false))])
          (cond (decide ((IntKind.wrap .i64 (n37 + (1 : Int))) < n34))
            (.call 14 [(.sc (.p o35))] fun v42 =>
            .asI .i64 v42 fun n43 =>
            cond (n43 != (0 : Int))
              (.ret 1 [(.sc (.b .false))])
              (.ret 0 [(.sc (.sl o32)), (.sc (.b b33)), (.sc (.i .i64 n34)), (.sc (.p o35)), (.sc (.i .i64 n36)), (.sc (.i .i64 (IntKind.wrap .i64 (n37 + (1 : Int)))))]))
            (cond (decide (n36 < n34))
              (.call 14 [(.sc (.p o35))] fun v44 =>
              .asI .i64 v44 fun n45 =>
              cond (n45 != (1 : Int))
                (.ret 1 [(.sc (.b .false))])
                (.ret 0 [(.sc (.sl o32)), (.sc (.b b33)), (.sc (.i .i64 n34)), (.sc (.p o35)), (.sc (.i .i64 n36)), (.sc (.i .i64 (IntKind.wrap .i64 (n37 + (1 : Int)))))]))
              (.call 14 [(.sc (.p o35))] fun v46 =>
              .asI .i64 v46 fun n47 =>
              cond (n47 != (2 : Int))
                (.ret 1 [(.sc (.b .false))])
                (.ret 0 [(.sc (.sl o32)), (.sc (.b b33)), (.sc (.i .i64 n34)), (.sc (.p o35)), (.sc (.i .i64 n36)), (.sc (.i .i64 (IntKind.wrap .i64 (n37 + (1 : Int)))))]))))))
      (.fail))
def t3_b8  : List AV → Tree := fun l9 =>
  .asL (l9.getD 0 .un) fun o10 =>
  .asB (l9.getD 1 .un) fun b11 =>
  .asI .i64 (l9.getD 2 .un) fun n12 =>
  .asP (l9.getD 3 .un) fun o13 =>
  .asI .i64 (l9.getD 4 .un) fun n14 =>
  .asI .i64 (l9.getD 5 .un) fun n15 =>
  cond (decide (n15 < (slLen o10)))
    (cond (decide (n15 < (40 : Int)))
      (.call 11 [(.sc (.p o13)), (.sc (.i .u32 (IntKind.wrap .u32 n15))), (.sc (.i .u64 (0 : Int)))] fun v16 =>
      .asI .i64 v16 fun n17 =>
      cond (n17 != (0 : Int))
        (.ret 1 [(.sc (.b .false))])
        (.call 12 [(.sc (.p o13)), (.sc (.i .u32 (IntKind.wrap .u32 ((IntKind.wrap .u32 n15) + (1 : Int)))))] fun v18 =>
        .asB v18 fun b19 =>
        cond b19
          (.ret 1 [(.sc (.b .false))])
          (.ixS 1 o10 n15 fun a20 a21 a22 =>
          .ld a20 (a21 + (a22 * 1)) 1 fun l23 =>
          .nth l23 0 fun v24 =>
          .asB (.sc v24) fun b25 =>
          .join (
            cond b25
              (.call 12 [(.sc (.p o13)), (.sc (.i .u32 (IntKind.wrap .u32 n15)))] fun v27 =>
              .asB v27 fun b28 =>
              cond (!b28)
                (.ret 1 [(.sc (.b .false))])
                (.ret 0 [(.sc (.sl o10)), (.sc (.b b11)), (.sc (.i .i64 n12)), (.sc (.p o13)), (.sc (.i .i64 (0 : Int))), (.sc (.i .i64 n15))]))
              (.ret 0 [(.sc (.sl o10)), (.sc (.b b11)), (.sc (.i .i64 n12)), (.sc (.p o13)), (.sc (.i .i64 (IntKind.wrap .i64 (n14 + (1 : Int))))), (.sc (.i .i64 n15))])) t3_k26)))
      (.ret 2 [(.sc (.b b11))]))
    (.ret 2 [(.sc (.b b11))])
def t3_k8  : Nat → List AV → Tree := fun a48 l49 =>
  .tg a48 2
    (.asB (l49.getD 0 .un) fun b50 =>
    .ret 0 [(.sc (.b b50))])
    (.tg a48 1
      (.asB (l49.getD 0 .un) fun b51 =>
      .ret 0 [(.sc (.b b51))])
      (.fail))
/-- scuttlebutt/scuttlebuttlaw16.ReachClass -/
def t3 (n0_ : Int) (s1_ : Option SlD) : Tree :=
  .call 9 [] fun v0 =>
  .asB v0 fun b1 =>
  cond (!b1)
    (.ret 0 [(.sc (.b .false))])
    (.br .true
      (.call 10 [(.sc (.i .i64 (IntKind.wrap .i64 ((1 : Int) + (IntKind.wrap .i64 (Int.tmod n0_ (8 : Int))))))), (.sc (.i .u64 (10 : Int)))] fun v2 =>
      .asT 2 v2 fun l3 =>
      .nthC l3 0 fun v4 =>
      .asP (v4.av) fun o5 =>
      .nthC l3 1 fun v6 =>
      .asI .i64 (v6.av) fun n7 =>
      cond (Option.isNone o5)
        (.ret 0 [(.sc (.b .false))])
        (cond (n7 != (0 : Int))
          (.ret 0 [(.sc (.b .false))])
          (.loop t3_b8 [(.sc (.sl s1_)), (.sc (.b b1)), (.sc (.i .i64 (IntKind.wrap .i64 ((1 : Int) + (IntKind.wrap .i64 (Int.tmod n0_ (8 : Int))))))), (.sc (.p o5)), (.sc (.i .i64 (1000 : Int))), (.sc (.i .i64 (0 : Int)))] t3_k8)))
      (.fail))
theorem t3_eq (n0_ : Int) (s1_ : Option SlD) : bodyK T (hs 3) Try.f3 [.sc (.i .u8 n0_), .sc (.sl s1_)] = t3 n0_ s1_ := by kernel_rfl
end Go.Proofs.Ytbgmnnfajohmaaa
