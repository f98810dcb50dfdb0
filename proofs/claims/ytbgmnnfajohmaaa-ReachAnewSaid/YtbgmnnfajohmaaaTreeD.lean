/- Trees of functions, printed by a program of mine; each is proved to be the function's. -/
import Derived.Test.YtbgmnnfajohmaaaGen
namespace Go.Proofs.Ytbgmnnfajohmaaa
open Go Go.Proofs.Ytbgmnnfajohmaaa.Fw
set_option linter.unusedVariables false
def t8_b28  : List AV → Tree := fun l29 =>
  .asI .u8 (l29.getD 0 .un) fun n30 =>
  .asB (l29.getD 1 .un) fun b31 =>
  .asP (l29.getD 2 .un) fun o32 =>
  .asI .i64 (l29.getD 3 .un) fun n33 =>
  .br .true
    (cond (decide (n33 < (IntKind.wrap .i64 (Int.tmod n30 (5 : Int)))))
      (.call 11 [(.sc (.p o32)), (.sc (.i .u32 (7 : Int))), (.sc (.i .u64 (0 : Int)))] fun v34 =>
      .asI .i64 v34 fun n35 =>
      .call 12 [(.sc (.p o32)), (.sc (.i .u32 (7 : Int)))] fun v36 =>
      .asB v36 fun b37 =>
      .call 13 [(.sc (.p o32))] fun v38 =>
      .asB v38 fun b39 =>
      .ret 0 [(.sc (.i .u8 n30)), (.sc (.b b31)), (.sc (.p o32)), (.sc (.i .i64 (IntKind.wrap .i64 (n33 + (1 : Int)))))])
      (.ret 6 [(.sc (.b b31)), (.sc (.p o32))]))
    (.fail)
def t8_k28  : Nat → List AV → Tree := fun a40 l41 =>
  .tg a40 6
    (.asB (l41.getD 0 .un) fun b42 =>
    .asP (l41.getD 1 .un) fun o43 =>
    .call 11 [(.sc (.p o43)), (.sc (.i .u32 (9 : Int))), (.sc (.i .u64 (0 : Int)))] fun v44 =>
    .asI .i64 v44 fun n45 =>
    .call 23 [(.sc (.p o43))] fun v46 =>
    .call 16 [(.sc (.p o43)), (.sc (.i .u64 (0 : Int)))] fun v47 =>
    .asT 2 v47 fun l48 =>
    .nthC l48 0 fun v49 =>
    .asA 2 (v49.av) fun l50 =>
    .nth l50 0 fun v51 =>
    .asI .u32 (.sc v51) fun n52 =>
    .nth l50 1 fun v53 =>
    .asI .u16 (.sc v53) fun n54 =>
    .nthC l48 1 fun v55 =>
    .asB (v55.av) fun b56 =>
    .al [(.i .u32 (0 : Int)), (.i .u16 (0 : Int))] fun a57 =>
    .st a57 0 [(.i .u32 n52), (.i .u16 n54)] (
    cond b42
      (.call 14 [(.sc (.p o43))] fun v58 =>
      .asI .i64 v58 fun n59 =>
      cond (n59 == (0 : Int))
        (cond (!b56)
          (.call 18 [(.sc (.p o43))] fun v60 =>
          .asL v60 fun o61 =>
          cond ((slLen o61) == (0 : Int))
            (.call 12 [(.sc (.p o43)), (.sc (.i .u32 (9 : Int)))] fun v62 =>
            .asB v62 fun b63 =>
            cond (!b63)
              (.call 13 [(.sc (.p o43))] fun v64 =>
              .asB v64 fun b65 =>
              cond (!b65)
                (.call 11 [(.sc (.p o43)), (.sc (.i .u32 (3 : Int))), (.sc (.i .u64 (0 : Int)))] fun v66 =>
                .asI .i64 v66 fun n67 =>
                .ret 0 [(.sc (.b (n67 == (0 : Int))))])
                (.ret 0 [(.sc (.b .false))]))
              (.ret 0 [(.sc (.b .false))]))
            (.ret 0 [(.sc (.b .false))]))
          (.ret 0 [(.sc (.b .false))]))
        (.ret 0 [(.sc (.b .false))]))
      (.ret 0 [(.sc (.b .false))])))
    (.fail)
def t8_b8  : List AV → Tree := fun l9 =>
  .asL (l9.getD 0 .un) fun o10 =>
  .asI .u8 (l9.getD 1 .un) fun n11 =>
  .asB (l9.getD 2 .un) fun b12 =>
  .asP (l9.getD 3 .un) fun o13 =>
  .asI .i64 (l9.getD 4 .un) fun n14 =>
  cond (decide (n14 < (slLen o10)))
    (cond (decide (n14 < (20 : Int)))
      (.ixS 1 o10 n14 fun a15 a16 a17 =>
      .ld a15 (a16 + (a17 * 1)) 1 fun l18 =>
      .nth l18 0 fun v19 =>
      .asI .u8 (.sc v19) fun n20 =>
      .br .true
        (.call 15 [(.sc (.p o13)), (.sc (.i .i64 (IntKind.wrap .i64 ((1 : Int) + (IntKind.wrap .i64 (Int.tmod n20 (32 : Int))))))), (.ag [(.i .u32 (4 : Int)), (.i .u16 (4 : Int))]), (.sc (.i .u64 (0 : Int)))] fun v21 =>
        .asI .i64 v21 fun n22 =>
        .ret 0 [(.sc (.sl o10)), (.sc (.i .u8 n11)), (.sc (.b b12)), (.sc (.p o13)), (.sc (.i .i64 (IntKind.wrap .i64 (n14 + (1 : Int)))))])
        (.fail))
      (.ret 2 [(.sc (.i .u8 n11)), (.sc (.b b12)), (.sc (.p o13))]))
    (.ret 2 [(.sc (.i .u8 n11)), (.sc (.b b12)), (.sc (.p o13))])
def t8_k8  : Nat → List AV → Tree := fun a23 l24 =>
  .tg a23 2
    (.asI .u8 (l24.getD 0 .un) fun n25 =>
    .asB (l24.getD 1 .un) fun b26 =>
    .asP (l24.getD 2 .un) fun o27 =>
    .loop t8_b28 [(.sc (.i .u8 n25)), (.sc (.b b26)), (.sc (.p o27)), (.sc (.i .i64 (0 : Int)))] t8_k28)
    (.fail)
/-- scuttlebutt/scuttlebuttlaw16.ReachAnew -/
def t8 (s0_ : Option SlD) (n1_ : Int) : Tree :=
  .call 9 [] fun v0 =>
  .asB v0 fun b1 =>
  cond (!b1)
    (.ret 0 [(.sc (.b .false))])
    (.call 10 [(.sc (.i .i64 (2 : Int))), (.sc (.i .u64 (100 : Int)))] fun v2 =>
    .asT 2 v2 fun l3 =>
    .nthC l3 0 fun v4 =>
    .asP (v4.av) fun o5 =>
    .nthC l3 1 fun v6 =>
    .asI .i64 (v6.av) fun n7 =>
    cond (Option.isNone o5)
      (.ret 0 [(.sc (.b .false))])
      (cond (n7 != (0 : Int))
        (.ret 0 [(.sc (.b .false))])
        (.loop t8_b8 [(.sc (.sl s0_)), (.sc (.i .u8 n1_)), (.sc (.b b1)), (.sc (.p o5)), (.sc (.i .i64 (0 : Int)))] t8_k8)))
theorem t8_eq (s0_ : Option SlD) (n1_ : Int) : bodyK T (hs 8) Try.f8 [.sc (.sl s0_), .sc (.i .u8 n1_)] = t8 s0_ n1_ := by kernel_rfl
end Go.Proofs.Ytbgmnnfajohmaaa
