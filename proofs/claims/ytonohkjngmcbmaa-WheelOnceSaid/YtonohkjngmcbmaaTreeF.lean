/- Trees of functions, printed by a program of mine; each is proved to be the function's. -/
import Derived.Test.YtonohkjngmcbmaaGen
namespace Go.Proofs.Ytonohkjngmcbmaa
open Go Go.Proofs.Ytonohkjngmcbmaa.Fw
set_option linter.unusedVariables false
def t4_b42  : List AV → Tree := fun l43 =>
  .asL (l43.getD 0 .un) fun o44 =>
  .asB (l43.getD 1 .un) fun b45 =>
  .asP (l43.getD 2 .un) fun o46 =>
  .asI .i64 (l43.getD 3 .un) fun n47 =>
  .asB (l43.getD 4 .un) fun b48 =>
  .asI .i64 (l43.getD 5 .un) fun n49 =>
  .asI .u64 (l43.getD 6 .un) fun n50 =>
  .asL (l43.getD 7 .un) fun o51 =>
  .asI .i64 (l43.getD 8 .un) fun n52 =>
  cond (decide (n52 < (slLen o51)))
    (.ixS 3 o51 n52 fun a53 a54 a55 =>
    .ld a53 ((a54 + (a55 * 3)) + 2) 1 fun l56 =>
    .nth l56 0 fun v57 =>
    .asI .u64 (.sc v57) fun n58 =>
    cond (n58 != n50)
      (.ret 1 [(.sc (.b .false))])
      (.ixS 3 o51 n52 fun a59 a60 a61 =>
      .ld a59 ((a60 + (a61 * 3)) + 1) 1 fun l62 =>
      .nth l62 0 fun v63 =>
      .asI .i64 (.sc v63) fun n64 =>
      cond (decide (n64 < (0 : Int)))
        (.ret 1 [(.sc (.b .false))])
        (.ixS 3 o51 n52 fun a65 a66 a67 =>
        .ld a65 ((a66 + (a67 * 3)) + 1) 1 fun l68 =>
        .nth l68 0 fun v69 =>
        .asI .i64 (.sc v69) fun n70 =>
        cond (decide (n70 ≥ (slLen o44)))
          (.ret 1 [(.sc (.b .false))])
          (.ixS 3 o51 n52 fun a71 a72 a73 =>
          .ld a71 ((a72 + (a73 * 3)) + 1) 1 fun l74 =>
          .nth l74 0 fun v75 =>
          .asI .i64 (.sc v75) fun n76 =>
          .ixS 1 o44 n76 fun a77 a78 a79 =>
          .ld a77 (a78 + (a79 * 1)) 1 fun l80 =>
          .nth l80 0 fun v81 =>
          .asI .u8 (.sc v81) fun n82 =>
          .br .true
            (cond ((IntKind.wrap .u64 (Int.tmod n82 (16 : Int))) != n50)
              (.ret 1 [(.sc (.b .false))])
              (.ixS 3 o51 n52 fun a83 a84 a85 =>
              .ld a83 ((a84 + (a85 * 3)) + 1) 1 fun l86 =>
              .nth l86 0 fun v87 =>
              .asI .i64 (.sc v87) fun n88 =>
              cond (n88 == n47)
                (.ret 1 [(.sc (.b .false))])
                (cond (decide (n52 > (0 : Int)))
                  (.ixS 3 o51 (IntKind.wrap .i64 (n52 - (1 : Int))) fun a89 a90 a91 =>
                  .ld a89 ((a90 + (a91 * 3)) + 1) 1 fun l92 =>
                  .nth l92 0 fun v93 =>
                  .asI .i64 (.sc v93) fun n94 =>
                  .ixS 3 o51 n52 fun a95 a96 a97 =>
                  .ld a95 ((a96 + (a97 * 3)) + 1) 1 fun l98 =>
                  .nth l98 0 fun v99 =>
                  .asI .i64 (.sc v99) fun n100 =>
                  cond (decide (n94 ≥ n100))
                    (.ret 1 [(.sc (.b .false))])
                    (.ret 0 [(.sc (.sl o44)), (.sc (.b b45)), (.sc (.p o46)), (.sc (.i .i64 n47)), (.sc (.b b48)), (.sc (.i .i64 (IntKind.wrap .i64 (n49 + (1 : Int))))), (.sc (.i .u64 n50)), (.sc (.sl o51)), (.sc (.i .i64 (IntKind.wrap .i64 (n52 + (1 : Int)))))]))
                  (.ret 0 [(.sc (.sl o44)), (.sc (.b b45)), (.sc (.p o46)), (.sc (.i .i64 n47)), (.sc (.b b48)), (.sc (.i .i64 (IntKind.wrap .i64 (n49 + (1 : Int))))), (.sc (.i .u64 n50)), (.sc (.sl o51)), (.sc (.i .i64 (IntKind.wrap .i64 (n52 + (1 : Int)))))]))))
            (.fail)))))
    (.ret 10 [(.sc (.sl o44)), (.sc (.b b45)), (.sc (.p o46)), (.sc (.i .i64 n47)), (.sc (.b b48)), (.sc (.i .i64 n49)), (.sc (.i .u64 n50))])
def t4_k42  : Nat → List AV → Tree := fun a101 l102 =>
  .tg a101 10
    (.asL (l102.getD 0 .un) fun o103 =>
    .asB (l102.getD 1 .un) fun b104 =>
    .asP (l102.getD 2 .un) fun o105 =>
    .asI .i64 (l102.getD 3 .un) fun n106 =>
    .asB (l102.getD 4 .un) fun b107 =>
    .asI .i64 (l102.getD 5 .un) fun n108 =>
    .asI .u64 (l102.getD 6 .un) fun n109 =>
    .ret 0 [(.sc (.sl o103)), (.sc (.b b104)), (.sc (.p o105)), (.sc (.i .i64 n106)), (.sc (.b b107)), (.sc (.i .i64 n108)), (.sc (.i .u64 (IntKind.wrap .u64 (n109 + (1 : Int)))))])
    (.tg a101 1
      (.asB (l102.getD 0 .un) fun b110 =>
      .ret 1 [(.sc (.b b110))])
      (.fail))
def t4_b31  : List AV → Tree := fun l32 =>
  .asL (l32.getD 0 .un) fun o33 =>
  .asB (l32.getD 1 .un) fun b34 =>
  .asP (l32.getD 2 .un) fun o35 =>
  .asI .i64 (l32.getD 3 .un) fun n36 =>
  .asB (l32.getD 4 .un) fun b37 =>
  .asI .i64 (l32.getD 5 .un) fun n38 =>
  .asI .u64 (l32.getD 6 .un) fun n39 =>
  cond (decide (n39 < (16 : Int)))
    (.call 12 [(.sc (.p o35)), (.sc (.i .u64 n39))] fun v40 =>
    .asL v40 fun o41 =>
    .loop t4_b42 [(.sc (.sl o33)), (.sc (.b b34)), (.sc (.p o35)), (.sc (.i .i64 n36)), (.sc (.b b37)), (.sc (.i .i64 n38)), (.sc (.i .u64 n39)), (.sc (.sl o41)), (.sc (.i .i64 (0 : Int)))] t4_k42)
    (.ret 6 [(.sc (.sl o33)), (.sc (.b b34)), (.sc (.p o35)), (.sc (.b b37)), (.sc (.i .i64 n38))])
def t4_k31  : Nat → List AV → Tree := fun a111 l112 =>
  .tg a111 6
    (.asL (l112.getD 0 .un) fun o113 =>
    .asB (l112.getD 1 .un) fun b114 =>
    .asP (l112.getD 2 .un) fun o115 =>
    .asB (l112.getD 3 .un) fun b116 =>
    .asI .i64 (l112.getD 4 .un) fun n117 =>
    cond b114
      (cond b116
        (cond (n117 == (IntKind.wrap .i64 ((slLen o113) - (1 : Int))))
          (.call 20 [(.sc (.p o115))] fun v118 =>
          .asI .i64 v118 fun n119 =>
          .ret 0 [(.sc (.b (n119 == (0 : Int))))])
          (.ret 0 [(.sc (.b .false))]))
        (.ret 0 [(.sc (.b .false))]))
      (.ret 0 [(.sc (.b .false))]))
    (.tg a111 1
      (.asB (l112.getD 0 .un) fun b120 =>
      .ret 0 [(.sc (.b b120))])
      (.fail))
def t4_b8  : List AV → Tree := fun l9 =>
  .asL (l9.getD 0 .un) fun o10 =>
  .asI .u8 (l9.getD 1 .un) fun n11 =>
  .asB (l9.getD 2 .un) fun b12 =>
  .asP (l9.getD 3 .un) fun o13 =>
  .asI .i64 (l9.getD 4 .un) fun n14 =>
  cond (decide (n14 < (slLen o10)))
    (.ixS 1 o10 n14 fun a15 a16 a17 =>
    .ld a15 (a16 + (a17 * 1)) 1 fun l18 =>
    .nth l18 0 fun v19 =>
    .asI .u8 (.sc v19) fun n20 =>
    .br .true
      (.call 16 [(.sc (.p o13)), (.sc (.i .i64 (2 : Int))), (.sc (.i .i64 n14)), (.sc (.i .u64 (IntKind.wrap .u64 (Int.tmod n20 (16 : Int)))))] fun v21 =>
      .asI .i64 v21 fun n22 =>
      cond (n22 != (0 : Int))
        (.ret 1 [(.sc (.b .false))])
        (.ret 0 [(.sc (.sl o10)), (.sc (.i .u8 n11)), (.sc (.b b12)), (.sc (.p o13)), (.sc (.i .i64 (IntKind.wrap .i64 (n14 + (1 : Int)))))]))
      (.fail))
    (.ret 2 [(.sc (.sl o10)), (.sc (.i .u8 n11)), (.sc (.b b12)), (.sc (.p o13))])
def t4_k8  : Nat → List AV → Tree := fun a23 l24 =>
  .tg a23 2
    (.asL (l24.getD 0 .un) fun o25 =>
    .asI .u8 (l24.getD 1 .un) fun n26 =>
    .asB (l24.getD 2 .un) fun b27 =>
    .asP (l24.getD 3 .un) fun o28 =>
    .br ((slLen o25) != (0 : Int))
      (.call 10 [(.sc (.p o28)), (.sc (.i .i64 (2 : Int))), (.sc (.i .i64 (Int.tmod (IntKind.wrap .i64 n26) (slLen o25))))] fun v29 =>
      .asB v29 fun b30 =>
      .loop t4_b31 [(.sc (.sl o25)), (.sc (.b b27)), (.sc (.p o28)), (.sc (.i .i64 (Int.tmod (IntKind.wrap .i64 n26) (slLen o25)))), (.sc (.b b30)), (.sc (.i .i64 (0 : Int))), (.sc (.i .u64 (0 : Int)))] t4_k31)
      (.fail))
    (.tg a23 1
      (.asB (l24.getD 0 .un) fun b121 =>
      .ret 0 [(.sc (.b b121))])
      (.fail))
/-- scuttlebutt/scuttlebuttlaw10.WheelOnce -/
def t4 (s0_ : Option SlD) (n1_ : Int) : Tree :=
  .call 8 [] fun v0 =>
  .asB v0 fun b1 =>
  cond (!b1)
    (.ret 0 [(.sc (.b .false))])
    (.call 9 [] fun v2 =>
    .asP v2 fun o3 =>
    cond (Option.isNone o3)
      (.ret 0 [(.sc (.b .false))])
      (.al [(.i .u8 (5 : Int))] fun a4 =>
      .slc 1 s0_ .none (.some (minI (slLen s0_) (30 : Int))) .none fun o5 =>
      .lds 1 o5 (slN o5) fun l6 =>
      .app 1 1 (.some (.mk a4 0 1 1 1)) l6 (slN o5) fun o7 =>
      .loop t4_b8 [(.sc (.sl o7)), (.sc (.i .u8 n1_)), (.sc (.b b1)), (.sc (.p o3)), (.sc (.i .i64 (0 : Int)))] t4_k8))
theorem t4_eq (s0_ : Option SlD) (n1_ : Int) : bodyK T (hs 4) Try.f4 [.sc (.sl s0_), .sc (.i .u8 n1_)] = t4 s0_ n1_ := by kernel_rfl
end Go.Proofs.Ytonohkjngmcbmaa
