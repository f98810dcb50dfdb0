/- Trees of functions, printed by a program of mine; each is proved to be the function's. -/
import Derived.Test.YtmbnikcnmjpheaaGen
namespace Go.Proofs.Ytmbnikcnmjpheaa
open Go Go.Proofs.Ytmbnikcnmjpheaa.Fw
set_option linter.unusedVariables false
set_option maxRecDepth 20000
def t5_b84  : List AV → Tree := fun l85 =>
  .asL (l85.getD 0 .un) fun o86 =>
  .asI .u8 (l85.getD 1 .un) fun n87 =>
  .asI .u8 (l85.getD 2 .un) fun n88 =>
  .asB (l85.getD 3 .un) fun b89 =>
  .asP (l85.getD 4 .un) fun o90 =>
  .asL (l85.getD 5 .un) fun o91 =>
  .asL (l85.getD 6 .un) fun o92 =>
  .asL (l85.getD 7 .un) fun o93 =>
  .asI .i64 (l85.getD 8 .un) fun n94 =>
  .asI .i64 (l85.getD 9 .un) fun n95 =>
  cond (decide (n95 < (slLen o91)))
    (.br (decide ((0 : Int) ≤ n95))
      (.br .true
        (cond ((Int.tmod (Int.fdiv n87 ((2 : Int) ^ (min (Int.toNat n95) 8))) (2 : Int)) == (0 : Int))
          (.ixS 1 o86 n95 fun a96 a97 a98 =>
          .ld a96 (a97 + (a98 * 1)) 1 fun l99 =>
          .nth l99 0 fun v100 =>
          .asI .u8 (.sc v100) fun n101 =>
          .br .true
            (.br .true
              (cond (decide ((Int.tmod n101 (60 : Int)) > (Int.tmod n88 (60 : Int))))
                (cond (decide (n94 ≥ (slLen o93)))
                  (.ret 1 [(.sc (.b .false))])
                  (.ixS 1 o93 n94 fun a102 a103 a104 =>
                  .ld a102 (a103 + (a104 * 1)) 1 fun l105 =>
                  .nth l105 0 fun v106 =>
                  .asI .i64 (.sc v106) fun n107 =>
                  .ixS 1 o91 n95 fun a108 a109 a110 =>
                  .ld a108 (a109 + (a110 * 1)) 1 fun l111 =>
                  .nth l111 0 fun v112 =>
                  .asI .i64 (.sc v112) fun n113 =>
                  cond (n107 != n113)
                    (.ret 1 [(.sc (.b .false))])
                    (.ret 0 [(.sc (.sl o86)), (.sc (.i .u8 n87)), (.sc (.i .u8 n88)), (.sc (.b b89)), (.sc (.p o90)), (.sc (.sl o91)), (.sc (.sl o92)), (.sc (.sl o93)), (.sc (.i .i64 (IntKind.wrap .i64 (n94 + (1 : Int))))), (.sc (.i .i64 (IntKind.wrap .i64 (n95 + (1 : Int)))))])))
                (.ret 0 [(.sc (.sl o86)), (.sc (.i .u8 n87)), (.sc (.i .u8 n88)), (.sc (.b b89)), (.sc (.p o90)), (.sc (.sl o91)), (.sc (.sl o92)), (.sc (.sl o93)), (.sc (.i .i64 n94)), (.sc (.i .i64 (IntKind.wrap .i64 (n95 + (1 : Int)))))]))
              (.fail))
            (.fail))
          (.ret 0 [(.sc (.sl o86)), (.sc (.i .u8 n87)), (.sc (.i .u8 n88)), (.sc (.b b89)), (.sc (.p o90)), (.sc (.sl o91)), (.sc (.sl o92)), (.sc (.sl o93)), (.sc (.i .i64 n94)), (.sc (.i .i64 (IntKind.wrap .i64 (n95 + (1 : Int)))))]))
        (.fail))
      (.fail))
    (.ret 10 [(.sc (.b b89)), (.sc (.p o90)), (.sc (.sl o91)), (.sc (.sl o92)), (.sc (.sl o93)), (.sc (.i .i64 n94))])
def t5_k84  : Nat → List AV → Tree := fun a114 l115 =>
  .tg a114 10
    (.asB (l115.getD 0 .un) fun b116 =>
    .asP (l115.getD 1 .un) fun o117 =>
    .asL (l115.getD 2 .un) fun o118 =>
    .asL (l115.getD 3 .un) fun o119 =>
    .asL (l115.getD 4 .un) fun o120 =>
    .asI .i64 (l115.getD 5 .un) fun n121 =>
    cond b116
      (cond ((slLen o119) == (slLen o118))
        (cond (n121 == (slLen o120))
          (.call 16 [(.sc (.p o117)), (.sc (.i .i64 (20 : Int)))] fun v122 =>
          .asB v122 fun b123 =>
          .ret 0 [(.sc (.b (!b123)))])
          (.ret 0 [(.sc (.b .false))]))
        (.ret 0 [(.sc (.b .false))]))
      (.ret 0 [(.sc (.b .false))]))
    (.tg a114 1
      (.asB (l115.getD 0 .un) fun b124 =>
      .ret 0 [(.sc (.b b124))])
      (.fail))
def t5_b35  : List AV → Tree := fun l36 =>
  .asL (l36.getD 0 .un) fun o37 =>
  .asI .u8 (l36.getD 1 .un) fun n38 =>
  .asI .u8 (l36.getD 2 .un) fun n39 =>
  .asB (l36.getD 3 .un) fun b40 =>
  .asP (l36.getD 4 .un) fun o41 =>
  .asL (l36.getD 5 .un) fun o42 =>
  .asL (l36.getD 6 .un) fun o43 =>
  .asI .i64 (l36.getD 7 .un) fun n44 =>
  cond (decide (n44 < (slLen o42)))
    (.ixS 1 o42 n44 fun a45 a46 a47 =>
    .ld a45 (a46 + (a47 * 1)) 1 fun l48 =>
    .nth l48 0 fun v49 =>
    .asI .i64 (.sc v49) fun n50 =>
    .ixS 1 o37 n44 fun a51 a52 a53 =>
    .ld a51 (a52 + (a53 * 1)) 1 fun l54 =>
    .nth l54 0 fun v55 =>
    .asI .u8 (.sc v55) fun n56 =>
    .br .true
      (.ixS 1 o37 n44 fun a57 a58 a59 =>
      .ld a57 (a58 + (a59 * 1)) 1 fun l60 =>
      .nth l60 0 fun v61 =>
      .asI .u8 (.sc v61) fun n62 =>
      .br .true
        (.call 15 [(.sc (.p o41)), (.sc (.i .i64 n50)), (.sc (.i .u64 (IntKind.wrap .u64 (Int.tmod n56 (60 : Int))))), (.sc (.i .u64 (0 : Int)))] fun v63 =>
        .asB v63 fun b64 =>
        .same a57 (a58 + (a59 * 1)) [(.i .u8 n62)] (
        cond (!(b64 == (decide ((Int.tmod n62 (60 : Int)) > (0 : Int)))))
          (.ret 1 [(.sc (.b .false))])
          (.br (decide ((0 : Int) ≤ n44))
            (.br .true
              (cond ((Int.tmod (Int.fdiv n38 ((2 : Int) ^ (min (Int.toNat n44) 8))) (2 : Int)) == (1 : Int))
                (.ixS 1 o42 n44 fun a65 a66 a67 =>
                .ld a65 (a66 + (a67 * 1)) 1 fun l68 =>
                .nth l68 0 fun v69 =>
                .asI .i64 (.sc v69) fun n70 =>
                .call 16 [(.sc (.p o41)), (.sc (.i .i64 n70))] fun v71 =>
                .asB v71 fun b72 =>
                cond (!b72)
                  (.ret 1 [(.sc (.b .false))])
                  (.ret 0 [(.sc (.sl o37)), (.sc (.i .u8 n38)), (.sc (.i .u8 n39)), (.sc (.b b40)), (.sc (.p o41)), (.sc (.sl o42)), (.sc (.sl o43)), (.sc (.i .i64 (IntKind.wrap .i64 (n44 + (1 : Int)))))]))
                (.ret 0 [(.sc (.sl o37)), (.sc (.i .u8 n38)), (.sc (.i .u8 n39)), (.sc (.b b40)), (.sc (.p o41)), (.sc (.sl o42)), (.sc (.sl o43)), (.sc (.i .i64 (IntKind.wrap .i64 (n44 + (1 : Int)))))]))
              (.fail))
            (.fail))))
        (.fail))
      (.fail))
    (.ret 6 [(.sc (.sl o37)), (.sc (.i .u8 n38)), (.sc (.i .u8 n39)), (.sc (.b b40)), (.sc (.p o41)), (.sc (.sl o42)), (.sc (.sl o43))])
def t5_k35  : Nat → List AV → Tree := fun a73 l74 =>
  .tg a73 6
    (.asL (l74.getD 0 .un) fun o75 =>
    .asI .u8 (l74.getD 1 .un) fun n76 =>
    .asI .u8 (l74.getD 2 .un) fun n77 =>
    .asB (l74.getD 3 .un) fun b78 =>
    .asP (l74.getD 4 .un) fun o79 =>
    .asL (l74.getD 5 .un) fun o80 =>
    .asL (l74.getD 6 .un) fun o81 =>
    .br .true
      (.call 17 [(.sc (.p o79)), (.sc (.i .u64 (IntKind.wrap .u64 (Int.tmod n77 (60 : Int)))))] fun v82 =>
      .asL v82 fun o83 =>
      .loop t5_b84 [(.sc (.sl o75)), (.sc (.i .u8 n76)), (.sc (.i .u8 n77)), (.sc (.b b78)), (.sc (.p o79)), (.sc (.sl o80)), (.sc (.sl o81)), (.sc (.sl o83)), (.sc (.i .i64 (0 : Int))), (.sc (.i .i64 (0 : Int)))] t5_k84)
      (.fail))
    (.tg a73 1
      (.asB (l74.getD 0 .un) fun b125 =>
      .ret 0 [(.sc (.b b125))])
      (.fail))
def t5_b8  : List AV → Tree := fun l9 =>
  .asL (l9.getD 0 .un) fun o10 =>
  .asI .u8 (l9.getD 1 .un) fun n11 =>
  .asI .u8 (l9.getD 2 .un) fun n12 =>
  .asB (l9.getD 3 .un) fun b13 =>
  .asP (l9.getD 4 .un) fun o14 =>
  .asL (l9.getD 5 .un) fun o15 =>
  .asL (l9.getD 6 .un) fun o16 =>
  .asI .i64 (l9.getD 7 .un) fun n17 =>
  cond (decide (n17 < (slLen o10)))
    (cond (decide (n17 < (8 : Int)))
      (.al [(.i .i64 (IntKind.wrap .i64 (n17 + (1 : Int))))] fun a18 =>
      .lds 1 (.some (.mk a18 0 1 1 1)) (slN (.some (.mk a18 0 1 1 1))) fun l19 =>
      .app 1 8 o15 l19 (slN (.some (.mk a18 0 1 1 1))) fun o20 =>
      .al [(.cx .f64 (FloatKind.nearest .f64 n17) 0)] fun a21 =>
      .lds 1 (.some (.mk a21 0 1 1 1)) (slN (.some (.mk a21 0 1 1 1))) fun l22 =>
      .app 1 16 o16 l22 (slN (.some (.mk a21 0 1 1 1))) fun o23 =>
      .ret 0 [(.sc (.sl o10)), (.sc (.i .u8 n11)), (.sc (.i .u8 n12)), (.sc (.b b13)), (.sc (.p o14)), (.sc (.sl o20)), (.sc (.sl o23)), (.sc (.i .i64 (IntKind.wrap .i64 (n17 + (1 : Int)))))])
      (.ret 2 [(.sc (.sl o10)), (.sc (.i .u8 n11)), (.sc (.i .u8 n12)), (.sc (.b b13)), (.sc (.p o14)), (.sc (.sl o15)), (.sc (.sl o16))]))
    (.ret 2 [(.sc (.sl o10)), (.sc (.i .u8 n11)), (.sc (.i .u8 n12)), (.sc (.b b13)), (.sc (.p o14)), (.sc (.sl o15)), (.sc (.sl o16))])
def t5_k8  : Nat → List AV → Tree := fun a24 l25 =>
  .tg a24 2
    (.asL (l25.getD 0 .un) fun o26 =>
    .asI .u8 (l25.getD 1 .un) fun n27 =>
    .asI .u8 (l25.getD 2 .un) fun n28 =>
    .asB (l25.getD 3 .un) fun b29 =>
    .asP (l25.getD 4 .un) fun o30 =>
    .asL (l25.getD 5 .un) fun o31 =>
    .asL (l25.getD 6 .un) fun o32 =>
    .call 14 [(.sc (.p o30)), (.sc (.i .u64 (0 : Int))), (.sc (.cx .f64 0 0)), (.sc (.sl o31)), (.sc (.sl o32))] fun v33 =>
    .asL v33 fun o34 =>
    .loop t5_b35 [(.sc (.sl o26)), (.sc (.i .u8 n27)), (.sc (.i .u8 n28)), (.sc (.b b29)), (.sc (.p o30)), (.sc (.sl o31)), (.sc (.sl o34)), (.sc (.i .i64 (0 : Int)))] t5_k35)
    (.fail)
/-- scuttlebutt/scuttlebuttlaw17.LeasesHeld -/
def t5 (s0_ : Option SlD) (n1_ : Int) (n2_ : Int) : Tree :=
  .call 6 [] fun v0 =>
  .asB v0 fun b1 =>
  cond (!b1)
    (.ret 0 [(.sc (.b .false))])
    (.call 13 [(.sc (.i .i64 (8 : Int))), (.sc (.i .u64 (5 : Int)))] fun v2 =>
    .asT 2 v2 fun l3 =>
    .nthC l3 0 fun v4 =>
    .asP (v4.av) fun o5 =>
    .nthC l3 1 fun v6 =>
    .asI .i64 (v6.av) fun n7 =>
    cond (Option.isNone o5)
      (.ret 0 [(.sc (.b .false))])
      (cond (n7 != (0 : Int))
        (.ret 0 [(.sc (.b .false))])
        (.loop t5_b8 [(.sc (.sl s0_)), (.sc (.i .u8 n1_)), (.sc (.i .u8 n2_)), (.sc (.b b1)), (.sc (.p o5)), (.sc (.sl .none)), (.sc (.sl .none)), (.sc (.i .i64 (0 : Int)))] t5_k8)))
theorem t5_eq (s0_ : Option SlD) (n1_ : Int) (n2_ : Int) : bodyK T (hs 5) Try.f5 [.sc (.sl s0_), .sc (.i .u8 n1_), .sc (.i .u8 n2_)] = t5 s0_ n1_ n2_ := by kernel_rfl
/-- scuttlebutt/lease.NewLeases -/
def t13 (n0_ : Int) (n1_ : Int) : Tree :=
  cond (decide (n0_ < (1 : Int)))
    (.ret 0 [(.tu [(.sc (.p .none)), (.sc (.i .i64 (1 : Int)))])])
    (cond (decide (n0_ > (8 : Int)))
      (.ret 0 [(.tu [(.sc (.p .none)), (.sc (.i .i64 (1 : Int)))])])
      (cond (n1_ == (0 : Int))
        (.ret 0 [(.tu [(.sc (.p .none)), (.sc (.i .i64 (1 : Int)))])])
        (cond (decide (n1_ > (1000000 : Int)))
          (.ret 0 [(.tu [(.sc (.p .none)), (.sc (.i .i64 (1 : Int)))])])
          (.al [(.i .i64 n0_), (.i .u64 n1_), (.i .i64 (0 : Int)), (.i .u64 (0 : Int)), (.i .u64 (0 : Int)), (.i .i64 (0 : Int)), (.i .u64 (0 : Int)), (.i .u64 (0 : Int)), (.i .i64 (0 : Int)), (.i .u64 (0 : Int)), (.i .u64 (0 : Int)), (.i .i64 (0 : Int)), (.i .u64 (0 : Int)), (.i .u64 (0 : Int)), (.i .i64 (0 : Int)), (.i .u64 (0 : Int)), (.i .u64 (0 : Int)), (.i .i64 (0 : Int)), (.i .u64 (0 : Int)), (.i .u64 (0 : Int)), (.i .i64 (0 : Int)), (.i .u64 (0 : Int)), (.i .u64 (0 : Int)), (.i .i64 (0 : Int)), (.i .u64 (0 : Int)), (.i .u64 (0 : Int)), (.i .i64 (0 : Int)), (.i .u64 (0 : Int)), (.i .u64 (0 : Int)), (.i .i64 (0 : Int)), (.i .u64 (0 : Int)), (.i .u64 (0 : Int)), (.i .i64 (0 : Int)), (.i .u64 (0 : Int)), (.i .u64 (0 : Int)), (.i .i64 (0 : Int)), (.i .u64 (0 : Int)), (.i .u64 (0 : Int)), (.i .i64 (0 : Int)), (.i .u64 (0 : Int)), (.i .u64 (0 : Int)), (.i .i64 (0 : Int)), (.i .u64 (0 : Int)), (.i .u64 (0 : Int)), (.i .i64 (0 : Int)), (.i .u64 (0 : Int)), (.i .u64 (0 : Int)), (.i .i64 (0 : Int)), (.i .u64 (0 : Int)), (.i .u64 (0 : Int)), (.i .i64 (0 : Int)), (.i .u64 (0 : Int)), (.i .u64 (0 : Int)), (.i .i64 (0 : Int)), (.i .u64 (0 : Int)), (.i .u64 (0 : Int)), (.i .i64 (0 : Int)), (.i .u64 (0 : Int)), (.i .u64 (0 : Int)), (.i .i64 (0 : Int)), (.i .u64 (0 : Int)), (.i .u64 (0 : Int)), (.i .i64 (0 : Int)), (.i .u64 (0 : Int)), (.i .u64 (0 : Int)), (.i .i64 (0 : Int)), (.i .u64 (0 : Int)), (.i .u64 (0 : Int)), (.i .i64 (0 : Int)), (.i .u64 (0 : Int)), (.i .u64 (0 : Int)), (.i .i64 (0 : Int)), (.i .u64 (0 : Int)), (.i .u64 (0 : Int)), (.i .i64 (0 : Int)), (.i .u64 (0 : Int)), (.i .u64 (0 : Int)), (.i .i64 (0 : Int)), (.i .u64 (0 : Int)), (.i .u64 (0 : Int)), (.i .i64 (0 : Int)), (.i .u64 (0 : Int)), (.i .u64 (0 : Int)), (.i .i64 (0 : Int)), (.i .u64 (0 : Int)), (.i .u64 (0 : Int)), (.i .i64 (0 : Int)), (.i .u64 (0 : Int)), (.i .u64 (0 : Int)), (.i .i64 (0 : Int)), (.i .u64 (0 : Int)), (.i .u64 (0 : Int)), (.i .i64 (0 : Int)), (.i .u64 (0 : Int)), (.i .u64 (0 : Int)), (.i .i64 (0 : Int)), (.i .u64 (0 : Int)), (.i .u64 (0 : Int)), (.i .i64 (0 : Int)), (.i .u64 (0 : Int)), (.i .u64 (0 : Int))] fun a0 =>
          .ret 0 [(.tu [(.sc (.p (.some (a0, 0)))), (.sc (.i .i64 (0 : Int)))])]))))
theorem t13_eq (n0_ : Int) (n1_ : Int) : bodyK T (hs 13) Try.f13 [.sc (.i .i64 n0_), .sc (.i .u64 n1_)] = t13 n0_ n1_ := by kernel_rfl
def t14_b101  : List AV → Tree := fun l102 =>
  .asP (l102.getD 0 .un) fun o103 =>
  .asI .u64 (l102.getD 1 .un) fun n104 =>
  .asL (l102.getD 2 .un) fun o105 =>
  .asL (l102.getD 3 .un) fun o106 =>
  .asL (l102.getD 4 .un) fun o107 =>
  .asI .i64 (l102.getD 5 .un) fun n108 =>
  .asI .i64 (l102.getD 6 .un) fun n109 =>
  cond (decide (n109 < n108))
    (.ixS 1 o107 n109 fun a110 a111 a112 =>
    .ld a110 (a111 + (a112 * 1)) 1 fun l113 =>
    .nth l113 0 fun v114 =>
    .asI .i64 (.sc v114) fun n115 =>
    .ixS 1 o105 n115 fun a116 a117 a118 =>
    .ld a116 (a117 + (a118 * 1)) 1 fun l119 =>
    .nth l119 0 fun v120 =>
    .asI .i64 (.sc v120) fun n121 =>
    .nn o103 fun a122 a123 =>
    .br ((decide ((0 : Int) ≤ n121)) && (decide (n121 < (33 : Int))))
      (.nn o103 fun a124 a125 =>
      .st a122 (((a123 + 2) + ((Int.toNat n121) * 3)) + 0) [(.i .i64 n121)] (
      .br ((decide ((0 : Int) ≤ n121)) && (decide (n121 < (33 : Int))))
        (.st a124 (((a125 + 2) + ((Int.toNat n121) * 3)) + 2) [(.i .u64 n104)] (
        .al [(.i .i64 n121)] fun a126 =>
        .lds 1 (.some (.mk a126 0 1 1 1)) (slN (.some (.mk a126 0 1 1 1))) fun l127 =>
        .app 1 8 o106 l127 (slN (.some (.mk a126 0 1 1 1))) fun o128 =>
        .ret 0 [(.sc (.p o103)), (.sc (.i .u64 n104)), (.sc (.sl o105)), (.sc (.sl o128)), (.sc (.sl o107)), (.sc (.i .i64 n108)), (.sc (.i .i64 (IntKind.wrap .i64 (n109 + (1 : Int)))))]))
        (.fail)))
      (.fail))
    (.ret 2 [(.sc (.sl o106))])
def t14_k101  : Nat → List AV → Tree := fun a129 l130 =>
  .tg a129 2
    (.asL (l130.getD 0 .un) fun o131 =>
    .ret 2 [(.sc (.sl o131))])
    (.fail)
def t14_b3  : List AV → Tree := fun l4 =>
  .asI .i64 (l4.getD 0 .un) fun n5 =>
  .br (n5 == (1 : Int))
    (.asP (l4.getD 1 .un) fun o6 =>
    .asI .u64 (l4.getD 2 .un) fun n7 =>
    .asC .f64 (l4.getD 3 .un) fun a8 a9 =>
    .asL (l4.getD 4 .un) fun o10 =>
    .asL (l4.getD 5 .un) fun o11 =>
    .asL (l4.getD 6 .un) fun o12 =>
    .asL (l4.getD 7 .un) fun o13 =>
    .asL (l4.getD 8 .un) fun o14 =>
    .asI .i64 (l4.getD 9 .un) fun n15 =>
    cond ((IntKind.wrap .i64 (n15 + (1 : Int))) == (slLen o10))
      (.ret 0 [(.sc (.i .i64 (0 : Int))), (.sc (.p o6)), (.sc (.i .u64 n7)), (.sc (.cx .f64 a8 a9)), (.sc (.sl o12)), (.sc (.sl o13)), (.sc (.sl o14))])
      (.ixS 1 o10 (IntKind.wrap .i64 (n15 + (1 : Int))) fun a16 a17 a18 =>
      .ld a16 (a17 + (a18 * 1)) 1 fun l19 =>
      .nth l19 0 fun v20 =>
      .asI .i64 (.sc v20) fun n21 =>
      .call 19 [(.sc (.i .i64 n21))] fun v22 =>
      .asB v22 fun b23 =>
      cond (!b23)
        (.ret 0 [(.sc (.i .i64 (1 : Int))), (.sc (.p o6)), (.sc (.i .u64 n7)), (.sc (.cx .f64 a8 a9)), (.sc (.sl o10)), (.sc (.sl o11)), (.sc (.sl o12)), (.sc (.sl o13)), (.sc (.sl o14)), (.sc (.i .i64 (IntKind.wrap .i64 (n15 + (1 : Int)))))])
        (.slc 1 o10 .none (.some (IntKind.wrap .i64 (n15 + (1 : Int)))) .none fun o24 =>
        .call 24 [(.sc (.sl o24)), (.sc (.i .i64 n21))] fun v25 =>
        .asB v25 fun b26 =>
        cond b26
          (.ret 0 [(.sc (.i .i64 (1 : Int))), (.sc (.p o6)), (.sc (.i .u64 n7)), (.sc (.cx .f64 a8 a9)), (.sc (.sl o10)), (.sc (.sl o11)), (.sc (.sl o12)), (.sc (.sl o13)), (.sc (.sl o14)), (.sc (.i .i64 (IntKind.wrap .i64 (n15 + (1 : Int)))))])
          (.nn o6 fun a27 a28 =>
          .br ((decide ((0 : Int) ≤ n21)) && (decide (n21 < (33 : Int))))
            (.ld a27 (((a28 + 2) + ((Int.toNat n21) * 3)) + 1) 1 fun l29 =>
            .nth l29 0 fun v30 =>
            .asI .u64 (.sc v30) fun n31 =>
            cond (decide (n31 > n7))
              (.ret 0 [(.sc (.i .i64 (1 : Int))), (.sc (.p o6)), (.sc (.i .u64 n7)), (.sc (.cx .f64 a8 a9)), (.sc (.sl o10)), (.sc (.sl o11)), (.sc (.sl o12)), (.sc (.sl o13)), (.sc (.sl o14)), (.sc (.i .i64 (IntKind.wrap .i64 (n15 + (1 : Int)))))])
              (.nn o6 fun a32 a33 =>
              .br ((decide ((0 : Int) ≤ n21)) && (decide (n21 < (33 : Int))))
                (.ld a32 (((a33 + 2) + ((Int.toNat n21) * 3)) + 0) 1 fun l34 =>
                .nth l34 0 fun v35 =>
                .asI .i64 (.sc v35) fun n36 =>
                cond (decide (n36 > (0 : Int)))
                  (.nn o6 fun a37 a38 =>
                  .br ((decide ((0 : Int) ≤ n21)) && (decide (n21 < (33 : Int))))
                    (.ld a37 (((a38 + 2) + ((Int.toNat n21) * 3)) + 2) 1 fun l39 =>
                    .nth l39 0 fun v40 =>
                    .asI .u64 (.sc v40) fun n41 =>
                    .nn o6 fun a42 a43 =>
                    .ld a42 (a43 + 1) 1 fun l44 =>
                    .nth l44 0 fun v45 =>
                    .asI .u64 (.sc v45) fun n46 =>
                    cond (decide (n7 < (IntKind.wrap .u64 (n41 + n46))))
                      (.ret 0 [(.sc (.i .i64 (1 : Int))), (.sc (.p o6)), (.sc (.i .u64 n7)), (.sc (.cx .f64 a8 a9)), (.sc (.sl o10)), (.sc (.sl o11)), (.sc (.sl o12)), (.sc (.sl o13)), (.sc (.sl o14)), (.sc (.i .i64 (IntKind.wrap .i64 (n15 + (1 : Int)))))])
                      (.ixS 1 o10 (IntKind.wrap .i64 (n15 + (1 : Int))) fun a47 a48 a49 =>
                      .ld a47 (a48 + (a49 * 1)) 1 fun l50 =>
                      .nth l50 0 fun v51 =>
                      .asI .i64 (.sc v51) fun n52 =>
                      .al [(.i .i64 n52)] fun a53 =>
                      .ixS 1 o11 (IntKind.wrap .i64 (n15 + (1 : Int))) fun a54 a55 a56 =>
                      .ld a54 (a55 + (a56 * 1)) 1 fun l57 =>
                      .nth l57 0 fun v58 =>
                      .asC .f64 (.sc v58) fun a59 a60 =>
                      .al [(.cx .f64 a59 a60)] fun a61 =>
                      .lds 1 (.some (.mk a53 0 1 1 1)) (slN (.some (.mk a53 0 1 1 1))) fun l62 =>
                      .app 1 8 o12 l62 (slN (.some (.mk a53 0 1 1 1))) fun o63 =>
                      .same a54 (a55 + (a56 * 1)) [(.cx .f64 a59 a60)] (
                      .lds 1 (.some (.mk a61 0 1 1 1)) (slN (.some (.mk a61 0 1 1 1))) fun l64 =>
                      .app 1 16 o14 l64 (slN (.some (.mk a61 0 1 1 1))) fun o65 =>
                      .ret 0 [(.sc (.i .i64 (1 : Int))), (.sc (.p o6)), (.sc (.i .u64 n7)), (.sc (.cx .f64 a8 a9)), (.sc (.sl o10)), (.sc (.sl o11)), (.sc (.sl o63)), (.sc (.sl o13)), (.sc (.sl o65)), (.sc (.i .i64 (IntKind.wrap .i64 (n15 + (1 : Int)))))])))
                    (.fail))
                  (.ixS 1 o10 (IntKind.wrap .i64 (n15 + (1 : Int))) fun a66 a67 a68 =>
                  .ld a66 (a67 + (a68 * 1)) 1 fun l69 =>
                  .nth l69 0 fun v70 =>
                  .asI .i64 (.sc v70) fun n71 =>
                  .al [(.i .i64 n71)] fun a72 =>
                  .ixS 1 o11 (IntKind.wrap .i64 (n15 + (1 : Int))) fun a73 a74 a75 =>
                  .ld a73 (a74 + (a75 * 1)) 1 fun l76 =>
                  .nth l76 0 fun v77 =>
                  .asC .f64 (.sc v77) fun a78 a79 =>
                  .al [(.cx .f64 a78 a79)] fun a80 =>
                  .lds 1 (.some (.mk a72 0 1 1 1)) (slN (.some (.mk a72 0 1 1 1))) fun l81 =>
                  .app 1 8 o12 l81 (slN (.some (.mk a72 0 1 1 1))) fun o82 =>
                  .same a73 (a74 + (a75 * 1)) [(.cx .f64 a78 a79)] (
                  .lds 1 (.some (.mk a80 0 1 1 1)) (slN (.some (.mk a80 0 1 1 1))) fun l83 =>
                  .app 1 16 o14 l83 (slN (.some (.mk a80 0 1 1 1))) fun o84 =>
                  .ret 0 [(.sc (.i .i64 (1 : Int))), (.sc (.p o6)), (.sc (.i .u64 n7)), (.sc (.cx .f64 a8 a9)), (.sc (.sl o10)), (.sc (.sl o11)), (.sc (.sl o82)), (.sc (.sl o13)), (.sc (.sl o84)), (.sc (.i .i64 (IntKind.wrap .i64 (n15 + (1 : Int)))))])))
                (.fail)))
            (.fail)))))
    (.br (n5 == (0 : Int))
      (.asP (l4.getD 1 .un) fun o85 =>
      .asI .u64 (l4.getD 2 .un) fun n86 =>
      .asC .f64 (l4.getD 3 .un) fun a87 a88 =>
      .asL (l4.getD 4 .un) fun o89 =>
      .asL (l4.getD 5 .un) fun o90 =>
      .asL (l4.getD 6 .un) fun o91 =>
      .nn o85 fun a92 a93 =>
      .ld a92 (a93 + 0) 1 fun l94 =>
      .nth l94 0 fun v95 =>
      .asI .i64 (.sc v95) fun n96 =>
      .call 17 [(.sc (.p o85)), (.sc (.i .u64 n86))] fun v97 =>
      .asL v97 fun o98 =>
      .same a92 (a93 + 0) [(.i .i64 n96)] (
      .call 25 [(.sc (.cx .f64 a87 a88)), (.sc (.sl o91)), (.sc (.i .i64 (IntKind.wrap .i64 (n96 - (slLen o98)))))] fun v99 =>
      .asL v99 fun o100 =>
      .loop t14_b101 [(.sc (.p o85)), (.sc (.i .u64 n86)), (.sc (.sl o89)), (.sc (.sl o90)), (.sc (.sl o100)), (.sc (.i .i64 (slLen o100))), (.sc (.i .i64 (0 : Int)))] t14_k101))
      (.fail))
def t14_k3  : Nat → List AV → Tree := fun a132 l133 =>
  .tg a132 2
    (.asL (l133.getD 0 .un) fun o134 =>
    .ret 0 [(.sc (.sl o134))])
    (.fail)
def t14_b233  : List AV → Tree := fun l234 =>
  .asP (l234.getD 0 .un) fun o235 =>
  .asI .u64 (l234.getD 1 .un) fun n236 =>
  .asL (l234.getD 2 .un) fun o237 =>
  .asL (l234.getD 3 .un) fun o238 =>
  .asL (l234.getD 4 .un) fun o239 =>
  .asI .i64 (l234.getD 5 .un) fun n240 =>
  .asI .i64 (l234.getD 6 .un) fun n241 =>
  cond (decide (n241 < n240))
    (.ixS 1 o239 n241 fun a242 a243 a244 =>
    .ld a242 (a243 + (a244 * 1)) 1 fun l245 =>
    .nth l245 0 fun v246 =>
    .asI .i64 (.sc v246) fun n247 =>
    .ixS 1 o237 n247 fun a248 a249 a250 =>
    .ld a248 (a249 + (a250 * 1)) 1 fun l251 =>
    .nth l251 0 fun v252 =>
    .asI .i64 (.sc v252) fun n253 =>
    .nn o235 fun a254 a255 =>
    .br ((decide ((0 : Int) ≤ n253)) && (decide (n253 < (33 : Int))))
      (.nn o235 fun a256 a257 =>
      .st a254 (((a255 + 2) + ((Int.toNat n253) * 3)) + 0) [(.i .i64 n253)] (
      .br ((decide ((0 : Int) ≤ n253)) && (decide (n253 < (33 : Int))))
        (.st a256 (((a257 + 2) + ((Int.toNat n253) * 3)) + 2) [(.i .u64 n236)] (
        .al [(.i .i64 n253)] fun a258 =>
        .lds 1 (.some (.mk a258 0 1 1 1)) (slN (.some (.mk a258 0 1 1 1))) fun l259 =>
        .app 1 8 o238 l259 (slN (.some (.mk a258 0 1 1 1))) fun o260 =>
        .ret 0 [(.sc (.p o235)), (.sc (.i .u64 n236)), (.sc (.sl o237)), (.sc (.sl o260)), (.sc (.sl o239)), (.sc (.i .i64 n240)), (.sc (.i .i64 (IntKind.wrap .i64 (n241 + (1 : Int)))))]))
        (.fail)))
      (.fail))
    (.ret 2 [(.sc (.sl o238))])
def t14_k233  : Nat → List AV → Tree := fun a261 l262 =>
  .tg a261 2
    (.asL (l262.getD 0 .un) fun o263 =>
    .ret 2 [(.sc (.sl o263))])
    (.fail)
def t14_b135  : List AV → Tree := fun l136 =>
  .asI .i64 (l136.getD 0 .un) fun n137 =>
  .br (n137 == (1 : Int))
    (.asP (l136.getD 1 .un) fun o138 =>
    .asI .u64 (l136.getD 2 .un) fun n139 =>
    .asC .f64 (l136.getD 3 .un) fun a140 a141 =>
    .asL (l136.getD 4 .un) fun o142 =>
    .asL (l136.getD 5 .un) fun o143 =>
    .asL (l136.getD 6 .un) fun o144 =>
    .asL (l136.getD 7 .un) fun o145 =>
    .asL (l136.getD 8 .un) fun o146 =>
    .asI .i64 (l136.getD 9 .un) fun n147 =>
    cond ((IntKind.wrap .i64 (n147 + (1 : Int))) == (slLen o142))
      (.ret 0 [(.sc (.i .i64 (0 : Int))), (.sc (.p o138)), (.sc (.i .u64 n139)), (.sc (.cx .f64 a140 a141)), (.sc (.sl o144)), (.sc (.sl o145)), (.sc (.sl o146))])
      (.ixS 1 o142 (IntKind.wrap .i64 (n147 + (1 : Int))) fun a148 a149 a150 =>
      .ld a148 (a149 + (a150 * 1)) 1 fun l151 =>
      .nth l151 0 fun v152 =>
      .asI .i64 (.sc v152) fun n153 =>
      .call 19 [(.sc (.i .i64 n153))] fun v154 =>
      .asB v154 fun b155 =>
      cond (!b155)
        (.ret 0 [(.sc (.i .i64 (1 : Int))), (.sc (.p o138)), (.sc (.i .u64 n139)), (.sc (.cx .f64 a140 a141)), (.sc (.sl o142)), (.sc (.sl o143)), (.sc (.sl o144)), (.sc (.sl o145)), (.sc (.sl o146)), (.sc (.i .i64 (IntKind.wrap .i64 (n147 + (1 : Int)))))])
        (.slc 1 o142 .none (.some (IntKind.wrap .i64 (n147 + (1 : Int)))) .none fun o156 =>
        .call 24 [(.sc (.sl o156)), (.sc (.i .i64 n153))] fun v157 =>
        .asB v157 fun b158 =>
        cond b158
          (.ret 0 [(.sc (.i .i64 (1 : Int))), (.sc (.p o138)), (.sc (.i .u64 n139)), (.sc (.cx .f64 a140 a141)), (.sc (.sl o142)), (.sc (.sl o143)), (.sc (.sl o144)), (.sc (.sl o145)), (.sc (.sl o146)), (.sc (.i .i64 (IntKind.wrap .i64 (n147 + (1 : Int)))))])
          (.nn o138 fun a159 a160 =>
          .br ((decide ((0 : Int) ≤ n153)) && (decide (n153 < (33 : Int))))
            (.ld a159 (((a160 + 2) + ((Int.toNat n153) * 3)) + 1) 1 fun l161 =>
            .nth l161 0 fun v162 =>
            .asI .u64 (.sc v162) fun n163 =>
            cond (decide (n163 > n139))
              (.ret 0 [(.sc (.i .i64 (1 : Int))), (.sc (.p o138)), (.sc (.i .u64 n139)), (.sc (.cx .f64 a140 a141)), (.sc (.sl o142)), (.sc (.sl o143)), (.sc (.sl o144)), (.sc (.sl o145)), (.sc (.sl o146)), (.sc (.i .i64 (IntKind.wrap .i64 (n147 + (1 : Int)))))])
              (.nn o138 fun a164 a165 =>
              .br ((decide ((0 : Int) ≤ n153)) && (decide (n153 < (33 : Int))))
                (.ld a164 (((a165 + 2) + ((Int.toNat n153) * 3)) + 0) 1 fun l166 =>
                .nth l166 0 fun v167 =>
                .asI .i64 (.sc v167) fun n168 =>
                cond (decide (n168 > (0 : Int)))
                  (.nn o138 fun a169 a170 =>
                  .br ((decide ((0 : Int) ≤ n153)) && (decide (n153 < (33 : Int))))
                    (.ld a169 (((a170 + 2) + ((Int.toNat n153) * 3)) + 2) 1 fun l171 =>
                    .nth l171 0 fun v172 =>
                    .asI .u64 (.sc v172) fun n173 =>
                    .nn o138 fun a174 a175 =>
                    .ld a174 (a175 + 1) 1 fun l176 =>
                    .nth l176 0 fun v177 =>
                    .asI .u64 (.sc v177) fun n178 =>
                    cond (decide (n139 < (IntKind.wrap .u64 (n173 + n178))))
                      (.ret 0 [(.sc (.i .i64 (1 : Int))), (.sc (.p o138)), (.sc (.i .u64 n139)), (.sc (.cx .f64 a140 a141)), (.sc (.sl o142)), (.sc (.sl o143)), (.sc (.sl o144)), (.sc (.sl o145)), (.sc (.sl o146)), (.sc (.i .i64 (IntKind.wrap .i64 (n147 + (1 : Int)))))])
                      (.ixS 1 o142 (IntKind.wrap .i64 (n147 + (1 : Int))) fun a179 a180 a181 =>
                      .ld a179 (a180 + (a181 * 1)) 1 fun l182 =>
                      .nth l182 0 fun v183 =>
                      .asI .i64 (.sc v183) fun n184 =>
                      .al [(.i .i64 n184)] fun a185 =>
                      .ixS 1 o143 (IntKind.wrap .i64 (n147 + (1 : Int))) fun a186 a187 a188 =>
                      .ld a186 (a187 + (a188 * 1)) 1 fun l189 =>
                      .nth l189 0 fun v190 =>
                      .asC .f64 (.sc v190) fun a191 a192 =>
                      .al [(.cx .f64 a191 a192)] fun a193 =>
                      .lds 1 (.some (.mk a185 0 1 1 1)) (slN (.some (.mk a185 0 1 1 1))) fun l194 =>
                      .app 1 8 o144 l194 (slN (.some (.mk a185 0 1 1 1))) fun o195 =>
                      .same a186 (a187 + (a188 * 1)) [(.cx .f64 a191 a192)] (
                      .lds 1 (.some (.mk a193 0 1 1 1)) (slN (.some (.mk a193 0 1 1 1))) fun l196 =>
                      .app 1 16 o146 l196 (slN (.some (.mk a193 0 1 1 1))) fun o197 =>
                      .ret 0 [(.sc (.i .i64 (1 : Int))), (.sc (.p o138)), (.sc (.i .u64 n139)), (.sc (.cx .f64 a140 a141)), (.sc (.sl o142)), (.sc (.sl o143)), (.sc (.sl o195)), (.sc (.sl o145)), (.sc (.sl o197)), (.sc (.i .i64 (IntKind.wrap .i64 (n147 + (1 : Int)))))])))
                    (.fail))
                  (.ixS 1 o142 (IntKind.wrap .i64 (n147 + (1 : Int))) fun a198 a199 a200 =>
                  .ld a198 (a199 + (a200 * 1)) 1 fun l201 =>
                  .nth l201 0 fun v202 =>
                  .asI .i64 (.sc v202) fun n203 =>
                  .al [(.i .i64 n203)] fun a204 =>
                  .ixS 1 o143 (IntKind.wrap .i64 (n147 + (1 : Int))) fun a205 a206 a207 =>
                  .ld a205 (a206 + (a207 * 1)) 1 fun l208 =>
                  .nth l208 0 fun v209 =>
                  .asC .f64 (.sc v209) fun a210 a211 =>
                  .al [(.cx .f64 a210 a211)] fun a212 =>
                  .lds 1 (.some (.mk a204 0 1 1 1)) (slN (.some (.mk a204 0 1 1 1))) fun l213 =>
                  .app 1 8 o144 l213 (slN (.some (.mk a204 0 1 1 1))) fun o214 =>
                  .same a205 (a206 + (a207 * 1)) [(.cx .f64 a210 a211)] (
                  .lds 1 (.some (.mk a212 0 1 1 1)) (slN (.some (.mk a212 0 1 1 1))) fun l215 =>
                  .app 1 16 o146 l215 (slN (.some (.mk a212 0 1 1 1))) fun o216 =>
                  .ret 0 [(.sc (.i .i64 (1 : Int))), (.sc (.p o138)), (.sc (.i .u64 n139)), (.sc (.cx .f64 a140 a141)), (.sc (.sl o142)), (.sc (.sl o143)), (.sc (.sl o214)), (.sc (.sl o145)), (.sc (.sl o216)), (.sc (.i .i64 (IntKind.wrap .i64 (n147 + (1 : Int)))))])))
                (.fail)))
            (.fail)))))
    (.br (n137 == (0 : Int))
      (.asP (l136.getD 1 .un) fun o217 =>
      .asI .u64 (l136.getD 2 .un) fun n218 =>
      .asC .f64 (l136.getD 3 .un) fun a219 a220 =>
      .asL (l136.getD 4 .un) fun o221 =>
      .asL (l136.getD 5 .un) fun o222 =>
      .asL (l136.getD 6 .un) fun o223 =>
      .nn o217 fun a224 a225 =>
      .ld a224 (a225 + 0) 1 fun l226 =>
      .nth l226 0 fun v227 =>
      .asI .i64 (.sc v227) fun n228 =>
      .call 17 [(.sc (.p o217)), (.sc (.i .u64 n218))] fun v229 =>
      .asL v229 fun o230 =>
      .same a224 (a225 + 0) [(.i .i64 n228)] (
      .call 25 [(.sc (.cx .f64 a219 a220)), (.sc (.sl o223)), (.sc (.i .i64 (IntKind.wrap .i64 (n228 - (slLen o230)))))] fun v231 =>
      .asL v231 fun o232 =>
      .loop t14_b233 [(.sc (.p o217)), (.sc (.i .u64 n218)), (.sc (.sl o221)), (.sc (.sl o222)), (.sc (.sl o232)), (.sc (.i .i64 (slLen o232))), (.sc (.i .i64 (0 : Int)))] t14_k233))
      (.fail))
def t14_k135  : Nat → List AV → Tree := fun a264 l265 =>
  .tg a264 2
    (.asL (l265.getD 0 .un) fun o266 =>
    .ret 0 [(.sc (.sl o266))])
    (.fail)
def t14_k0  : Nat → List AV → Tree := fun a1 l2 =>
  .tg a1 5
    (.loop t14_b3 ((.sc (.i .i64 (1 : Int))) :: l2) t14_k3)
    (.tg a1 3
      (.loop t14_b135 ((.sc (.i .i64 (0 : Int))) :: l2) t14_k135)
      (.tg a1 1
        (.asL (l2.getD 0 .un) fun o267 =>
        .ret 0 [(.sc (.sl o267))])
        (.fail)))
/-- (*scuttlebutt/lease.Leases).Ask -/
def t14 (p0_ q0_ : Nat) (n1_ : Int) (n2_ m2_ : Nat) (s3_ : Option SlD) (s4_ : Option SlD) : Tree :=
  .join (
    cond (decide (n1_ > (4611686018427387904 : Int)))
      (.ret 1 [(.sc (.sl .none))])
      (cond ((slLen s3_) != (slLen s4_))
        (.ret 1 [(.sc (.sl .none))])
        (.ret 5 [(.sc (.p (.some (p0_, q0_)))), (.sc (.i .u64 n1_)), (.sc (.cx .f64 n2_ m2_)), (.sc (.sl s3_)), (.sc (.sl s4_)), (.sc (.sl .none)), (.sc (.sl .none)), (.sc (.sl .none)), (.sc (.i .i64 (-1 : Int)))]))) t14_k0
theorem t14_eq (p0_ q0_ : Nat) (n1_ : Int) (n2_ m2_ : Nat) (s3_ : Option SlD) (s4_ : Option SlD) : bodyK T (hs 14) Try.f14 [.sc (.p (some (p0_, q0_))), .sc (.i .u64 n1_), .sc (.cx .f64 n2_ m2_), .sc (.sl s3_), .sc (.sl s4_)] = t14 p0_ q0_ n1_ n2_ m2_ s3_ s4_ := by kernel_rfl
/-- (*scuttlebutt/lease.Leases).Got -/
def t15 (p0_ q0_ : Nat) (n1_ : Int) (n2_ : Int) (n3_ : Int) : Tree :=
  .call 19 [(.sc (.i .i64 n1_))] fun v0 =>
  .asB v0 fun b1 =>
  cond (!b1)
    (.ret 0 [(.sc (.b .false))])
    (.nn (.some (p0_, q0_)) fun a2 a3 =>
    .br ((decide ((0 : Int) ≤ n1_)) && (decide (n1_ < (33 : Int))))
      (.ld a2 (((a3 + 2) + ((Int.toNat n1_) * 3)) + 0) 1 fun l4 =>
      .nth l4 0 fun v5 =>
      .asI .i64 (.sc v5) fun n6 =>
      cond (n6 == (0 : Int))
        (.ret 0 [(.sc (.b .false))])
        (cond (decide (n2_ ≤ n3_))
          (.ret 0 [(.sc (.b .false))])
          (.nn (.some (p0_, q0_)) fun a7 a8 =>
          .br ((decide ((0 : Int) ≤ n1_)) && (decide (n1_ < (33 : Int))))
            (.st a7 (((a8 + 2) + ((Int.toNat n1_) * 3)) + 1) [(.i .u64 (minI n2_ (4611686018427387904 : Int)))] (
            .ret 0 [(.sc (.b .true))]))
            (.fail))))
      (.fail))
theorem t15_eq (p0_ q0_ : Nat) (n1_ : Int) (n2_ : Int) (n3_ : Int) : bodyK T (hs 15) Try.f15 [.sc (.p (some (p0_, q0_))), .sc (.i .i64 n1_), .sc (.i .u64 n2_), .sc (.i .u64 n3_)] = t15 p0_ q0_ n1_ n2_ n3_ := by kernel_rfl
/-- (*scuttlebutt/lease.Leases).Lost -/
def t16 (p0_ q0_ : Nat) (n1_ : Int) : Tree :=
  .call 19 [(.sc (.i .i64 n1_))] fun v0 =>
  .asB v0 fun b1 =>
  cond (!b1)
    (.ret 0 [(.sc (.b .false))])
    (.nn (.some (p0_, q0_)) fun a2 a3 =>
    .br ((decide ((0 : Int) ≤ n1_)) && (decide (n1_ < (33 : Int))))
      (.ld a2 (((a3 + 2) + ((Int.toNat n1_) * 3)) + 0) 1 fun l4 =>
      .nth l4 0 fun v5 =>
      .asI .i64 (.sc v5) fun n6 =>
      cond (n6 == (0 : Int))
        (.ret 0 [(.sc (.b .false))])
        (.nn (.some (p0_, q0_)) fun a7 a8 =>
        .br ((decide ((0 : Int) ≤ n1_)) && (decide (n1_ < (33 : Int))))
          (.st a7 ((a8 + 2) + ((Int.toNat n1_) * 3)) [(.i .i64 (0 : Int)), (.i .u64 (0 : Int)), (.i .u64 (0 : Int))] (
          .ret 0 [(.sc (.b .true))]))
          (.fail)))
      (.fail))
theorem t16_eq (p0_ q0_ : Nat) (n1_ : Int) : bodyK T (hs 16) Try.f16 [.sc (.p (some (p0_, q0_))), .sc (.i .i64 n1_)] = t16 p0_ q0_ n1_ := by kernel_rfl
def t17_b3  : List AV → Tree := fun l4 =>
  .asI .u64 (l4.getD 0 .un) fun n5 =>
  .asL (l4.getD 1 .un) fun o6 =>
  .asA 99 (l4.getD 2 .un) fun l7 =>
  .asI .i64 (l4.getD 3 .un) fun n8 =>
  cond (decide (n8 < (33 : Int)))
    (.br ((decide ((0 : Int) ≤ n8)) && (decide (n8 < (33 : Int))))
      (.nth (List.take 3 (List.drop ((Int.toNat n8) * 3) l7)) 0 fun v9 =>
      .asI .i64 (.sc v9) fun n10 =>
      .nth (List.take 3 (List.drop ((Int.toNat n8) * 3) l7)) 1 fun v11 =>
      .asI .u64 (.sc v11) fun n12 =>
      .nth (List.take 3 (List.drop ((Int.toNat n8) * 3) l7)) 2 fun v13 =>
      .asI .u64 (.sc v13) fun n14 =>
      .al [(.i .i64 (0 : Int)), (.i .u64 (0 : Int)), (.i .u64 (0 : Int))] fun a15 =>
      .st a15 0 [(.i .i64 n10), (.i .u64 n12), (.i .u64 n14)] (
      .ld a15 (0 + 1) 1 fun l16 =>
      .nth l16 0 fun v17 =>
      .asI .u64 (.sc v17) fun n18 =>
      cond (decide (n18 > n5))
        (.ld a15 (0 + 0) 1 fun l19 =>
        .nth l19 0 fun v20 =>
        .asI .i64 (.sc v20) fun n21 =>
        .al [(.i .i64 n21)] fun a22 =>
        .lds 1 (.some (.mk a22 0 1 1 1)) (slN (.some (.mk a22 0 1 1 1))) fun l23 =>
        .app 1 8 o6 l23 (slN (.some (.mk a22 0 1 1 1))) fun o24 =>
        .ret 0 [(.sc (.i .u64 n5)), (.sc (.sl o24)), (.ag l7), (.sc (.i .i64 (IntKind.wrap .i64 (n8 + (1 : Int)))))])
        (.ret 0 [(.sc (.i .u64 n5)), (.sc (.sl o6)), (.ag l7), (.sc (.i .i64 (IntKind.wrap .i64 (n8 + (1 : Int)))))])))
      (.fail))
    (.ret 2 [(.sc (.sl o6))])
def t17_k3  : Nat → List AV → Tree := fun a25 l26 =>
  .tg a25 2
    (.asL (l26.getD 0 .un) fun o27 =>
    .ret 0 [(.sc (.sl o27))])
    (.fail)
/-- (*scuttlebutt/lease.Leases).Held -/
def t17 (p0_ q0_ : Nat) (n1_ : Int) : Tree :=
  .nn (.some (p0_, q0_)) fun a0 a1 =>
  .ld a0 (a1 + 2) 99 fun l2 =>
  .loop t17_b3 [(.sc (.i .u64 n1_)), (.sc (.sl .none)), (.ag l2), (.sc (.i .i64 (0 : Int)))] t17_k3
theorem t17_eq (p0_ q0_ : Nat) (n1_ : Int) : bodyK T (hs 17) Try.f17 [.sc (.p (some (p0_, q0_))), .sc (.i .u64 n1_)] = t17 p0_ q0_ n1_ := by kernel_rfl
/-- scuttlebutt/lease.node -/
def t19 (n0_ : Int) : Tree :=
  cond (decide (n0_ ≥ (1 : Int)))
    (.ret 0 [(.sc (.b (decide (n0_ ≤ (32 : Int)))))])
    (.ret 0 [(.sc (.b .false))])
theorem t19_eq (n0_ : Int) : bodyK T (hs 19) Try.f19 [.sc (.i .i64 n0_)] = t19 n0_ := by kernel_rfl
/-- slices.Contains[[]int,int] -/
def t24 (s0_ : Option SlD) (n1_ : Int) : Tree :=
  .call 27 [(.sc (.sl s0_)), (.sc (.i .i64 n1_))] fun v0 =>
  .asI .i64 v0 fun n1 =>
  .ret 0 [(.sc (.b (decide (n1 ≥ (0 : Int)))))]
theorem t24_eq (s0_ : Option SlD) (n1_ : Int) : bodyK T (hs 24) Try.f24 [.sc (.sl s0_), .sc (.i .i64 n1_)] = t24 s0_ n1_ := by kernel_rfl
def t25_b5  : List AV → Tree := fun l6 =>
  .asI .i64 (l6.getD 0 .un) fun n7 =>
  .asP (l6.getD 1 .un) fun o8 =>
  .nn o8 fun a9 a10 =>
  .asP (l6.getD 2 .un) fun o11 =>
  .nn o11 fun a12 a13 =>
  .asL (l6.getD 3 .un) fun o14 =>
  .asI .i64 (l6.getD 4 .un) fun n15 =>
  .asI .i64 (l6.getD 5 .un) fun n16 =>
  cond (decide (n16 < n15))
    (.al [(.i .i64 n16)] fun a17 =>
    .lds 1 (.some (.mk a17 0 1 1 1)) (slN (.some (.mk a17 0 1 1 1))) fun l18 =>
    .app 1 8 o14 l18 (slN (.some (.mk a17 0 1 1 1))) fun o19 =>
    .ret 0 [(.sc (.i .i64 n7)), (.sc (.p (.some (a9, a10)))), (.sc (.p (.some (a12, a13)))), (.sc (.sl o19)), (.sc (.i .i64 n15)), (.sc (.i .i64 (IntKind.wrap .i64 (n16 + (1 : Int)))))])
    (.ret 2 [(.sc (.i .i64 n7)), (.sc (.p (.some (a9, a10)))), (.sc (.p (.some (a12, a13)))), (.sc (.sl o14))])
def t25_k5  : Nat → List AV → Tree := fun a20 l21 =>
  .tg a20 2
    (.asI .i64 (l21.getD 0 .un) fun n22 =>
    .asP (l21.getD 1 .un) fun o23 =>
    .nn o23 fun a24 a25 =>
    .asP (l21.getD 2 .un) fun o26 =>
    .nn o26 fun a27 a28 =>
    .asL (l21.getD 3 .un) fun o29 =>
    .call 28 [(.sc (.sl o29)), (.sc (.fn 29 [] [(a24, a25), (a27, a28)]))] fun v30 =>
    .slc 1 o29 .none (.some (maxI (minI n22 (slLen o29)) (0 : Int))) .none fun o31 =>
    .ret 0 [(.sc (.sl o31))])
    (.fail)
/-- scuttlebutt/place.Nearest -/
def t25 (n0_ m0_ : Nat) (s1_ : Option SlD) (n2_ : Int) : Tree :=
  .al [(.cx .f64 n0_ m0_)] fun a0 =>
  .al [(.sl s1_)] fun a1 =>
  .ld a1 0 1 fun l2 =>
  .nth l2 0 fun v3 =>
  .asL (.sc v3) fun o4 =>
  .loop t25_b5 [(.sc (.i .i64 n2_)), (.sc (.p (.some (a0, 0)))), (.sc (.p (.some (a1, 0)))), (.sc (.sl .none)), (.sc (.i .i64 (slLen o4))), (.sc (.i .i64 (0 : Int)))] t25_k5
theorem t25_eq (n0_ m0_ : Nat) (s1_ : Option SlD) (n2_ : Int) : bodyK T (hs 25) Try.f25 [.sc (.cx .f64 n0_ m0_), .sc (.sl s1_), .sc (.i .i64 n2_)] = t25 n0_ m0_ s1_ n2_ := by kernel_rfl
def t27_b0  : List AV → Tree := fun l1 =>
  .asL (l1.getD 0 .un) fun o2 =>
  .asI .i64 (l1.getD 1 .un) fun n3 =>
  .asI .i64 (l1.getD 2 .un) fun n4 =>
  .asI .i64 (l1.getD 3 .un) fun n5 =>
  cond (decide (n5 < n4))
    (.ixS 1 o2 n5 fun a6 a7 a8 =>
    .ld a6 (a7 + (a8 * 1)) 1 fun l9 =>
    .nth l9 0 fun v10 =>
    .asI .i64 (.sc v10) fun n11 =>
    cond (n3 == n11)
      (.ret 1 [(.sc (.i .i64 n5))])
      (.ret 0 [(.sc (.sl o2)), (.sc (.i .i64 n3)), (.sc (.i .i64 n4)), (.sc (.i .i64 (IntKind.wrap .i64 (n5 + (1 : Int)))))]))
    (.ret 2 [])
def t27_k0  : Nat → List AV → Tree := fun a12 l13 =>
  .tg a12 2
    (.ret 0 [(.sc (.i .i64 (-1 : Int)))])
    (.tg a12 1
      (.asI .i64 (l13.getD 0 .un) fun n14 =>
      .ret 0 [(.sc (.i .i64 n14))])
      (.fail))
/-- slices.Index[[]int,int] -/
def t27 (s0_ : Option SlD) (n1_ : Int) : Tree :=
  .loop t27_b0 [(.sc (.sl s0_)), (.sc (.i .i64 n1_)), (.sc (.i .i64 (slLen s0_))), (.sc (.i .i64 (0 : Int)))] t27_k0
theorem t27_eq (s0_ : Option SlD) (n1_ : Int) : bodyK T (hs 27) Try.f27 [.sc (.sl s0_), .sc (.i .i64 n1_)] = t27 s0_ n1_ := by kernel_rfl
/-- slices.SortStableFunc[[]int,int] -/
def t28 (s0_ : Option SlD) (g1_ : FuncId) (f1_ c1_ : List (Nat × Nat)) : Tree :=
  .call 32 [(.sc (.sl s0_)), (.sc (.i .i64 (slLen s0_))), (.sc (.fn g1_ f1_ c1_))] fun v0 =>
  .ret 0 [(.tu [])]
theorem t28_eq (s0_ : Option SlD) (g1_ : FuncId) (f1_ c1_ : List (Nat × Nat)) : bodyK T (hs 28) Try.f28 [.sc (.sl s0_), .sc (.fn g1_ f1_ c1_)] = t28 s0_ g1_ f1_ c1_ := by kernel_rfl
/-- scuttlebutt/place.Nearest$1 -/
def t29 (n0_ : Int) (n1_ : Int) (p2_ q2_ : Nat) (p3_ q3_ : Nat) : Tree :=
  .ld p2_ q2_ 1 fun l0 =>
  .nth l0 0 fun v1 =>
  .asC .f64 (.sc v1) fun a2 a3 =>
  .ld p3_ q3_ 1 fun l4 =>
  .nth l4 0 fun v5 =>
  .asL (.sc v5) fun o6 =>
  .ixS 1 o6 n0_ fun a7 a8 a9 =>
  .ld a7 (a8 + (a9 * 1)) 1 fun l10 =>
  .nth l10 0 fun v11 =>
  .asC .f64 (.sc v11) fun a12 a13 =>
  .ld p2_ q2_ 1 fun l14 =>
  .nth l14 0 fun v15 =>
  .asC .f64 (.sc v15) fun a16 a17 =>
  .ld p3_ q3_ 1 fun l18 =>
  .nth l18 0 fun v19 =>
  .asL (.sc v19) fun o20 =>
  .ixS 1 o20 n1_ fun a21 a22 a23 =>
  .ld a21 (a22 + (a23 * 1)) 1 fun l24 =>
  .nth l24 0 fun v25 =>
  .asC .f64 (.sc v25) fun a26 a27 =>
  .call 31 [(.sc (.cx .f64 a2 a3)), (.sc (.cx .f64 a12 a13))] fun v28 =>
  .asI .u64 v28 fun n29 =>
  .same a21 (a22 + (a23 * 1)) [(.cx .f64 a26 a27)] (
  .same p3_ q3_ [(.sl o20)] (
  .same p2_ q2_ [(.cx .f64 a16 a17)] (
  .call 31 [(.sc (.cx .f64 a16 a17)), (.sc (.cx .f64 a26 a27))] fun v30 =>
  .asI .u64 v30 fun n31 =>
  .call 30 [(.sc (.i .u64 n29)), (.sc (.i .u64 n31))] fun v32 =>
  .asI .i64 v32 fun n33 =>
  .ret 0 [(.sc (.i .i64 n33))])))
theorem t29_eq (n0_ : Int) (n1_ : Int) (p2_ q2_ : Nat) (p3_ q3_ : Nat) : bodyK T (hs 29) Try.f29 [.sc (.i .i64 n0_), .sc (.i .i64 n1_), .sc (.p (some (p2_, q2_))), .sc (.p (some (p3_, q3_)))] = t29 n0_ n1_ p2_ q2_ p3_ q3_ := by kernel_rfl
/-- cmp.Compare[uint64] -/
def t30 (n0_ : Int) (n1_ : Int) : Tree :=
  .call 33 [(.sc (.i .u64 n0_))] fun v0 =>
  .asB v0 fun b1 =>
  .call 33 [(.sc (.i .u64 n1_))] fun v2 =>
  .asB v2 fun b3 =>
  cond b1
    (cond b3
      (.ret 0 [(.sc (.i .i64 (0 : Int)))])
      (.ret 0 [(.sc (.i .i64 (-1 : Int)))]))
    (cond b3
      (.ret 0 [(.sc (.i .i64 (1 : Int)))])
      (cond (decide (n0_ < n1_))
        (.ret 0 [(.sc (.i .i64 (-1 : Int)))])
        (cond (decide (n0_ > n1_))
          (.ret 0 [(.sc (.i .i64 (1 : Int)))])
          (.ret 0 [(.sc (.i .i64 (0 : Int)))]))))
theorem t30_eq (n0_ : Int) (n1_ : Int) : bodyK T (hs 30) Try.f30 [.sc (.i .u64 n0_), .sc (.i .u64 n1_)] = t30 n0_ n1_ := by kernel_rfl
def t32_b23  : List AV → Tree := fun l24 =>
  .asL (l24.getD 0 .un) fun o25 =>
  .asI .i64 (l24.getD 1 .un) fun n26 =>
  .asX (l24.getD 2 .un) fun v27 =>
  .asI .i64 (l24.getD 3 .un) fun n28 =>
  .asI .i64 (l24.getD 4 .un) fun n29 =>
  .asI .i64 (l24.getD 5 .un) fun n30 =>
  cond (decide (n30 ≤ n26))
    (.call 36 [(.sc (.sl o25)), (.sc (.i .i64 n29)), (.sc (.i .i64 (IntKind.wrap .i64 (n29 + n28)))), (.sc (.i .i64 n30)), (.sc v27)] fun v31 =>
    .ret 0 [(.sc (.sl o25)), (.sc (.i .i64 n26)), (.sc v27), (.sc (.i .i64 n28)), (.sc (.i .i64 n30)), (.sc (.i .i64 (IntKind.wrap .i64 (n30 + (IntKind.wrap .i64 ((2 : Int) * n28))))))])
    (.ret 10 [(.sc (.sl o25)), (.sc (.i .i64 n26)), (.sc v27), (.sc (.i .i64 n28)), (.sc (.i .i64 n29))])
def t32_k23  : Nat → List AV → Tree := fun a32 l33 =>
  .tg a32 10
    (.asL (l33.getD 0 .un) fun o34 =>
    .asI .i64 (l33.getD 1 .un) fun n35 =>
    .asX (l33.getD 2 .un) fun v36 =>
    .asI .i64 (l33.getD 3 .un) fun n37 =>
    .asI .i64 (l33.getD 4 .un) fun n38 =>
    cond (decide ((IntKind.wrap .i64 (n38 + n37)) < n35))
      (.call 36 [(.sc (.sl o34)), (.sc (.i .i64 n38)), (.sc (.i .i64 (IntKind.wrap .i64 (n38 + n37)))), (.sc (.i .i64 n35)), (.sc v36)] fun v39 =>
      .ret 0 [(.sc (.sl o34)), (.sc (.i .i64 n35)), (.sc v36), (.sc (.i .i64 (IntKind.wrap .i64 (n37 * (2 : Int)))))])
      (.ret 0 [(.sc (.sl o34)), (.sc (.i .i64 n35)), (.sc v36), (.sc (.i .i64 (IntKind.wrap .i64 (n37 * (2 : Int)))))]))
    (.fail)
def t32_b17  : List AV → Tree := fun l18 =>
  .asL (l18.getD 0 .un) fun o19 =>
  .asI .i64 (l18.getD 1 .un) fun n20 =>
  .asX (l18.getD 2 .un) fun v21 =>
  .asI .i64 (l18.getD 3 .un) fun n22 =>
  cond (decide (n22 < n20))
    (.loop t32_b23 [(.sc (.sl o19)), (.sc (.i .i64 n20)), (.sc v21), (.sc (.i .i64 n22)), (.sc (.i .i64 (0 : Int))), (.sc (.i .i64 (IntKind.wrap .i64 ((2 : Int) * n22))))] t32_k23)
    (.ret 6 [])
def t32_k17  : Nat → List AV → Tree := fun a40 l41 =>
  .tg a40 6
    (.ret 0 [(.tu [])])
    (.fail)
def t32_b0  : List AV → Tree := fun l1 =>
  .asL (l1.getD 0 .un) fun o2 =>
  .asI .i64 (l1.getD 1 .un) fun n3 =>
  .asX (l1.getD 2 .un) fun v4 =>
  .asI .i64 (l1.getD 3 .un) fun n5 =>
  .asI .i64 (l1.getD 4 .un) fun n6 =>
  .asI .i64 (l1.getD 5 .un) fun n7 =>
  cond (decide (n7 ≤ n3))
    (.call 35 [(.sc (.sl o2)), (.sc (.i .i64 n6)), (.sc (.i .i64 n7)), (.sc v4)] fun v8 =>
    .ret 0 [(.sc (.sl o2)), (.sc (.i .i64 n3)), (.sc v4), (.sc (.i .i64 n5)), (.sc (.i .i64 n7)), (.sc (.i .i64 (IntKind.wrap .i64 (n7 + n5))))])
    (.ret 2 [(.sc (.sl o2)), (.sc (.i .i64 n3)), (.sc v4), (.sc (.i .i64 n5)), (.sc (.i .i64 n6))])
def t32_k0  : Nat → List AV → Tree := fun a9 l10 =>
  .tg a9 2
    (.asL (l10.getD 0 .un) fun o11 =>
    .asI .i64 (l10.getD 1 .un) fun n12 =>
    .asX (l10.getD 2 .un) fun v13 =>
    .asI .i64 (l10.getD 3 .un) fun n14 =>
    .asI .i64 (l10.getD 4 .un) fun n15 =>
    .call 35 [(.sc (.sl o11)), (.sc (.i .i64 n15)), (.sc (.i .i64 n12)), (.sc v13)] fun v16 =>
    .loop t32_b17 [(.sc (.sl o11)), (.sc (.i .i64 n12)), (.sc v13), (.sc (.i .i64 n14))] t32_k17)
    (.fail)
/-- slices.stableCmpFunc[int] -/
def t32 (s0_ : Option SlD) (n1_ : Int) (g2_ : FuncId) (f2_ c2_ : List (Nat × Nat)) : Tree :=
  .loop t32_b0 [(.sc (.sl s0_)), (.sc (.i .i64 n1_)), (.sc (.fn g2_ f2_ c2_)), (.sc (.i .i64 (20 : Int))), (.sc (.i .i64 (0 : Int))), (.sc (.i .i64 (20 : Int)))] t32_k0
theorem t32_eq (s0_ : Option SlD) (n1_ : Int) (g2_ : FuncId) (f2_ c2_ : List (Nat × Nat)) : bodyK T (hs 32) Try.f32 [.sc (.sl s0_), .sc (.i .i64 n1_), .sc (.fn g2_ f2_ c2_)] = t32 s0_ n1_ g2_ f2_ c2_ := by kernel_rfl
/-- cmp.isNaN[uint64] -/
def t33 (n0_ : Int) : Tree :=
  .ret 0 [(.sc (.b (n0_ != n0_)))]
theorem t33_eq (n0_ : Int) : bodyK T (hs 33) Try.f33 [.sc (.i .u64 n0_)] = t33 n0_ := by kernel_rfl
def t35_b7  : List AV → Tree := fun l8 =>
  .asL (l8.getD 0 .un) fun o9 =>
  .asI .i64 (l8.getD 1 .un) fun n10 =>
  .asI .i64 (l8.getD 2 .un) fun n11 =>
  .asX (l8.getD 3 .un) fun v12 =>
  .asI .i64 (l8.getD 4 .un) fun n13 =>
  .asI .i64 (l8.getD 5 .un) fun n14 =>
  cond (decide (n14 > n10))
    (.ixS 1 o9 n14 fun a15 a16 a17 =>
    .ld a15 (a16 + (a17 * 1)) 1 fun l18 =>
    .nth l18 0 fun v19 =>
    .asI .i64 (.sc v19) fun n20 =>
    .ixS 1 o9 (IntKind.wrap .i64 (n14 - (1 : Int))) fun a21 a22 a23 =>
    .ld a21 (a22 + (a23 * 1)) 1 fun l24 =>
    .nth l24 0 fun v25 =>
    .asI .i64 (.sc v25) fun n26 =>
    .callv (.sc v12) [(.sc (.i .i64 n20)), (.sc (.i .i64 n26))] fun v27 =>
    .asI .i64 v27 fun n28 =>
    cond (decide (n28 < (0 : Int)))
      (.ixS 1 o9 (IntKind.wrap .i64 (n14 - (1 : Int))) fun a29 a30 a31 =>
      .ld a29 (a30 + (a31 * 1)) 1 fun l32 =>
      .nth l32 0 fun v33 =>
      .asI .i64 (.sc v33) fun n34 =>
      .ixS 1 o9 n14 fun a35 a36 a37 =>
      .ld a35 (a36 + (a37 * 1)) 1 fun l38 =>
      .nth l38 0 fun v39 =>
      .asI .i64 (.sc v39) fun n40 =>
      .ixS 1 o9 n14 fun a41 a42 a43 =>
      .st a41 (a42 + (a43 * 1)) [(.i .i64 n34)] (
      .ixS 1 o9 (IntKind.wrap .i64 (n14 - (1 : Int))) fun a44 a45 a46 =>
      .st a44 (a45 + (a46 * 1)) [(.i .i64 n40)] (
      .ret 0 [(.sc (.sl o9)), (.sc (.i .i64 n10)), (.sc (.i .i64 n11)), (.sc v12), (.sc (.i .i64 n13)), (.sc (.i .i64 (IntKind.wrap .i64 (n14 - (1 : Int)))))])))
      (.ret 6 [(.sc (.sl o9)), (.sc (.i .i64 n10)), (.sc (.i .i64 n11)), (.sc v12), (.sc (.i .i64 n13))]))
    (.ret 6 [(.sc (.sl o9)), (.sc (.i .i64 n10)), (.sc (.i .i64 n11)), (.sc v12), (.sc (.i .i64 n13))])
def t35_k7  : Nat → List AV → Tree := fun a47 l48 =>
  .tg a47 6
    (.asL (l48.getD 0 .un) fun o49 =>
    .asI .i64 (l48.getD 1 .un) fun n50 =>
    .asI .i64 (l48.getD 2 .un) fun n51 =>
    .asX (l48.getD 3 .un) fun v52 =>
    .asI .i64 (l48.getD 4 .un) fun n53 =>
    .ret 0 [(.sc (.sl o49)), (.sc (.i .i64 n50)), (.sc (.i .i64 n51)), (.sc v52), (.sc (.i .i64 (IntKind.wrap .i64 (n53 + (1 : Int)))))])
    (.fail)
def t35_b0  : List AV → Tree := fun l1 =>
  .asL (l1.getD 0 .un) fun o2 =>
  .asI .i64 (l1.getD 1 .un) fun n3 =>
  .asI .i64 (l1.getD 2 .un) fun n4 =>
  .asX (l1.getD 3 .un) fun v5 =>
  .asI .i64 (l1.getD 4 .un) fun n6 =>
  cond (decide (n6 < n4))
    (.loop t35_b7 [(.sc (.sl o2)), (.sc (.i .i64 n3)), (.sc (.i .i64 n4)), (.sc v5), (.sc (.i .i64 n6)), (.sc (.i .i64 n6))] t35_k7)
    (.ret 2 [])
def t35_k0  : Nat → List AV → Tree := fun a54 l55 =>
  .tg a54 2
    (.ret 0 [(.tu [])])
    (.fail)
/-- slices.insertionSortCmpFunc[int] -/
def t35 (s0_ : Option SlD) (n1_ : Int) (n2_ : Int) (g3_ : FuncId) (f3_ c3_ : List (Nat × Nat)) : Tree :=
  .loop t35_b0 [(.sc (.sl s0_)), (.sc (.i .i64 n1_)), (.sc (.i .i64 n2_)), (.sc (.fn g3_ f3_ c3_)), (.sc (.i .i64 (IntKind.wrap .i64 (n1_ + (1 : Int)))))] t35_k0
theorem t35_eq (s0_ : Option SlD) (n1_ : Int) (n2_ : Int) (g3_ : FuncId) (f3_ c3_ : List (Nat × Nat)) : bodyK T (hs 35) Try.f35 [.sc (.sl s0_), .sc (.i .i64 n1_), .sc (.i .i64 n2_), .sc (.fn g3_ f3_ c3_)] = t35 s0_ n1_ n2_ g3_ f3_ c3_ := by kernel_rfl
end Go.Proofs.Ytmbnikcnmjpheaa
