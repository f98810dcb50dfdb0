/- Trees of functions, printed by a program of mine; each is proved to be the function's. -/
import Derived.Test.YtmbnikcnmjpheaaGen
namespace Go.Proofs.Ytmbnikcnmjpheaa
open Go Go.Proofs.Ytmbnikcnmjpheaa.Fw
set_option linter.unusedVariables false
set_option maxRecDepth 20000
def t3_b8  : List AV → Tree := fun l9 =>
  .asL (l9.getD 0 .un) fun o10 =>
  .asB (l9.getD 1 .un) fun b11 =>
  .asI .i64 (l9.getD 2 .un) fun n12 =>
  .asI .u64 (l9.getD 3 .un) fun n13 =>
  .asP (l9.getD 4 .un) fun o14 =>
  .asI .i64 (l9.getD 5 .un) fun n15 =>
  cond (decide (n15 < (slLen o10)))
    (cond (decide (n15 < (60 : Int)))
      (.ixS 1 o10 n15 fun a16 a17 a18 =>
      .ld a16 (a17 + (a18 * 1)) 1 fun l19 =>
      .nth l19 0 fun v20 =>
      .asI .u8 (.sc v20) fun n21 =>
      .br .true
        (.call 8 [(.sc (.p o14)), (.sc (.i .i64 (IntKind.wrap .i64 ((1 : Int) + (IntKind.wrap .i64 (Int.tmod n21 (32 : Int))))))), (.sc (.i .u64 (IntKind.wrap .u64 n15)))] fun v22 =>
        .asT 2 v22 fun l23 =>
        .nthC l23 0 fun v24 =>
        .asA 2 (v24.av) fun l25 =>
        .nth l25 0 fun v26 =>
        .asI .u32 (.sc v26) fun n27 =>
        .nth l25 1 fun v28 =>
        .asI .u16 (.sc v28) fun n29 =>
        .nthC l23 1 fun v30 =>
        .asB (v30.av) fun b31 =>
        .al [(.i .u32 (0 : Int)), (.i .u16 (0 : Int))] fun a32 =>
        .st a32 0 [(.i .u32 n27), (.i .u16 n29)] (
        .call 9 [(.sc (.p o14)), (.sc (.i .u64 (IntKind.wrap .u64 n15)))] fun v33 =>
        .asL v33 fun o34 =>
        .call 10 [(.sc (.p o14))] fun v35 =>
        .asL v35 fun o36 =>
        .call 11 [(.sc (.p o14)), (.sc (.i .i64 (IntKind.wrap .i64 ((1 : Int) + (IntKind.wrap .i64 (Int.tmod n21 (32 : Int))))))), (.ag [(.i .u32 (IntKind.wrap .u32 (IntKind.wrap .i64 ((1 : Int) + (IntKind.wrap .i64 (Int.tmod n21 (32 : Int))))))), (.i .u16 (9 : Int))]), (.sc (.i .u64 (IntKind.wrap .u64 n15)))] fun v37 =>
        .asT 2 v37 fun l38 =>
        .nthC l38 0 fun v39 =>
        .asI .u64 (v39.av) fun n40 =>
        .nthC l38 1 fun v41 =>
        .asI .i64 (v41.av) fun n42 =>
        .call 8 [(.sc (.p o14)), (.sc (.i .i64 (IntKind.wrap .i64 ((1 : Int) + (IntKind.wrap .i64 (Int.tmod n21 (32 : Int))))))), (.sc (.i .u64 (IntKind.wrap .u64 n15)))] fun v43 =>
        .asT 2 v43 fun l44 =>
        .nthC l44 0 fun v45 =>
        .asA 2 (v45.av) fun l46 =>
        .nth l46 0 fun v47 =>
        .asI .u32 (.sc v47) fun n48 =>
        .nth l46 1 fun v49 =>
        .asI .u16 (.sc v49) fun n50 =>
        .nthC l44 1 fun v51 =>
        .asB (v51.av) fun b52 =>
        .al [(.i .u32 (0 : Int)), (.i .u16 (0 : Int))] fun a53 =>
        .st a53 0 [(.i .u32 n48), (.i .u16 n50)] (
        cond b31
          (cond (!((n42 == (0 : Int)) == .true))
            (.ret 1 [(.sc (.b .false))])
            (cond (n42 == (0 : Int))
              (cond (n40 != (IntKind.wrap .u64 ((IntKind.wrap .u64 n15) + n13)))
                (.ret 1 [(.sc (.b .false))])
                (cond (!b52)
                  (.ret 1 [(.sc (.b .false))])
                  (.ld a53 (0 + 0) 1 fun l54 =>
                  .nth l54 0 fun v55 =>
                  .asI .u32 (.sc v55) fun n56 =>
                  cond ((IntKind.wrap .i64 n56) != (IntKind.wrap .i64 ((1 : Int) + (IntKind.wrap .i64 (Int.tmod n21 (32 : Int))))))
                    (.ret 1 [(.sc (.b .false))])
                    (cond (n42 != (0 : Int))
                      (cond (n42 != (4 : Int))
                        (.ret 1 [(.sc (.b .false))])
                        (cond b52
                          (.ret 1 [(.sc (.b .false))])
                          (cond (n40 != (0 : Int))
                            (.ret 1 [(.sc (.b .false))])
                            (.call 10 [(.sc (.p o14))] fun v57 =>
                            .asL v57 fun o58 =>
                            cond (decide ((slLen o58) > n12))
                              (.ret 1 [(.sc (.b .false))])
                              (cond (n42 == (0 : Int))
                                (.call 8 [(.sc (.p o14)), (.sc (.i .i64 (IntKind.wrap .i64 ((1 : Int) + (IntKind.wrap .i64 (Int.tmod n21 (32 : Int))))))), (.sc (.i .u64 (IntKind.wrap .u64 ((IntKind.wrap .u64 n15) + n13))))] fun v59 =>
                                .asT 2 v59 fun l60 =>
                                .nthC l60 0 fun v61 =>
                                .asA 2 (v61.av) fun l62 =>
                                .nth l62 0 fun v63 =>
                                .asI .u32 (.sc v63) fun n64 =>
                                .nth l62 1 fun v65 =>
                                .asI .u16 (.sc v65) fun n66 =>
                                .nthC l60 1 fun v67 =>
                                .asB (v67.av) fun b68 =>
                                .al [(.i .u32 (0 : Int)), (.i .u16 (0 : Int))] fun a69 =>
                                .st a69 0 [(.i .u32 n64), (.i .u16 n66)] (
                                cond b68
                                  (.ret 1 [(.sc (.b .false))])
                                  (.ret 0 [(.sc (.sl o10)), (.sc (.b b11)), (.sc (.i .i64 n12)), (.sc (.i .u64 n13)), (.sc (.p o14)), (.sc (.i .i64 (IntKind.wrap .i64 (n15 + (1 : Int)))))])))
                                (.ret 0 [(.sc (.sl o10)), (.sc (.b b11)), (.sc (.i .i64 n12)), (.sc (.i .u64 n13)), (.sc (.p o14)), (.sc (.i .i64 (IntKind.wrap .i64 (n15 + (1 : Int)))))]))))))
                      (.call 10 [(.sc (.p o14))] fun v70 =>
                      .asL v70 fun o71 =>
                      cond (decide ((slLen o71) > n12))
                        (.ret 1 [(.sc (.b .false))])
                        (cond (n42 == (0 : Int))
                          (.call 8 [(.sc (.p o14)), (.sc (.i .i64 (IntKind.wrap .i64 ((1 : Int) + (IntKind.wrap .i64 (Int.tmod n21 (32 : Int))))))), (.sc (.i .u64 (IntKind.wrap .u64 ((IntKind.wrap .u64 n15) + n13))))] fun v72 =>
                          .asT 2 v72 fun l73 =>
                          .nthC l73 0 fun v74 =>
                          .asA 2 (v74.av) fun l75 =>
                          .nth l75 0 fun v76 =>
                          .asI .u32 (.sc v76) fun n77 =>
                          .nth l75 1 fun v78 =>
                          .asI .u16 (.sc v78) fun n79 =>
                          .nthC l73 1 fun v80 =>
                          .asB (v80.av) fun b81 =>
                          .al [(.i .u32 (0 : Int)), (.i .u16 (0 : Int))] fun a82 =>
                          .st a82 0 [(.i .u32 n77), (.i .u16 n79)] (
                          cond b81
                            (.ret 1 [(.sc (.b .false))])
                            (.ret 0 [(.sc (.sl o10)), (.sc (.b b11)), (.sc (.i .i64 n12)), (.sc (.i .u64 n13)), (.sc (.p o14)), (.sc (.i .i64 (IntKind.wrap .i64 (n15 + (1 : Int)))))])))
                          (.ret 0 [(.sc (.sl o10)), (.sc (.b b11)), (.sc (.i .i64 n12)), (.sc (.i .u64 n13)), (.sc (.p o14)), (.sc (.i .i64 (IntKind.wrap .i64 (n15 + (1 : Int)))))])))))))
              (cond (n42 != (0 : Int))
                (cond (n42 != (4 : Int))
                  (.ret 1 [(.sc (.b .false))])
                  (cond b52
                    (.ret 1 [(.sc (.b .false))])
                    (cond (n40 != (0 : Int))
                      (.ret 1 [(.sc (.b .false))])
                      (.call 10 [(.sc (.p o14))] fun v83 =>
                      .asL v83 fun o84 =>
                      cond (decide ((slLen o84) > n12))
                        (.ret 1 [(.sc (.b .false))])
                        (cond (n42 == (0 : Int))
                          (.call 8 [(.sc (.p o14)), (.sc (.i .i64 (IntKind.wrap .i64 ((1 : Int) + (IntKind.wrap .i64 (Int.tmod n21 (32 : Int))))))), (.sc (.i .u64 (IntKind.wrap .u64 ((IntKind.wrap .u64 n15) + n13))))] fun v85 =>
                          .asT 2 v85 fun l86 =>
                          .nthC l86 0 fun v87 =>
                          .asA 2 (v87.av) fun l88 =>
                          .nth l88 0 fun v89 =>
                          .asI .u32 (.sc v89) fun n90 =>
                          .nth l88 1 fun v91 =>
                          .asI .u16 (.sc v91) fun n92 =>
                          .nthC l86 1 fun v93 =>
                          .asB (v93.av) fun b94 =>
                          .al [(.i .u32 (0 : Int)), (.i .u16 (0 : Int))] fun a95 =>
                          .st a95 0 [(.i .u32 n90), (.i .u16 n92)] (
                          cond b94
                            (.ret 1 [(.sc (.b .false))])
                            (.ret 0 [(.sc (.sl o10)), (.sc (.b b11)), (.sc (.i .i64 n12)), (.sc (.i .u64 n13)), (.sc (.p o14)), (.sc (.i .i64 (IntKind.wrap .i64 (n15 + (1 : Int)))))])))
                          (.ret 0 [(.sc (.sl o10)), (.sc (.b b11)), (.sc (.i .i64 n12)), (.sc (.i .u64 n13)), (.sc (.p o14)), (.sc (.i .i64 (IntKind.wrap .i64 (n15 + (1 : Int)))))]))))))
                (.call 10 [(.sc (.p o14))] fun v96 =>
                .asL v96 fun o97 =>
                cond (decide ((slLen o97) > n12))
                  (.ret 1 [(.sc (.b .false))])
                  (cond (n42 == (0 : Int))
                    (.call 8 [(.sc (.p o14)), (.sc (.i .i64 (IntKind.wrap .i64 ((1 : Int) + (IntKind.wrap .i64 (Int.tmod n21 (32 : Int))))))), (.sc (.i .u64 (IntKind.wrap .u64 ((IntKind.wrap .u64 n15) + n13))))] fun v98 =>
                    .asT 2 v98 fun l99 =>
                    .nthC l99 0 fun v100 =>
                    .asA 2 (v100.av) fun l101 =>
                    .nth l101 0 fun v102 =>
                    .asI .u32 (.sc v102) fun n103 =>
                    .nth l101 1 fun v104 =>
                    .asI .u16 (.sc v104) fun n105 =>
                    .nthC l99 1 fun v106 =>
                    .asB (v106.av) fun b107 =>
                    .al [(.i .u32 (0 : Int)), (.i .u16 (0 : Int))] fun a108 =>
                    .st a108 0 [(.i .u32 n103), (.i .u16 n105)] (
                    cond b107
                      (.ret 1 [(.sc (.b .false))])
                      (.ret 0 [(.sc (.sl o10)), (.sc (.b b11)), (.sc (.i .i64 n12)), (.sc (.i .u64 n13)), (.sc (.p o14)), (.sc (.i .i64 (IntKind.wrap .i64 (n15 + (1 : Int)))))])))
                    (.ret 0 [(.sc (.sl o10)), (.sc (.b b11)), (.sc (.i .i64 n12)), (.sc (.i .u64 n13)), (.sc (.p o14)), (.sc (.i .i64 (IntKind.wrap .i64 (n15 + (1 : Int)))))]))))))
          (cond (!((n42 == (0 : Int)) == (decide ((slLen o36) < n12))))
            (.ret 1 [(.sc (.b .false))])
            (cond (n42 == (0 : Int))
              (cond (n40 != (IntKind.wrap .u64 ((IntKind.wrap .u64 n15) + n13)))
                (.ret 1 [(.sc (.b .false))])
                (cond (!b52)
                  (.ret 1 [(.sc (.b .false))])
                  (.ld a53 (0 + 0) 1 fun l109 =>
                  .nth l109 0 fun v110 =>
                  .asI .u32 (.sc v110) fun n111 =>
                  cond ((IntKind.wrap .i64 n111) != (IntKind.wrap .i64 ((1 : Int) + (IntKind.wrap .i64 (Int.tmod n21 (32 : Int))))))
                    (.ret 1 [(.sc (.b .false))])
                    (cond (n42 != (0 : Int))
                      (cond (n42 != (4 : Int))
                        (.ret 1 [(.sc (.b .false))])
                        (cond b52
                          (.ret 1 [(.sc (.b .false))])
                          (cond (n40 != (0 : Int))
                            (.ret 1 [(.sc (.b .false))])
                            (.call 10 [(.sc (.p o14))] fun v112 =>
                            .asL v112 fun o113 =>
                            cond (decide ((slLen o113) > n12))
                              (.ret 1 [(.sc (.b .false))])
                              (cond (n42 == (0 : Int))
                                (.call 8 [(.sc (.p o14)), (.sc (.i .i64 (IntKind.wrap .i64 ((1 : Int) + (IntKind.wrap .i64 (Int.tmod n21 (32 : Int))))))), (.sc (.i .u64 (IntKind.wrap .u64 ((IntKind.wrap .u64 n15) + n13))))] fun v114 =>
                                .asT 2 v114 fun l115 =>
                                .nthC l115 0 fun v116 =>
                                .asA 2 (v116.av) fun l117 =>
                                .nth l117 0 fun v118 =>
                                .asI .u32 (.sc v118) fun n119 =>
                                .nth l117 1 fun v120 =>
                                .asI .u16 (.sc v120) fun n121 =>
                                .nthC l115 1 fun v122 =>
                                .asB (v122.av) fun b123 =>
                                .al [(.i .u32 (0 : Int)), (.i .u16 (0 : Int))] fun a124 =>
                                .st a124 0 [(.i .u32 n119), (.i .u16 n121)] (
                                cond b123
                                  (.ret 1 [(.sc (.b .false))])
                                  (.ret 0 [(.sc (.sl o10)), (.sc (.b b11)), (.sc (.i .i64 n12)), (.sc (.i .u64 n13)), (.sc (.p o14)), (.sc (.i .i64 (IntKind.wrap .i64 (n15 + (1 : Int)))))])))
                                (.ret 0 [(.sc (.sl o10)), (.sc (.b b11)), (.sc (.i .i64 n12)), (.sc (.i .u64 n13)), (.sc (.p o14)), (.sc (.i .i64 (IntKind.wrap .i64 (n15 + (1 : Int)))))]))))))
                      (.call 10 [(.sc (.p o14))] fun v125 =>
                      .asL v125 fun o126 =>
                      cond (decide ((slLen o126) > n12))
                        (.ret 1 [(.sc (.b .false))])
                        (cond (n42 == (0 : Int))
                          (.call 8 [(.sc (.p o14)), (.sc (.i .i64 (IntKind.wrap .i64 ((1 : Int) + (IntKind.wrap .i64 (Int.tmod n21 (32 : Int))))))), (.sc (.i .u64 (IntKind.wrap .u64 ((IntKind.wrap .u64 n15) + n13))))] fun v127 =>
                          .asT 2 v127 fun l128 =>
                          .nthC l128 0 fun v129 =>
                          .asA 2 (v129.av) fun l130 =>
                          .nth l130 0 fun v131 =>
                          .asI .u32 (.sc v131) fun n132 =>
                          .nth l130 1 fun v133 =>
                          .asI .u16 (.sc v133) fun n134 =>
                          .nthC l128 1 fun v135 =>
                          .asB (v135.av) fun b136 =>
                          .al [(.i .u32 (0 : Int)), (.i .u16 (0 : Int))] fun a137 =>
                          .st a137 0 [(.i .u32 n132), (.i .u16 n134)] (
                          cond b136
                            (.ret 1 [(.sc (.b .false))])
                            (.ret 0 [(.sc (.sl o10)), (.sc (.b b11)), (.sc (.i .i64 n12)), (.sc (.i .u64 n13)), (.sc (.p o14)), (.sc (.i .i64 (IntKind.wrap .i64 (n15 + (1 : Int)))))])))
                          (.ret 0 [(.sc (.sl o10)), (.sc (.b b11)), (.sc (.i .i64 n12)), (.sc (.i .u64 n13)), (.sc (.p o14)), (.sc (.i .i64 (IntKind.wrap .i64 (n15 + (1 : Int)))))])))))))
              (cond (n42 != (0 : Int))
                (cond (n42 != (4 : Int))
                  (.ret 1 [(.sc (.b .false))])
                  (cond b52
                    (.ret 1 [(.sc (.b .false))])
                    (cond (n40 != (0 : Int))
                      (.ret 1 [(.sc (.b .false))])
                      (.call 10 [(.sc (.p o14))] fun v138 =>
                      .asL v138 fun o139 =>
                      cond (decide ((slLen o139) > n12))
                        (.ret 1 [(.sc (.b .false))])
                        (cond (n42 == (0 : Int))
                          (.call 8 [(.sc (.p o14)), (.sc (.i .i64 (IntKind.wrap .i64 ((1 : Int) + (IntKind.wrap .i64 (Int.tmod n21 (32 : Int))))))), (.sc (.i .u64 (IntKind.wrap .u64 ((IntKind.wrap .u64 n15) + n13))))] fun v140 =>
                          .asT 2 v140 fun l141 =>
                          .nthC l141 0 fun v142 =>
                          .asA 2 (v142.av) fun l143 =>
                          .nth l143 0 fun v144 =>
                          .asI .u32 (.sc v144) fun n145 =>
                          .nth l143 1 fun v146 =>
                          .asI .u16 (.sc v146) fun n147 =>
                          .nthC l141 1 fun v148 =>
                          .asB (v148.av) fun b149 =>
                          .al [(.i .u32 (0 : Int)), (.i .u16 (0 : Int))] fun a150 =>
                          .st a150 0 [(.i .u32 n145), (.i .u16 n147)] (
                          cond b149
                            (.ret 1 [(.sc (.b .false))])
                            (.ret 0 [(.sc (.sl o10)), (.sc (.b b11)), (.sc (.i .i64 n12)), (.sc (.i .u64 n13)), (.sc (.p o14)), (.sc (.i .i64 (IntKind.wrap .i64 (n15 + (1 : Int)))))])))
                          (.ret 0 [(.sc (.sl o10)), (.sc (.b b11)), (.sc (.i .i64 n12)), (.sc (.i .u64 n13)), (.sc (.p o14)), (.sc (.i .i64 (IntKind.wrap .i64 (n15 + (1 : Int)))))]))))))
                (.call 10 [(.sc (.p o14))] fun v151 =>
                .asL v151 fun o152 =>
                cond (decide ((slLen o152) > n12))
                  (.ret 1 [(.sc (.b .false))])
                  (cond (n42 == (0 : Int))
                    (.call 8 [(.sc (.p o14)), (.sc (.i .i64 (IntKind.wrap .i64 ((1 : Int) + (IntKind.wrap .i64 (Int.tmod n21 (32 : Int))))))), (.sc (.i .u64 (IntKind.wrap .u64 ((IntKind.wrap .u64 n15) + n13))))] fun v153 =>
                    .asT 2 v153 fun l154 =>
                    .nthC l154 0 fun v155 =>
                    .asA 2 (v155.av) fun l156 =>
                    .nth l156 0 fun v157 =>
                    .asI .u32 (.sc v157) fun n158 =>
                    .nth l156 1 fun v159 =>
                    .asI .u16 (.sc v159) fun n160 =>
                    .nthC l154 1 fun v161 =>
                    .asB (v161.av) fun b162 =>
                    .al [(.i .u32 (0 : Int)), (.i .u16 (0 : Int))] fun a163 =>
                    .st a163 0 [(.i .u32 n158), (.i .u16 n160)] (
                    cond b162
                      (.ret 1 [(.sc (.b .false))])
                      (.ret 0 [(.sc (.sl o10)), (.sc (.b b11)), (.sc (.i .i64 n12)), (.sc (.i .u64 n13)), (.sc (.p o14)), (.sc (.i .i64 (IntKind.wrap .i64 (n15 + (1 : Int)))))])))
                    (.ret 0 [(.sc (.sl o10)), (.sc (.b b11)), (.sc (.i .i64 n12)), (.sc (.i .u64 n13)), (.sc (.p o14)), (.sc (.i .i64 (IntKind.wrap .i64 (n15 + (1 : Int)))))])))))))))
        (.fail))
      (.ret 2 [(.sc (.b b11))]))
    (.ret 2 [(.sc (.b b11))])
def t3_k8  : Nat → List AV → Tree := fun a164 l165 =>
  .tg a164 2
    (.asB (l165.getD 0 .un) fun b166 =>
    .ret 0 [(.sc (.b b166))])
    (.tg a164 1
      (.asB (l165.getD 0 .un) fun b167 =>
      .ret 0 [(.sc (.b b167))])
      (.fail))
/-- scuttlebutt/scuttlebuttlaw17.LeaseRoom -/
def t3 (n0_ : Int) (n1_ : Int) (s2_ : Option SlD) : Tree :=
  .call 6 [] fun v0 =>
  .asB v0 fun b1 =>
  cond (!b1)
    (.ret 0 [(.sc (.b .false))])
    (.br .true
      (.br .true
        (.call 7 [(.sc (.i .i64 (IntKind.wrap .i64 ((1 : Int) + (IntKind.wrap .i64 (Int.tmod n0_ (8 : Int))))))), (.sc (.i .u64 (IntKind.wrap .u64 ((1 : Int) + (IntKind.wrap .u64 (Int.tmod n1_ (40 : Int)))))))] fun v2 =>
        .asT 2 v2 fun l3 =>
        .nthC l3 0 fun v4 =>
        .asP (v4.av) fun o5 =>
        .nthC l3 1 fun v6 =>
        .asI .i64 (v6.av) fun n7 =>
        cond (Option.isNone o5)
          (.ret 0 [(.sc (.b .false))])
          (cond (n7 != (0 : Int))
            (.ret 0 [(.sc (.b .false))])
            (.loop t3_b8 [(.sc (.sl s2_)), (.sc (.b b1)), (.sc (.i .i64 (IntKind.wrap .i64 ((1 : Int) + (IntKind.wrap .i64 (Int.tmod n0_ (8 : Int))))))), (.sc (.i .u64 (IntKind.wrap .u64 ((1 : Int) + (IntKind.wrap .u64 (Int.tmod n1_ (40 : Int))))))), (.sc (.p o5)), (.sc (.i .i64 (0 : Int)))] t3_k8)))
        (.fail))
      (.fail))
theorem t3_eq (n0_ : Int) (n1_ : Int) (s2_ : Option SlD) : bodyK T (hs 3) Try.f3 [.sc (.i .u8 n0_), .sc (.i .u8 n1_), .sc (.sl s2_)] = t3 n0_ n1_ s2_ := by kernel_rfl
def t4_b120  : List AV → Tree := fun l121 =>
  .asB (l121.getD 0 .un) fun b122 =>
  .asP (l121.getD 1 .un) fun o123 =>
  .asI .u64 (l121.getD 2 .un) fun n124 =>
  .asL (l121.getD 3 .un) fun o125 =>
  .asI .i64 (l121.getD 4 .un) fun n126 =>
  cond (decide (n126 < (slLen o125)))
    (.ixS 4 o125 n126 fun a127 a128 a129 =>
    .ld a127 ((a128 + (a129 * 4)) + 3) 1 fun l130 =>
    .nth l130 0 fun v131 =>
    .asI .u64 (.sc v131) fun n132 =>
    cond (decide (n132 ≤ n124))
      (.ret 1 [(.sc (.b .false))])
      (.ret 0 [(.sc (.b b122)), (.sc (.p o123)), (.sc (.i .u64 n124)), (.sc (.sl o125)), (.sc (.i .i64 (IntKind.wrap .i64 (n126 + (1 : Int)))))]))
    (.ret 18 [(.sc (.b b122)), (.sc (.p o123))])
def t4_k120  : Nat → List AV → Tree := fun a133 l134 =>
  .tg a133 18
    (.asB (l134.getD 0 .un) fun b135 =>
    .asP (l134.getD 1 .un) fun o136 =>
    cond b135
      (.call 12 [(.sc (.p o136)), (.sc (.i .i64 (0 : Int)))] fun v137 =>
      .asB v137 fun b138 =>
      cond (!b138)
        (.call 12 [(.sc (.p o136)), (.sc (.i .i64 (33 : Int)))] fun v139 =>
        .asB v139 fun b140 =>
        .ret 0 [(.sc (.b (!b140)))])
        (.ret 0 [(.sc (.b .false))]))
      (.ret 0 [(.sc (.b .false))]))
    (.tg a133 1
      (.asB (l134.getD 0 .un) fun b141 =>
      .ret 0 [(.sc (.b b141))])
      (.fail))
def t4_b73  : List AV → Tree := fun l74 =>
  .asI .u8 (l74.getD 0 .un) fun n75 =>
  .asB (l74.getD 1 .un) fun b76 =>
  .asP (l74.getD 2 .un) fun o77 =>
  .asI .u64 (l74.getD 3 .un) fun n78 =>
  .asL (l74.getD 4 .un) fun o79 =>
  .asI .i64 (l74.getD 5 .un) fun n80 =>
  cond (decide (n80 < (slLen o79)))
    (.ixS 4 o79 n80 fun a81 a82 a83 =>
    .ld a81 ((a82 + (a83 * 4)) + 0) 1 fun l84 =>
    .nth l84 0 fun v85 =>
    .asI .i64 (.sc v85) fun n86 =>
    cond (decide (n86 < (1 : Int)))
      (.ret 1 [(.sc (.b .false))])
      (.ixS 4 o79 n80 fun a87 a88 a89 =>
      .ld a87 ((a88 + (a89 * 4)) + 0) 1 fun l90 =>
      .nth l90 0 fun v91 =>
      .asI .i64 (.sc v91) fun n92 =>
      cond (decide (n92 > (8 : Int)))
        (.ret 1 [(.sc (.b .false))])
        (.ixS 4 o79 n80 fun a93 a94 a95 =>
        .ld a93 ((a94 + (a95 * 4)) + 0) 1 fun l96 =>
        .nth l96 0 fun v97 =>
        .asI .i64 (.sc v97) fun n98 =>
        .br (decide ((0 : Int) ≤ (IntKind.wrap .i64 (n98 - (1 : Int)))))
          (.br .true
            (cond ((Int.tmod (Int.fdiv n75 ((2 : Int) ^ (min (Int.toNat (IntKind.wrap .i64 (n98 - (1 : Int)))) 8))) (2 : Int)) == (1 : Int))
              (.ret 1 [(.sc (.b .false))])
              (cond (decide (n80 > (0 : Int)))
                (.ixS 4 o79 (IntKind.wrap .i64 (n80 - (1 : Int))) fun a99 a100 a101 =>
                .ld a99 ((a100 + (a101 * 4)) + 0) 1 fun l102 =>
                .nth l102 0 fun v103 =>
                .asI .i64 (.sc v103) fun n104 =>
                .ixS 4 o79 n80 fun a105 a106 a107 =>
                .ld a105 ((a106 + (a107 * 4)) + 0) 1 fun l108 =>
                .nth l108 0 fun v109 =>
                .asI .i64 (.sc v109) fun n110 =>
                cond (decide (n104 ≥ n110))
                  (.ret 1 [(.sc (.b .false))])
                  (.ret 0 [(.sc (.i .u8 n75)), (.sc (.b b76)), (.sc (.p o77)), (.sc (.i .u64 n78)), (.sc (.sl o79)), (.sc (.i .i64 (IntKind.wrap .i64 (n80 + (1 : Int)))))]))
                (.ret 0 [(.sc (.i .u8 n75)), (.sc (.b b76)), (.sc (.p o77)), (.sc (.i .u64 n78)), (.sc (.sl o79)), (.sc (.i .i64 (IntKind.wrap .i64 (n80 + (1 : Int)))))])))
            (.fail))
          (.fail))))
    (.ret 14 [(.sc (.b b76)), (.sc (.p o77)), (.sc (.i .u64 n78))])
def t4_k73  : Nat → List AV → Tree := fun a111 l112 =>
  .tg a111 14
    (.asB (l112.getD 0 .un) fun b113 =>
    .asP (l112.getD 1 .un) fun o114 =>
    .asI .u64 (l112.getD 2 .un) fun n115 =>
    .call 9 [(.sc (.p o114)), (.sc (.i .u64 n115))] fun v116 =>
    .asL v116 fun o117 =>
    .call 10 [(.sc (.p o114))] fun v118 =>
    .asL v118 fun o119 =>
    .loop t4_b120 [(.sc (.b b113)), (.sc (.p o114)), (.sc (.i .u64 n115)), (.sc (.sl o119)), (.sc (.i .i64 (0 : Int)))] t4_k120)
    (.tg a111 1
      (.asB (l112.getD 0 .un) fun b142 =>
      .ret 0 [(.sc (.b b142))])
      (.fail))
def t4_b46  : List AV → Tree := fun l47 =>
  .asI .u8 (l47.getD 0 .un) fun n48 =>
  .asB (l47.getD 1 .un) fun b49 =>
  .asI .u64 (l47.getD 2 .un) fun n50 =>
  .asP (l47.getD 3 .un) fun o51 =>
  .asI .u64 (l47.getD 4 .un) fun n52 =>
  .asI .i64 (l47.getD 5 .un) fun n53 =>
  cond (decide (n53 ≤ (8 : Int)))
    (.call 8 [(.sc (.p o51)), (.sc (.i .i64 n53)), (.sc (.i .u64 n52))] fun v54 =>
    .asT 2 v54 fun l55 =>
    .nthC l55 0 fun v56 =>
    .asA 2 (v56.av) fun l57 =>
    .nth l57 0 fun v58 =>
    .asI .u32 (.sc v58) fun n59 =>
    .nth l57 1 fun v60 =>
    .asI .u16 (.sc v60) fun n61 =>
    .nthC l55 1 fun v62 =>
    .asB (v62.av) fun b63 =>
    .al [(.i .u32 (0 : Int)), (.i .u16 (0 : Int))] fun a64 =>
    .st a64 0 [(.i .u32 n59), (.i .u16 n61)] (
    .br (decide ((0 : Int) ≤ (IntKind.wrap .i64 (n53 - (1 : Int)))))
      (.br .true
        (cond ((Int.tmod (Int.fdiv n48 ((2 : Int) ^ (min (Int.toNat (IntKind.wrap .i64 (n53 - (1 : Int)))) 8))) (2 : Int)) == (0 : Int))
          (cond (!(b63 == (decide ((IntKind.wrap .u64 ((IntKind.wrap .u64 n53) + n50)) > n52))))
            (.ret 1 [(.sc (.b .false))])
            (.ret 0 [(.sc (.i .u8 n48)), (.sc (.b b49)), (.sc (.i .u64 n50)), (.sc (.p o51)), (.sc (.i .u64 n52)), (.sc (.i .i64 (IntKind.wrap .i64 (n53 + (1 : Int)))))]))
          (cond (!(b63 == .false))
            (.ret 1 [(.sc (.b .false))])
            (.ret 0 [(.sc (.i .u8 n48)), (.sc (.b b49)), (.sc (.i .u64 n50)), (.sc (.p o51)), (.sc (.i .u64 n52)), (.sc (.i .i64 (IntKind.wrap .i64 (n53 + (1 : Int)))))])))
        (.fail))
      (.fail)))
    (.ret 10 [(.sc (.i .u8 n48)), (.sc (.b b49)), (.sc (.p o51)), (.sc (.i .u64 n52))])
def t4_k46  : Nat → List AV → Tree := fun a65 l66 =>
  .tg a65 10
    (.asI .u8 (l66.getD 0 .un) fun n67 =>
    .asB (l66.getD 1 .un) fun b68 =>
    .asP (l66.getD 2 .un) fun o69 =>
    .asI .u64 (l66.getD 3 .un) fun n70 =>
    .call 10 [(.sc (.p o69))] fun v71 =>
    .asL v71 fun o72 =>
    .loop t4_b73 [(.sc (.i .u8 n67)), (.sc (.b b68)), (.sc (.p o69)), (.sc (.i .u64 n70)), (.sc (.sl o72)), (.sc (.i .i64 (0 : Int)))] t4_k73)
    (.tg a65 1
      (.asB (l66.getD 0 .un) fun b143 =>
      .ret 0 [(.sc (.b b143))])
      (.fail))
def t4_b29  : List AV → Tree := fun l30 =>
  .asI .u8 (l30.getD 0 .un) fun n31 =>
  .asI .u8 (l30.getD 1 .un) fun n32 =>
  .asB (l30.getD 2 .un) fun b33 =>
  .asI .u64 (l30.getD 3 .un) fun n34 =>
  .asP (l30.getD 4 .un) fun o35 =>
  .asI .i64 (l30.getD 5 .un) fun n36 =>
  cond (decide (n36 ≤ (8 : Int)))
    (.br (decide ((0 : Int) ≤ (IntKind.wrap .i64 (n36 - (1 : Int)))))
      (.br .true
        (cond ((Int.tmod (Int.fdiv n31 ((2 : Int) ^ (min (Int.toNat (IntKind.wrap .i64 (n36 - (1 : Int)))) 8))) (2 : Int)) == (1 : Int))
          (.call 12 [(.sc (.p o35)), (.sc (.i .i64 n36))] fun v37 =>
          .asB v37 fun b38 =>
          .ret 0 [(.sc (.i .u8 n31)), (.sc (.i .u8 n32)), (.sc (.b b33)), (.sc (.i .u64 n34)), (.sc (.p o35)), (.sc (.i .i64 (IntKind.wrap .i64 (n36 + (1 : Int)))))])
          (.ret 0 [(.sc (.i .u8 n31)), (.sc (.i .u8 n32)), (.sc (.b b33)), (.sc (.i .u64 n34)), (.sc (.p o35)), (.sc (.i .i64 (IntKind.wrap .i64 (n36 + (1 : Int)))))]))
        (.fail))
      (.fail))
    (.ret 6 [(.sc (.i .u8 n31)), (.sc (.i .u8 n32)), (.sc (.b b33)), (.sc (.i .u64 n34)), (.sc (.p o35))])
def t4_k29  : Nat → List AV → Tree := fun a39 l40 =>
  .tg a39 6
    (.asI .u8 (l40.getD 0 .un) fun n41 =>
    .asI .u8 (l40.getD 1 .un) fun n42 =>
    .asB (l40.getD 2 .un) fun b43 =>
    .asI .u64 (l40.getD 3 .un) fun n44 =>
    .asP (l40.getD 4 .un) fun o45 =>
    .loop t4_b46 [(.sc (.i .u8 n41)), (.sc (.b b43)), (.sc (.i .u64 n44)), (.sc (.p o45)), (.sc (.i .u64 (IntKind.wrap .u64 ((8 : Int) + (IntKind.wrap .u64 n42))))), (.sc (.i .i64 (1 : Int)))] t4_k46)
    (.fail)
def t4_b8  : List AV → Tree := fun l9 =>
  .asI .u8 (l9.getD 0 .un) fun n10 =>
  .asI .u8 (l9.getD 1 .un) fun n11 =>
  .asB (l9.getD 2 .un) fun b12 =>
  .asI .u64 (l9.getD 3 .un) fun n13 =>
  .asP (l9.getD 4 .un) fun o14 =>
  .asI .i64 (l9.getD 5 .un) fun n15 =>
  cond (decide (n15 ≤ (8 : Int)))
    (.call 11 [(.sc (.p o14)), (.sc (.i .i64 n15)), (.ag [(.i .u32 (IntKind.wrap .u32 n15)), (.i .u16 (1 : Int))]), (.sc (.i .u64 (IntKind.wrap .u64 n15)))] fun v16 =>
    .asT 2 v16 fun l17 =>
    .nthC l17 0 fun v18 =>
    .asI .u64 (v18.av) fun n19 =>
    .nthC l17 1 fun v20 =>
    .asI .i64 (v20.av) fun n21 =>
    cond (n21 != (0 : Int))
      (.ret 1 [(.sc (.b .false))])
      (.ret 0 [(.sc (.i .u8 n10)), (.sc (.i .u8 n11)), (.sc (.b b12)), (.sc (.i .u64 n13)), (.sc (.p o14)), (.sc (.i .i64 (IntKind.wrap .i64 (n15 + (1 : Int)))))]))
    (.ret 2 [(.sc (.i .u8 n10)), (.sc (.i .u8 n11)), (.sc (.b b12)), (.sc (.i .u64 n13)), (.sc (.p o14))])
def t4_k8  : Nat → List AV → Tree := fun a22 l23 =>
  .tg a22 2
    (.asI .u8 (l23.getD 0 .un) fun n24 =>
    .asI .u8 (l23.getD 1 .un) fun n25 =>
    .asB (l23.getD 2 .un) fun b26 =>
    .asI .u64 (l23.getD 3 .un) fun n27 =>
    .asP (l23.getD 4 .un) fun o28 =>
    .loop t4_b29 [(.sc (.i .u8 n24)), (.sc (.i .u8 n25)), (.sc (.b b26)), (.sc (.i .u64 n27)), (.sc (.p o28)), (.sc (.i .i64 (1 : Int)))] t4_k29)
    (.tg a22 1
      (.asB (l23.getD 0 .un) fun b144 =>
      .ret 0 [(.sc (.b b144))])
      (.fail))
/-- scuttlebutt/scuttlebuttlaw17.LeaseGone -/
def t4 (n0_ : Int) (n1_ : Int) (n2_ : Int) : Tree :=
  .call 6 [] fun v0 =>
  .asB v0 fun b1 =>
  cond (!b1)
    (.ret 0 [(.sc (.b .false))])
    (.br .true
      (.call 7 [(.sc (.i .i64 (8 : Int))), (.sc (.i .u64 (IntKind.wrap .u64 ((1 : Int) + (IntKind.wrap .u64 (Int.tmod n0_ (40 : Int)))))))] fun v2 =>
      .asT 2 v2 fun l3 =>
      .nthC l3 0 fun v4 =>
      .asP (v4.av) fun o5 =>
      .nthC l3 1 fun v6 =>
      .asI .i64 (v6.av) fun n7 =>
      cond (Option.isNone o5)
        (.ret 0 [(.sc (.b .false))])
        (cond (n7 != (0 : Int))
          (.ret 0 [(.sc (.b .false))])
          (.loop t4_b8 [(.sc (.i .u8 n1_)), (.sc (.i .u8 n2_)), (.sc (.b b1)), (.sc (.i .u64 (IntKind.wrap .u64 ((1 : Int) + (IntKind.wrap .u64 (Int.tmod n0_ (40 : Int))))))), (.sc (.p o5)), (.sc (.i .i64 (1 : Int)))] t4_k8)))
      (.fail))
theorem t4_eq (n0_ : Int) (n1_ : Int) (n2_ : Int) : bodyK T (hs 4) Try.f4 [.sc (.i .u8 n0_), .sc (.i .u8 n1_), .sc (.i .u8 n2_)] = t4 n0_ n1_ n2_ := by kernel_rfl
end Go.Proofs.Ytmbnikcnmjpheaa
