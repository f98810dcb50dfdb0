/- Trees of functions, printed by a program of mine; each is proved to be the function's. -/
import Derived.Test.YtloiifcocgpnbaaGen
namespace Go.Proofs.Ytloiifcocgpnbaa
open Go Go.Proofs.Ytloiifcocgpnbaa.Fw
set_option linter.unusedVariables false
set_option maxRecDepth 20000
def t6_b82  : List AV → Tree := fun l83 =>
  .asB (l83.getD 0 .un) fun b84 =>
  .asI .i64 (l83.getD 1 .un) fun n85 =>
  .asL (l83.getD 2 .un) fun o86 =>
  .asI .i64 (l83.getD 3 .un) fun n87 =>
  cond (decide (n87 < (slLen o86)))
    (.ixS 7 o86 n87 fun a88 a89 a90 =>
    .ld a88 (((a89 + (a90 * 7)) + 0) + 0) 1 fun l91 =>
    .nth l91 0 fun v92 =>
    .asI .u32 (.sc v92) fun n93 =>
    cond (n93 == (IntKind.wrap .u32 ((100 : Int) + (IntKind.wrap .u32 n85))))
      (.ret 1 [(.sc (.b .false))])
      (.ixS 7 o86 n87 fun a94 a95 a96 =>
      .ld a94 (((a95 + (a96 * 7)) + 0) + 0) 1 fun l97 =>
      .nth l97 0 fun v98 =>
      .asI .u32 (.sc v98) fun n99 =>
      cond (n99 == (200 : Int))
        (.ixS 7 o86 n87 fun a100 a101 a102 =>
        .ld a100 ((a101 + (a102 * 7)) + 4) 1 fun l103 =>
        .nth l103 0 fun v104 =>
        .asI .u16 (.sc v104) fun n105 =>
        cond (n105 != (IntKind.wrap .u16 ((20000 : Int) + (IntKind.wrap .u16 n85))))
          (.ret 1 [(.sc (.b .false))])
          (.ret 0 [(.sc (.b b84)), (.sc (.i .i64 n85)), (.sc (.sl o86)), (.sc (.i .i64 (IntKind.wrap .i64 (n87 + (1 : Int)))))]))
        (.ret 0 [(.sc (.b b84)), (.sc (.i .i64 n85)), (.sc (.sl o86)), (.sc (.i .i64 (IntKind.wrap .i64 (n87 + (1 : Int)))))])))
    (.ret 6 [(.sc (.b b84))])
def t6_k82  : Nat → List AV → Tree := fun a106 l107 =>
  .tg a106 6
    (.asB (l107.getD 0 .un) fun b108 =>
    .ret 0 [(.sc (.b b108))])
    (.tg a106 1
      (.asB (l107.getD 0 .un) fun b109 =>
      .ret 0 [(.sc (.b b109))])
      (.fail))
def t6_k73  : Nat → List AV → Tree := fun a74 l75 =>
  .tg a74 0
    (.asB (l75.getD 0 .un) fun b76 =>
    .asI .i64 (l75.getD 1 .un) fun n77 =>
    .asP (l75.getD 2 .un) fun o78 =>
    .asI .i64 (l75.getD 3 .un) fun n79 =>
    .call 16 [(.sc (.p o78))] fun v80 =>
    .asL v80 fun o81 =>
    cond ((slLen o81) != n77)
      (.ret 0 [(.sc (.b .false))])
      (.loop t6_b82 [(.sc (.b b76)), (.sc (.i .i64 n79)), (.sc (.sl o81)), (.sc (.i .i64 (0 : Int)))] t6_k82))
    (.fail)
def t6_b9  : List AV → Tree := fun l10 =>
  .asI .u8 (l10.getD 0 .un) fun n11 =>
  .asB (l10.getD 1 .un) fun b12 =>
  .asI .i64 (l10.getD 2 .un) fun n13 =>
  .asP (l10.getD 3 .un) fun o14 =>
  .asP (l10.getD 4 .un) fun o15 =>
  .nn o15 fun a16 a17 =>
  .asI .i64 (l10.getD 5 .un) fun n18 =>
  cond (decide (n18 < n13))
    (.ld a16 a17 2 fun l19 =>
    .nth l19 0 fun v20 =>
    .asI .u32 (.sc v20) fun n21 =>
    .nth l19 1 fun v22 =>
    .asI .u16 (.sc v22) fun n23 =>
    .call 12 [(.sc (.p o14)), (.sc (.i .u64 (IntKind.wrap .u64 n18))), (.ag [(.i .u32 (IntKind.wrap .u32 ((100 : Int) + (IntKind.wrap .u32 n18)))), (.i .u16 (1 : Int))]), (.ag [(.i .u32 n21), (.i .u16 n23)])] fun v24 =>
    .asT 2 v24 fun l25 =>
    .nthC l25 0 fun v26 =>
    .asA 2 (v26.av) fun l27 =>
    .nth l27 0 fun v28 =>
    .asI .u32 (.sc v28) fun n29 =>
    .nth l27 1 fun v30 =>
    .asI .u16 (.sc v30) fun n31 =>
    .nthC l25 1 fun v32 =>
    .asI .i64 (v32.av) fun n33 =>
    .ret 0 [(.sc (.i .u8 n11)), (.sc (.b b12)), (.sc (.i .i64 n13)), (.sc (.p o14)), (.sc (.p (.some (a16, a17)))), (.sc (.i .i64 (IntKind.wrap .i64 (n18 + (1 : Int)))))])
    (.ret 2 [(.sc (.i .u8 n11)), (.sc (.b b12)), (.sc (.i .i64 n13)), (.sc (.p o14)), (.sc (.p (.some (a16, a17))))])
def t6_k9  : Nat → List AV → Tree := fun a34 l35 =>
  .tg a34 2
    (.asI .u8 (l35.getD 0 .un) fun n36 =>
    .asB (l35.getD 1 .un) fun b37 =>
    .asI .i64 (l35.getD 2 .un) fun n38 =>
    .asP (l35.getD 3 .un) fun o39 =>
    .asP (l35.getD 4 .un) fun o40 =>
    .nn o40 fun a41 a42 =>
    .br (n38 != (0 : Int))
      (.ld a41 a42 2 fun l43 =>
      .nth l43 0 fun v44 =>
      .asI .u32 (.sc v44) fun n45 =>
      .nth l43 1 fun v46 =>
      .asI .u16 (.sc v46) fun n47 =>
      .call 12 [(.sc (.p o39)), (.sc (.i .u64 (IntKind.wrap .u64 n38))), (.ag [(.i .u32 (IntKind.wrap .u32 ((100 : Int) + (IntKind.wrap .u32 (Int.tmod (IntKind.wrap .i64 n36) n38))))), (.i .u16 (1 : Int))]), (.ag [(.i .u32 n45), (.i .u16 n47)])] fun v48 =>
      .asT 2 v48 fun l49 =>
      .nthC l49 0 fun v50 =>
      .asA 2 (v50.av) fun l51 =>
      .nth l51 0 fun v52 =>
      .asI .u32 (.sc v52) fun n53 =>
      .nth l51 1 fun v54 =>
      .asI .u16 (.sc v54) fun n55 =>
      .nthC l49 1 fun v56 =>
      .asI .i64 (v56.av) fun n57 =>
      .ld a41 a42 2 fun l58 =>
      .nth l58 0 fun v59 =>
      .asI .u32 (.sc v59) fun n60 =>
      .nth l58 1 fun v61 =>
      .asI .u16 (.sc v61) fun n62 =>
      .call 12 [(.sc (.p o39)), (.sc (.i .u64 (IntKind.wrap .u64 (IntKind.wrap .i64 (n38 + (1 : Int)))))), (.ag [(.i .u32 (200 : Int)), (.i .u16 (1 : Int))]), (.ag [(.i .u32 n60), (.i .u16 n62)])] fun v63 =>
      .asT 2 v63 fun l64 =>
      .nthC l64 0 fun v65 =>
      .asA 2 (v65.av) fun l66 =>
      .nth l66 0 fun v67 =>
      .asI .u32 (.sc v67) fun n68 =>
      .nth l66 1 fun v69 =>
      .asI .u16 (.sc v69) fun n70 =>
      .nthC l64 1 fun v71 =>
      .asI .i64 (v71.av) fun n72 =>
      .join (
        cond ((Int.tmod (IntKind.wrap .i64 n36) n38) == (0 : Int))
          (.ret 0 [(.sc (.b b37)), (.sc (.i .i64 n38)), (.sc (.p o39)), (.sc (.i .i64 (1 : Int)))])
          (.ret 0 [(.sc (.b b37)), (.sc (.i .i64 n38)), (.sc (.p o39)), (.sc (.i .i64 (0 : Int)))])) t6_k73)
      (.fail))
    (.fail)
/-- scuttlebutt/scuttlebuttlaw08.NatboxEvicts -/
def t6 (n0_ : Int) (n1_ : Int) : Tree :=
  .call 10 [] fun v0 =>
  .asB v0 fun b1 =>
  cond (!b1)
    (.ret 0 [(.sc (.b .false))])
    (.br .true
      (.call 11 [(.ag [(.i .i64 (0 : Int)), (.i .i64 (0 : Int))]), (.sc (.i .u32 (9 : Int))), (.sc (.i .u64 (100 : Int))), (.sc (.i .i64 (IntKind.wrap .i64 ((2 : Int) + (IntKind.wrap .i64 (Int.tmod n0_ (5 : Int)))))))] fun v2 =>
      .asT 2 v2 fun l3 =>
      .nthC l3 0 fun v4 =>
      .asP (v4.av) fun o5 =>
      .nthC l3 1 fun v6 =>
      .asI .i64 (v6.av) fun n7 =>
      cond (Option.isNone o5)
        (.ret 0 [(.sc (.b .false))])
        (cond (n7 != (0 : Int))
          (.ret 0 [(.sc (.b .false))])
          (.al [(.i .u32 (0 : Int)), (.i .u16 (0 : Int))] fun a8 =>
          .st a8 0 [(.i .u32 (50 : Int)), (.i .u16 (1 : Int))] (
          .loop t6_b9 [(.sc (.i .u8 n1_)), (.sc (.b b1)), (.sc (.i .i64 (IntKind.wrap .i64 ((2 : Int) + (IntKind.wrap .i64 (Int.tmod n0_ (5 : Int))))))), (.sc (.p o5)), (.sc (.p (.some (a8, 0)))), (.sc (.i .i64 (0 : Int)))] t6_k9))))
      (.fail))
theorem t6_eq (n0_ : Int) (n1_ : Int) : bodyK T (hs 6) Try.f6 [.sc (.i .u8 n0_), .sc (.i .u8 n1_)] = t6 n0_ n1_ := by kernel_rfl
def t5_b9  : List AV → Tree := fun l10 =>
  .asI .u8 (l10.getD 0 .un) fun n11 =>
  .asI .u32 (l10.getD 1 .un) fun n12 =>
  .asB (l10.getD 2 .un) fun b13 =>
  .asP (l10.getD 3 .un) fun o14 =>
  .asP (l10.getD 4 .un) fun o15 =>
  .nn o15 fun a16 a17 =>
  .asI .i64 (l10.getD 5 .un) fun n18 =>
  .br .true
    (cond (decide (n18 < (IntKind.wrap .i64 ((1 : Int) + (IntKind.wrap .i64 (Int.tmod n11 (6 : Int)))))))
      (.ld a16 a17 8 fun l19 =>
      .nth l19 0 fun v20 =>
      .asI .u8 (.sc v20) fun n21 =>
      .nth l19 1 fun v22 =>
      .asI .u8 (.sc v22) fun n23 =>
      .nth l19 2 fun v24 =>
      .asI .u8 (.sc v24) fun n25 =>
      .nth l19 3 fun v26 =>
      .asI .u8 (.sc v26) fun n27 =>
      .nth l19 4 fun v28 =>
      .asI .u8 (.sc v28) fun n29 =>
      .nth l19 5 fun v30 =>
      .asI .u32 (.sc v30) fun n31 =>
      .nth l19 6 fun v32 =>
      .asI .u16 (.sc v32) fun n33 =>
      .nth l19 7 fun v34 =>
      .asI .u64 (.sc v34) fun n35 =>
      .call 14 [(.ag [(.i .u8 n21), (.i .u8 n23), (.i .u8 n25), (.i .u8 n27), (.i .u8 n29), (.i .u32 n31), (.i .u16 n33), (.i .u64 n35)])] fun v36 =>
      .asA 2 v36 fun l37 =>
      .nth l37 0 fun v38 =>
      .asI .u32 (.sc v38) fun n39 =>
      .nth l37 1 fun v40 =>
      .asI .u16 (.sc v40) fun n41 =>
      .call 12 [(.sc (.p o14)), (.sc (.i .u64 (0 : Int))), (.ag [(.i .u32 (IntKind.wrap .u32 ((100 : Int) + (IntKind.wrap .u32 n18)))), (.i .u16 (1 : Int))]), (.ag [(.i .u32 n39), (.i .u16 n41)])] fun v42 =>
      .asT 2 v42 fun l43 =>
      .nthC l43 0 fun v44 =>
      .asA 2 (v44.av) fun l45 =>
      .nth l45 0 fun v46 =>
      .asI .u32 (.sc v46) fun n47 =>
      .nth l45 1 fun v48 =>
      .asI .u16 (.sc v48) fun n49 =>
      .nthC l43 1 fun v50 =>
      .asI .i64 (v50.av) fun n51 =>
      .ret 0 [(.sc (.i .u8 n11)), (.sc (.i .u32 n12)), (.sc (.b b13)), (.sc (.p o14)), (.sc (.p (.some (a16, a17)))), (.sc (.i .i64 (IntKind.wrap .i64 (n18 + (1 : Int)))))])
      (.ret 2 [(.sc (.i .u8 n11)), (.sc (.i .u32 n12)), (.sc (.b b13)), (.sc (.p o14)), (.sc (.p (.some (a16, a17))))]))
    (.fail)
def t5_k9  : Nat → List AV → Tree := fun a52 l53 =>
  .tg a52 2
    (.asI .u8 (l53.getD 0 .un) fun n54 =>
    .asI .u32 (l53.getD 1 .un) fun n55 =>
    .asB (l53.getD 2 .un) fun b56 =>
    .asP (l53.getD 3 .un) fun o57 =>
    .asP (l53.getD 4 .un) fun o58 =>
    .nn o58 fun a59 a60 =>
    .call 19 [(.sc (.p o57)), (.sc (.i .u32 n55))] fun v61 =>
    .asI .i64 v61 fun n62 =>
    cond (n55 == (0 : Int))
      (cond b56
        (cond (n62 == (1 : Int))
          (.call 20 [(.sc (.p o57))] fun v63 =>
          .asI .u32 v63 fun n64 =>
          cond (n64 == (9 : Int))
            (.call 16 [(.sc (.p o57))] fun v65 =>
            .asL v65 fun o66 =>
            .br .true
              (.ret 0 [(.sc (.b ((slLen o66) == (IntKind.wrap .i64 ((1 : Int) + (IntKind.wrap .i64 (Int.tmod n54 (6 : Int))))))))])
              (.fail))
            (.ret 0 [(.sc (.b .false))]))
          (.ret 0 [(.sc (.b .false))]))
        (.ret 0 [(.sc (.b .false))]))
      (.ld a59 a60 8 fun l67 =>
      .nth l67 0 fun v68 =>
      .asI .u8 (.sc v68) fun n69 =>
      .nth l67 1 fun v70 =>
      .asI .u8 (.sc v70) fun n71 =>
      .nth l67 2 fun v72 =>
      .asI .u8 (.sc v72) fun n73 =>
      .nth l67 3 fun v74 =>
      .asI .u8 (.sc v74) fun n75 =>
      .nth l67 4 fun v76 =>
      .asI .u8 (.sc v76) fun n77 =>
      .nth l67 5 fun v78 =>
      .asI .u32 (.sc v78) fun n79 =>
      .nth l67 6 fun v80 =>
      .asI .u16 (.sc v80) fun n81 =>
      .nth l67 7 fun v82 =>
      .asI .u64 (.sc v82) fun n83 =>
      .call 14 [(.ag [(.i .u8 n69), (.i .u8 n71), (.i .u8 n73), (.i .u8 n75), (.i .u8 n77), (.i .u32 n79), (.i .u16 n81), (.i .u64 n83)])] fun v84 =>
      .asA 2 v84 fun l85 =>
      .nth l85 0 fun v86 =>
      .asI .u32 (.sc v86) fun n87 =>
      .nth l85 1 fun v88 =>
      .asI .u16 (.sc v88) fun n89 =>
      .call 15 [(.sc (.p o57)), (.sc (.i .u64 (1 : Int))), (.sc (.i .u16 (20000 : Int))), (.ag [(.i .u32 n87), (.i .u16 n89)])] fun v90 =>
      .asT 2 v90 fun l91 =>
      .nthC l91 0 fun v92 =>
      .asA 2 (v92.av) fun l93 =>
      .nth l93 0 fun v94 =>
      .asI .u32 (.sc v94) fun n95 =>
      .nth l93 1 fun v96 =>
      .asI .u16 (.sc v96) fun n97 =>
      .nthC l91 1 fun v98 =>
      .asI .i64 (v98.av) fun n99 =>
      .al [(.i .u32 (0 : Int)), (.i .u16 (0 : Int))] fun a100 =>
      .st a100 0 [(.i .u32 n95), (.i .u16 n97)] (
      .ld a59 a60 8 fun l101 =>
      .nth l101 0 fun v102 =>
      .asI .u8 (.sc v102) fun n103 =>
      .nth l101 1 fun v104 =>
      .asI .u8 (.sc v104) fun n105 =>
      .nth l101 2 fun v106 =>
      .asI .u8 (.sc v106) fun n107 =>
      .nth l101 3 fun v108 =>
      .asI .u8 (.sc v108) fun n109 =>
      .nth l101 4 fun v110 =>
      .asI .u8 (.sc v110) fun n111 =>
      .nth l101 5 fun v112 =>
      .asI .u32 (.sc v112) fun n113 =>
      .nth l101 6 fun v114 =>
      .asI .u16 (.sc v114) fun n115 =>
      .nth l101 7 fun v116 =>
      .asI .u64 (.sc v116) fun n117 =>
      .ld a59 a60 8 fun l118 =>
      .nth l118 0 fun v119 =>
      .asI .u8 (.sc v119) fun n120 =>
      .nth l118 1 fun v121 =>
      .asI .u8 (.sc v121) fun n122 =>
      .nth l118 2 fun v123 =>
      .asI .u8 (.sc v123) fun n124 =>
      .nth l118 3 fun v125 =>
      .asI .u8 (.sc v125) fun n126 =>
      .nth l118 4 fun v127 =>
      .asI .u8 (.sc v127) fun n128 =>
      .nth l118 5 fun v129 =>
      .asI .u32 (.sc v129) fun n130 =>
      .nth l118 6 fun v131 =>
      .asI .u16 (.sc v131) fun n132 =>
      .nth l118 7 fun v133 =>
      .asI .u64 (.sc v133) fun n134 =>
      .al [(.i .u32 (0 : Int)), (.i .u16 (0 : Int))] fun a135 =>
      .call 13 [(.ag [(.i .u8 n103), (.i .u8 n105), (.i .u8 n107), (.i .u8 n109), (.i .u8 n111), (.i .u32 n113), (.i .u16 n115), (.i .u64 n117)])] fun v136 =>
      .asA 2 v136 fun l137 =>
      .nth l137 0 fun v138 =>
      .asI .u32 (.sc v138) fun n139 =>
      .nth l137 1 fun v140 =>
      .asI .u16 (.sc v140) fun n141 =>
      .same a59 a60 [(.i .u8 n120), (.i .u8 n122), (.i .u8 n124), (.i .u8 n126), (.i .u8 n128), (.i .u32 n130), (.i .u16 n132), (.i .u64 n134)] (
      .call 14 [(.ag [(.i .u8 n120), (.i .u8 n122), (.i .u8 n124), (.i .u8 n126), (.i .u8 n128), (.i .u32 n130), (.i .u16 n132), (.i .u64 n134)])] fun v142 =>
      .asA 2 v142 fun l143 =>
      .nth l143 0 fun v144 =>
      .asI .u32 (.sc v144) fun n145 =>
      .nth l143 1 fun v146 =>
      .asI .u16 (.sc v146) fun n147 =>
      .call 12 [(.sc (.p o57)), (.sc (.i .u64 (1 : Int))), (.ag [(.i .u32 n139), (.i .u16 n141)]), (.ag [(.i .u32 n145), (.i .u16 n147)])] fun v148 =>
      .asT 2 v148 fun l149 =>
      .nthC l149 0 fun v150 =>
      .asA 2 (v150.av) fun l151 =>
      .nth l151 0 fun v152 =>
      .asI .u32 (.sc v152) fun n153 =>
      .nth l151 1 fun v154 =>
      .asI .u16 (.sc v154) fun n155 =>
      .nthC l149 1 fun v156 =>
      .asI .i64 (v156.av) fun n157 =>
      .st a135 0 [(.i .u32 n153), (.i .u16 n155)] (
      cond b56
        (cond (n62 == (0 : Int))
          (.call 20 [(.sc (.p o57))] fun v158 =>
          .asI .u32 v158 fun n159 =>
          cond (n159 == n55)
            (cond (n99 == (5 : Int))
              (.ld a135 (0 + 0) 1 fun l160 =>
              .nth l160 0 fun v161 =>
              .asI .u32 (.sc v161) fun n162 =>
              cond (n162 == n55)
                (.ld a135 (0 + 1) 1 fun l163 =>
                .nth l163 0 fun v164 =>
                .asI .u16 (.sc v164) fun n165 =>
                .ret 0 [(.sc (.b (n165 == (20000 : Int))))])
                (.ret 0 [(.sc (.b .false))]))
              (.ret 0 [(.sc (.b .false))]))
            (.ret 0 [(.sc (.b .false))]))
          (.ret 0 [(.sc (.b .false))]))
        (.ret 0 [(.sc (.b .false))]))))))
    (.fail)
/-- scuttlebutt/scuttlebuttlaw08.NatboxAnew -/
def t5 (n0_ : Int) (n1_ : Int) (n2_ : Int) : Tree :=
  .call 10 [] fun v0 =>
  .asB v0 fun b1 =>
  cond (!b1)
    (.ret 0 [(.sc (.b .false))])
    (.br .true
      (.br .true
        (.br .true
          (.call 11 [(.ag [(.i .i64 (IntKind.wrap .i64 (Int.tmod n0_ (3 : Int)))), (.i .i64 (IntKind.wrap .i64 (Int.tmod (IntKind.wrap .u8 (Int.tdiv n0_ (3 : Int))) (3 : Int))))]), (.sc (.i .u32 (9 : Int))), (.sc (.i .u64 (50 : Int))), (.sc (.i .i64 (8 : Int)))] fun v2 =>
          .asT 2 v2 fun l3 =>
          .nthC l3 0 fun v4 =>
          .asP (v4.av) fun o5 =>
          .nthC l3 1 fun v6 =>
          .asI .i64 (v6.av) fun n7 =>
          cond (Option.isNone o5)
            (.ret 0 [(.sc (.b .false))])
            (cond (n7 != (0 : Int))
              (.ret 0 [(.sc (.b .false))])
              (.al [(.i .u8 (0 : Int)), (.i .u8 (0 : Int)), (.i .u8 (0 : Int)), (.i .u8 (0 : Int)), (.i .u8 (0 : Int)), (.i .u32 (0 : Int)), (.i .u16 (0 : Int)), (.i .u64 (0 : Int))] fun a8 =>
              .st a8 0 [(.i .u8 (0 : Int)), (.i .u8 (1 : Int)), (.i .u8 (3 : Int)), (.i .u8 (0 : Int)), (.i .u8 (0 : Int)), (.i .u32 (0 : Int)), (.i .u16 (0 : Int)), (.i .u64 (0 : Int))] (
              .loop t5_b9 [(.sc (.i .u8 n1_)), (.sc (.i .u32 n2_)), (.sc (.b b1)), (.sc (.p o5)), (.sc (.p (.some (a8, 0)))), (.sc (.i .i64 (0 : Int)))] t5_k9))))
          (.fail))
        (.fail))
      (.fail))
theorem t5_eq (n0_ : Int) (n1_ : Int) (n2_ : Int) : bodyK T (hs 5) Try.f5 [.sc (.i .u8 n0_), .sc (.i .u8 n1_), .sc (.i .u32 n2_)] = t5 n0_ n1_ n2_ := by kernel_rfl
/-- scuttlebutt/scuttlebuttlaw08.NatboxMaps -/
def t4 (n0_ : Int) (n1_ : Int) (n2_ : Int) : Tree :=
  .call 10 [] fun v0 =>
  .asB v0 fun b1 =>
  cond (!b1)
    (.ret 0 [(.sc (.b .false))])
    (.br .true
      (.br .true
        (.br .true
          (.al [(.i .i64 (0 : Int)), (.i .i64 (0 : Int))] fun a2 =>
          .st a2 0 [(.i .i64 (IntKind.wrap .i64 (Int.tmod n0_ (3 : Int)))), (.i .i64 (IntKind.wrap .i64 (Int.tmod (IntKind.wrap .u8 (Int.tdiv n0_ (3 : Int))) (3 : Int))))] (
          .ld a2 0 2 fun l3 =>
          .nth l3 0 fun v4 =>
          .asI .i64 (.sc v4) fun n5 =>
          .nth l3 1 fun v6 =>
          .asI .i64 (.sc v6) fun n7 =>
          .call 11 [(.ag [(.i .i64 n5), (.i .i64 n7)]), (.sc (.i .u32 (9 : Int))), (.sc (.i .u64 (50 : Int))), (.sc (.i .i64 (16 : Int)))] fun v8 =>
          .asT 2 v8 fun l9 =>
          .nthC l9 0 fun v10 =>
          .asP (v10.av) fun o11 =>
          .nthC l9 1 fun v12 =>
          .asI .i64 (v12.av) fun n13 =>
          cond (Option.isNone o11)
            (.ret 0 [(.sc (.b .false))])
            (cond (n13 != (0 : Int))
              (.ret 0 [(.sc (.b .false))])
              (.br .true
                (.al [(.i .u8 (0 : Int)), (.i .u8 (0 : Int)), (.i .u8 (0 : Int)), (.i .u8 (0 : Int)), (.i .u8 (0 : Int)), (.i .u32 (0 : Int)), (.i .u16 (0 : Int)), (.i .u64 (0 : Int))] fun a14 =>
                .st a14 0 [(.i .u8 (0 : Int)), (.i .u8 (1 : Int)), (.i .u8 (Int.tmod n1_ (12 : Int))), (.i .u8 (0 : Int)), (.i .u8 (0 : Int)), (.i .u32 (0 : Int)), (.i .u16 (0 : Int)), (.i .u64 (0 : Int))] (
                .br .true
                  (.al [(.i .u8 (0 : Int)), (.i .u8 (0 : Int)), (.i .u8 (0 : Int)), (.i .u8 (0 : Int)), (.i .u8 (0 : Int)), (.i .u32 (0 : Int)), (.i .u16 (0 : Int)), (.i .u64 (0 : Int))] fun a15 =>
                  .st a15 0 [(.i .u8 (0 : Int)), (.i .u8 (1 : Int)), (.i .u8 (Int.tmod n2_ (12 : Int))), (.i .u8 (0 : Int)), (.i .u8 (0 : Int)), (.i .u32 (0 : Int)), (.i .u16 (0 : Int)), (.i .u64 (0 : Int))] (
                  .br .true
                    (.al [(.i .u8 (0 : Int)), (.i .u8 (0 : Int)), (.i .u8 (0 : Int)), (.i .u8 (0 : Int)), (.i .u8 (0 : Int)), (.i .u32 (0 : Int)), (.i .u16 (0 : Int)), (.i .u64 (0 : Int))] fun a16 =>
                    .st a16 0 [(.i .u8 (0 : Int)), (.i .u8 (2 : Int)), (.i .u8 (Int.tmod n1_ (12 : Int))), (.i .u8 (0 : Int)), (.i .u8 (0 : Int)), (.i .u32 (0 : Int)), (.i .u16 (0 : Int)), (.i .u64 (0 : Int))] (
                    .ld a14 0 8 fun l17 =>
                    .nth l17 0 fun v18 =>
                    .asI .u8 (.sc v18) fun n19 =>
                    .nth l17 1 fun v20 =>
                    .asI .u8 (.sc v20) fun n21 =>
                    .nth l17 2 fun v22 =>
                    .asI .u8 (.sc v22) fun n23 =>
                    .nth l17 3 fun v24 =>
                    .asI .u8 (.sc v24) fun n25 =>
                    .nth l17 4 fun v26 =>
                    .asI .u8 (.sc v26) fun n27 =>
                    .nth l17 5 fun v28 =>
                    .asI .u32 (.sc v28) fun n29 =>
                    .nth l17 6 fun v30 =>
                    .asI .u16 (.sc v30) fun n31 =>
                    .nth l17 7 fun v32 =>
                    .asI .u64 (.sc v32) fun n33 =>
                    .ld a14 0 8 fun l34 =>
                    .nth l34 0 fun v35 =>
                    .asI .u8 (.sc v35) fun n36 =>
                    .nth l34 1 fun v37 =>
                    .asI .u8 (.sc v37) fun n38 =>
                    .nth l34 2 fun v39 =>
                    .asI .u8 (.sc v39) fun n40 =>
                    .nth l34 3 fun v41 =>
                    .asI .u8 (.sc v41) fun n42 =>
                    .nth l34 4 fun v43 =>
                    .asI .u8 (.sc v43) fun n44 =>
                    .nth l34 5 fun v45 =>
                    .asI .u32 (.sc v45) fun n46 =>
                    .nth l34 6 fun v47 =>
                    .asI .u16 (.sc v47) fun n48 =>
                    .nth l34 7 fun v49 =>
                    .asI .u64 (.sc v49) fun n50 =>
                    .al [(.i .u32 (0 : Int)), (.i .u16 (0 : Int))] fun a51 =>
                    .call 13 [(.ag [(.i .u8 n19), (.i .u8 n21), (.i .u8 n23), (.i .u8 n25), (.i .u8 n27), (.i .u32 n29), (.i .u16 n31), (.i .u64 n33)])] fun v52 =>
                    .asA 2 v52 fun l53 =>
                    .nth l53 0 fun v54 =>
                    .asI .u32 (.sc v54) fun n55 =>
                    .nth l53 1 fun v56 =>
                    .asI .u16 (.sc v56) fun n57 =>
                    .same a14 0 [(.i .u8 n36), (.i .u8 n38), (.i .u8 n40), (.i .u8 n42), (.i .u8 n44), (.i .u32 n46), (.i .u16 n48), (.i .u64 n50)] (
                    .call 14 [(.ag [(.i .u8 n36), (.i .u8 n38), (.i .u8 n40), (.i .u8 n42), (.i .u8 n44), (.i .u32 n46), (.i .u16 n48), (.i .u64 n50)])] fun v58 =>
                    .asA 2 v58 fun l59 =>
                    .nth l59 0 fun v60 =>
                    .asI .u32 (.sc v60) fun n61 =>
                    .nth l59 1 fun v62 =>
                    .asI .u16 (.sc v62) fun n63 =>
                    .call 12 [(.sc (.p o11)), (.sc (.i .u64 (0 : Int))), (.ag [(.i .u32 n55), (.i .u16 n57)]), (.ag [(.i .u32 n61), (.i .u16 n63)])] fun v64 =>
                    .asT 2 v64 fun l65 =>
                    .nthC l65 0 fun v66 =>
                    .asA 2 (v66.av) fun l67 =>
                    .nth l67 0 fun v68 =>
                    .asI .u32 (.sc v68) fun n69 =>
                    .nth l67 1 fun v70 =>
                    .asI .u16 (.sc v70) fun n71 =>
                    .nthC l65 1 fun v72 =>
                    .asI .i64 (v72.av) fun n73 =>
                    .st a51 0 [(.i .u32 n69), (.i .u16 n71)] (
                    .ld a15 0 8 fun l74 =>
                    .nth l74 0 fun v75 =>
                    .asI .u8 (.sc v75) fun n76 =>
                    .nth l74 1 fun v77 =>
                    .asI .u8 (.sc v77) fun n78 =>
                    .nth l74 2 fun v79 =>
                    .asI .u8 (.sc v79) fun n80 =>
                    .nth l74 3 fun v81 =>
                    .asI .u8 (.sc v81) fun n82 =>
                    .nth l74 4 fun v83 =>
                    .asI .u8 (.sc v83) fun n84 =>
                    .nth l74 5 fun v85 =>
                    .asI .u32 (.sc v85) fun n86 =>
                    .nth l74 6 fun v87 =>
                    .asI .u16 (.sc v87) fun n88 =>
                    .nth l74 7 fun v89 =>
                    .asI .u64 (.sc v89) fun n90 =>
                    .ld a15 0 8 fun l91 =>
                    .nth l91 0 fun v92 =>
                    .asI .u8 (.sc v92) fun n93 =>
                    .nth l91 1 fun v94 =>
                    .asI .u8 (.sc v94) fun n95 =>
                    .nth l91 2 fun v96 =>
                    .asI .u8 (.sc v96) fun n97 =>
                    .nth l91 3 fun v98 =>
                    .asI .u8 (.sc v98) fun n99 =>
                    .nth l91 4 fun v100 =>
                    .asI .u8 (.sc v100) fun n101 =>
                    .nth l91 5 fun v102 =>
                    .asI .u32 (.sc v102) fun n103 =>
                    .nth l91 6 fun v104 =>
                    .asI .u16 (.sc v104) fun n105 =>
                    .nth l91 7 fun v106 =>
                    .asI .u64 (.sc v106) fun n107 =>
                    .al [(.i .u32 (0 : Int)), (.i .u16 (0 : Int))] fun a108 =>
                    .call 13 [(.ag [(.i .u8 n76), (.i .u8 n78), (.i .u8 n80), (.i .u8 n82), (.i .u8 n84), (.i .u32 n86), (.i .u16 n88), (.i .u64 n90)])] fun v109 =>
                    .asA 2 v109 fun l110 =>
                    .nth l110 0 fun v111 =>
                    .asI .u32 (.sc v111) fun n112 =>
                    .nth l110 1 fun v113 =>
                    .asI .u16 (.sc v113) fun n114 =>
                    .same a15 0 [(.i .u8 n93), (.i .u8 n95), (.i .u8 n97), (.i .u8 n99), (.i .u8 n101), (.i .u32 n103), (.i .u16 n105), (.i .u64 n107)] (
                    .call 14 [(.ag [(.i .u8 n93), (.i .u8 n95), (.i .u8 n97), (.i .u8 n99), (.i .u8 n101), (.i .u32 n103), (.i .u16 n105), (.i .u64 n107)])] fun v115 =>
                    .asA 2 v115 fun l116 =>
                    .nth l116 0 fun v117 =>
                    .asI .u32 (.sc v117) fun n118 =>
                    .nth l116 1 fun v119 =>
                    .asI .u16 (.sc v119) fun n120 =>
                    .call 12 [(.sc (.p o11)), (.sc (.i .u64 (0 : Int))), (.ag [(.i .u32 n112), (.i .u16 n114)]), (.ag [(.i .u32 n118), (.i .u16 n120)])] fun v121 =>
                    .asT 2 v121 fun l122 =>
                    .nthC l122 0 fun v123 =>
                    .asA 2 (v123.av) fun l124 =>
                    .nth l124 0 fun v125 =>
                    .asI .u32 (.sc v125) fun n126 =>
                    .nth l124 1 fun v127 =>
                    .asI .u16 (.sc v127) fun n128 =>
                    .nthC l122 1 fun v129 =>
                    .asI .i64 (v129.av) fun n130 =>
                    .st a108 0 [(.i .u32 n126), (.i .u16 n128)] (
                    .ld a16 0 8 fun l131 =>
                    .nth l131 0 fun v132 =>
                    .asI .u8 (.sc v132) fun n133 =>
                    .nth l131 1 fun v134 =>
                    .asI .u8 (.sc v134) fun n135 =>
                    .nth l131 2 fun v136 =>
                    .asI .u8 (.sc v136) fun n137 =>
                    .nth l131 3 fun v138 =>
                    .asI .u8 (.sc v138) fun n139 =>
                    .nth l131 4 fun v140 =>
                    .asI .u8 (.sc v140) fun n141 =>
                    .nth l131 5 fun v142 =>
                    .asI .u32 (.sc v142) fun n143 =>
                    .nth l131 6 fun v144 =>
                    .asI .u16 (.sc v144) fun n145 =>
                    .nth l131 7 fun v146 =>
                    .asI .u64 (.sc v146) fun n147 =>
                    .ld a16 0 8 fun l148 =>
                    .nth l148 0 fun v149 =>
                    .asI .u8 (.sc v149) fun n150 =>
                    .nth l148 1 fun v151 =>
                    .asI .u8 (.sc v151) fun n152 =>
                    .nth l148 2 fun v153 =>
                    .asI .u8 (.sc v153) fun n154 =>
                    .nth l148 3 fun v155 =>
                    .asI .u8 (.sc v155) fun n156 =>
                    .nth l148 4 fun v157 =>
                    .asI .u8 (.sc v157) fun n158 =>
                    .nth l148 5 fun v159 =>
                    .asI .u32 (.sc v159) fun n160 =>
                    .nth l148 6 fun v161 =>
                    .asI .u16 (.sc v161) fun n162 =>
                    .nth l148 7 fun v163 =>
                    .asI .u64 (.sc v163) fun n164 =>
                    .al [(.i .u32 (0 : Int)), (.i .u16 (0 : Int))] fun a165 =>
                    .call 13 [(.ag [(.i .u8 n133), (.i .u8 n135), (.i .u8 n137), (.i .u8 n139), (.i .u8 n141), (.i .u32 n143), (.i .u16 n145), (.i .u64 n147)])] fun v166 =>
                    .asA 2 v166 fun l167 =>
                    .nth l167 0 fun v168 =>
                    .asI .u32 (.sc v168) fun n169 =>
                    .nth l167 1 fun v170 =>
                    .asI .u16 (.sc v170) fun n171 =>
                    .same a16 0 [(.i .u8 n150), (.i .u8 n152), (.i .u8 n154), (.i .u8 n156), (.i .u8 n158), (.i .u32 n160), (.i .u16 n162), (.i .u64 n164)] (
                    .call 14 [(.ag [(.i .u8 n150), (.i .u8 n152), (.i .u8 n154), (.i .u8 n156), (.i .u8 n158), (.i .u32 n160), (.i .u16 n162), (.i .u64 n164)])] fun v172 =>
                    .asA 2 v172 fun l173 =>
                    .nth l173 0 fun v174 =>
                    .asI .u32 (.sc v174) fun n175 =>
                    .nth l173 1 fun v176 =>
                    .asI .u16 (.sc v176) fun n177 =>
                    .call 12 [(.sc (.p o11)), (.sc (.i .u64 (0 : Int))), (.ag [(.i .u32 n169), (.i .u16 n171)]), (.ag [(.i .u32 n175), (.i .u16 n177)])] fun v178 =>
                    .asT 2 v178 fun l179 =>
                    .nthC l179 0 fun v180 =>
                    .asA 2 (v180.av) fun l181 =>
                    .nth l181 0 fun v182 =>
                    .asI .u32 (.sc v182) fun n183 =>
                    .nth l181 1 fun v184 =>
                    .asI .u16 (.sc v184) fun n185 =>
                    .nthC l179 1 fun v186 =>
                    .asI .i64 (v186.av) fun n187 =>
                    .st a165 0 [(.i .u32 n183), (.i .u16 n185)] (
                    .ld a14 0 8 fun l188 =>
                    .nth l188 0 fun v189 =>
                    .asI .u8 (.sc v189) fun n190 =>
                    .nth l188 1 fun v191 =>
                    .asI .u8 (.sc v191) fun n192 =>
                    .nth l188 2 fun v193 =>
                    .asI .u8 (.sc v193) fun n194 =>
                    .nth l188 3 fun v195 =>
                    .asI .u8 (.sc v195) fun n196 =>
                    .nth l188 4 fun v197 =>
                    .asI .u8 (.sc v197) fun n198 =>
                    .nth l188 5 fun v199 =>
                    .asI .u32 (.sc v199) fun n200 =>
                    .nth l188 6 fun v201 =>
                    .asI .u16 (.sc v201) fun n202 =>
                    .nth l188 7 fun v203 =>
                    .asI .u64 (.sc v203) fun n204 =>
                    .ld a14 0 8 fun l205 =>
                    .nth l205 0 fun v206 =>
                    .asI .u8 (.sc v206) fun n207 =>
                    .nth l205 1 fun v208 =>
                    .asI .u8 (.sc v208) fun n209 =>
                    .nth l205 2 fun v210 =>
                    .asI .u8 (.sc v210) fun n211 =>
                    .nth l205 3 fun v212 =>
                    .asI .u8 (.sc v212) fun n213 =>
                    .nth l205 4 fun v214 =>
                    .asI .u8 (.sc v214) fun n215 =>
                    .nth l205 5 fun v216 =>
                    .asI .u32 (.sc v216) fun n217 =>
                    .nth l205 6 fun v218 =>
                    .asI .u16 (.sc v218) fun n219 =>
                    .nth l205 7 fun v220 =>
                    .asI .u64 (.sc v220) fun n221 =>
                    .al [(.i .u32 (0 : Int)), (.i .u16 (0 : Int))] fun a222 =>
                    .call 13 [(.ag [(.i .u8 n190), (.i .u8 n192), (.i .u8 n194), (.i .u8 n196), (.i .u8 n198), (.i .u32 n200), (.i .u16 n202), (.i .u64 n204)])] fun v223 =>
                    .asA 2 v223 fun l224 =>
                    .nth l224 0 fun v225 =>
                    .asI .u32 (.sc v225) fun n226 =>
                    .nth l224 1 fun v227 =>
                    .asI .u16 (.sc v227) fun n228 =>
                    .same a14 0 [(.i .u8 n207), (.i .u8 n209), (.i .u8 n211), (.i .u8 n213), (.i .u8 n215), (.i .u32 n217), (.i .u16 n219), (.i .u64 n221)] (
                    .call 14 [(.ag [(.i .u8 n207), (.i .u8 n209), (.i .u8 n211), (.i .u8 n213), (.i .u8 n215), (.i .u32 n217), (.i .u16 n219), (.i .u64 n221)])] fun v229 =>
                    .asA 2 v229 fun l230 =>
                    .nth l230 0 fun v231 =>
                    .asI .u32 (.sc v231) fun n232 =>
                    .nth l230 1 fun v233 =>
                    .asI .u16 (.sc v233) fun n234 =>
                    .call 12 [(.sc (.p o11)), (.sc (.i .u64 (3 : Int))), (.ag [(.i .u32 n226), (.i .u16 n228)]), (.ag [(.i .u32 n232), (.i .u16 n234)])] fun v235 =>
                    .asT 2 v235 fun l236 =>
                    .nthC l236 0 fun v237 =>
                    .asA 2 (v237.av) fun l238 =>
                    .nth l238 0 fun v239 =>
                    .asI .u32 (.sc v239) fun n240 =>
                    .nth l238 1 fun v241 =>
                    .asI .u16 (.sc v241) fun n242 =>
                    .nthC l236 1 fun v243 =>
                    .asI .i64 (v243.av) fun n244 =>
                    .st a222 0 [(.i .u32 n240), (.i .u16 n242)] (
                    cond b1
                      (.ld a51 0 2 fun l245 =>
                      .nth l245 0 fun v246 =>
                      .asI .u32 (.sc v246) fun n247 =>
                      .nth l245 1 fun v248 =>
                      .asI .u16 (.sc v248) fun n249 =>
                      .ld a108 0 2 fun l250 =>
                      .nth l250 0 fun v251 =>
                      .asI .u32 (.sc v251) fun n252 =>
                      .nth l250 1 fun v253 =>
                      .asI .u16 (.sc v253) fun n254 =>
                      .ld a2 0 2 fun l255 =>
                      .nth l255 0 fun v256 =>
                      .asI .i64 (.sc v256) fun n257 =>
                      .nth l255 1 fun v258 =>
                      .asI .i64 (.sc v258) fun n259 =>
                      .ld a14 0 8 fun l260 =>
                      .nth l260 0 fun v261 =>
                      .asI .u8 (.sc v261) fun n262 =>
                      .nth l260 1 fun v263 =>
                      .asI .u8 (.sc v263) fun n264 =>
                      .nth l260 2 fun v265 =>
                      .asI .u8 (.sc v265) fun n266 =>
                      .nth l260 3 fun v267 =>
                      .asI .u8 (.sc v267) fun n268 =>
                      .nth l260 4 fun v269 =>
                      .asI .u8 (.sc v269) fun n270 =>
                      .nth l260 5 fun v271 =>
                      .asI .u32 (.sc v271) fun n272 =>
                      .nth l260 6 fun v273 =>
                      .asI .u16 (.sc v273) fun n274 =>
                      .nth l260 7 fun v275 =>
                      .asI .u64 (.sc v275) fun n276 =>
                      .ld a2 0 2 fun l277 =>
                      .nth l277 0 fun v278 =>
                      .asI .i64 (.sc v278) fun n279 =>
                      .nth l277 1 fun v280 =>
                      .asI .i64 (.sc v280) fun n281 =>
                      .ld a15 0 8 fun l282 =>
                      .nth l282 0 fun v283 =>
                      .asI .u8 (.sc v283) fun n284 =>
                      .nth l282 1 fun v285 =>
                      .asI .u8 (.sc v285) fun n286 =>
                      .nth l282 2 fun v287 =>
                      .asI .u8 (.sc v287) fun n288 =>
                      .nth l282 3 fun v289 =>
                      .asI .u8 (.sc v289) fun n290 =>
                      .nth l282 4 fun v291 =>
                      .asI .u8 (.sc v291) fun n292 =>
                      .nth l282 5 fun v293 =>
                      .asI .u32 (.sc v293) fun n294 =>
                      .nth l282 6 fun v295 =>
                      .asI .u16 (.sc v295) fun n296 =>
                      .nth l282 7 fun v297 =>
                      .asI .u64 (.sc v297) fun n298 =>
                      .call 14 [(.ag [(.i .u8 n262), (.i .u8 n264), (.i .u8 n266), (.i .u8 n268), (.i .u8 n270), (.i .u32 n272), (.i .u16 n274), (.i .u64 n276)])] fun v299 =>
                      .asA 2 v299 fun l300 =>
                      .nth l300 0 fun v301 =>
                      .asI .u32 (.sc v301) fun n302 =>
                      .nth l300 1 fun v303 =>
                      .asI .u16 (.sc v303) fun n304 =>
                      .same a15 0 [(.i .u8 n284), (.i .u8 n286), (.i .u8 n288), (.i .u8 n290), (.i .u8 n292), (.i .u32 n294), (.i .u16 n296), (.i .u64 n298)] (
                      .same a2 0 [(.i .i64 n279), (.i .i64 n281)] (
                      .same a2 0 [(.i .i64 n257), (.i .i64 n259)] (
                      .same a108 0 [(.i .u32 n252), (.i .u16 n254)] (
                      .same a51 0 [(.i .u32 n247), (.i .u16 n249)] (
                      .call 18 [(.ag [(.i .i64 n257), (.i .i64 n259)]), (.ag [(.i .u32 n302), (.i .u16 n304)])] fun v305 =>
                      .asA 2 v305 fun l306 =>
                      .nth l306 0 fun v307 =>
                      .asI .u32 (.sc v307) fun n308 =>
                      .nth l306 1 fun v309 =>
                      .asI .u16 (.sc v309) fun n310 =>
                      .same a15 0 [(.i .u8 n284), (.i .u8 n286), (.i .u8 n288), (.i .u8 n290), (.i .u8 n292), (.i .u32 n294), (.i .u16 n296), (.i .u64 n298)] (
                      .same a2 0 [(.i .i64 n279), (.i .i64 n281)] (
                      .same a108 0 [(.i .u32 n252), (.i .u16 n254)] (
                      .same a51 0 [(.i .u32 n247), (.i .u16 n249)] (
                      .call 14 [(.ag [(.i .u8 n284), (.i .u8 n286), (.i .u8 n288), (.i .u8 n290), (.i .u8 n292), (.i .u32 n294), (.i .u16 n296), (.i .u64 n298)])] fun v311 =>
                      .asA 2 v311 fun l312 =>
                      .nth l312 0 fun v313 =>
                      .asI .u32 (.sc v313) fun n314 =>
                      .nth l312 1 fun v315 =>
                      .asI .u16 (.sc v315) fun n316 =>
                      .same a2 0 [(.i .i64 n279), (.i .i64 n281)] (
                      .same a108 0 [(.i .u32 n252), (.i .u16 n254)] (
                      .same a51 0 [(.i .u32 n247), (.i .u16 n249)] (
                      .call 18 [(.ag [(.i .i64 n279), (.i .i64 n281)]), (.ag [(.i .u32 n314), (.i .u16 n316)])] fun v317 =>
                      .asA 2 v317 fun l318 =>
                      .nth l318 0 fun v319 =>
                      .asI .u32 (.sc v319) fun n320 =>
                      .nth l318 1 fun v321 =>
                      .asI .u16 (.sc v321) fun n322 =>
                      .same a108 0 [(.i .u32 n252), (.i .u16 n254)] (
                      .same a51 0 [(.i .u32 n247), (.i .u16 n249)] (
                      cond (((n247 == n252) && ((n249 == n254) && .true)) == ((n308 == n320) && ((n310 == n322) && .true)))
                        (.ld a165 0 2 fun l323 =>
                        .nth l323 0 fun v324 =>
                        .asI .u32 (.sc v324) fun n325 =>
                        .nth l323 1 fun v326 =>
                        .asI .u16 (.sc v326) fun n327 =>
                        .ld a51 0 2 fun l328 =>
                        .nth l328 0 fun v329 =>
                        .asI .u32 (.sc v329) fun n330 =>
                        .nth l328 1 fun v331 =>
                        .asI .u16 (.sc v331) fun n332 =>
                        cond (!((n325 == n330) && ((n327 == n332) && .true)))
                          (.ld a165 0 2 fun l333 =>
                          .nth l333 0 fun v334 =>
                          .asI .u32 (.sc v334) fun n335 =>
                          .nth l333 1 fun v336 =>
                          .asI .u16 (.sc v336) fun n337 =>
                          .ld a108 0 2 fun l338 =>
                          .nth l338 0 fun v339 =>
                          .asI .u32 (.sc v339) fun n340 =>
                          .nth l338 1 fun v341 =>
                          .asI .u16 (.sc v341) fun n342 =>
                          cond (!((n335 == n340) && ((n337 == n342) && .true)))
                            (.ld a222 0 2 fun l343 =>
                            .nth l343 0 fun v344 =>
                            .asI .u32 (.sc v344) fun n345 =>
                            .nth l343 1 fun v346 =>
                            .asI .u16 (.sc v346) fun n347 =>
                            .ld a51 0 2 fun l348 =>
                            .nth l348 0 fun v349 =>
                            .asI .u32 (.sc v349) fun n350 =>
                            .nth l348 1 fun v351 =>
                            .asI .u16 (.sc v351) fun n352 =>
                            .ret 0 [(.sc (.b ((n345 == n350) && ((n347 == n352) && .true))))])
                            (.ret 0 [(.sc (.b .false))]))
                          (.ret 0 [(.sc (.b .false))]))
                        (.ret 0 [(.sc (.b .false))]))))))))))))))))
                      (.ret 0 [(.sc (.b .false))])))))))))))
                    (.fail)))
                  (.fail)))
                (.fail)))))
          (.fail))
        (.fail))
      (.fail))
theorem t4_eq (n0_ : Int) (n1_ : Int) (n2_ : Int) : bodyK T (hs 4) Try.f4 [.sc (.i .u8 n0_), .sc (.i .u8 n1_), .sc (.i .u8 n2_)] = t4 n0_ n1_ n2_ := by kernel_rfl
end Go.Proofs.Ytloiifcocgpnbaa
