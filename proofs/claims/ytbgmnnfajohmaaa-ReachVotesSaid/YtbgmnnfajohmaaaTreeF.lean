/- Trees of functions, printed by a program of mine; each is proved to be the function's. -/
import Derived.Test.YtbgmnnfajohmaaaGen
namespace Go.Proofs.Ytbgmnnfajohmaaa
open Go Go.Proofs.Ytbgmnnfajohmaaa.Fw
set_option linter.unusedVariables false
def t4_b88  : List AV → Tree := fun l89 =>
  .asB (l89.getD 0 .un) fun b90 =>
  .asP (l89.getD 1 .un) fun o91 =>
  .asI .u64 (l89.getD 2 .un) fun n92 =>
  .asP (l89.getD 3 .un) fun o93 =>
  .nn o93 fun a94 a95 =>
  .asI .i64 (l89.getD 4 .un) fun n96 =>
  .asI .i64 (l89.getD 5 .un) fun n97 =>
  cond (decide (n97 ≤ (5 : Int)))
    (.br ((decide ((0 : Int) ≤ n97)) && (decide (n97 < (6 : Int))))
      (.ld a94 (a95 + ((Int.toNat n97) * 1)) 1 fun l98 =>
      .nth l98 0 fun v99 =>
      .asI .i64 (.sc v99) fun n100 =>
      .br ((decide ((0 : Int) ≤ n96)) && (decide (n96 < (6 : Int))))
        (.ld a94 (a95 + ((Int.toNat n96) * 1)) 1 fun l101 =>
        .nth l101 0 fun v102 =>
        .asI .i64 (.sc v102) fun n103 =>
        cond (decide (n100 > n103))
          (.ret 0 [(.sc (.b b90)), (.sc (.p o91)), (.sc (.i .u64 n92)), (.sc (.p (.some (a94, a95)))), (.sc (.i .i64 n97)), (.sc (.i .i64 (IntKind.wrap .i64 (n97 + (1 : Int)))))])
          (.ret 0 [(.sc (.b b90)), (.sc (.p o91)), (.sc (.i .u64 n92)), (.sc (.p (.some (a94, a95)))), (.sc (.i .i64 n96)), (.sc (.i .i64 (IntKind.wrap .i64 (n97 + (1 : Int)))))]))
        (.fail))
      (.fail))
    (.ret 10 [(.sc (.b b90)), (.sc (.p o91)), (.sc (.i .u64 n92)), (.sc (.i .i64 n96))])
def t4_k88  : Nat → List AV → Tree := fun a104 l105 =>
  .tg a104 10
    (.asB (l105.getD 0 .un) fun b106 =>
    .asP (l105.getD 1 .un) fun o107 =>
    .asI .u64 (l105.getD 2 .un) fun n108 =>
    .asI .i64 (l105.getD 3 .un) fun n109 =>
    .call 16 [(.sc (.p o107)), (.sc (.i .u64 n108))] fun v110 =>
    .asT 2 v110 fun l111 =>
    .nthC l111 0 fun v112 =>
    .asA 2 (v112.av) fun l113 =>
    .nth l113 0 fun v114 =>
    .asI .u32 (.sc v114) fun n115 =>
    .nth l113 1 fun v116 =>
    .asI .u16 (.sc v116) fun n117 =>
    .nthC l111 1 fun v118 =>
    .asB (v118.av) fun b119 =>
    .al [(.i .u32 (0 : Int)), (.i .u16 (0 : Int))] fun a120 =>
    .st a120 0 [(.i .u32 n115), (.i .u16 n117)] (
    cond (n109 == (0 : Int))
      (cond b106
        (cond (!b119)
          (.ld a120 0 2 fun l121 =>
          .nth l121 0 fun v122 =>
          .asI .u32 (.sc v122) fun n123 =>
          .nth l121 1 fun v124 =>
          .asI .u16 (.sc v124) fun n125 =>
          .call 17 [(.ag [(.i .u32 n123), (.i .u16 n125)])] fun v126 =>
          .asB v126 fun b127 =>
          .ret 0 [(.sc (.b b127))])
          (.ret 0 [(.sc (.b .false))]))
        (.ret 0 [(.sc (.b .false))]))
      (cond b106
        (cond b119
          (.ld a120 (0 + 0) 1 fun l128 =>
          .nth l128 0 fun v129 =>
          .asI .u32 (.sc v129) fun n130 =>
          cond ((IntKind.wrap .i64 n130) == n109)
            (.ld a120 (0 + 1) 1 fun l131 =>
            .nth l131 0 fun v132 =>
            .asI .u16 (.sc v132) fun n133 =>
            .ret 0 [(.sc (.b (n133 == (9 : Int))))])
            (.ret 0 [(.sc (.b .false))]))
          (.ret 0 [(.sc (.b .false))]))
        (.ret 0 [(.sc (.b .false))]))))
    (.fail)
def t4_b53  : List AV → Tree := fun l54 =>
  .asB (l54.getD 0 .un) fun b55 =>
  .asP (l54.getD 1 .un) fun o56 =>
  .asP (l54.getD 2 .un) fun o57 =>
  .nn o57 fun a58 a59 =>
  .asP (l54.getD 3 .un) fun o60 =>
  .nn o60 fun a61 a62 =>
  .asI .u64 (l54.getD 4 .un) fun n63 =>
  .asP (l54.getD 5 .un) fun o64 =>
  .nn o64 fun a65 a66 =>
  .asI .i64 (l54.getD 6 .un) fun n67 =>
  cond (decide (n67 ≤ (32 : Int)))
    (.br ((decide ((0 : Int) ≤ n67)) && (decide (n67 < (33 : Int))))
      (.ld a61 (a62 + ((Int.toNat n67) * 1)) 1 fun l68 =>
      .nth l68 0 fun v69 =>
      .asI .i64 (.sc v69) fun n70 =>
      cond (decide (n70 > (0 : Int)))
        (.br ((decide ((0 : Int) ≤ n67)) && (decide (n67 < (33 : Int))))
          (.ld a58 (a59 + ((Int.toNat n67) * 1)) 1 fun l71 =>
          .nth l71 0 fun v72 =>
          .asI .u64 (.sc v72) fun n73 =>
          cond (decide ((IntKind.wrap .u64 (n73 + (20 : Int))) > n63))
            (.br ((decide ((0 : Int) ≤ n67)) && (decide (n67 < (33 : Int))))
              (.ld a61 (a62 + ((Int.toNat n67) * 1)) 1 fun l74 =>
              .nth l74 0 fun v75 =>
              .asI .i64 (.sc v75) fun n76 =>
              .br ((decide ((0 : Int) ≤ n76)) && (decide (n76 < (6 : Int))))
                (.ld a65 (a66 + ((Int.toNat n76) * 1)) 1 fun l77 =>
                .nth l77 0 fun v78 =>
                .asI .i64 (.sc v78) fun n79 =>
                .br ((decide ((0 : Int) ≤ n76)) && (decide (n76 < (6 : Int))))
                  (.st a65 (a66 + ((Int.toNat n76) * 1)) [(.i .i64 (IntKind.wrap .i64 (n79 + (1 : Int))))] (
                  .ret 0 [(.sc (.b b55)), (.sc (.p o56)), (.sc (.p (.some (a58, a59)))), (.sc (.p (.some (a61, a62)))), (.sc (.i .u64 n63)), (.sc (.p (.some (a65, a66)))), (.sc (.i .i64 (IntKind.wrap .i64 (n67 + (1 : Int)))))]))
                  (.fail))
                (.fail))
              (.fail))
            (.ret 0 [(.sc (.b b55)), (.sc (.p o56)), (.sc (.p (.some (a58, a59)))), (.sc (.p (.some (a61, a62)))), (.sc (.i .u64 n63)), (.sc (.p (.some (a65, a66)))), (.sc (.i .i64 (IntKind.wrap .i64 (n67 + (1 : Int)))))]))
          (.fail))
        (.ret 0 [(.sc (.b b55)), (.sc (.p o56)), (.sc (.p (.some (a58, a59)))), (.sc (.p (.some (a61, a62)))), (.sc (.i .u64 n63)), (.sc (.p (.some (a65, a66)))), (.sc (.i .i64 (IntKind.wrap .i64 (n67 + (1 : Int)))))]))
      (.fail))
    (.ret 6 [(.sc (.b b55)), (.sc (.p o56)), (.sc (.i .u64 n63)), (.sc (.p (.some (a65, a66))))])
def t4_k53  : Nat → List AV → Tree := fun a80 l81 =>
  .tg a80 6
    (.asB (l81.getD 0 .un) fun b82 =>
    .asP (l81.getD 1 .un) fun o83 =>
    .asI .u64 (l81.getD 2 .un) fun n84 =>
    .asP (l81.getD 3 .un) fun o85 =>
    .nn o85 fun a86 a87 =>
    .loop t4_b88 [(.sc (.b b82)), (.sc (.p o83)), (.sc (.i .u64 n84)), (.sc (.p (.some (a86, a87)))), (.sc (.i .i64 (0 : Int))), (.sc (.i .i64 (1 : Int)))] t4_k88)
    (.fail)
def t4_b10  : List AV → Tree := fun l11 =>
  .asL (l11.getD 0 .un) fun o12 =>
  .asL (l11.getD 1 .un) fun o13 =>
  .asI .u8 (l11.getD 2 .un) fun n14 =>
  .asB (l11.getD 3 .un) fun b15 =>
  .asP (l11.getD 4 .un) fun o16 =>
  .asP (l11.getD 5 .un) fun o17 =>
  .nn o17 fun a18 a19 =>
  .asP (l11.getD 6 .un) fun o20 =>
  .nn o20 fun a21 a22 =>
  .asI .i64 (l11.getD 7 .un) fun n23 =>
  cond (decide (n23 < (slLen o12)))
    (cond (decide (n23 < (slLen o13)))
      (cond (decide (n23 < (30 : Int)))
        (.ixS 1 o12 n23 fun a24 a25 a26 =>
        .ld a24 (a25 + (a26 * 1)) 1 fun l27 =>
        .nth l27 0 fun v28 =>
        .asI .u8 (.sc v28) fun n29 =>
        .br .true
          (.br ((decide ((0 : Int) ≤ (IntKind.wrap .i64 ((1 : Int) + (IntKind.wrap .i64 (Int.tmod n29 (32 : Int))))))) && (decide ((IntKind.wrap .i64 ((1 : Int) + (IntKind.wrap .i64 (Int.tmod n29 (32 : Int))))) < (33 : Int))))
            (.st a18 (a19 + ((Int.toNat (IntKind.wrap .i64 ((1 : Int) + (IntKind.wrap .i64 (Int.tmod n29 (32 : Int)))))) * 1)) [(.i .u64 (IntKind.wrap .u64 n23))] (
            .ixS 1 o13 n23 fun a30 a31 a32 =>
            .ld a30 (a31 + (a32 * 1)) 1 fun l33 =>
            .nth l33 0 fun v34 =>
            .asI .u8 (.sc v34) fun n35 =>
            .br .true
              (.br ((decide ((0 : Int) ≤ (IntKind.wrap .i64 ((1 : Int) + (IntKind.wrap .i64 (Int.tmod n29 (32 : Int))))))) && (decide ((IntKind.wrap .i64 ((1 : Int) + (IntKind.wrap .i64 (Int.tmod n29 (32 : Int))))) < (33 : Int))))
                (.st a21 (a22 + ((Int.toNat (IntKind.wrap .i64 ((1 : Int) + (IntKind.wrap .i64 (Int.tmod n29 (32 : Int)))))) * 1)) [(.i .i64 (IntKind.wrap .i64 ((1 : Int) + (IntKind.wrap .i64 (Int.tmod n35 (5 : Int))))))] (
                .br ((decide ((0 : Int) ≤ (IntKind.wrap .i64 ((1 : Int) + (IntKind.wrap .i64 (Int.tmod n29 (32 : Int))))))) && (decide ((IntKind.wrap .i64 ((1 : Int) + (IntKind.wrap .i64 (Int.tmod n29 (32 : Int))))) < (33 : Int))))
                  (.ld a21 (a22 + ((Int.toNat (IntKind.wrap .i64 ((1 : Int) + (IntKind.wrap .i64 (Int.tmod n29 (32 : Int)))))) * 1)) 1 fun l36 =>
                  .nth l36 0 fun v37 =>
                  .asI .i64 (.sc v37) fun n38 =>
                  .call 15 [(.sc (.p o16)), (.sc (.i .i64 (IntKind.wrap .i64 ((1 : Int) + (IntKind.wrap .i64 (Int.tmod n29 (32 : Int))))))), (.ag [(.i .u32 (IntKind.wrap .u32 n38)), (.i .u16 (9 : Int))]), (.sc (.i .u64 (IntKind.wrap .u64 n23)))] fun v39 =>
                  .asI .i64 v39 fun n40 =>
                  cond (n40 != (0 : Int))
                    (.ret 1 [(.sc (.b .false))])
                    (.ret 0 [(.sc (.sl o12)), (.sc (.sl o13)), (.sc (.i .u8 n14)), (.sc (.b b15)), (.sc (.p o16)), (.sc (.p (.some (a18, a19)))), (.sc (.p (.some (a21, a22)))), (.sc (.i .i64 (IntKind.wrap .i64 (n23 + (1 : Int)))))]))
                  (.fail)))
                (.fail))
              (.fail)))
            (.fail))
          (.fail))
        (.ret 2 [(.sc (.i .u8 n14)), (.sc (.b b15)), (.sc (.p o16)), (.sc (.p (.some (a18, a19)))), (.sc (.p (.some (a21, a22))))]))
      (.ret 2 [(.sc (.i .u8 n14)), (.sc (.b b15)), (.sc (.p o16)), (.sc (.p (.some (a18, a19)))), (.sc (.p (.some (a21, a22))))]))
    (.ret 2 [(.sc (.i .u8 n14)), (.sc (.b b15)), (.sc (.p o16)), (.sc (.p (.some (a18, a19)))), (.sc (.p (.some (a21, a22))))])
def t4_k10  : Nat → List AV → Tree := fun a41 l42 =>
  .tg a41 2
    (.asI .u8 (l42.getD 0 .un) fun n43 =>
    .asB (l42.getD 1 .un) fun b44 =>
    .asP (l42.getD 2 .un) fun o45 =>
    .asP (l42.getD 3 .un) fun o46 =>
    .nn o46 fun a47 a48 =>
    .asP (l42.getD 4 .un) fun o49 =>
    .nn o49 fun a50 a51 =>
    .br .true
      (.al [(.i .i64 (0 : Int)), (.i .i64 (0 : Int)), (.i .i64 (0 : Int)), (.i .i64 (0 : Int)), (.i .i64 (0 : Int)), (.i .i64 (0 : Int))] fun a52 =>
      .loop t4_b53 [(.sc (.b b44)), (.sc (.p o45)), (.sc (.p (.some (a47, a48)))), (.sc (.p (.some (a50, a51)))), (.sc (.i .u64 (IntKind.wrap .u64 (Int.tmod n43 (60 : Int))))), (.sc (.p (.some (a52, 0)))), (.sc (.i .i64 (1 : Int)))] t4_k53)
      (.fail))
    (.tg a41 1
      (.asB (l42.getD 0 .un) fun b134 =>
      .ret 0 [(.sc (.b b134))])
      (.fail))
/-- scuttlebutt/scuttlebuttlaw16.ReachVotes -/
def t4 (s0_ : Option SlD) (s1_ : Option SlD) (n2_ : Int) : Tree :=
  .call 9 [] fun v0 =>
  .asB v0 fun b1 =>
  cond (!b1)
    (.ret 0 [(.sc (.b .false))])
    (.call 10 [(.sc (.i .i64 (2 : Int))), (.sc (.i .u64 (20 : Int)))] fun v2 =>
    .asT 2 v2 fun l3 =>
    .nthC l3 0 fun v4 =>
    .asP (v4.av) fun o5 =>
    .nthC l3 1 fun v6 =>
    .asI .i64 (v6.av) fun n7 =>
    cond (Option.isNone o5)
      (.ret 0 [(.sc (.b .false))])
      (cond (n7 != (0 : Int))
        (.ret 0 [(.sc (.b .false))])
        (.al [(.i .u64 (0 : Int)), (.i .u64 (0 : Int)), (.i .u64 (0 : Int)), (.i .u64 (0 : Int)), (.i .u64 (0 : Int)), (.i .u64 (0 : Int)), (.i .u64 (0 : Int)), (.i .u64 (0 : Int)), (.i .u64 (0 : Int)), (.i .u64 (0 : Int)), (.i .u64 (0 : Int)), (.i .u64 (0 : Int)), (.i .u64 (0 : Int)), (.i .u64 (0 : Int)), (.i .u64 (0 : Int)), (.i .u64 (0 : Int)), (.i .u64 (0 : Int)), (.i .u64 (0 : Int)), (.i .u64 (0 : Int)), (.i .u64 (0 : Int)), (.i .u64 (0 : Int)), (.i .u64 (0 : Int)), (.i .u64 (0 : Int)), (.i .u64 (0 : Int)), (.i .u64 (0 : Int)), (.i .u64 (0 : Int)), (.i .u64 (0 : Int)), (.i .u64 (0 : Int)), (.i .u64 (0 : Int)), (.i .u64 (0 : Int)), (.i .u64 (0 : Int)), (.i .u64 (0 : Int)), (.i .u64 (0 : Int))] fun a8 =>
        .al [(.i .i64 (0 : Int)), (.i .i64 (0 : Int)), (.i .i64 (0 : Int)), (.i .i64 (0 : Int)), (.i .i64 (0 : Int)), (.i .i64 (0 : Int)), (.i .i64 (0 : Int)), (.i .i64 (0 : Int)), (.i .i64 (0 : Int)), (.i .i64 (0 : Int)), (.i .i64 (0 : Int)), (.i .i64 (0 : Int)), (.i .i64 (0 : Int)), (.i .i64 (0 : Int)), (.i .i64 (0 : Int)), (.i .i64 (0 : Int)), (.i .i64 (0 : Int)), (.i .i64 (0 : Int)), (.i .i64 (0 : Int)), (.i .i64 (0 : Int)), (.i .i64 (0 : Int)), (.i .i64 (0 : Int)), (.i .i64 (0 : Int)), (.i .i64 (0 : Int)), (.i .i64 (0 : Int)), (.i .i64 (0 : Int)), (.i .i64 (0 : Int)), (.i .i64 (0 : Int)), (.i .i64 (0 : Int)), (.i .i64 (0 : Int)), (.i .i64 (0 : Int)), (.i .i64 (0 : Int)), (.i .i64 (0 : Int))] fun a9 =>
        .loop t4_b10 [(.sc (.sl s0_)), (.sc (.sl s1_)), (.sc (.i .u8 n2_)), (.sc (.b b1)), (.sc (.p o5)), (.sc (.p (.some (a8, 0)))), (.sc (.p (.some (a9, 0)))), (.sc (.i .i64 (0 : Int)))] t4_k10)))
theorem t4_eq (s0_ : Option SlD) (s1_ : Option SlD) (n2_ : Int) : bodyK T (hs 4) Try.f4 [.sc (.sl s0_), .sc (.sl s1_), .sc (.i .u8 n2_)] = t4 s0_ s1_ n2_ := by kernel_rfl
end Go.Proofs.Ytbgmnnfajohmaaa
