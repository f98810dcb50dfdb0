/- Trees of functions, printed by a program of mine; each is proved to be the function's. -/
import Derived.Test.YtphhflkpdejodaaGen
namespace Go.Proofs.Ytphhflkpdejodaa
open Go Go.Proofs.Ytphhflkpdejodaa.Fw
set_option linter.unusedVariables false
/-- scuttlebutt/scuttlebuttlaw12.QueueTimesRise -/
def t8 (n0_ : Int) : Tree :=
  .call 9 [] fun v0 =>
  .asB v0 fun b1 =>
  cond (!b1)
    (.ret 0 [(.sc (.b .false))])
    (.call 12 [(.sc (.i .i64 (IntKind.wrap .i64 ((1 : Int) + (IntKind.wrap .i64 n0_)))))] fun v2 =>
    .asI .i64 v2 fun n3 =>
    cond b1
      (.br .true
        (cond ((Int.tmod n3 (3 : Int)) == (0 : Int))
          (.call 12 [(.sc (.i .i64 (IntKind.wrap .i64 ((2 : Int) * (IntKind.wrap .i64 ((1 : Int) + (IntKind.wrap .i64 n0_)))))))] fun v4 =>
          .asI .i64 v4 fun n5 =>
          cond (n5 == (IntKind.wrap .i64 (n3 + (3 : Int))))
            (.call 12 [(.sc (.i .i64 (IntKind.wrap .i64 ((IntKind.wrap .i64 ((2 : Int) * (IntKind.wrap .i64 ((1 : Int) + (IntKind.wrap .i64 n0_))))) + (1 : Int)))))] fun v6 =>
            .asI .i64 v6 fun n7 =>
            cond (n7 == (IntKind.wrap .i64 (n3 + (3 : Int))))
              (.call 12 [(.sc (.i .i64 (IntKind.wrap .i64 ((IntKind.wrap .i64 ((1 : Int) + (IntKind.wrap .i64 n0_))) + (1 : Int)))))] fun v8 =>
              .asI .i64 v8 fun n9 =>
              cond (decide (n9 ≥ n3))
                (.call 12 [(.sc (.i .i64 (IntKind.wrap .i64 ((0 : Int) - (IntKind.wrap .i64 ((1 : Int) + (IntKind.wrap .i64 n0_)))))))] fun v10 =>
                .asI .i64 v10 fun n11 =>
                .ret 0 [(.sc (.b (n11 == (3 : Int))))])
                (.ret 0 [(.sc (.b .false))]))
              (.ret 0 [(.sc (.b .false))]))
            (.ret 0 [(.sc (.b .false))]))
          (.ret 0 [(.sc (.b .false))]))
        (.fail))
      (.ret 0 [(.sc (.b .false))]))
theorem t8_eq (n0_ : Int) : bodyK T (hs 8) Try.f8 [.sc (.i .u16 n0_)] = t8 n0_ := by kernel_rfl
/-- scuttlebutt/scuttlebuttlaw12.QueueWrong -/
def t7 (n0_0 : Int) (n0_1 : Int) (n0_2 : Int) (n0_3 : Int) (n0_4 : Int) (b0_5 : Bool) (n1_ : Int) (n2_ : Int) : Tree :=
  .al [(.i .i64 n0_0), (.i .i64 n0_1), (.i .u32 n0_2), (.i .u32 n0_3), (.i .u16 n0_4), (.b b0_5)] fun a0 =>
  .call 9 [] fun v1 =>
  .asB v1 fun b2 =>
  cond (!b2)
    (.ret 0 [(.sc (.b .false))])
    (.call 10 [(.sc (.i .i64 n2_))] fun v3 =>
    .asT 2 v3 fun l4 =>
    .nthC l4 0 fun v5 =>
    .asP (v5.av) fun o6 =>
    .nthC l4 1 fun v7 =>
    .asI .i64 (v7.av) fun n8 =>
    cond (decide (n2_ ≥ (1 : Int)))
      (cond (!((n8 == (0 : Int)) == (decide (n2_ ≤ (64 : Int)))))
        (.ret 0 [(.sc (.b .false))])
        (cond (!((Option.isNone o6) == (n8 != (0 : Int))))
          (.ret 0 [(.sc (.b .false))])
          (.call 10 [(.sc (.i .i64 (4 : Int)))] fun v9 =>
          .asT 2 v9 fun l10 =>
          .nthC l10 0 fun v11 =>
          .asP (v11.av) fun o12 =>
          .nthC l10 1 fun v13 =>
          .asI .i64 (v13.av) fun n14 =>
          cond (Option.isNone o12)
            (.ret 0 [(.sc (.b .false))])
            (cond (n14 != (0 : Int))
              (.ret 0 [(.sc (.b .false))])
              (.ld a0 0 6 fun l15 =>
              .nth l15 0 fun v16 =>
              .asI .i64 (.sc v16) fun n17 =>
              .nth l15 1 fun v18 =>
              .asI .i64 (.sc v18) fun n19 =>
              .nth l15 2 fun v20 =>
              .asI .u32 (.sc v20) fun n21 =>
              .nth l15 3 fun v22 =>
              .asI .u32 (.sc v22) fun n23 =>
              .nth l15 4 fun v24 =>
              .asI .u16 (.sc v24) fun n25 =>
              .nth l15 5 fun v26 =>
              .asB (.sc v26) fun b27 =>
              .call 14 [(.ag [(.i .i64 n17), (.i .i64 n19), (.i .u32 n21), (.i .u32 n23), (.i .u16 n25), (.b b27)])] fun v28 =>
              .asA 5 v28 fun l29 =>
              .nth l29 0 fun v30 =>
              .asI .i64 (.sc v30) fun n31 =>
              .nth l29 1 fun v32 =>
              .asI .i64 (.sc v32) fun n33 =>
              .nth l29 2 fun v34 =>
              .asI .u32 (.sc v34) fun n35 =>
              .nth l29 3 fun v36 =>
              .asI .u32 (.sc v36) fun n37 =>
              .nth l29 4 fun v38 =>
              .asI .u16 (.sc v38) fun n39 =>
              .al [(.i .i64 (0 : Int)), (.i .i64 (0 : Int)), (.i .u32 (0 : Int)), (.i .u32 (0 : Int)), (.i .u16 (0 : Int))] fun a40 =>
              .st a40 0 [(.i .i64 n31), (.i .i64 n33), (.i .u32 n35), (.i .u32 n37), (.i .u16 n39)] (
              .ld a40 0 5 fun l41 =>
              .nth l41 0 fun v42 =>
              .asI .i64 (.sc v42) fun n43 =>
              .nth l41 1 fun v44 =>
              .asI .i64 (.sc v44) fun n45 =>
              .nth l41 2 fun v46 =>
              .asI .u32 (.sc v46) fun n47 =>
              .nth l41 3 fun v48 =>
              .asI .u32 (.sc v48) fun n49 =>
              .nth l41 4 fun v50 =>
              .asI .u16 (.sc v50) fun n51 =>
              .call 24 [(.ag [(.i .i64 n43), (.i .i64 n45), (.i .u32 n47), (.i .u32 n49), (.i .u16 n51)])] fun v52 =>
              .asB v52 fun b53 =>
              cond b53
                (cond (decide (n1_ ≥ (1 : Int)))
                  (.ld a40 0 5 fun l54 =>
                  .nth l54 0 fun v55 =>
                  .asI .i64 (.sc v55) fun n56 =>
                  .nth l54 1 fun v57 =>
                  .asI .i64 (.sc v57) fun n58 =>
                  .nth l54 2 fun v59 =>
                  .asI .u32 (.sc v59) fun n60 =>
                  .nth l54 3 fun v61 =>
                  .asI .u32 (.sc v61) fun n62 =>
                  .nth l54 4 fun v63 =>
                  .asI .u16 (.sc v63) fun n64 =>
                  .call 18 [(.sc (.p o12)), (.ag [(.i .i64 n56), (.i .i64 n58), (.i .u32 n60), (.i .u32 n62), (.i .u16 n64)]), (.sc (.i .i64 n1_))] fun v65 =>
                  .asI .i64 v65 fun n66 =>
                  cond b2
                    (cond ((n66 == (0 : Int)) == (decide (n1_ ≤ (100 : Int))))
                      (cond (decide (n1_ ≤ (100 : Int)))
                        (.call 22 [(.sc (.p o12))] fun v67 =>
                        .asI .i64 v67 fun n68 =>
                        cond ((n68 == (1 : Int)) == (decide (n1_ ≤ (100 : Int))))
                          (.br .true
                            (.call 12 [(.sc (.i .i64 (Int.tmod n1_ (30 : Int))))] fun v69 =>
                            .asI .i64 v69 fun n70 =>
                            .ret 0 [(.sc (.b (decide (n70 ≥ (3 : Int)))))])
                            (.fail))
                          (.ret 0 [(.sc (.b .false))]))
                        (cond (n66 == (1 : Int))
                          (.call 22 [(.sc (.p o12))] fun v71 =>
                          .asI .i64 v71 fun n72 =>
                          cond ((n72 == (1 : Int)) == (decide (n1_ ≤ (100 : Int))))
                            (.br .true
                              (.call 12 [(.sc (.i .i64 (Int.tmod n1_ (30 : Int))))] fun v73 =>
                              .asI .i64 v73 fun n74 =>
                              .ret 0 [(.sc (.b (decide (n74 ≥ (3 : Int)))))])
                              (.fail))
                            (.ret 0 [(.sc (.b .false))]))
                          (.ret 0 [(.sc (.b .false))])))
                      (.ret 0 [(.sc (.b .false))]))
                    (.ret 0 [(.sc (.b .false))]))
                  (.ld a40 0 5 fun l75 =>
                  .nth l75 0 fun v76 =>
                  .asI .i64 (.sc v76) fun n77 =>
                  .nth l75 1 fun v78 =>
                  .asI .i64 (.sc v78) fun n79 =>
                  .nth l75 2 fun v80 =>
                  .asI .u32 (.sc v80) fun n81 =>
                  .nth l75 3 fun v82 =>
                  .asI .u32 (.sc v82) fun n83 =>
                  .nth l75 4 fun v84 =>
                  .asI .u16 (.sc v84) fun n85 =>
                  .call 18 [(.sc (.p o12)), (.ag [(.i .i64 n77), (.i .i64 n79), (.i .u32 n81), (.i .u32 n83), (.i .u16 n85)]), (.sc (.i .i64 n1_))] fun v86 =>
                  .asI .i64 v86 fun n87 =>
                  cond b2
                    (cond ((n87 == (0 : Int)) == .false)
                      (cond (n87 == (1 : Int))
                        (.call 22 [(.sc (.p o12))] fun v88 =>
                        .asI .i64 v88 fun n89 =>
                        cond ((n89 == (1 : Int)) == .false)
                          (.br .true
                            (.call 12 [(.sc (.i .i64 (Int.tmod n1_ (30 : Int))))] fun v90 =>
                            .asI .i64 v90 fun n91 =>
                            .ret 0 [(.sc (.b (decide (n91 ≥ (3 : Int)))))])
                            (.fail))
                          (.ret 0 [(.sc (.b .false))]))
                        (.ret 0 [(.sc (.b .false))]))
                      (.ret 0 [(.sc (.b .false))]))
                    (.ret 0 [(.sc (.b .false))])))
                (.ld a40 0 5 fun l92 =>
                .nth l92 0 fun v93 =>
                .asI .i64 (.sc v93) fun n94 =>
                .nth l92 1 fun v95 =>
                .asI .i64 (.sc v95) fun n96 =>
                .nth l92 2 fun v97 =>
                .asI .u32 (.sc v97) fun n98 =>
                .nth l92 3 fun v99 =>
                .asI .u32 (.sc v99) fun n100 =>
                .nth l92 4 fun v101 =>
                .asI .u16 (.sc v101) fun n102 =>
                .call 18 [(.sc (.p o12)), (.ag [(.i .i64 n94), (.i .i64 n96), (.i .u32 n98), (.i .u32 n100), (.i .u16 n102)]), (.sc (.i .i64 n1_))] fun v103 =>
                .asI .i64 v103 fun n104 =>
                cond b2
                  (cond ((n104 == (0 : Int)) == .false)
                    (cond (n104 == (1 : Int))
                      (.call 22 [(.sc (.p o12))] fun v105 =>
                      .asI .i64 v105 fun n106 =>
                      cond ((n106 == (1 : Int)) == .false)
                        (.br .true
                          (.call 12 [(.sc (.i .i64 (Int.tmod n1_ (30 : Int))))] fun v107 =>
                          .asI .i64 v107 fun n108 =>
                          .ret 0 [(.sc (.b (decide (n108 ≥ (3 : Int)))))])
                          (.fail))
                        (.ret 0 [(.sc (.b .false))]))
                      (.ret 0 [(.sc (.b .false))]))
                    (.ret 0 [(.sc (.b .false))]))
                  (.ret 0 [(.sc (.b .false))]))))))))
      (cond (!((n8 == (0 : Int)) == .false))
        (.ret 0 [(.sc (.b .false))])
        (cond (!((Option.isNone o6) == (n8 != (0 : Int))))
          (.ret 0 [(.sc (.b .false))])
          (.call 10 [(.sc (.i .i64 (4 : Int)))] fun v109 =>
          .asT 2 v109 fun l110 =>
          .nthC l110 0 fun v111 =>
          .asP (v111.av) fun o112 =>
          .nthC l110 1 fun v113 =>
          .asI .i64 (v113.av) fun n114 =>
          cond (Option.isNone o112)
            (.ret 0 [(.sc (.b .false))])
            (cond (n114 != (0 : Int))
              (.ret 0 [(.sc (.b .false))])
              (.ld a0 0 6 fun l115 =>
              .nth l115 0 fun v116 =>
              .asI .i64 (.sc v116) fun n117 =>
              .nth l115 1 fun v118 =>
              .asI .i64 (.sc v118) fun n119 =>
              .nth l115 2 fun v120 =>
              .asI .u32 (.sc v120) fun n121 =>
              .nth l115 3 fun v122 =>
              .asI .u32 (.sc v122) fun n123 =>
              .nth l115 4 fun v124 =>
              .asI .u16 (.sc v124) fun n125 =>
              .nth l115 5 fun v126 =>
              .asB (.sc v126) fun b127 =>
              .call 14 [(.ag [(.i .i64 n117), (.i .i64 n119), (.i .u32 n121), (.i .u32 n123), (.i .u16 n125), (.b b127)])] fun v128 =>
              .asA 5 v128 fun l129 =>
              .nth l129 0 fun v130 =>
              .asI .i64 (.sc v130) fun n131 =>
              .nth l129 1 fun v132 =>
              .asI .i64 (.sc v132) fun n133 =>
              .nth l129 2 fun v134 =>
              .asI .u32 (.sc v134) fun n135 =>
              .nth l129 3 fun v136 =>
              .asI .u32 (.sc v136) fun n137 =>
              .nth l129 4 fun v138 =>
              .asI .u16 (.sc v138) fun n139 =>
              .al [(.i .i64 (0 : Int)), (.i .i64 (0 : Int)), (.i .u32 (0 : Int)), (.i .u32 (0 : Int)), (.i .u16 (0 : Int))] fun a140 =>
              .st a140 0 [(.i .i64 n131), (.i .i64 n133), (.i .u32 n135), (.i .u32 n137), (.i .u16 n139)] (
              .ld a140 0 5 fun l141 =>
              .nth l141 0 fun v142 =>
              .asI .i64 (.sc v142) fun n143 =>
              .nth l141 1 fun v144 =>
              .asI .i64 (.sc v144) fun n145 =>
              .nth l141 2 fun v146 =>
              .asI .u32 (.sc v146) fun n147 =>
              .nth l141 3 fun v148 =>
              .asI .u32 (.sc v148) fun n149 =>
              .nth l141 4 fun v150 =>
              .asI .u16 (.sc v150) fun n151 =>
              .call 24 [(.ag [(.i .i64 n143), (.i .i64 n145), (.i .u32 n147), (.i .u32 n149), (.i .u16 n151)])] fun v152 =>
              .asB v152 fun b153 =>
              cond b153
                (cond (decide (n1_ ≥ (1 : Int)))
                  (.ld a140 0 5 fun l154 =>
                  .nth l154 0 fun v155 =>
                  .asI .i64 (.sc v155) fun n156 =>
                  .nth l154 1 fun v157 =>
                  .asI .i64 (.sc v157) fun n158 =>
                  .nth l154 2 fun v159 =>
                  .asI .u32 (.sc v159) fun n160 =>
                  .nth l154 3 fun v161 =>
                  .asI .u32 (.sc v161) fun n162 =>
                  .nth l154 4 fun v163 =>
                  .asI .u16 (.sc v163) fun n164 =>
                  .call 18 [(.sc (.p o112)), (.ag [(.i .i64 n156), (.i .i64 n158), (.i .u32 n160), (.i .u32 n162), (.i .u16 n164)]), (.sc (.i .i64 n1_))] fun v165 =>
                  .asI .i64 v165 fun n166 =>
                  cond b2
                    (cond ((n166 == (0 : Int)) == (decide (n1_ ≤ (100 : Int))))
                      (cond (decide (n1_ ≤ (100 : Int)))
                        (.call 22 [(.sc (.p o112))] fun v167 =>
                        .asI .i64 v167 fun n168 =>
                        cond ((n168 == (1 : Int)) == (decide (n1_ ≤ (100 : Int))))
                          (.br .true
                            (.call 12 [(.sc (.i .i64 (Int.tmod n1_ (30 : Int))))] fun v169 =>
                            .asI .i64 v169 fun n170 =>
                            .ret 0 [(.sc (.b (decide (n170 ≥ (3 : Int)))))])
                            (.fail))
                          (.ret 0 [(.sc (.b .false))]))
                        (cond (n166 == (1 : Int))
                          (.call 22 [(.sc (.p o112))] fun v171 =>
                          .asI .i64 v171 fun n172 =>
                          cond ((n172 == (1 : Int)) == (decide (n1_ ≤ (100 : Int))))
                            (.br .true
                              (.call 12 [(.sc (.i .i64 (Int.tmod n1_ (30 : Int))))] fun v173 =>
                              .asI .i64 v173 fun n174 =>
                              .ret 0 [(.sc (.b (decide (n174 ≥ (3 : Int)))))])
                              (.fail))
                            (.ret 0 [(.sc (.b .false))]))
                          (.ret 0 [(.sc (.b .false))])))
                      (.ret 0 [(.sc (.b .false))]))
                    (.ret 0 [(.sc (.b .false))]))
                  (.ld a140 0 5 fun l175 =>
                  .nth l175 0 fun v176 =>
                  .asI .i64 (.sc v176) fun n177 =>
                  .nth l175 1 fun v178 =>
                  .asI .i64 (.sc v178) fun n179 =>
                  .nth l175 2 fun v180 =>
                  .asI .u32 (.sc v180) fun n181 =>
                  .nth l175 3 fun v182 =>
                  .asI .u32 (.sc v182) fun n183 =>
                  .nth l175 4 fun v184 =>
                  .asI .u16 (.sc v184) fun n185 =>
                  .call 18 [(.sc (.p o112)), (.ag [(.i .i64 n177), (.i .i64 n179), (.i .u32 n181), (.i .u32 n183), (.i .u16 n185)]), (.sc (.i .i64 n1_))] fun v186 =>
                  .asI .i64 v186 fun n187 =>
                  cond b2
                    (cond ((n187 == (0 : Int)) == .false)
                      (cond (n187 == (1 : Int))
                        (.call 22 [(.sc (.p o112))] fun v188 =>
                        .asI .i64 v188 fun n189 =>
                        cond ((n189 == (1 : Int)) == .false)
                          (.br .true
                            (.call 12 [(.sc (.i .i64 (Int.tmod n1_ (30 : Int))))] fun v190 =>
                            .asI .i64 v190 fun n191 =>
                            .ret 0 [(.sc (.b (decide (n191 ≥ (3 : Int)))))])
                            (.fail))
                          (.ret 0 [(.sc (.b .false))]))
                        (.ret 0 [(.sc (.b .false))]))
                      (.ret 0 [(.sc (.b .false))]))
                    (.ret 0 [(.sc (.b .false))])))
                (.ld a140 0 5 fun l192 =>
                .nth l192 0 fun v193 =>
                .asI .i64 (.sc v193) fun n194 =>
                .nth l192 1 fun v195 =>
                .asI .i64 (.sc v195) fun n196 =>
                .nth l192 2 fun v197 =>
                .asI .u32 (.sc v197) fun n198 =>
                .nth l192 3 fun v199 =>
                .asI .u32 (.sc v199) fun n200 =>
                .nth l192 4 fun v201 =>
                .asI .u16 (.sc v201) fun n202 =>
                .call 18 [(.sc (.p o112)), (.ag [(.i .i64 n194), (.i .i64 n196), (.i .u32 n198), (.i .u32 n200), (.i .u16 n202)]), (.sc (.i .i64 n1_))] fun v203 =>
                .asI .i64 v203 fun n204 =>
                cond b2
                  (cond ((n204 == (0 : Int)) == .false)
                    (cond (n204 == (1 : Int))
                      (.call 22 [(.sc (.p o112))] fun v205 =>
                      .asI .i64 v205 fun n206 =>
                      cond ((n206 == (1 : Int)) == .false)
                        (.br .true
                          (.call 12 [(.sc (.i .i64 (Int.tmod n1_ (30 : Int))))] fun v207 =>
                          .asI .i64 v207 fun n208 =>
                          .ret 0 [(.sc (.b (decide (n208 ≥ (3 : Int)))))])
                          (.fail))
                        (.ret 0 [(.sc (.b .false))]))
                      (.ret 0 [(.sc (.b .false))]))
                    (.ret 0 [(.sc (.b .false))]))
                  (.ret 0 [(.sc (.b .false))])))))))))
theorem t7_eq (n0_0 : Int) (n0_1 : Int) (n0_2 : Int) (n0_3 : Int) (n0_4 : Int) (b0_5 : Bool) (n1_ : Int) (n2_ : Int) : bodyK T (hs 7) Try.f7 [.ag [.i .i64 n0_0, .i .i64 n0_1, .i .u32 n0_2, .i .u32 n0_3, .i .u16 n0_4, .b b0_5], .sc (.i .i64 n1_), .sc (.i .i64 n2_)] = t7 n0_0 n0_1 n0_2 n0_3 n0_4 b0_5 n1_ n2_ := by kernel_rfl
end Go.Proofs.Ytphhflkpdejodaa
