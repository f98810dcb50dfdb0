/- Trees of functions, printed by a program of mine; each is proved to be the function's. -/
import Derived.Test.YtonohkjngmcbmaaGen
namespace Go.Proofs.Ytonohkjngmcbmaa
open Go Go.Proofs.Ytonohkjngmcbmaa.Fw
set_option linter.unusedVariables false
def t3_b80  : List AV → Tree := fun l81 =>
  .asL (l81.getD 0 .un) fun o82 =>
  .asB (l81.getD 1 .un) fun b83 =>
  .asP (l81.getD 2 .un) fun o84 =>
  .asP (l81.getD 3 .un) fun o85 =>
  .asI .i64 (l81.getD 4 .un) fun n86 =>
  .asB (l81.getD 5 .un) fun b87 =>
  .asL (l81.getD 6 .un) fun o88 =>
  .asL (l81.getD 7 .un) fun o89 =>
  .asI .i64 (l81.getD 8 .un) fun n90 =>
  cond (decide (n90 < (slLen o88)))
    (cond b87
      (.ixS 3 o88 n90 fun a91 a92 a93 =>
      .ld a91 ((a92 + (a93 * 3)) + 0) 1 fun l94 =>
      .nth l94 0 fun v95 =>
      .asI .i64 (.sc v95) fun n96 =>
      .ixS 3 o89 n90 fun a97 a98 a99 =>
      .ld a97 ((a98 + (a99 * 3)) + 0) 1 fun l100 =>
      .nth l100 0 fun v101 =>
      .asI .i64 (.sc v101) fun n102 =>
      cond (n96 == n102)
        (.ixS 3 o88 n90 fun a103 a104 a105 =>
        .ld a103 ((a104 + (a105 * 3)) + 1) 1 fun l106 =>
        .nth l106 0 fun v107 =>
        .asI .i64 (.sc v107) fun n108 =>
        .ixS 3 o89 n90 fun a109 a110 a111 =>
        .ld a109 ((a110 + (a111 * 3)) + 1) 1 fun l112 =>
        .nth l112 0 fun v113 =>
        .asI .i64 (.sc v113) fun n114 =>
        cond (n108 == n114)
          (.ixS 3 o88 n90 fun a115 a116 a117 =>
          .ld a115 ((a116 + (a117 * 3)) + 2) 1 fun l118 =>
          .nth l118 0 fun v119 =>
          .asI .u64 (.sc v119) fun n120 =>
          .ixS 3 o89 n90 fun a121 a122 a123 =>
          .ld a121 ((a122 + (a123 * 3)) + 2) 1 fun l124 =>
          .nth l124 0 fun v125 =>
          .asI .u64 (.sc v125) fun n126 =>
          .ret 0 [(.sc (.sl o82)), (.sc (.b b83)), (.sc (.p o84)), (.sc (.p o85)), (.sc (.i .i64 n86)), (.sc (.b (n120 == n126))), (.sc (.sl o88)), (.sc (.sl o89)), (.sc (.i .i64 (IntKind.wrap .i64 (n90 + (1 : Int)))))])
          (.ret 0 [(.sc (.sl o82)), (.sc (.b b83)), (.sc (.p o84)), (.sc (.p o85)), (.sc (.i .i64 n86)), (.sc (.b .false)), (.sc (.sl o88)), (.sc (.sl o89)), (.sc (.i .i64 (IntKind.wrap .i64 (n90 + (1 : Int)))))]))
        (.ret 0 [(.sc (.sl o82)), (.sc (.b b83)), (.sc (.p o84)), (.sc (.p o85)), (.sc (.i .i64 n86)), (.sc (.b .false)), (.sc (.sl o88)), (.sc (.sl o89)), (.sc (.i .i64 (IntKind.wrap .i64 (n90 + (1 : Int)))))]))
      (.ret 8 [(.sc (.sl o82)), (.sc (.b b83)), (.sc (.p o84)), (.sc (.p o85)), (.sc (.i .i64 n86)), (.sc (.b b87))]))
    (.ret 8 [(.sc (.sl o82)), (.sc (.b b83)), (.sc (.p o84)), (.sc (.p o85)), (.sc (.i .i64 n86)), (.sc (.b b87))])
def t3_k80  : Nat → List AV → Tree := fun a127 l128 =>
  .tg a127 8
    (.asL (l128.getD 0 .un) fun o129 =>
    .asB (l128.getD 1 .un) fun b130 =>
    .asP (l128.getD 2 .un) fun o131 =>
    .asP (l128.getD 3 .un) fun o132 =>
    .asI .i64 (l128.getD 4 .un) fun n133 =>
    .asB (l128.getD 5 .un) fun b134 =>
    .ret 0 [(.sc (.sl o129)), (.sc (.b b130)), (.sc (.p o131)), (.sc (.p o132)), (.sc (.i .i64 n133)), (.sc (.b b134))])
    (.fail)
def t3_b195  : List AV → Tree := fun l196 =>
  .asL (l196.getD 0 .un) fun o197 =>
  .asB (l196.getD 1 .un) fun b198 =>
  .asP (l196.getD 2 .un) fun o199 =>
  .asP (l196.getD 3 .un) fun o200 =>
  .asI .i64 (l196.getD 4 .un) fun n201 =>
  .asL (l196.getD 5 .un) fun o202 =>
  .asL (l196.getD 6 .un) fun o203 =>
  .asI .i64 (l196.getD 7 .un) fun n204 =>
  cond (decide (n204 < (slLen o202)))
    (.ixS 3 o202 n204 fun a205 a206 a207 =>
    .ld a205 ((a206 + (a207 * 3)) + 0) 1 fun l208 =>
    .nth l208 0 fun v209 =>
    .asI .i64 (.sc v209) fun n210 =>
    .ixS 3 o203 n204 fun a211 a212 a213 =>
    .ld a211 ((a212 + (a213 * 3)) + 0) 1 fun l214 =>
    .nth l214 0 fun v215 =>
    .asI .i64 (.sc v215) fun n216 =>
    cond (n210 != n216)
      (.ret 1 [(.sc (.b .false))])
      (.ixS 3 o202 n204 fun a217 a218 a219 =>
      .ld a217 ((a218 + (a219 * 3)) + 1) 1 fun l220 =>
      .nth l220 0 fun v221 =>
      .asI .i64 (.sc v221) fun n222 =>
      .ixS 3 o203 n204 fun a223 a224 a225 =>
      .ld a223 ((a224 + (a225 * 3)) + 1) 1 fun l226 =>
      .nth l226 0 fun v227 =>
      .asI .i64 (.sc v227) fun n228 =>
      cond (n222 != n228)
        (.ret 1 [(.sc (.b .false))])
        (.ixS 3 o202 n204 fun a229 a230 a231 =>
        .ld a229 ((a230 + (a231 * 3)) + 2) 1 fun l232 =>
        .nth l232 0 fun v233 =>
        .asI .u64 (.sc v233) fun n234 =>
        .ixS 3 o203 n204 fun a235 a236 a237 =>
        .ld a235 ((a236 + (a237 * 3)) + 2) 1 fun l238 =>
        .nth l238 0 fun v239 =>
        .asI .u64 (.sc v239) fun n240 =>
        cond (n234 != n240)
          (.ret 1 [(.sc (.b .false))])
          (.ret 0 [(.sc (.sl o197)), (.sc (.b b198)), (.sc (.p o199)), (.sc (.p o200)), (.sc (.i .i64 n201)), (.sc (.sl o202)), (.sc (.sl o203)), (.sc (.i .i64 (IntKind.wrap .i64 (n204 + (1 : Int)))))]))))
    (.ret 12 [(.sc (.sl o197)), (.sc (.b b198)), (.sc (.p o199)), (.sc (.p o200)), (.sc (.i .i64 n201))])
def t3_k195  : Nat → List AV → Tree := fun a241 l242 =>
  .tg a241 12
    (.asL (l242.getD 0 .un) fun o243 =>
    .asB (l242.getD 1 .un) fun b244 =>
    .asP (l242.getD 2 .un) fun o245 =>
    .asP (l242.getD 3 .un) fun o246 =>
    .asI .i64 (l242.getD 4 .un) fun n247 =>
    .ret 0 [(.sc (.sl o243)), (.sc (.b b244)), (.sc (.p o245)), (.sc (.p o246)), (.sc (.i .i64 (IntKind.wrap .i64 (n247 + (1 : Int)))))])
    (.tg a241 1
      (.asB (l242.getD 0 .un) fun b248 =>
      .ret 1 [(.sc (.b b248))])
      (.fail))
def t3_k53  : Nat → List AV → Tree := fun a181 l182 =>
  .tg a181 0
    (.asL (l182.getD 0 .un) fun o183 =>
    .asB (l182.getD 1 .un) fun b184 =>
    .asP (l182.getD 2 .un) fun o185 =>
    .asP (l182.getD 3 .un) fun o186 =>
    .asI .i64 (l182.getD 4 .un) fun n187 =>
    .asB (l182.getD 5 .un) fun b188 =>
    .call 18 [(.sc (.p o185))] fun v189 =>
    .asL v189 fun o190 =>
    .call 19 [(.sc (.p o186))] fun v191 =>
    .asL v191 fun o192 =>
    cond (!b188)
      (.ret 1 [(.sc (.b .false))])
      (cond ((slLen o190) != (slLen o192))
        (.ret 1 [(.sc (.b .false))])
        (.call 20 [(.sc (.p o185))] fun v193 =>
        .asI .i64 v193 fun n194 =>
        cond (n194 != (slLen o192))
          (.ret 1 [(.sc (.b .false))])
          (.loop t3_b195 [(.sc (.sl o183)), (.sc (.b b184)), (.sc (.p o185)), (.sc (.p o186)), (.sc (.i .i64 n187)), (.sc (.sl o190)), (.sc (.sl o192)), (.sc (.i .i64 (0 : Int)))] t3_k195))))
    (.fail)
def t3_k30  : Nat → List AV → Tree := fun a40 l41 =>
  .tg a40 0
    (.asL (l41.getD 0 .un) fun o42 =>
    .asB (l41.getD 1 .un) fun b43 =>
    .asP (l41.getD 2 .un) fun o44 =>
    .asP (l41.getD 3 .un) fun o45 =>
    .asI .i64 (l41.getD 4 .un) fun n46 =>
    .asP (l41.getD 5 .un) fun o47 =>
    .nn o47 fun a48 a49 =>
    .ld a48 (a49 + 0) 1 fun l50 =>
    .nth l50 0 fun v51 =>
    .asI .u8 (.sc v51) fun n52 =>
    .br .true
      (.join (
        cond ((Int.tmod n52 (7 : Int)) == (4 : Int))
          (.ld a48 (a49 + 1) 1 fun l54 =>
          .nth l54 0 fun v55 =>
          .asI .i64 (.sc v55) fun n56 =>
          .ld a48 (a49 + 2) 1 fun l57 =>
          .nth l57 0 fun v58 =>
          .asI .i64 (.sc v58) fun n59 =>
          .ld a48 (a49 + 1) 1 fun l60 =>
          .nth l60 0 fun v61 =>
          .asI .i64 (.sc v61) fun n62 =>
          .ld a48 (a49 + 2) 1 fun l63 =>
          .nth l63 0 fun v64 =>
          .asI .i64 (.sc v64) fun n65 =>
          .call 10 [(.sc (.p o44)), (.sc (.i .i64 n56)), (.sc (.i .i64 n59))] fun v66 =>
          .asB v66 fun b67 =>
          .same a48 (a49 + 2) [(.i .i64 n65)] (
          .same a48 (a49 + 1) [(.i .i64 n62)] (
          .call 11 [(.sc (.p o45)), (.sc (.i .i64 n62)), (.sc (.i .i64 n65))] fun v68 =>
          .asB v68 fun b69 =>
          .ret 0 [(.sc (.sl o42)), (.sc (.b b43)), (.sc (.p o44)), (.sc (.p o45)), (.sc (.i .i64 n46)), (.sc (.b (b67 == b69)))])))
          (cond ((Int.tmod n52 (7 : Int)) == (5 : Int))
            (.ld a48 (a49 + 3) 1 fun l70 =>
            .nth l70 0 fun v71 =>
            .asI .u64 (.sc v71) fun n72 =>
            .call 12 [(.sc (.p o44)), (.sc (.i .u64 n72))] fun v73 =>
            .asL v73 fun o74 =>
            .ld a48 (a49 + 3) 1 fun l75 =>
            .nth l75 0 fun v76 =>
            .asI .u64 (.sc v76) fun n77 =>
            .call 13 [(.sc (.p o45)), (.sc (.i .u64 n77))] fun v78 =>
            .asL v78 fun o79 =>
            .loop t3_b80 [(.sc (.sl o42)), (.sc (.b b43)), (.sc (.p o44)), (.sc (.p o45)), (.sc (.i .i64 n46)), (.sc (.b ((slLen o74) == (slLen o79)))), (.sc (.sl o74)), (.sc (.sl o79)), (.sc (.i .i64 (0 : Int)))] t3_k80)
            (cond ((Int.tmod n52 (7 : Int)) == (6 : Int))
              (.ld a48 (a49 + 1) 1 fun l135 =>
              .nth l135 0 fun v136 =>
              .asI .i64 (.sc v136) fun n137 =>
              .ld a48 (a49 + 2) 1 fun l138 =>
              .nth l138 0 fun v139 =>
              .asI .i64 (.sc v139) fun n140 =>
              .call 14 [(.sc (.p o44)), (.sc (.i .i64 n137)), (.sc (.i .i64 n140))] fun v141 =>
              .asT 2 v141 fun l142 =>
              .nthC l142 0 fun v143 =>
              .asI .u64 (v143.av) fun n144 =>
              .nthC l142 1 fun v145 =>
              .asB (v145.av) fun b146 =>
              .ld a48 (a49 + 1) 1 fun l147 =>
              .nth l147 0 fun v148 =>
              .asI .i64 (.sc v148) fun n149 =>
              .ld a48 (a49 + 2) 1 fun l150 =>
              .nth l150 0 fun v151 =>
              .asI .i64 (.sc v151) fun n152 =>
              .call 15 [(.sc (.p o45)), (.sc (.i .i64 n149)), (.sc (.i .i64 n152))] fun v153 =>
              .asT 2 v153 fun l154 =>
              .nthC l154 0 fun v155 =>
              .asI .u64 (v155.av) fun n156 =>
              .nthC l154 1 fun v157 =>
              .asB (v157.av) fun b158 =>
              cond (n144 == n156)
                (.ret 0 [(.sc (.sl o42)), (.sc (.b b43)), (.sc (.p o44)), (.sc (.p o45)), (.sc (.i .i64 n46)), (.sc (.b (b146 == b158)))])
                (.ret 0 [(.sc (.sl o42)), (.sc (.b b43)), (.sc (.p o44)), (.sc (.p o45)), (.sc (.i .i64 n46)), (.sc (.b .false))]))
              (.ld a48 (a49 + 1) 1 fun l159 =>
              .nth l159 0 fun v160 =>
              .asI .i64 (.sc v160) fun n161 =>
              .ld a48 (a49 + 2) 1 fun l162 =>
              .nth l162 0 fun v163 =>
              .asI .i64 (.sc v163) fun n164 =>
              .ld a48 (a49 + 3) 1 fun l165 =>
              .nth l165 0 fun v166 =>
              .asI .u64 (.sc v166) fun n167 =>
              .ld a48 (a49 + 1) 1 fun l168 =>
              .nth l168 0 fun v169 =>
              .asI .i64 (.sc v169) fun n170 =>
              .ld a48 (a49 + 2) 1 fun l171 =>
              .nth l171 0 fun v172 =>
              .asI .i64 (.sc v172) fun n173 =>
              .ld a48 (a49 + 3) 1 fun l174 =>
              .nth l174 0 fun v175 =>
              .asI .u64 (.sc v175) fun n176 =>
              .call 16 [(.sc (.p o44)), (.sc (.i .i64 n161)), (.sc (.i .i64 n164)), (.sc (.i .u64 n167))] fun v177 =>
              .asI .i64 v177 fun n178 =>
              .same a48 (a49 + 3) [(.i .u64 n176)] (
              .same a48 (a49 + 2) [(.i .i64 n173)] (
              .same a48 (a49 + 1) [(.i .i64 n170)] (
              .call 17 [(.sc (.p o45)), (.sc (.i .i64 n170)), (.sc (.i .i64 n173)), (.sc (.i .u64 n176))] fun v179 =>
              .asI .i64 v179 fun n180 =>
              .ret 0 [(.sc (.sl o42)), (.sc (.b b43)), (.sc (.p o44)), (.sc (.p o45)), (.sc (.i .i64 n46)), (.sc (.b (n178 == n180)))]))))))) t3_k53)
      (.fail))
    (.fail)
def t3_b5  : List AV → Tree := fun l6 =>
  .asL (l6.getD 0 .un) fun o7 =>
  .asB (l6.getD 1 .un) fun b8 =>
  .asP (l6.getD 2 .un) fun o9 =>
  .asP (l6.getD 3 .un) fun o10 =>
  .asI .i64 (l6.getD 4 .un) fun n11 =>
  cond (decide (n11 < (slLen o7)))
    (cond (decide (n11 < (80 : Int)))
      (.ixS 5 o7 n11 fun a12 a13 a14 =>
      .ld a12 (a13 + (a14 * 5)) 5 fun l15 =>
      .nth l15 0 fun v16 =>
      .asI .u8 (.sc v16) fun n17 =>
      .nth l15 1 fun v18 =>
      .asI .i64 (.sc v18) fun n19 =>
      .nth l15 2 fun v20 =>
      .asI .i64 (.sc v20) fun n21 =>
      .nth l15 3 fun v22 =>
      .asI .u64 (.sc v22) fun n23 =>
      .nth l15 4 fun v24 =>
      .asB (.sc v24) fun b25 =>
      .al [(.i .u8 (0 : Int)), (.i .i64 (0 : Int)), (.i .i64 (0 : Int)), (.i .u64 (0 : Int)), (.b .false)] fun a26 =>
      .st a26 0 [(.i .u8 n17), (.i .i64 n19), (.i .i64 n21), (.i .u64 n23), (.b b25)] (
      .ld a26 (0 + 4) 1 fun l27 =>
      .nth l27 0 fun v28 =>
      .asB (.sc v28) fun b29 =>
      .join (
        cond b29
          (.ld a26 (0 + 1) 1 fun l31 =>
          .nth l31 0 fun v32 =>
          .asI .i64 (.sc v32) fun n33 =>
          .br .true
            (.st a26 (0 + 1) [(.i .i64 (IntKind.wrap .i64 (Int.tmod (IntKind.wrap .u64 n33) (3 : Int))))] (
            .ld a26 (0 + 2) 1 fun l34 =>
            .nth l34 0 fun v35 =>
            .asI .i64 (.sc v35) fun n36 =>
            .br .true
              (.st a26 (0 + 2) [(.i .i64 (IntKind.wrap .i64 (Int.tmod (IntKind.wrap .u64 n36) (5 : Int))))] (
              .ld a26 (0 + 3) 1 fun l37 =>
              .nth l37 0 fun v38 =>
              .asI .u64 (.sc v38) fun n39 =>
              .br .true
                (.st a26 (0 + 3) [(.i .u64 (Int.tmod n39 (12 : Int)))] (
                .ret 0 [(.sc (.sl o7)), (.sc (.b b8)), (.sc (.p o9)), (.sc (.p o10)), (.sc (.i .i64 n11)), (.sc (.p (.some (a26, 0))))]))
                (.fail)))
              (.fail)))
            (.fail))
          (.ret 0 [(.sc (.sl o7)), (.sc (.b b8)), (.sc (.p o9)), (.sc (.p o10)), (.sc (.i .i64 n11)), (.sc (.p (.some (a26, 0))))])) t3_k30))
      (.ret 2 [(.sc (.b b8))]))
    (.ret 2 [(.sc (.b b8))])
def t3_k5  : Nat → List AV → Tree := fun a249 l250 =>
  .tg a249 2
    (.asB (l250.getD 0 .un) fun b251 =>
    .ret 0 [(.sc (.b b251))])
    (.tg a249 1
      (.asB (l250.getD 0 .un) fun b252 =>
      .ret 0 [(.sc (.b b252))])
      (.fail))
/-- scuttlebutt/scuttlebuttlaw10.WheelPlays -/
def t3 (s0_ : Option SlD) : Tree :=
  .call 8 [] fun v0 =>
  .asB v0 fun b1 =>
  cond (!b1)
    (.ret 0 [(.sc (.b .false))])
    (.call 9 [] fun v2 =>
    .asP v2 fun o3 =>
    .al [(.sl .none)] fun a4 =>
    cond (Option.isNone o3)
      (.ret 0 [(.sc (.b .false))])
      (.loop t3_b5 [(.sc (.sl s0_)), (.sc (.b b1)), (.sc (.p o3)), (.sc (.p (.some (a4, 0)))), (.sc (.i .i64 (0 : Int)))] t3_k5))
theorem t3_eq (s0_ : Option SlD) : bodyK T (hs 3) Try.f3 [.sc (.sl s0_)] = t3 s0_ := by kernel_rfl
end Go.Proofs.Ytonohkjngmcbmaa
