/- Trees of functions, printed by a program of mine; each is proved to be the function's. -/
import Derived.Test.YtloiifcocgpnbaaGen
namespace Go.Proofs.Ytloiifcocgpnbaa
open Go Go.Proofs.Ytloiifcocgpnbaa.Fw
set_option linter.unusedVariables false
def t3_b174  : List AV → Tree := fun l175 =>
  .asL (l175.getD 0 .un) fun o176 =>
  .asB (l175.getD 1 .un) fun b177 =>
  .asI .u64 (l175.getD 2 .un) fun n178 =>
  .asI .i64 (l175.getD 3 .un) fun n179 =>
  .asP (l175.getD 4 .un) fun o180 =>
  .asI .u64 (l175.getD 5 .un) fun n181 =>
  .asI .i64 (l175.getD 6 .un) fun n182 =>
  .asL (l175.getD 7 .un) fun o183 =>
  .asI .i64 (l175.getD 8 .un) fun n184 =>
  cond (decide (n184 < (slLen o183)))
    (.ixS 7 o183 n184 fun a185 a186 a187 =>
    .ld a185 ((a186 + (a187 * 7)) + 6) 1 fun l188 =>
    .nth l188 0 fun v189 =>
    .asI .u64 (.sc v189) fun n190 =>
    cond (decide (n190 ≤ n181))
      (.ret 1 [(.sc (.b .false))])
      (.ixS 7 o183 n184 fun a191 a192 a193 =>
      .ld a191 ((a192 + (a193 * 7)) + 6) 1 fun l194 =>
      .nth l194 0 fun v195 =>
      .asI .u64 (.sc v195) fun n196 =>
      cond (decide (n196 > (IntKind.wrap .u64 (n181 + n178))))
        (.ret 1 [(.sc (.b .false))])
        (.ixS 7 o183 n184 fun a197 a198 a199 =>
        .ld a197 ((a198 + (a199 * 7)) + 4) 1 fun l200 =>
        .nth l200 0 fun v201 =>
        .asI .u16 (.sc v201) fun n202 =>
        cond (decide (n202 < (20000 : Int)))
          (.ret 1 [(.sc (.b .false))])
          (.ixS 7 o183 n184 fun a203 a204 a205 =>
          .ld a203 ((a204 + (a205 * 7)) + 4) 1 fun l206 =>
          .nth l206 0 fun v207 =>
          .asI .u16 (.sc v207) fun n208 =>
          cond (decide (n208 > (20127 : Int)))
            (.ret 1 [(.sc (.b .false))])
            (cond (decide (n184 > (0 : Int)))
              (.ixS 7 o183 (IntKind.wrap .i64 (n184 - (1 : Int))) fun a209 a210 a211 =>
              .ld a209 ((a210 + (a211 * 7)) + 4) 1 fun l212 =>
              .nth l212 0 fun v213 =>
              .asI .u16 (.sc v213) fun n214 =>
              .ixS 7 o183 n184 fun a215 a216 a217 =>
              .ld a215 ((a216 + (a217 * 7)) + 4) 1 fun l218 =>
              .nth l218 0 fun v219 =>
              .asI .u16 (.sc v219) fun n220 =>
              cond (decide (n214 ≥ n220))
                (.ret 1 [(.sc (.b .false))])
                (.ret 0 [(.sc (.sl o176)), (.sc (.b b177)), (.sc (.i .u64 n178)), (.sc (.i .i64 n179)), (.sc (.p o180)), (.sc (.i .u64 n181)), (.sc (.i .i64 n182)), (.sc (.sl o183)), (.sc (.i .i64 (IntKind.wrap .i64 (n184 + (1 : Int)))))]))
              (.ret 0 [(.sc (.sl o176)), (.sc (.b b177)), (.sc (.i .u64 n178)), (.sc (.i .i64 n179)), (.sc (.p o180)), (.sc (.i .u64 n181)), (.sc (.i .i64 n182)), (.sc (.sl o183)), (.sc (.i .i64 (IntKind.wrap .i64 (n184 + (1 : Int)))))]))))))
    (.ret 6 [(.sc (.sl o176)), (.sc (.b b177)), (.sc (.i .u64 n178)), (.sc (.i .i64 n179)), (.sc (.p o180)), (.sc (.i .u64 n181)), (.sc (.i .i64 n182)), (.sc (.sl o183))])
def t3_k174  : Nat → List AV → Tree := fun a221 l222 =>
  .tg a221 6
    (.asL (l222.getD 0 .un) fun o223 =>
    .asB (l222.getD 1 .un) fun b224 =>
    .asI .u64 (l222.getD 2 .un) fun n225 =>
    .asI .i64 (l222.getD 3 .un) fun n226 =>
    .asP (l222.getD 4 .un) fun o227 =>
    .asI .u64 (l222.getD 5 .un) fun n228 =>
    .asI .i64 (l222.getD 6 .un) fun n229 =>
    .asL (l222.getD 7 .un) fun o230 =>
    cond (decide ((slLen o230) > n226))
      (.ret 1 [(.sc (.b .false))])
      (cond ((slLen o230) == (0 : Int))
        (.ret 1 [(.sc (.b .false))])
        (.ret 0 [(.sc (.sl o223)), (.sc (.b b224)), (.sc (.i .u64 n225)), (.sc (.i .i64 n226)), (.sc (.p o227)), (.sc (.i .u64 n228)), (.sc (.i .i64 (IntKind.wrap .i64 (n229 + (1 : Int)))))])))
    (.tg a221 1
      (.asB (l222.getD 0 .un) fun b231 =>
      .ret 1 [(.sc (.b b231))])
      (.fail))
def t3_b8  : List AV → Tree := fun l9 =>
  .asL (l9.getD 0 .un) fun o10 =>
  .asB (l9.getD 1 .un) fun b11 =>
  .asI .u64 (l9.getD 2 .un) fun n12 =>
  .asI .i64 (l9.getD 3 .un) fun n13 =>
  .asP (l9.getD 4 .un) fun o14 =>
  .asI .u64 (l9.getD 5 .un) fun n15 =>
  .asI .i64 (l9.getD 6 .un) fun n16 =>
  cond (decide (n16 < (slLen o10)))
    (cond (decide (n16 < (60 : Int)))
      (.ixS 8 o10 n16 fun a17 a18 a19 =>
      .ld a17 (a18 + (a19 * 8)) 8 fun l20 =>
      .nth l20 0 fun v21 =>
      .asI .u8 (.sc v21) fun n22 =>
      .nth l20 1 fun v23 =>
      .asI .u8 (.sc v23) fun n24 =>
      .nth l20 2 fun v25 =>
      .asI .u8 (.sc v25) fun n26 =>
      .nth l20 3 fun v27 =>
      .asI .u8 (.sc v27) fun n28 =>
      .nth l20 4 fun v29 =>
      .asI .u8 (.sc v29) fun n30 =>
      .nth l20 5 fun v31 =>
      .asI .u32 (.sc v31) fun n32 =>
      .nth l20 6 fun v33 =>
      .asI .u16 (.sc v33) fun n34 =>
      .nth l20 7 fun v35 =>
      .asI .u64 (.sc v35) fun n36 =>
      .al [(.i .u8 (0 : Int)), (.i .u8 (0 : Int)), (.i .u8 (0 : Int)), (.i .u8 (0 : Int)), (.i .u8 (0 : Int)), (.i .u32 (0 : Int)), (.i .u16 (0 : Int)), (.i .u64 (0 : Int))] fun a37 =>
      .st a37 0 [(.i .u8 n22), (.i .u8 n24), (.i .u8 n26), (.i .u8 n28), (.i .u8 n30), (.i .u32 n32), (.i .u16 n34), (.i .u64 n36)] (
      .ld a37 (0 + 1) 1 fun l38 =>
      .nth l38 0 fun v39 =>
      .asI .u8 (.sc v39) fun n40 =>
      .br .true
        (.st a37 (0 + 1) [(.i .u8 (Int.tmod n40 (250 : Int)))] (
        .ld a37 (0 + 2) 1 fun l41 =>
        .nth l41 0 fun v42 =>
        .asI .u8 (.sc v42) fun n43 =>
        .br .true
          (.st a37 (0 + 2) [(.i .u8 (Int.tmod n43 (250 : Int)))] (
          .ld a37 (0 + 4) 1 fun l44 =>
          .nth l44 0 fun v45 =>
          .asI .u8 (.sc v45) fun n46 =>
          .br .true
            (.ld a37 0 8 fun l47 =>
            .nth l47 0 fun v48 =>
            .asI .u8 (.sc v48) fun n49 =>
            .nth l47 1 fun v50 =>
            .asI .u8 (.sc v50) fun n51 =>
            .nth l47 2 fun v52 =>
            .asI .u8 (.sc v52) fun n53 =>
            .nth l47 3 fun v54 =>
            .asI .u8 (.sc v54) fun n55 =>
            .nth l47 4 fun v56 =>
            .asI .u8 (.sc v56) fun n57 =>
            .nth l47 5 fun v58 =>
            .asI .u32 (.sc v58) fun n59 =>
            .nth l47 6 fun v60 =>
            .asI .u16 (.sc v60) fun n61 =>
            .nth l47 7 fun v62 =>
            .asI .u64 (.sc v62) fun n63 =>
            .ld a37 0 8 fun l64 =>
            .nth l64 0 fun v65 =>
            .asI .u8 (.sc v65) fun n66 =>
            .nth l64 1 fun v67 =>
            .asI .u8 (.sc v67) fun n68 =>
            .nth l64 2 fun v69 =>
            .asI .u8 (.sc v69) fun n70 =>
            .nth l64 3 fun v71 =>
            .asI .u8 (.sc v71) fun n72 =>
            .nth l64 4 fun v73 =>
            .asI .u8 (.sc v73) fun n74 =>
            .nth l64 5 fun v75 =>
            .asI .u32 (.sc v75) fun n76 =>
            .nth l64 6 fun v77 =>
            .asI .u16 (.sc v77) fun n78 =>
            .nth l64 7 fun v79 =>
            .asI .u64 (.sc v79) fun n80 =>
            .al [(.i .u32 (0 : Int)), (.i .u16 (0 : Int))] fun a81 =>
            .call 13 [(.ag [(.i .u8 n49), (.i .u8 n51), (.i .u8 n53), (.i .u8 n55), (.i .u8 n57), (.i .u32 n59), (.i .u16 n61), (.i .u64 n63)])] fun v82 =>
            .asA 2 v82 fun l83 =>
            .nth l83 0 fun v84 =>
            .asI .u32 (.sc v84) fun n85 =>
            .nth l83 1 fun v86 =>
            .asI .u16 (.sc v86) fun n87 =>
            .same a37 0 [(.i .u8 n66), (.i .u8 n68), (.i .u8 n70), (.i .u8 n72), (.i .u8 n74), (.i .u32 n76), (.i .u16 n78), (.i .u64 n80)] (
            .call 14 [(.ag [(.i .u8 n66), (.i .u8 n68), (.i .u8 n70), (.i .u8 n72), (.i .u8 n74), (.i .u32 n76), (.i .u16 n78), (.i .u64 n80)])] fun v88 =>
            .asA 2 v88 fun l89 =>
            .nth l89 0 fun v90 =>
            .asI .u32 (.sc v90) fun n91 =>
            .nth l89 1 fun v92 =>
            .asI .u16 (.sc v92) fun n93 =>
            .call 12 [(.sc (.p o14)), (.sc (.i .u64 (IntKind.wrap .u64 (n15 + (IntKind.wrap .u64 (Int.tmod n46 (8 : Int))))))), (.ag [(.i .u32 n85), (.i .u16 n87)]), (.ag [(.i .u32 n91), (.i .u16 n93)])] fun v94 =>
            .asT 2 v94 fun l95 =>
            .nthC l95 0 fun v96 =>
            .asA 2 (v96.av) fun l97 =>
            .nth l97 0 fun v98 =>
            .asI .u32 (.sc v98) fun n99 =>
            .nth l97 1 fun v100 =>
            .asI .u16 (.sc v100) fun n101 =>
            .nthC l95 1 fun v102 =>
            .asI .i64 (v102.av) fun n103 =>
            .st a81 0 [(.i .u32 n99), (.i .u16 n101)] (
            .ld a81 (0 + 1) 1 fun l104 =>
            .nth l104 0 fun v105 =>
            .asI .u16 (.sc v105) fun n106 =>
            .ld a37 0 8 fun l107 =>
            .nth l107 0 fun v108 =>
            .asI .u8 (.sc v108) fun n109 =>
            .nth l107 1 fun v110 =>
            .asI .u8 (.sc v110) fun n111 =>
            .nth l107 2 fun v112 =>
            .asI .u8 (.sc v112) fun n113 =>
            .nth l107 3 fun v114 =>
            .asI .u8 (.sc v114) fun n115 =>
            .nth l107 4 fun v116 =>
            .asI .u8 (.sc v116) fun n117 =>
            .nth l107 5 fun v118 =>
            .asI .u32 (.sc v118) fun n119 =>
            .nth l107 6 fun v120 =>
            .asI .u16 (.sc v120) fun n121 =>
            .nth l107 7 fun v122 =>
            .asI .u64 (.sc v122) fun n123 =>
            .al [(.i .u32 (0 : Int)), (.i .u16 (0 : Int))] fun a124 =>
            .call 14 [(.ag [(.i .u8 n109), (.i .u8 n111), (.i .u8 n113), (.i .u8 n115), (.i .u8 n117), (.i .u32 n119), (.i .u16 n121), (.i .u64 n123)])] fun v125 =>
            .asA 2 v125 fun l126 =>
            .nth l126 0 fun v127 =>
            .asI .u32 (.sc v127) fun n128 =>
            .nth l126 1 fun v129 =>
            .asI .u16 (.sc v129) fun n130 =>
            .same a81 (0 + 1) [(.i .u16 n106)] (
            .call 15 [(.sc (.p o14)), (.sc (.i .u64 (IntKind.wrap .u64 (n15 + (IntKind.wrap .u64 (Int.tmod n46 (8 : Int))))))), (.sc (.i .u16 n106)), (.ag [(.i .u32 n128), (.i .u16 n130)])] fun v131 =>
            .asT 2 v131 fun l132 =>
            .nthC l132 0 fun v133 =>
            .asA 2 (v133.av) fun l134 =>
            .nth l134 0 fun v135 =>
            .asI .u32 (.sc v135) fun n136 =>
            .nth l134 1 fun v137 =>
            .asI .u16 (.sc v137) fun n138 =>
            .nthC l132 1 fun v139 =>
            .asI .i64 (v139.av) fun n140 =>
            .st a124 0 [(.i .u32 n136), (.i .u16 n138)] (
            cond (n103 != (0 : Int))
              (.ret 1 [(.sc (.b .false))])
              (cond (n140 != (0 : Int))
                (.ret 1 [(.sc (.b .false))])
                (.ld a124 0 2 fun l141 =>
                .nth l141 0 fun v142 =>
                .asI .u32 (.sc v142) fun n143 =>
                .nth l141 1 fun v144 =>
                .asI .u16 (.sc v144) fun n145 =>
                .ld a37 0 8 fun l146 =>
                .nth l146 0 fun v147 =>
                .asI .u8 (.sc v147) fun n148 =>
                .nth l146 1 fun v149 =>
                .asI .u8 (.sc v149) fun n150 =>
                .nth l146 2 fun v151 =>
                .asI .u8 (.sc v151) fun n152 =>
                .nth l146 3 fun v153 =>
                .asI .u8 (.sc v153) fun n154 =>
                .nth l146 4 fun v155 =>
                .asI .u8 (.sc v155) fun n156 =>
                .nth l146 5 fun v157 =>
                .asI .u32 (.sc v157) fun n158 =>
                .nth l146 6 fun v159 =>
                .asI .u16 (.sc v159) fun n160 =>
                .nth l146 7 fun v161 =>
                .asI .u64 (.sc v161) fun n162 =>
                .call 13 [(.ag [(.i .u8 n148), (.i .u8 n150), (.i .u8 n152), (.i .u8 n154), (.i .u8 n156), (.i .u32 n158), (.i .u16 n160), (.i .u64 n162)])] fun v163 =>
                .asA 2 v163 fun l164 =>
                .nth l164 0 fun v165 =>
                .asI .u32 (.sc v165) fun n166 =>
                .nth l164 1 fun v167 =>
                .asI .u16 (.sc v167) fun n168 =>
                .same a124 0 [(.i .u32 n143), (.i .u16 n145)] (
                cond (!((n143 == n166) && ((n145 == n168) && .true)))
                  (.ret 1 [(.sc (.b .false))])
                  (.ld a81 (0 + 0) 1 fun l169 =>
                  .nth l169 0 fun v170 =>
                  .asI .u32 (.sc v170) fun n171 =>
                  cond (n171 != (9 : Int))
                    (.ret 1 [(.sc (.b .false))])
                    (.call 16 [(.sc (.p o14))] fun v172 =>
                    .asL v172 fun o173 =>
                    .loop t3_b174 [(.sc (.sl o10)), (.sc (.b b11)), (.sc (.i .u64 n12)), (.sc (.i .i64 n13)), (.sc (.p o14)), (.sc (.i .u64 (IntKind.wrap .u64 (n15 + (IntKind.wrap .u64 (Int.tmod n46 (8 : Int))))))), (.sc (.i .i64 n16)), (.sc (.sl o173)), (.sc (.i .i64 (0 : Int)))] t3_k174))))))))))
            (.fail)))
          (.fail)))
        (.fail)))
      (.ret 2 [(.sc (.b b11)), (.sc (.i .u64 n12)), (.sc (.p o14)), (.sc (.i .u64 n15))]))
    (.ret 2 [(.sc (.b b11)), (.sc (.i .u64 n12)), (.sc (.p o14)), (.sc (.i .u64 n15))])
def t3_k8  : Nat → List AV → Tree := fun a232 l233 =>
  .tg a232 2
    (.asB (l233.getD 0 .un) fun b234 =>
    .asI .u64 (l233.getD 1 .un) fun n235 =>
    .asP (l233.getD 2 .un) fun o236 =>
    .asI .u64 (l233.getD 3 .un) fun n237 =>
    .call 16 [(.sc (.p o236))] fun v238 =>
    .asL v238 fun o239 =>
    cond b234
      (.call 17 [(.sc (.p o236)), (.sc (.i .u64 n237))] fun v240 =>
      .asI .i64 v240 fun n241 =>
      cond (n241 == (0 : Int))
        (.call 17 [(.sc (.p o236)), (.sc (.i .u64 (IntKind.wrap .u64 (n237 + n235))))] fun v242 =>
        .asI .i64 v242 fun n243 =>
        cond (n243 == (slLen o239))
          (.call 16 [(.sc (.p o236))] fun v244 =>
          .asL v244 fun o245 =>
          .ret 0 [(.sc (.b ((slLen o245) == (0 : Int))))])
          (.ret 0 [(.sc (.b .false))]))
        (.ret 0 [(.sc (.b .false))]))
      (.ret 0 [(.sc (.b .false))]))
    (.tg a232 1
      (.asB (l233.getD 0 .un) fun b246 =>
      .ret 0 [(.sc (.b b246))])
      (.fail))
/-- scuttlebutt/scuttlebuttlaw08.NatboxHolds -/
def t3 (n0_ : Int) (n1_ : Int) (n2_ : Int) (s3_ : Option SlD) : Tree :=
  .call 10 [] fun v0 =>
  .asB v0 fun b1 =>
  cond (!b1)
    (.ret 0 [(.sc (.b .false))])
    (.br .true
      (.br .true
        (.br .true
          (.br .true
            (.br .true
              (.call 11 [(.ag [(.i .i64 (IntKind.wrap .i64 (Int.tmod n0_ (3 : Int)))), (.i .i64 (IntKind.wrap .i64 (Int.tmod (IntKind.wrap .u8 (Int.tdiv n0_ (3 : Int))) (3 : Int))))]), (.sc (.i .u32 (9 : Int))), (.sc (.i .u64 (IntKind.wrap .u64 ((1 : Int) + (IntKind.wrap .u64 (Int.tmod n1_ (30 : Int))))))), (.sc (.i .i64 (IntKind.wrap .i64 ((1 : Int) + (IntKind.wrap .i64 (Int.tmod n2_ (6 : Int)))))))] fun v2 =>
              .asT 2 v2 fun l3 =>
              .nthC l3 0 fun v4 =>
              .asP (v4.av) fun o5 =>
              .nthC l3 1 fun v6 =>
              .asI .i64 (v6.av) fun n7 =>
              cond (Option.isNone o5)
                (.ret 0 [(.sc (.b .false))])
                (cond (n7 != (0 : Int))
                  (.ret 0 [(.sc (.b .false))])
                  (.loop t3_b8 [(.sc (.sl s3_)), (.sc (.b b1)), (.sc (.i .u64 (IntKind.wrap .u64 ((1 : Int) + (IntKind.wrap .u64 (Int.tmod n1_ (30 : Int))))))), (.sc (.i .i64 (IntKind.wrap .i64 ((1 : Int) + (IntKind.wrap .i64 (Int.tmod n2_ (6 : Int))))))), (.sc (.p o5)), (.sc (.i .u64 (0 : Int))), (.sc (.i .i64 (0 : Int)))] t3_k8)))
              (.fail))
            (.fail))
          (.fail))
        (.fail))
      (.fail))
theorem t3_eq (n0_ : Int) (n1_ : Int) (n2_ : Int) (s3_ : Option SlD) : bodyK T (hs 3) Try.f3 [.sc (.i .u8 n0_), .sc (.i .u8 n1_), .sc (.i .u8 n2_), .sc (.sl s3_)] = t3 n0_ n1_ n2_ s3_ := by kernel_rfl
end Go.Proofs.Ytloiifcocgpnbaa
