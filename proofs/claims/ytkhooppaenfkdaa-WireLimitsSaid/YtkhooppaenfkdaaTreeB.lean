/- Trees of functions, printed by a program of mine; each is proved to be the function's. -/
import Derived.Test.YtkhooppaenfkdaaGen
namespace Go.Proofs.Ytkhooppaenfkdaa
open Go Go.Proofs.Ytkhooppaenfkdaa.Fw
set_option linter.unusedVariables false
set_option maxRecDepth 20000
def t3_k218  : Nat → List AV → Tree := fun a219 l220 =>
  .tg a219 0
    (.asB (l220.getD 0 .un) fun b221 =>
    .asI .i64 (l220.getD 1 .un) fun n222 =>
    .asI .i64 (l220.getD 2 .un) fun n223 =>
    .asB (l220.getD 3 .un) fun b224 =>
    .asB (l220.getD 4 .un) fun b225 =>
    .asB (l220.getD 5 .un) fun b226 =>
    .asI .i64 (l220.getD 6 .un) fun n227 =>
    .asI .i64 (l220.getD 7 .un) fun n228 =>
    cond b221
      (cond (decide (n222 ≥ (1 : Int)))
        (cond (b224 == (decide (n222 ≤ (900 : Int))))
          (cond (b225 == (decide (n223 ≤ (8 : Int))))
            (cond (b226 == (decide (n223 ≤ (32 : Int))))
              (.ret 0 [(.sc (.b (n227 == n228)))])
              (.ret 0 [(.sc (.b .false))]))
            (.ret 0 [(.sc (.b .false))]))
          (.ret 0 [(.sc (.b .false))]))
        (cond (b224 == .false)
          (cond (b225 == (decide (n223 ≤ (8 : Int))))
            (cond (b226 == (decide (n223 ≤ (32 : Int))))
              (.ret 0 [(.sc (.b (n227 == n228)))])
              (.ret 0 [(.sc (.b .false))]))
            (.ret 0 [(.sc (.b .false))]))
          (.ret 0 [(.sc (.b .false))])))
      (.ret 0 [(.sc (.b .false))]))
    (.fail)
def t3_b9  : List AV → Tree := fun l10 =>
  .asP (l10.getD 0 .un) fun o11 =>
  .nn o11 fun a12 a13 =>
  .asB (l10.getD 1 .un) fun b14 =>
  .asI .i64 (l10.getD 2 .un) fun n15 =>
  .asI .i64 (l10.getD 3 .un) fun n16 =>
  .asP (l10.getD 4 .un) fun o17 =>
  .nn o17 fun a18 a19 =>
  .asP (l10.getD 5 .un) fun o20 =>
  .nn o20 fun a21 a22 =>
  .asP (l10.getD 6 .un) fun o23 =>
  .nn o23 fun a24 a25 =>
  .asI .i64 (l10.getD 7 .un) fun n26 =>
  cond (decide (n26 < n16))
    (.ld a21 (a22 + 9) 1 fun l27 =>
    .nth l27 0 fun v28 =>
    .asL (.sc v28) fun o29 =>
    .ld a12 a13 6 fun l30 =>
    .nth l30 0 fun v31 =>
    .asI .i64 (.sc v31) fun n32 =>
    .nth l30 1 fun v33 =>
    .asI .i64 (.sc v33) fun n34 =>
    .nth l30 2 fun v35 =>
    .asI .u32 (.sc v35) fun n36 =>
    .nth l30 3 fun v37 =>
    .asI .u32 (.sc v37) fun n38 =>
    .nth l30 4 fun v39 =>
    .asI .u16 (.sc v39) fun n40 =>
    .nth l30 5 fun v41 =>
    .asB (.sc v41) fun b42 =>
    .call 5 [(.ag [(.i .i64 n32), (.i .i64 n34), (.i .u32 n36), (.i .u32 n38), (.i .u16 n40), (.b b42)])] fun v43 =>
    .asA 5 v43 fun l44 =>
    .nth l44 0 fun v45 =>
    .asI .i64 (.sc v45) fun n46 =>
    .nth l44 1 fun v47 =>
    .asI .i64 (.sc v47) fun n48 =>
    .nth l44 2 fun v49 =>
    .asI .u32 (.sc v49) fun n50 =>
    .nth l44 3 fun v51 =>
    .asI .u32 (.sc v51) fun n52 =>
    .nth l44 4 fun v53 =>
    .asI .u16 (.sc v53) fun n54 =>
    .same a21 (a22 + 9) [(.sl o29)] (
    .al [(.i .i64 n46), (.i .i64 n48), (.i .u32 n50), (.i .u32 n52), (.i .u16 n54)] fun a55 =>
    .lds 5 (.some (.mk a55 0 1 1 5)) (slN (.some (.mk a55 0 1 1 5))) fun l56 =>
    .app 5 32 o29 l56 (slN (.some (.mk a55 0 1 1 5))) fun o57 =>
    .st a21 (a22 + 9) [(.sl o57)] (
    .ld a24 (a25 + 9) 1 fun l58 =>
    .nth l58 0 fun v59 =>
    .asL (.sc v59) fun o60 =>
    .ld a12 a13 6 fun l61 =>
    .nth l61 0 fun v62 =>
    .asI .i64 (.sc v62) fun n63 =>
    .nth l61 1 fun v64 =>
    .asI .i64 (.sc v64) fun n65 =>
    .nth l61 2 fun v66 =>
    .asI .u32 (.sc v66) fun n67 =>
    .nth l61 3 fun v68 =>
    .asI .u32 (.sc v68) fun n69 =>
    .nth l61 4 fun v70 =>
    .asI .u16 (.sc v70) fun n71 =>
    .nth l61 5 fun v72 =>
    .asB (.sc v72) fun b73 =>
    .call 5 [(.ag [(.i .i64 n63), (.i .i64 n65), (.i .u32 n67), (.i .u32 n69), (.i .u16 n71), (.b b73)])] fun v74 =>
    .asA 5 v74 fun l75 =>
    .nth l75 0 fun v76 =>
    .asI .i64 (.sc v76) fun n77 =>
    .nth l75 1 fun v78 =>
    .asI .i64 (.sc v78) fun n79 =>
    .nth l75 2 fun v80 =>
    .asI .u32 (.sc v80) fun n81 =>
    .nth l75 3 fun v82 =>
    .asI .u32 (.sc v82) fun n83 =>
    .nth l75 4 fun v84 =>
    .asI .u16 (.sc v84) fun n85 =>
    .same a24 (a25 + 9) [(.sl o60)] (
    .al [(.i .i64 n77), (.i .i64 n79), (.i .u32 n81), (.i .u32 n83), (.i .u16 n85)] fun a86 =>
    .lds 5 (.some (.mk a86 0 1 1 5)) (slN (.some (.mk a86 0 1 1 5))) fun l87 =>
    .app 5 32 o60 l87 (slN (.some (.mk a86 0 1 1 5))) fun o88 =>
    .st a24 (a25 + 9) [(.sl o88)] (
    .ret 0 [(.sc (.p (.some (a12, a13)))), (.sc (.b b14)), (.sc (.i .i64 n15)), (.sc (.i .i64 n16)), (.sc (.p (.some (a18, a19)))), (.sc (.p (.some (a21, a22)))), (.sc (.p (.some (a24, a25)))), (.sc (.i .i64 (IntKind.wrap .i64 (n26 + (1 : Int)))))])))))
    (.ret 2 [(.sc (.b b14)), (.sc (.i .i64 n15)), (.sc (.i .i64 n16)), (.sc (.p (.some (a18, a19)))), (.sc (.p (.some (a21, a22)))), (.sc (.p (.some (a24, a25))))])
def t3_k9  : Nat → List AV → Tree := fun a89 l90 =>
  .tg a89 2
    (.asB (l90.getD 0 .un) fun b91 =>
    .asI .i64 (l90.getD 1 .un) fun n92 =>
    .asI .i64 (l90.getD 2 .un) fun n93 =>
    .asP (l90.getD 3 .un) fun o94 =>
    .nn o94 fun a95 a96 =>
    .asP (l90.getD 4 .un) fun o97 =>
    .nn o97 fun a98 a99 =>
    .asP (l90.getD 5 .un) fun o100 =>
    .nn o100 fun a101 a102 =>
    .ld a95 a96 10 fun l103 =>
    .nth l103 0 fun v104 =>
    .asI .i64 (.sc v104) fun n105 =>
    .nth l103 1 fun v106 =>
    .asI .i64 (.sc v106) fun n107 =>
    .nth l103 2 fun v108 =>
    .asI .u32 (.sc v108) fun n109 =>
    .nth l103 3 fun v110 =>
    .asI .i64 (.sc v110) fun n111 =>
    .nth l103 4 fun v112 =>
    .asI .u32 (.sc v112) fun n113 =>
    .nth l103 5 fun v114 =>
    .asI .u16 (.sc v114) fun n115 =>
    .nth l103 6 fun v116 =>
    .asC .f64 (.sc v116) fun a117 a118 =>
    .nth l103 7 fun v119 =>
    .asB (.sc v119) fun b120 =>
    .nth l103 8 fun v121 =>
    .asS (.sc v121) fun x122 =>
    .nth l103 9 fun v123 =>
    .asL (.sc v123) fun o124 =>
    .call 6 [(.ag [(.i .i64 n105), (.i .i64 n107), (.i .u32 n109), (.i .i64 n111), (.i .u32 n113), (.i .u16 n115), (.cx .f64 a117 a118), (.b b120), (.s x122), (.sl o124)])] fun v125 =>
    .asT 2 v125 fun l126 =>
    .nthC l126 0 fun v127 =>
    .asS (v127.av) fun x128 =>
    .nthC l126 1 fun v129 =>
    .asB (v129.av) fun b130 =>
    .ld a98 a99 10 fun l131 =>
    .nth l131 0 fun v132 =>
    .asI .i64 (.sc v132) fun n133 =>
    .nth l131 1 fun v134 =>
    .asI .i64 (.sc v134) fun n135 =>
    .nth l131 2 fun v136 =>
    .asI .u32 (.sc v136) fun n137 =>
    .nth l131 3 fun v138 =>
    .asI .i64 (.sc v138) fun n139 =>
    .nth l131 4 fun v140 =>
    .asI .u32 (.sc v140) fun n141 =>
    .nth l131 5 fun v142 =>
    .asI .u16 (.sc v142) fun n143 =>
    .nth l131 6 fun v144 =>
    .asC .f64 (.sc v144) fun a145 a146 =>
    .nth l131 7 fun v147 =>
    .asB (.sc v147) fun b148 =>
    .nth l131 8 fun v149 =>
    .asS (.sc v149) fun x150 =>
    .nth l131 9 fun v151 =>
    .asL (.sc v151) fun o152 =>
    .call 6 [(.ag [(.i .i64 n133), (.i .i64 n135), (.i .u32 n137), (.i .i64 n139), (.i .u32 n141), (.i .u16 n143), (.cx .f64 a145 a146), (.b b148), (.s x150), (.sl o152)])] fun v153 =>
    .asT 2 v153 fun l154 =>
    .nthC l154 0 fun v155 =>
    .asS (v155.av) fun x156 =>
    .nthC l154 1 fun v157 =>
    .asB (v157.av) fun b158 =>
    .ld a101 a102 10 fun l159 =>
    .nth l159 0 fun v160 =>
    .asI .i64 (.sc v160) fun n161 =>
    .nth l159 1 fun v162 =>
    .asI .i64 (.sc v162) fun n163 =>
    .nth l159 2 fun v164 =>
    .asI .u32 (.sc v164) fun n165 =>
    .nth l159 3 fun v166 =>
    .asI .i64 (.sc v166) fun n167 =>
    .nth l159 4 fun v168 =>
    .asI .u32 (.sc v168) fun n169 =>
    .nth l159 5 fun v170 =>
    .asI .u16 (.sc v170) fun n171 =>
    .nth l159 6 fun v172 =>
    .asC .f64 (.sc v172) fun a173 a174 =>
    .nth l159 7 fun v175 =>
    .asB (.sc v175) fun b176 =>
    .nth l159 8 fun v177 =>
    .asS (.sc v177) fun x178 =>
    .nth l159 9 fun v179 =>
    .asL (.sc v179) fun o180 =>
    .call 6 [(.ag [(.i .i64 n161), (.i .i64 n163), (.i .u32 n165), (.i .i64 n167), (.i .u32 n169), (.i .u16 n171), (.cx .f64 a173 a174), (.b b176), (.s x178), (.sl o180)])] fun v181 =>
    .asT 2 v181 fun l182 =>
    .nthC l182 0 fun v183 =>
    .asS (v183.av) fun x184 =>
    .nthC l182 1 fun v185 =>
    .asB (v185.av) fun b186 =>
    .br ((((decide ((0 : Int) ≤ (IntKind.wrap .i64 ((1000 : Int) + n92)))) && (decide ((IntKind.wrap .i64 ((1000 : Int) + n92)) ≤ (IntKind.wrap .i64 ((1000 : Int) + n92))))) && (decide (((IntKind.wrap .i64 ((1000 : Int) + n92)) * (1 : Int)) ≤ (70368744177664 : Int)))) && (decide ((IntKind.wrap .i64 ((1000 : Int) + n92)) ≤ (70368744177664 : Int))))
      (.al (zeros [(.i .u8 (0 : Int))] (Int.toNat (IntKind.wrap .i64 ((1000 : Int) + n92)))) fun a187 =>
      .lds 1 (.some (.mk a187 0 (Int.toNat (IntKind.wrap .i64 ((1000 : Int) + n92))) (Int.toNat (IntKind.wrap .i64 ((1000 : Int) + n92))) 1)) (slN (.some (.mk a187 0 (Int.toNat (IntKind.wrap .i64 ((1000 : Int) + n92))) (Int.toNat (IntKind.wrap .i64 ((1000 : Int) + n92))) 1))) fun l188 =>
      .asBy l188 fun x189 =>
      .call 7 [(.sc (.s x189))] fun v190 =>
      .asT 2 v190 fun l191 =>
      .nthC l191 0 fun v192 =>
      .asA 10 (v192.av) fun l193 =>
      .nth l193 0 fun v194 =>
      .asI .i64 (.sc v194) fun n195 =>
      .nth l193 1 fun v196 =>
      .asI .i64 (.sc v196) fun n197 =>
      .nth l193 2 fun v198 =>
      .asI .u32 (.sc v198) fun n199 =>
      .nth l193 3 fun v200 =>
      .asI .i64 (.sc v200) fun n201 =>
      .nth l193 4 fun v202 =>
      .asI .u32 (.sc v202) fun n203 =>
      .nth l193 5 fun v204 =>
      .asI .u16 (.sc v204) fun n205 =>
      .nth l193 6 fun v206 =>
      .asC .f64 (.sc v206) fun a207 a208 =>
      .nth l193 7 fun v209 =>
      .asB (.sc v209) fun b210 =>
      .nth l193 8 fun v211 =>
      .asS (.sc v211) fun x212 =>
      .nth l193 9 fun v213 =>
      .asL (.sc v213) fun o214 =>
      .nthC l191 1 fun v215 =>
      .asI .i64 (v215.av) fun n216 =>
      .al [(.i .i64 (0 : Int)), (.i .i64 (0 : Int)), (.i .u32 (0 : Int)), (.i .i64 (0 : Int)), (.i .u32 (0 : Int)), (.i .u16 (0 : Int)), (.cx .f64 0 0), (.b .false), (.s (.mk (.mk []))), (.sl .none)] fun a217 =>
      .st a217 0 [(.i .i64 n195), (.i .i64 n197), (.i .u32 n199), (.i .i64 n201), (.i .u32 n203), (.i .u16 n205), (.cx .f64 a207 a208), (.b b210), (.s x212), (.sl o214)] (
      .join (
        cond (decide ((IntKind.wrap .i64 ((1000 : Int) + n92)) > (1024 : Int)))
          (.ret 0 [(.sc (.b b91)), (.sc (.i .i64 n92)), (.sc (.i .i64 n93)), (.sc (.b b130)), (.sc (.b b158)), (.sc (.b b186)), (.sc (.i .i64 n216)), (.sc (.i .i64 (3 : Int)))])
          (.ret 0 [(.sc (.b b91)), (.sc (.i .i64 n92)), (.sc (.i .i64 n93)), (.sc (.b b130)), (.sc (.b b158)), (.sc (.b b186)), (.sc (.i .i64 n216)), (.sc (.i .i64 (2 : Int)))])) t3_k218))
      (.fail))
    (.fail)
/-- scuttlebutt/scuttlebuttlaw06.WireLimits -/
def t3 (n0_ : Int) (n1_ : Int) (n2_0 : Int) (n2_1 : Int) (n2_2 : Int) (n2_3 : Int) (n2_4 : Int) (b2_5 : Bool) : Tree :=
  .al [(.i .i64 n2_0), (.i .i64 n2_1), (.i .u32 n2_2), (.i .u32 n2_3), (.i .u16 n2_4), (.b b2_5)] fun a0 =>
  .call 4 [] fun v1 =>
  .asB v1 fun b2 =>
  cond (!b2)
    (.ret 0 [(.sc (.b .false))])
    (.br .true
      (.br .true
        (.st a0 (0 + 5) [(.b .true)] (
        .br ((((decide ((0 : Int) ≤ (IntKind.wrap .i64 (Int.tmod n0_ (1100 : Int))))) && (decide ((IntKind.wrap .i64 (Int.tmod n0_ (1100 : Int))) ≤ (IntKind.wrap .i64 (Int.tmod n0_ (1100 : Int)))))) && (decide (((IntKind.wrap .i64 (Int.tmod n0_ (1100 : Int))) * (1 : Int)) ≤ (70368744177664 : Int)))) && (decide ((IntKind.wrap .i64 (Int.tmod n0_ (1100 : Int))) ≤ (70368744177664 : Int))))
          (.al (zeros [(.i .u8 (0 : Int))] (Int.toNat (IntKind.wrap .i64 (Int.tmod n0_ (1100 : Int))))) fun a3 =>
          .lds 1 (.some (.mk a3 0 (Int.toNat (IntKind.wrap .i64 (Int.tmod n0_ (1100 : Int)))) (Int.toNat (IntKind.wrap .i64 (Int.tmod n0_ (1100 : Int)))) 1)) (slN (.some (.mk a3 0 (Int.toNat (IntKind.wrap .i64 (Int.tmod n0_ (1100 : Int)))) (Int.toNat (IntKind.wrap .i64 (Int.tmod n0_ (1100 : Int)))) 1))) fun l4 =>
          .asBy l4 fun x5 =>
          .al [(.i .i64 (0 : Int)), (.i .i64 (0 : Int)), (.i .u32 (0 : Int)), (.i .i64 (0 : Int)), (.i .u32 (0 : Int)), (.i .u16 (0 : Int)), (.cx .f64 0 0), (.b .false), (.s (.mk (.mk []))), (.sl .none)] fun a6 =>
          .st a6 0 [(.i .i64 (5 : Int)), (.i .i64 (1 : Int)), (.i .u32 (0 : Int)), (.i .i64 (2 : Int)), (.i .u32 (0 : Int)), (.i .u16 (0 : Int)), (.cx .f64 0 0), (.b .false), (.s x5), (.sl .none)] (
          .al [(.i .i64 (0 : Int)), (.i .i64 (0 : Int)), (.i .u32 (0 : Int)), (.i .i64 (0 : Int)), (.i .u32 (0 : Int)), (.i .u16 (0 : Int)), (.cx .f64 0 0), (.b .false), (.s (.mk (.mk []))), (.sl .none)] fun a7 =>
          .st a7 0 [(.i .i64 (1 : Int)), (.i .i64 (1 : Int)), (.i .u32 (0 : Int)), (.i .i64 (2 : Int)), (.i .u32 (0 : Int)), (.i .u16 (0 : Int)), (.cx .f64 0 0), (.b .false), (.s (.mk (.mk []))), (.sl .none)] (
          .al [(.i .i64 (0 : Int)), (.i .i64 (0 : Int)), (.i .u32 (0 : Int)), (.i .i64 (0 : Int)), (.i .u32 (0 : Int)), (.i .u16 (0 : Int)), (.cx .f64 0 0), (.b .false), (.s (.mk (.mk []))), (.sl .none)] fun a8 =>
          .st a8 0 [(.i .i64 (15 : Int)), (.i .i64 (1 : Int)), (.i .u32 (0 : Int)), (.i .i64 (0 : Int)), (.i .u32 (0 : Int)), (.i .u16 (0 : Int)), (.cx .f64 0 0), (.b .false), (.s (.mk (.mk []))), (.sl .none)] (
          .loop t3_b9 [(.sc (.p (.some (a0, 0)))), (.sc (.b b2)), (.sc (.i .i64 (IntKind.wrap .i64 (Int.tmod n0_ (1100 : Int))))), (.sc (.i .i64 (IntKind.wrap .i64 (Int.tmod n1_ (40 : Int))))), (.sc (.p (.some (a6, 0)))), (.sc (.p (.some (a7, 0)))), (.sc (.p (.some (a8, 0)))), (.sc (.i .i64 (0 : Int)))] t3_k9))))
          (.fail)))
        (.fail))
      (.fail))
theorem t3_eq (n0_ : Int) (n1_ : Int) (n2_0 : Int) (n2_1 : Int) (n2_2 : Int) (n2_3 : Int) (n2_4 : Int) (b2_5 : Bool) : bodyK T (hs 3) Try.f3 [.sc (.i .u16 n0_), .sc (.i .u8 n1_), .ag [.i .i64 n2_0, .i .i64 n2_1, .i .u32 n2_2, .i .u32 n2_3, .i .u16 n2_4, .b b2_5]] = t3 n0_ n1_ n2_0 n2_1 n2_2 n2_3 n2_4 b2_5 := by kernel_rfl
/-- (scuttlebutt/scuttlebuttlaw06.Thing).thing -/
def t5 (n0_0 : Int) (n0_1 : Int) (n0_2 : Int) (n0_3 : Int) (n0_4 : Int) (b0_5 : Bool) : Tree :=
  .al [(.i .i64 n0_0), (.i .i64 n0_1), (.i .u32 n0_2), (.i .u32 n0_3), (.i .u16 n0_4), (.b b0_5)] fun a0 =>
  .al [(.i .i64 (0 : Int)), (.i .i64 (0 : Int)), (.i .u32 (0 : Int)), (.i .u32 (0 : Int)), (.i .u16 (0 : Int))] fun a1 =>
  .ld a0 (0 + 5) 1 fun l2 =>
  .nth l2 0 fun v3 =>
  .asB (.sc v3) fun b4 =>
  cond (!b4)
    (.ld a0 (0 + 0) 5 fun l5 =>
    .nth l5 0 fun v6 =>
    .asI .i64 (.sc v6) fun n7 =>
    .nth l5 1 fun v8 =>
    .asI .i64 (.sc v8) fun n9 =>
    .nth l5 2 fun v10 =>
    .asI .u32 (.sc v10) fun n11 =>
    .nth l5 3 fun v12 =>
    .asI .u32 (.sc v12) fun n13 =>
    .nth l5 4 fun v14 =>
    .asI .u16 (.sc v14) fun n15 =>
    .st a1 0 [(.i .i64 n7), (.i .i64 n9), (.i .u32 n11), (.i .u32 n13), (.i .u16 n15)] (
    .ld a1 0 5 fun l16 =>
    .nth l16 0 fun v17 =>
    .asI .i64 (.sc v17) fun n18 =>
    .nth l16 1 fun v19 =>
    .asI .i64 (.sc v19) fun n20 =>
    .nth l16 2 fun v21 =>
    .asI .u32 (.sc v21) fun n22 =>
    .nth l16 3 fun v23 =>
    .asI .u32 (.sc v23) fun n24 =>
    .nth l16 4 fun v25 =>
    .asI .u16 (.sc v25) fun n26 =>
    .ret 0 [(.ag [(.i .i64 n18), (.i .i64 n20), (.i .u32 n22), (.i .u32 n24), (.i .u16 n26)])]))
    (.ld a0 ((0 + 0) + 0) 1 fun l27 =>
    .nth l27 0 fun v28 =>
    .asI .i64 (.sc v28) fun n29 =>
    .br .true
      (.ld a0 ((0 + 0) + 1) 1 fun l30 =>
      .nth l30 0 fun v31 =>
      .asI .i64 (.sc v31) fun n32 =>
      .br .true
        (.ld a0 ((0 + 0) + 2) 1 fun l33 =>
        .nth l33 0 fun v34 =>
        .asI .u32 (.sc v34) fun n35 =>
        .br .true
          (.ld a0 (((0 + 0) + 3) + 0) 1 fun l36 =>
          .nth l36 0 fun v37 =>
          .asI .u32 (.sc v37) fun n38 =>
          .br .true
            (.st a1 0 [(.i .i64 (IntKind.wrap .i64 ((1 : Int) + (IntKind.wrap .i64 (Int.tmod (IntKind.wrap .u64 n29) (6 : Int)))))), (.i .i64 (IntKind.wrap .i64 (Int.tmod (IntKind.wrap .u64 n32) (4 : Int)))), (.i .u32 (Int.tmod n35 (5 : Int))), (.i .u32 (IntKind.wrap .u32 ((1 : Int) + (Int.tmod n38 (3 : Int))))), (.i .u16 (7 : Int))] (
            .ld a1 0 5 fun l39 =>
            .nth l39 0 fun v40 =>
            .asI .i64 (.sc v40) fun n41 =>
            .nth l39 1 fun v42 =>
            .asI .i64 (.sc v42) fun n43 =>
            .nth l39 2 fun v44 =>
            .asI .u32 (.sc v44) fun n45 =>
            .nth l39 3 fun v46 =>
            .asI .u32 (.sc v46) fun n47 =>
            .nth l39 4 fun v48 =>
            .asI .u16 (.sc v48) fun n49 =>
            .ret 0 [(.ag [(.i .i64 n41), (.i .i64 n43), (.i .u32 n45), (.i .u32 n47), (.i .u16 n49)])]))
            (.fail))
          (.fail))
        (.fail))
      (.fail))
theorem t5_eq (n0_0 : Int) (n0_1 : Int) (n0_2 : Int) (n0_3 : Int) (n0_4 : Int) (b0_5 : Bool) : bodyK T (hs 5) Try.f5 [.ag [.i .i64 n0_0, .i .i64 n0_1, .i .u32 n0_2, .i .u32 n0_3, .i .u16 n0_4, .b b0_5]] = t5 n0_0 n0_1 n0_2 n0_3 n0_4 b0_5 := by kernel_rfl
-- 6 scuttlebutt/wire.Put: not printed
-- 7 scuttlebutt/wire.Get: not printed
def t10_b80  : List AV → Tree := fun l81 =>
  .asS (l81.getD 0 .un) fun x82 =>
  .asL (l81.getD 1 .un) fun o83 =>
  .asI .i64 (l81.getD 2 .un) fun n84 =>
  .asI .i64 (l81.getD 3 .un) fun n85 =>
  cond (decide (n85 < n84))
    (.ixS 3 o83 n85 fun a86 a87 a88 =>
    .ld a86 (a87 + (a88 * 3)) 3 fun l89 =>
    .nth l89 0 fun v90 =>
    .asS (.sc v90) fun x91 =>
    .nth l89 1 fun v92 =>
    .asB (.sc v92) fun b93 =>
    .nth l89 2 fun v94 =>
    .asB (.sc v94) fun b95 =>
    .al [(.s (.mk (.mk []))), (.b .false), (.b .false)] fun a96 =>
    .st a96 0 [(.s x91), (.b b93), (.b b95)] (
    .ld a96 (0 + 0) 1 fun l97 =>
    .nth l97 0 fun v98 =>
    .asS (.sc v98) fun x99 =>
    .call 28 [(.sc (.s x82)), (.sc (.s x99))] fun v100 =>
    .asB v100 fun b101 =>
    cond b101
      (.ld a96 (0 + 2) 1 fun l102 =>
      .nth l102 0 fun v103 =>
      .asB (.sc v103) fun b104 =>
      cond (!b104)
        (.ret 1 [(.sc (.b .false))])
        (cond (!b101)
          (.ld a96 (0 + 1) 1 fun l105 =>
          .nth l105 0 fun v106 =>
          .asB (.sc v106) fun b107 =>
          cond (!b107)
            (.ret 1 [(.sc (.b .false))])
            (.ret 0 [(.sc (.s x82)), (.sc (.sl o83)), (.sc (.i .i64 n84)), (.sc (.i .i64 (IntKind.wrap .i64 (n85 + (1 : Int)))))]))
          (.ret 0 [(.sc (.s x82)), (.sc (.sl o83)), (.sc (.i .i64 n84)), (.sc (.i .i64 (IntKind.wrap .i64 (n85 + (1 : Int)))))])))
      (cond (!b101)
        (.ld a96 (0 + 1) 1 fun l108 =>
        .nth l108 0 fun v109 =>
        .asB (.sc v109) fun b110 =>
        cond (!b110)
          (.ret 1 [(.sc (.b .false))])
          (.ret 0 [(.sc (.s x82)), (.sc (.sl o83)), (.sc (.i .i64 n84)), (.sc (.i .i64 (IntKind.wrap .i64 (n85 + (1 : Int)))))]))
        (.ret 0 [(.sc (.s x82)), (.sc (.sl o83)), (.sc (.i .i64 n84)), (.sc (.i .i64 (IntKind.wrap .i64 (n85 + (1 : Int)))))]))))
    (.ret 2 [])
def t10_k80  : Nat → List AV → Tree := fun a111 l112 =>
  .tg a111 2
    (.ret 0 [(.sc (.b .true))])
    (.tg a111 1
      (.asB (l112.getD 0 .un) fun b113 =>
      .ret 0 [(.sc (.b b113))])
      (.fail))
def t10_b115  : List AV → Tree := fun l116 =>
  .asS (l116.getD 0 .un) fun x117 =>
  .asL (l116.getD 1 .un) fun o118 =>
  .asI .i64 (l116.getD 2 .un) fun n119 =>
  .asI .i64 (l116.getD 3 .un) fun n120 =>
  cond (decide (n120 < n119))
    (.ixS 3 o118 n120 fun a121 a122 a123 =>
    .ld a121 (a122 + (a123 * 3)) 3 fun l124 =>
    .nth l124 0 fun v125 =>
    .asS (.sc v125) fun x126 =>
    .nth l124 1 fun v127 =>
    .asB (.sc v127) fun b128 =>
    .nth l124 2 fun v129 =>
    .asB (.sc v129) fun b130 =>
    .al [(.s (.mk (.mk []))), (.b .false), (.b .false)] fun a131 =>
    .st a131 0 [(.s x126), (.b b128), (.b b130)] (
    .ld a131 (0 + 0) 1 fun l132 =>
    .nth l132 0 fun v133 =>
    .asS (.sc v133) fun x134 =>
    .call 28 [(.sc (.s x117)), (.sc (.s x134))] fun v135 =>
    .asB v135 fun b136 =>
    cond b136
      (.ld a131 (0 + 2) 1 fun l137 =>
      .nth l137 0 fun v138 =>
      .asB (.sc v138) fun b139 =>
      cond (!b139)
        (.ret 1 [(.sc (.b .false))])
        (cond (!b136)
          (.ld a131 (0 + 1) 1 fun l140 =>
          .nth l140 0 fun v141 =>
          .asB (.sc v141) fun b142 =>
          cond (!b142)
            (.ret 1 [(.sc (.b .false))])
            (.ret 0 [(.sc (.s x117)), (.sc (.sl o118)), (.sc (.i .i64 n119)), (.sc (.i .i64 (IntKind.wrap .i64 (n120 + (1 : Int)))))]))
          (.ret 0 [(.sc (.s x117)), (.sc (.sl o118)), (.sc (.i .i64 n119)), (.sc (.i .i64 (IntKind.wrap .i64 (n120 + (1 : Int)))))])))
      (cond (!b136)
        (.ld a131 (0 + 1) 1 fun l143 =>
        .nth l143 0 fun v144 =>
        .asB (.sc v144) fun b145 =>
        cond (!b145)
          (.ret 1 [(.sc (.b .false))])
          (.ret 0 [(.sc (.s x117)), (.sc (.sl o118)), (.sc (.i .i64 n119)), (.sc (.i .i64 (IntKind.wrap .i64 (n120 + (1 : Int)))))]))
        (.ret 0 [(.sc (.s x117)), (.sc (.sl o118)), (.sc (.i .i64 n119)), (.sc (.i .i64 (IntKind.wrap .i64 (n120 + (1 : Int)))))]))))
    (.ret 2 [])
def t10_k115  : Nat → List AV → Tree := fun a146 l147 =>
  .tg a146 2
    (.ret 0 [(.sc (.b .true))])
    (.tg a146 1
      (.asB (l147.getD 0 .un) fun b148 =>
      .ret 0 [(.sc (.b b148))])
      (.fail))
def t10_b157  : List AV → Tree := fun l158 =>
  .asS (l158.getD 0 .un) fun x159 =>
  .asL (l158.getD 1 .un) fun o160 =>
  .asI .i64 (l158.getD 2 .un) fun n161 =>
  .asI .i64 (l158.getD 3 .un) fun n162 =>
  cond (decide (n162 < n161))
    (.ixS 3 o160 n162 fun a163 a164 a165 =>
    .ld a163 (a164 + (a165 * 3)) 3 fun l166 =>
    .nth l166 0 fun v167 =>
    .asS (.sc v167) fun x168 =>
    .nth l166 1 fun v169 =>
    .asB (.sc v169) fun b170 =>
    .nth l166 2 fun v171 =>
    .asB (.sc v171) fun b172 =>
    .al [(.s (.mk (.mk []))), (.b .false), (.b .false)] fun a173 =>
    .st a173 0 [(.s x168), (.b b170), (.b b172)] (
    .ld a173 (0 + 0) 1 fun l174 =>
    .nth l174 0 fun v175 =>
    .asS (.sc v175) fun x176 =>
    .call 28 [(.sc (.s x159)), (.sc (.s x176))] fun v177 =>
    .asB v177 fun b178 =>
    cond b178
      (.ld a173 (0 + 2) 1 fun l179 =>
      .nth l179 0 fun v180 =>
      .asB (.sc v180) fun b181 =>
      cond (!b181)
        (.ret 1 [(.sc (.b .false))])
        (cond (!b178)
          (.ld a173 (0 + 1) 1 fun l182 =>
          .nth l182 0 fun v183 =>
          .asB (.sc v183) fun b184 =>
          cond (!b184)
            (.ret 1 [(.sc (.b .false))])
            (.ret 0 [(.sc (.s x159)), (.sc (.sl o160)), (.sc (.i .i64 n161)), (.sc (.i .i64 (IntKind.wrap .i64 (n162 + (1 : Int)))))]))
          (.ret 0 [(.sc (.s x159)), (.sc (.sl o160)), (.sc (.i .i64 n161)), (.sc (.i .i64 (IntKind.wrap .i64 (n162 + (1 : Int)))))])))
      (cond (!b178)
        (.ld a173 (0 + 1) 1 fun l185 =>
        .nth l185 0 fun v186 =>
        .asB (.sc v186) fun b187 =>
        cond (!b187)
          (.ret 1 [(.sc (.b .false))])
          (.ret 0 [(.sc (.s x159)), (.sc (.sl o160)), (.sc (.i .i64 n161)), (.sc (.i .i64 (IntKind.wrap .i64 (n162 + (1 : Int)))))]))
        (.ret 0 [(.sc (.s x159)), (.sc (.sl o160)), (.sc (.i .i64 n161)), (.sc (.i .i64 (IntKind.wrap .i64 (n162 + (1 : Int)))))]))))
    (.ret 2 [])
def t10_k157  : Nat → List AV → Tree := fun a188 l189 =>
  .tg a188 2
    (.ret 0 [(.sc (.b .true))])
    (.tg a188 1
      (.asB (l189.getD 0 .un) fun b190 =>
      .ret 0 [(.sc (.b b190))])
      (.fail))
def t10_b192  : List AV → Tree := fun l193 =>
  .asS (l193.getD 0 .un) fun x194 =>
  .asL (l193.getD 1 .un) fun o195 =>
  .asI .i64 (l193.getD 2 .un) fun n196 =>
  .asI .i64 (l193.getD 3 .un) fun n197 =>
  cond (decide (n197 < n196))
    (.ixS 3 o195 n197 fun a198 a199 a200 =>
    .ld a198 (a199 + (a200 * 3)) 3 fun l201 =>
    .nth l201 0 fun v202 =>
    .asS (.sc v202) fun x203 =>
    .nth l201 1 fun v204 =>
    .asB (.sc v204) fun b205 =>
    .nth l201 2 fun v206 =>
    .asB (.sc v206) fun b207 =>
    .al [(.s (.mk (.mk []))), (.b .false), (.b .false)] fun a208 =>
    .st a208 0 [(.s x203), (.b b205), (.b b207)] (
    .ld a208 (0 + 0) 1 fun l209 =>
    .nth l209 0 fun v210 =>
    .asS (.sc v210) fun x211 =>
    .call 28 [(.sc (.s x194)), (.sc (.s x211))] fun v212 =>
    .asB v212 fun b213 =>
    cond b213
      (.ld a208 (0 + 2) 1 fun l214 =>
      .nth l214 0 fun v215 =>
      .asB (.sc v215) fun b216 =>
      cond (!b216)
        (.ret 1 [(.sc (.b .false))])
        (cond (!b213)
          (.ld a208 (0 + 1) 1 fun l217 =>
          .nth l217 0 fun v218 =>
          .asB (.sc v218) fun b219 =>
          cond (!b219)
            (.ret 1 [(.sc (.b .false))])
            (.ret 0 [(.sc (.s x194)), (.sc (.sl o195)), (.sc (.i .i64 n196)), (.sc (.i .i64 (IntKind.wrap .i64 (n197 + (1 : Int)))))]))
          (.ret 0 [(.sc (.s x194)), (.sc (.sl o195)), (.sc (.i .i64 n196)), (.sc (.i .i64 (IntKind.wrap .i64 (n197 + (1 : Int)))))])))
      (cond (!b213)
        (.ld a208 (0 + 1) 1 fun l220 =>
        .nth l220 0 fun v221 =>
        .asB (.sc v221) fun b222 =>
        cond (!b222)
          (.ret 1 [(.sc (.b .false))])
          (.ret 0 [(.sc (.s x194)), (.sc (.sl o195)), (.sc (.i .i64 n196)), (.sc (.i .i64 (IntKind.wrap .i64 (n197 + (1 : Int)))))]))
        (.ret 0 [(.sc (.s x194)), (.sc (.sl o195)), (.sc (.i .i64 n196)), (.sc (.i .i64 (IntKind.wrap .i64 (n197 + (1 : Int)))))]))))
    (.ret 2 [])
def t10_k192  : Nat → List AV → Tree := fun a223 l224 =>
  .tg a223 2
    (.ret 0 [(.sc (.b .true))])
    (.tg a223 1
      (.asB (l224.getD 0 .un) fun b225 =>
      .ret 0 [(.sc (.b b225))])
      (.fail))
/-- scuttlebutt/wire.Right -/
def t10 (n0_0 : Int) (n0_1 : Int) (n0_2 : Int) (n0_3 : Int) (n0_4 : Int) (n0_5 : Int) (n0_6 m0_6 : Nat) (b0_7 : Bool) (x0_8 : ByteArray) (s0_9 : Option SlD) : Tree :=
  .al [(.i .i64 n0_0), (.i .i64 n0_1), (.i .u32 n0_2), (.i .i64 n0_3), (.i .u32 n0_4), (.i .u16 n0_5), (.cx .f64 n0_6 m0_6), (.b b0_7), (.s x0_8), (.sl s0_9)] fun a0 =>
  .ld a0 (0 + 0) 1 fun l1 =>
  .nth l1 0 fun v2 =>
  .asI .i64 (.sc v2) fun n3 =>
  .call 8 [(.sc (.i .i64 n3))] fun v4 =>
  .asT 2 v4 fun l5 =>
  .nthC l5 0 fun v6 =>
  .asS (v6.av) fun x7 =>
  .nthC l5 1 fun v8 =>
  .asB (v8.av) fun b9 =>
  cond (!b9)
    (.ret 0 [(.sc (.b .false))])
    (.ld a0 (0 + 1) 1 fun l10 =>
    .nth l10 0 fun v11 =>
    .asI .i64 (.sc v11) fun n12 =>
    .call 20 [(.sc (.i .i64 n12))] fun v13 =>
    .asB v13 fun b14 =>
    cond (!b14)
      (.ret 0 [(.sc (.b .false))])
      (.ld a0 (0 + 6) 1 fun l15 =>
      .nth l15 0 fun v16 =>
      .asC .f64 (.sc v16) fun a17 a18 =>
      .call 21 [(.sc (.cx .f64 a17 a18))] fun v19 =>
      .asB v19 fun b20 =>
      cond (!b20)
        (.ret 0 [(.sc (.b .false))])
        (.ld a0 (0 + 3) 1 fun l21 =>
        .nth l21 0 fun v22 =>
        .asI .i64 (.sc v22) fun n23 =>
        .ld a0 (0 + 3) 1 fun l24 =>
        .nth l24 0 fun v25 =>
        .asI .i64 (.sc v25) fun n26 =>
        .ld a0 (0 + 4) 2 fun l27 =>
        .nth l27 0 fun v28 =>
        .asI .u32 (.sc v28) fun n29 =>
        .nth l27 1 fun v30 =>
        .asI .u16 (.sc v30) fun n31 =>
        .ld a0 (0 + 4) 2 fun l32 =>
        .nth l32 0 fun v33 =>
        .asI .u32 (.sc v33) fun n34 =>
        .nth l32 1 fun v35 =>
        .asI .u16 (.sc v35) fun n36 =>
        .ld a0 (0 + 6) 1 fun l37 =>
        .nth l37 0 fun v38 =>
        .asC .f64 (.sc v38) fun a39 a40 =>
        .ld a0 (0 + 6) 1 fun l41 =>
        .nth l41 0 fun v42 =>
        .asC .f64 (.sc v42) fun a43 a44 =>
        .ld a0 (0 + 7) 1 fun l45 =>
        .nth l45 0 fun v46 =>
        .asB (.sc v46) fun b47 =>
        .ld a0 (0 + 8) 1 fun l48 =>
        .nth l48 0 fun v49 =>
        .asS (.sc v49) fun x50 =>
        .ld a0 (0 + 8) 1 fun l51 =>
        .nth l51 0 fun v52 =>
        .asS (.sc v52) fun x53 =>
        .ld a0 (0 + 9) 1 fun l54 =>
        .nth l54 0 fun v55 =>
        .asL (.sc v55) fun o56 =>
        .ld a0 (0 + 9) 1 fun l57 =>
        .nth l57 0 fun v58 =>
        .asL (.sc v58) fun o59 =>
        .ld a0 (0 + 0) 1 fun l60 =>
        .nth l60 0 fun v61 =>
        .asI .i64 (.sc v61) fun n62 =>
        .call 20 [(.sc (.i .i64 n26))] fun v63 =>
        .asB v63 fun b64 =>
        .same a0 (0 + 0) [(.i .i64 n62)] (
        .same a0 (0 + 9) [(.sl o59)] (
        .same a0 (0 + 9) [(.sl o56)] (
        .same a0 (0 + 8) [(.s x53)] (
        .same a0 (0 + 8) [(.s x50)] (
        .same a0 (0 + 7) [(.b b47)] (
        .same a0 (0 + 6) [(.cx .f64 a43 a44)] (
        .same a0 (0 + 6) [(.cx .f64 a39 a40)] (
        .same a0 (0 + 4) [(.i .u32 n34), (.i .u16 n36)] (
        .same a0 (0 + 4) [(.i .u32 n29), (.i .u16 n31)] (
        .same a0 (0 + 3) [(.i .i64 n23)] (
        .call 24 [(.ag [(.i .u32 n34), (.i .u16 n36)])] fun v65 =>
        .asB v65 fun b66 =>
        .same a0 (0 + 0) [(.i .i64 n62)] (
        .same a0 (0 + 9) [(.sl o59)] (
        .same a0 (0 + 9) [(.sl o56)] (
        .same a0 (0 + 8) [(.s x53)] (
        .same a0 (0 + 8) [(.s x50)] (
        .same a0 (0 + 7) [(.b b47)] (
        .same a0 (0 + 6) [(.cx .f64 a43 a44)] (
        .same a0 (0 + 6) [(.cx .f64 a39 a40)] (
        .same a0 (0 + 4) [(.i .u32 n29), (.i .u16 n31)] (
        .same a0 (0 + 3) [(.i .i64 n23)] (
        .call 25 [(.sc (.cx .f64 a43 a44))] fun v67 =>
        .asB v67 fun b68 =>
        .same a0 (0 + 0) [(.i .i64 n62)] (
        .same a0 (0 + 9) [(.sl o59)] (
        .same a0 (0 + 9) [(.sl o56)] (
        .same a0 (0 + 8) [(.s x53)] (
        .same a0 (0 + 8) [(.s x50)] (
        .same a0 (0 + 7) [(.b b47)] (
        .same a0 (0 + 6) [(.cx .f64 a39 a40)] (
        .same a0 (0 + 4) [(.i .u32 n29), (.i .u16 n31)] (
        .same a0 (0 + 3) [(.i .i64 n23)] (
        cond (!((ByteArray.toList x53) == (ByteArray.toList (.mk (.mk [])))))
          (.ld a0 (0 + 8) 1 fun l69 =>
          .nth l69 0 fun v70 =>
          .asS (.sc v70) fun x71 =>
          .call 26 [(.sc (.i .i64 n62))] fun v72 =>
          .asI .i64 v72 fun n73 =>
          .same a0 (0 + 8) [(.s x71)] (
          .same a0 (0 + 9) [(.sl o59)] (
          .same a0 (0 + 9) [(.sl o56)] (
          .same a0 (0 + 8) [(.s x50)] (
          .same a0 (0 + 7) [(.b b47)] (
          .same a0 (0 + 6) [(.cx .f64 a39 a40)] (
          .same a0 (0 + 4) [(.i .u32 n29), (.i .u16 n31)] (
          .same a0 (0 + 3) [(.i .i64 n23)] (
          cond (decide ((slLen o59) ≤ n73))
            (.ld a0 (0 + 9) 1 fun l74 =>
            .nth l74 0 fun v75 =>
            .asL (.sc v75) fun o76 =>
            .call 27 [(.sc (.sl o76)), (.sc (.fn 22 [] []))] fun v77 =>
            .asB v77 fun b78 =>
            .same a0 (0 + 8) [(.s x71)] (
            .same a0 (0 + 9) [(.sl o56)] (
            .same a0 (0 + 8) [(.s x50)] (
            .same a0 (0 + 7) [(.b b47)] (
            .same a0 (0 + 6) [(.cx .f64 a39 a40)] (
            .same a0 (0 + 4) [(.i .u32 n29), (.i .u16 n31)] (
            .same a0 (0 + 3) [(.i .i64 n23)] (
            .al [(.s (.mk (.mk [110]))), (.b (n23 == (0 : Int))), (.b b64), (.s (.mk (.mk [97]))), (.b ((n29 == (0 : Int)) && ((n31 == (0 : Int)) && .true))), (.b (!b66)), (.s (.mk (.mk [112]))), (.b (((Ieee.Format.order (FloatKind.format .f64) a39 0) == (.some .eq)) && ((Ieee.Format.order (FloatKind.format .f64) a40 0) == (.some .eq)))), (.b b68), (.s (.mk (.mk [102]))), (.b (!b47)), (.b .true), (.s (.mk (.mk [98]))), (.b ((ByteArray.toList x50) == (ByteArray.toList (.mk (.mk []))))), (.b (decide ((((ByteArray.size x71) : Nat) : Int) ≤ (900 : Int)))), (.s (.mk (.mk [114]))), (.b ((slLen o56) == (0 : Int))), (.b (!b78))] fun a79 =>
            .loop t10_b80 [(.sc (.s x7)), (.sc (.sl (.some (.mk a79 0 6 6 3)))), (.sc (.i .i64 (slLen (.some (.mk a79 0 6 6 3))))), (.sc (.i .i64 (0 : Int)))] t10_k80))))))))
            (.al [(.s (.mk (.mk [110]))), (.b (n23 == (0 : Int))), (.b b64), (.s (.mk (.mk [97]))), (.b ((n29 == (0 : Int)) && ((n31 == (0 : Int)) && .true))), (.b (!b66)), (.s (.mk (.mk [112]))), (.b (((Ieee.Format.order (FloatKind.format .f64) a39 0) == (.some .eq)) && ((Ieee.Format.order (FloatKind.format .f64) a40 0) == (.some .eq)))), (.b b68), (.s (.mk (.mk [102]))), (.b (!b47)), (.b .true), (.s (.mk (.mk [98]))), (.b ((ByteArray.toList x50) == (ByteArray.toList (.mk (.mk []))))), (.b (decide ((((ByteArray.size x71) : Nat) : Int) ≤ (900 : Int)))), (.s (.mk (.mk [114]))), (.b ((slLen o56) == (0 : Int))), (.b .false)] fun a114 =>
            .loop t10_b115 [(.sc (.s x7)), (.sc (.sl (.some (.mk a114 0 6 6 3)))), (.sc (.i .i64 (slLen (.some (.mk a114 0 6 6 3))))), (.sc (.i .i64 (0 : Int)))] t10_k115))))))))))
          (.call 26 [(.sc (.i .i64 n62))] fun v149 =>
          .asI .i64 v149 fun n150 =>
          .same a0 (0 + 9) [(.sl o59)] (
          .same a0 (0 + 9) [(.sl o56)] (
          .same a0 (0 + 8) [(.s x50)] (
          .same a0 (0 + 7) [(.b b47)] (
          .same a0 (0 + 6) [(.cx .f64 a39 a40)] (
          .same a0 (0 + 4) [(.i .u32 n29), (.i .u16 n31)] (
          .same a0 (0 + 3) [(.i .i64 n23)] (
          cond (decide ((slLen o59) ≤ n150))
            (.ld a0 (0 + 9) 1 fun l151 =>
            .nth l151 0 fun v152 =>
            .asL (.sc v152) fun o153 =>
            .call 27 [(.sc (.sl o153)), (.sc (.fn 22 [] []))] fun v154 =>
            .asB v154 fun b155 =>
            .same a0 (0 + 9) [(.sl o56)] (
            .same a0 (0 + 8) [(.s x50)] (
            .same a0 (0 + 7) [(.b b47)] (
            .same a0 (0 + 6) [(.cx .f64 a39 a40)] (
            .same a0 (0 + 4) [(.i .u32 n29), (.i .u16 n31)] (
            .same a0 (0 + 3) [(.i .i64 n23)] (
            .al [(.s (.mk (.mk [110]))), (.b (n23 == (0 : Int))), (.b b64), (.s (.mk (.mk [97]))), (.b ((n29 == (0 : Int)) && ((n31 == (0 : Int)) && .true))), (.b (!b66)), (.s (.mk (.mk [112]))), (.b (((Ieee.Format.order (FloatKind.format .f64) a39 0) == (.some .eq)) && ((Ieee.Format.order (FloatKind.format .f64) a40 0) == (.some .eq)))), (.b b68), (.s (.mk (.mk [102]))), (.b (!b47)), (.b .true), (.s (.mk (.mk [98]))), (.b ((ByteArray.toList x50) == (ByteArray.toList (.mk (.mk []))))), (.b .false), (.s (.mk (.mk [114]))), (.b ((slLen o56) == (0 : Int))), (.b (!b155))] fun a156 =>
            .loop t10_b157 [(.sc (.s x7)), (.sc (.sl (.some (.mk a156 0 6 6 3)))), (.sc (.i .i64 (slLen (.some (.mk a156 0 6 6 3))))), (.sc (.i .i64 (0 : Int)))] t10_k157)))))))
            (.al [(.s (.mk (.mk [110]))), (.b (n23 == (0 : Int))), (.b b64), (.s (.mk (.mk [97]))), (.b ((n29 == (0 : Int)) && ((n31 == (0 : Int)) && .true))), (.b (!b66)), (.s (.mk (.mk [112]))), (.b (((Ieee.Format.order (FloatKind.format .f64) a39 0) == (.some .eq)) && ((Ieee.Format.order (FloatKind.format .f64) a40 0) == (.some .eq)))), (.b b68), (.s (.mk (.mk [102]))), (.b (!b47)), (.b .true), (.s (.mk (.mk [98]))), (.b ((ByteArray.toList x50) == (ByteArray.toList (.mk (.mk []))))), (.b .false), (.s (.mk (.mk [114]))), (.b ((slLen o56) == (0 : Int))), (.b .false)] fun a191 =>
            .loop t10_b192 [(.sc (.s x7)), (.sc (.sl (.some (.mk a191 0 6 6 3)))), (.sc (.i .i64 (slLen (.some (.mk a191 0 6 6 3))))), (.sc (.i .i64 (0 : Int)))] t10_k192))))))))))))))))))))))))))))))))))))))))))
theorem t10_eq (n0_0 : Int) (n0_1 : Int) (n0_2 : Int) (n0_3 : Int) (n0_4 : Int) (n0_5 : Int) (n0_6 m0_6 : Nat) (b0_7 : Bool) (x0_8 : ByteArray) (s0_9 : Option SlD) : bodyK T (hs 10) Try.f10 [.ag [.i .i64 n0_0, .i .i64 n0_1, .i .u32 n0_2, .i .i64 n0_3, .i .u32 n0_4, .i .u16 n0_5, .cx .f64 n0_6 m0_6, .b b0_7, .s x0_8, .sl s0_9]] = t10 n0_0 n0_1 n0_2 n0_3 n0_4 n0_5 n0_6 m0_6 b0_7 x0_8 s0_9 := by kernel_rfl
end Go.Proofs.Ytkhooppaenfkdaa
