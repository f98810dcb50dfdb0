/- Trees of functions, printed by a program of mine; each is proved to be the function's. -/
import Derived.Test.YtphhflkpdejodaaGen
namespace Go.Proofs.Ytphhflkpdejodaa
open Go Go.Proofs.Ytphhflkpdejodaa.Fw
set_option linter.unusedVariables false
def t3_b169  : List AV → Tree := fun l170 =>
  .asL (l170.getD 0 .un) fun o171 =>
  .asB (l170.getD 1 .un) fun b172 =>
  .asP (l170.getD 2 .un) fun o173 =>
  .asP (l170.getD 3 .un) fun o174 =>
  .asI .i64 (l170.getD 4 .un) fun n175 =>
  .asL (l170.getD 5 .un) fun o176 =>
  .asI .i64 (l170.getD 6 .un) fun n177 =>
  cond (decide (n177 < (slLen o176)))
    (.ixS 6 o176 n177 fun a178 a179 a180 =>
    .ld a178 ((a179 + (a180 * 6)) + 0) 5 fun l181 =>
    .nth l181 0 fun v182 =>
    .asI .i64 (.sc v182) fun n183 =>
    .nth l181 1 fun v184 =>
    .asI .i64 (.sc v184) fun n185 =>
    .nth l181 2 fun v186 =>
    .asI .u32 (.sc v186) fun n187 =>
    .nth l181 3 fun v188 =>
    .asI .u32 (.sc v188) fun n189 =>
    .nth l181 4 fun v190 =>
    .asI .u16 (.sc v190) fun n191 =>
    .nn o174 fun a192 a193 =>
    .ld a192 (a193 + 0) 1 fun l194 =>
    .nth l194 0 fun v195 =>
    .asL (.sc v195) fun o196 =>
    .ixS 6 o196 n177 fun a197 a198 a199 =>
    .ld a197 ((a198 + (a199 * 6)) + 0) 5 fun l200 =>
    .nth l200 0 fun v201 =>
    .asI .i64 (.sc v201) fun n202 =>
    .nth l200 1 fun v203 =>
    .asI .i64 (.sc v203) fun n204 =>
    .nth l200 2 fun v205 =>
    .asI .u32 (.sc v205) fun n206 =>
    .nth l200 3 fun v207 =>
    .asI .u32 (.sc v207) fun n208 =>
    .nth l200 4 fun v209 =>
    .asI .u16 (.sc v209) fun n210 =>
    .call 20 [(.ag [(.i .i64 n183), (.i .i64 n185), (.i .u32 n187), (.i .u32 n189), (.i .u16 n191)])] fun v211 =>
    .asA 5 v211 fun l212 =>
    .nth l212 0 fun v213 =>
    .asI .i64 (.sc v213) fun n214 =>
    .nth l212 1 fun v215 =>
    .asI .i64 (.sc v215) fun n216 =>
    .nth l212 2 fun v217 =>
    .asI .u32 (.sc v217) fun n218 =>
    .nth l212 3 fun v219 =>
    .asI .u32 (.sc v219) fun n220 =>
    .nth l212 4 fun v221 =>
    .asI .u16 (.sc v221) fun n222 =>
    .same a197 ((a198 + (a199 * 6)) + 0) [(.i .i64 n202), (.i .i64 n204), (.i .u32 n206), (.i .u32 n208), (.i .u16 n210)] (
    .same a192 (a193 + 0) [(.sl o196)] (
    cond (!((n214 == n202) && ((n216 == n204) && ((n218 == n206) && (((n220 == n208) && ((n222 == n210) && .true)) && .true)))))
      (.ret 1 [(.sc (.b .false))])
      (.ixS 6 o176 n177 fun a223 a224 a225 =>
      .ld a223 ((a224 + (a225 * 6)) + 5) 1 fun l226 =>
      .nth l226 0 fun v227 =>
      .asI .i64 (.sc v227) fun n228 =>
      .nn o174 fun a229 a230 =>
      .ld a229 (a230 + 0) 1 fun l231 =>
      .nth l231 0 fun v232 =>
      .asL (.sc v232) fun o233 =>
      .ixS 6 o233 n177 fun a234 a235 a236 =>
      .ld a234 ((a235 + (a236 * 6)) + 5) 1 fun l237 =>
      .nth l237 0 fun v238 =>
      .asI .i64 (.sc v238) fun n239 =>
      cond (n228 != n239)
        (.ret 1 [(.sc (.b .false))])
        (.ret 0 [(.sc (.sl o171)), (.sc (.b b172)), (.sc (.p o173)), (.sc (.p o174)), (.sc (.i .i64 n175)), (.sc (.sl o176)), (.sc (.i .i64 (IntKind.wrap .i64 (n177 + (1 : Int)))))])))))
    (.ret 6 [(.sc (.sl o171)), (.sc (.b b172)), (.sc (.p o173)), (.sc (.p o174)), (.sc (.i .i64 n175))])
def t3_k169  : Nat → List AV → Tree := fun a240 l241 =>
  .tg a240 6
    (.asL (l241.getD 0 .un) fun o242 =>
    .asB (l241.getD 1 .un) fun b243 =>
    .asP (l241.getD 2 .un) fun o244 =>
    .asP (l241.getD 3 .un) fun o245 =>
    .asI .i64 (l241.getD 4 .un) fun n246 =>
    .ret 0 [(.sc (.sl o242)), (.sc (.b b243)), (.sc (.p o244)), (.sc (.p o245)), (.sc (.i .i64 (IntKind.wrap .i64 (n246 + (1 : Int)))))])
    (.tg a240 1
      (.asB (l241.getD 0 .un) fun b247 =>
      .ret 1 [(.sc (.b b247))])
      (.fail))
def t3_k102  : Nat → List AV → Tree := fun a147 l148 =>
  .tg a147 0
    (.asL (l148.getD 0 .un) fun o149 =>
    .asB (l148.getD 1 .un) fun b150 =>
    .asP (l148.getD 2 .un) fun o151 =>
    .asP (l148.getD 3 .un) fun o152 =>
    .asI .i64 (l148.getD 4 .un) fun n153 =>
    .asB (l148.getD 5 .un) fun b154 =>
    .call 21 [(.sc (.p o151))] fun v155 =>
    .asL v155 fun o156 =>
    cond (!b154)
      (.ret 1 [(.sc (.b .false))])
      (.nn o152 fun a157 a158 =>
      .ld a157 (a158 + 0) 1 fun l159 =>
      .nth l159 0 fun v160 =>
      .asL (.sc v160) fun o161 =>
      cond ((slLen o156) != (slLen o161))
        (.ret 1 [(.sc (.b .false))])
        (.nn o152 fun a162 a163 =>
        .ld a162 (a163 + 0) 1 fun l164 =>
        .nth l164 0 fun v165 =>
        .asL (.sc v165) fun o166 =>
        .call 22 [(.sc (.p o151))] fun v167 =>
        .asI .i64 v167 fun n168 =>
        .same a162 (a163 + 0) [(.sl o166)] (
        cond (n168 != (slLen o166))
          (.ret 1 [(.sc (.b .false))])
          (.loop t3_b169 [(.sc (.sl o149)), (.sc (.b b150)), (.sc (.p o151)), (.sc (.p o152)), (.sc (.i .i64 n153)), (.sc (.sl o156)), (.sc (.i .i64 (0 : Int)))] t3_k169)))))
    (.fail)
def t3_k61  : Nat → List AV → Tree := fun a62 l63 =>
  .tg a62 0
    (.asL (l63.getD 0 .un) fun o64 =>
    .asB (l63.getD 1 .un) fun b65 =>
    .asP (l63.getD 2 .un) fun o66 =>
    .asP (l63.getD 3 .un) fun o67 =>
    .asI .i64 (l63.getD 4 .un) fun n68 =>
    .asP (l63.getD 5 .un) fun o69 =>
    .nn o69 fun a70 a71 =>
    .asI .i64 (l63.getD 6 .un) fun n72 =>
    .ld a70 (a71 + 1) 6 fun l73 =>
    .nth l73 0 fun v74 =>
    .asI .i64 (.sc v74) fun n75 =>
    .nth l73 1 fun v76 =>
    .asI .i64 (.sc v76) fun n77 =>
    .nth l73 2 fun v78 =>
    .asI .u32 (.sc v78) fun n79 =>
    .nth l73 3 fun v80 =>
    .asI .u32 (.sc v80) fun n81 =>
    .nth l73 4 fun v82 =>
    .asI .u16 (.sc v82) fun n83 =>
    .nth l73 5 fun v84 =>
    .asB (.sc v84) fun b85 =>
    .call 14 [(.ag [(.i .i64 n75), (.i .i64 n77), (.i .u32 n79), (.i .u32 n81), (.i .u16 n83), (.b b85)])] fun v86 =>
    .asA 5 v86 fun l87 =>
    .nth l87 0 fun v88 =>
    .asI .i64 (.sc v88) fun n89 =>
    .nth l87 1 fun v90 =>
    .asI .i64 (.sc v90) fun n91 =>
    .nth l87 2 fun v92 =>
    .asI .u32 (.sc v92) fun n93 =>
    .nth l87 3 fun v94 =>
    .asI .u32 (.sc v94) fun n95 =>
    .nth l87 4 fun v96 =>
    .asI .u16 (.sc v96) fun n97 =>
    .al [(.i .i64 (0 : Int)), (.i .i64 (0 : Int)), (.i .u32 (0 : Int)), (.i .u32 (0 : Int)), (.i .u16 (0 : Int))] fun a98 =>
    .st a98 0 [(.i .i64 n89), (.i .i64 n91), (.i .u32 n93), (.i .u32 n95), (.i .u16 n97)] (
    .ld a70 (a71 + 0) 1 fun l99 =>
    .nth l99 0 fun v100 =>
    .asI .u8 (.sc v100) fun n101 =>
    .br .true
      (.join (
        cond (decide ((Int.tmod n101 (5 : Int)) > (2 : Int)))
          (.call 16 [(.sc (.p o66)), (.sc (.i .i64 n72))] fun v103 =>
          .asL v103 fun o104 =>
          .call 17 [(.sc (.p o67)), (.sc (.i .i64 n72))] fun v105 =>
          .asL v105 fun o106 =>
          .call 15 [(.sc (.sl o104)), (.sc (.sl o106))] fun v107 =>
          .asB v107 fun b108 =>
          .ret 0 [(.sc (.sl o64)), (.sc (.b b65)), (.sc (.p o66)), (.sc (.p o67)), (.sc (.i .i64 n68)), (.sc (.b b108))])
          (.ld a98 0 5 fun l109 =>
          .nth l109 0 fun v110 =>
          .asI .i64 (.sc v110) fun n111 =>
          .nth l109 1 fun v112 =>
          .asI .i64 (.sc v112) fun n113 =>
          .nth l109 2 fun v114 =>
          .asI .u32 (.sc v114) fun n115 =>
          .nth l109 3 fun v116 =>
          .asI .u32 (.sc v116) fun n117 =>
          .nth l109 4 fun v118 =>
          .asI .u16 (.sc v118) fun n119 =>
          .ld a98 0 5 fun l120 =>
          .nth l120 0 fun v121 =>
          .asI .i64 (.sc v121) fun n122 =>
          .nth l120 1 fun v123 =>
          .asI .i64 (.sc v123) fun n124 =>
          .nth l120 2 fun v125 =>
          .asI .u32 (.sc v125) fun n126 =>
          .nth l120 3 fun v127 =>
          .asI .u32 (.sc v127) fun n128 =>
          .nth l120 4 fun v129 =>
          .asI .u16 (.sc v129) fun n130 =>
          .call 18 [(.sc (.p o66)), (.ag [(.i .i64 n111), (.i .i64 n113), (.i .u32 n115), (.i .u32 n117), (.i .u16 n119)]), (.sc (.i .i64 n72))] fun v131 =>
          .asI .i64 v131 fun n132 =>
          .same a98 0 [(.i .i64 n122), (.i .i64 n124), (.i .u32 n126), (.i .u32 n128), (.i .u16 n130)] (
          .call 20 [(.ag [(.i .i64 n122), (.i .i64 n124), (.i .u32 n126), (.i .u32 n128), (.i .u16 n130)])] fun v133 =>
          .asA 5 v133 fun l134 =>
          .nth l134 0 fun v135 =>
          .asI .i64 (.sc v135) fun n136 =>
          .nth l134 1 fun v137 =>
          .asI .i64 (.sc v137) fun n138 =>
          .nth l134 2 fun v139 =>
          .asI .u32 (.sc v139) fun n140 =>
          .nth l134 3 fun v141 =>
          .asI .u32 (.sc v141) fun n142 =>
          .nth l134 4 fun v143 =>
          .asI .u16 (.sc v143) fun n144 =>
          .call 19 [(.sc (.p o67)), (.ag [(.i .i64 n136), (.i .i64 n138), (.i .u32 n140), (.i .u32 n142), (.i .u16 n144)]), (.sc (.i .i64 n72))] fun v145 =>
          .asI .i64 v145 fun n146 =>
          .ret 0 [(.sc (.sl o64)), (.sc (.b b65)), (.sc (.p o66)), (.sc (.p o67)), (.sc (.i .i64 n68)), (.sc (.b (n132 == n146)))]))) t3_k102)
      (.fail)))
    (.fail)
def t3_b25  : List AV → Tree := fun l26 =>
  .asL (l26.getD 0 .un) fun o27 =>
  .asB (l26.getD 1 .un) fun b28 =>
  .asP (l26.getD 2 .un) fun o29 =>
  .asP (l26.getD 3 .un) fun o30 =>
  .asI .i64 (l26.getD 4 .un) fun n31 =>
  cond (decide (n31 < (slLen o27)))
    (cond (decide (n31 < (80 : Int)))
      (.ixS 9 o27 n31 fun a32 a33 a34 =>
      .ld a32 (a33 + (a34 * 9)) 9 fun l35 =>
      .nth l35 0 fun v36 =>
      .asI .u8 (.sc v36) fun n37 =>
      .nth l35 1 fun v38 =>
      .asI .i64 (.sc v38) fun n39 =>
      .nth l35 2 fun v40 =>
      .asI .i64 (.sc v40) fun n41 =>
      .nth l35 3 fun v42 =>
      .asI .u32 (.sc v42) fun n43 =>
      .nth l35 4 fun v44 =>
      .asI .u32 (.sc v44) fun n45 =>
      .nth l35 5 fun v46 =>
      .asI .u16 (.sc v46) fun n47 =>
      .nth l35 6 fun v48 =>
      .asB (.sc v48) fun b49 =>
      .nth l35 7 fun v50 =>
      .asI .i64 (.sc v50) fun n51 =>
      .nth l35 8 fun v52 =>
      .asB (.sc v52) fun b53 =>
      .al [(.i .u8 (0 : Int)), (.i .i64 (0 : Int)), (.i .i64 (0 : Int)), (.i .u32 (0 : Int)), (.i .u32 (0 : Int)), (.i .u16 (0 : Int)), (.b .false), (.i .i64 (0 : Int)), (.b .false)] fun a54 =>
      .st a54 0 [(.i .u8 n37), (.i .i64 n39), (.i .i64 n41), (.i .u32 n43), (.i .u32 n45), (.i .u16 n47), (.b b49), (.i .i64 n51), (.b b53)] (
      .ld a54 (0 + 7) 1 fun l55 =>
      .nth l55 0 fun v56 =>
      .asI .i64 (.sc v56) fun n57 =>
      .ld a54 (0 + 8) 1 fun l58 =>
      .nth l58 0 fun v59 =>
      .asB (.sc v59) fun b60 =>
      .join (
        cond b60
          (.br .true
            (.ret 0 [(.sc (.sl o27)), (.sc (.b b28)), (.sc (.p o29)), (.sc (.p o30)), (.sc (.i .i64 n31)), (.sc (.p (.some (a54, 0)))), (.sc (.i .i64 (Int.tmod n57 (7 : Int))))])
            (.fail))
          (.ret 0 [(.sc (.sl o27)), (.sc (.b b28)), (.sc (.p o29)), (.sc (.p o30)), (.sc (.i .i64 n31)), (.sc (.p (.some (a54, 0)))), (.sc (.i .i64 n57))])) t3_k61))
      (.ret 2 [(.sc (.b b28))]))
    (.ret 2 [(.sc (.b b28))])
def t3_k25  : Nat → List AV → Tree := fun a248 l249 =>
  .tg a248 2
    (.asB (l249.getD 0 .un) fun b250 =>
    .ret 0 [(.sc (.b b250))])
    (.tg a248 1
      (.asB (l249.getD 0 .un) fun b251 =>
      .ret 0 [(.sc (.b b251))])
      (.fail))
def t3_k2  : Nat → List AV → Tree := fun a3 l4 =>
  .tg a3 0
    (.asI .i64 (l4.getD 0 .un) fun n5 =>
    .asL (l4.getD 1 .un) fun o6 =>
    .asI .i64 (l4.getD 2 .un) fun n7 =>
    .asB (l4.getD 3 .un) fun b8 =>
    .call 10 [(.sc (.i .i64 n5))] fun v9 =>
    .asT 2 v9 fun l10 =>
    .nthC l10 0 fun v11 =>
    .asP (v11.av) fun o12 =>
    .nthC l10 1 fun v13 =>
    .asI .i64 (v13.av) fun n14 =>
    .call 11 [(.sc (.i .i64 n5))] fun v15 =>
    .asP v15 fun o16 =>
    .call 12 [(.sc (.i .i64 n7))] fun v17 =>
    .asI .i64 v17 fun n18 =>
    .call 13 [(.sc (.i .i64 n7))] fun v19 =>
    .asI .i64 v19 fun n20 =>
    cond (n18 != n20)
      (.ret 0 [(.sc (.b .false))])
      (.br .true
        (.call 12 [(.sc (.i .i64 (Int.tmod n7 (50 : Int))))] fun v21 =>
        .asI .i64 v21 fun n22 =>
        .br .true
          (.call 13 [(.sc (.i .i64 (Int.tmod n7 (50 : Int))))] fun v23 =>
          .asI .i64 v23 fun n24 =>
          cond (n22 != n24)
            (.ret 0 [(.sc (.b .false))])
            (cond (Option.isNone o16)
              (cond b8
                (cond (Option.isNone o12)
                  (.ret 0 [(.sc (.b (n14 == (1 : Int))))])
                  (.ret 0 [(.sc (.b .false))]))
                (.ret 0 [(.sc (.b .false))]))
              (cond (Option.isNone o12)
                (.ret 0 [(.sc (.b .false))])
                (cond (n14 != (0 : Int))
                  (.ret 0 [(.sc (.b .false))])
                  (.loop t3_b25 [(.sc (.sl o6)), (.sc (.b b8)), (.sc (.p o12)), (.sc (.p o16)), (.sc (.i .i64 (0 : Int)))] t3_k25)))))
          (.fail))
        (.fail)))
    (.fail)
/-- scuttlebutt/scuttlebuttlaw12.QueuePlays -/
def t3 (n0_ : Int) (b1_ : Bool) (s2_ : Option SlD) (n3_ : Int) : Tree :=
  .call 9 [] fun v0 =>
  .asB v0 fun b1 =>
  cond (!b1)
    (.ret 0 [(.sc (.b .false))])
    (.join (
      cond b1_
        (.br .true
          (.ret 0 [(.sc (.i .i64 (IntKind.wrap .i64 ((1 : Int) + (IntKind.wrap .i64 (Int.tmod (IntKind.wrap .u64 n0_) (8 : Int))))))), (.sc (.sl s2_)), (.sc (.i .i64 n3_)), (.sc (.b b1))])
          (.fail))
        (.ret 0 [(.sc (.i .i64 n0_)), (.sc (.sl s2_)), (.sc (.i .i64 n3_)), (.sc (.b b1))])) t3_k2)
theorem t3_eq (n0_ : Int) (b1_ : Bool) (s2_ : Option SlD) (n3_ : Int) : bodyK T (hs 3) Try.f3 [.sc (.i .i64 n0_), .sc (.b b1_), .sc (.sl s2_), .sc (.i .i64 n3_)] = t3 n0_ b1_ s2_ n3_ := by kernel_rfl
end Go.Proofs.Ytphhflkpdejodaa
