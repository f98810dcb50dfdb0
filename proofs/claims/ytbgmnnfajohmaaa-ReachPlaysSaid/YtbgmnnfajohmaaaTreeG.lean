/- Trees of functions, printed by a program of mine; each is proved to be the function's. -/
import Derived.Test.YtbgmnnfajohmaaaGen
namespace Go.Proofs.Ytbgmnnfajohmaaa
open Go Go.Proofs.Ytbgmnnfajohmaaa.Fw
set_option linter.unusedVariables false
set_option maxRecDepth 20000
def t7_k131  : Nat → List AV → Tree := fun a173 l174 =>
  .tg a173 0
    (.asL (l174.getD 0 .un) fun o175 =>
    .asB (l174.getD 1 .un) fun b176 =>
    .asP (l174.getD 2 .un) fun o177 =>
    .asP (l174.getD 3 .un) fun o178 =>
    .asI .i64 (l174.getD 4 .un) fun n179 =>
    .asP (l174.getD 5 .un) fun o180 =>
    .nn o180 fun a181 a182 =>
    .asB (l174.getD 6 .un) fun b183 =>
    .asI .u8 (l174.getD 7 .un) fun n184 =>
    .asB (l174.getD 8 .un) fun b185 =>
    .asB (l174.getD 9 .un) fun b186 =>
    .ret 0 [(.sc (.sl o175)), (.sc (.b b176)), (.sc (.p o177)), (.sc (.p o178)), (.sc (.i .i64 n179)), (.sc (.p (.some (a181, a182)))), (.sc (.b b183)), (.sc (.i .u8 n184)), (.sc (.b b185))])
    (.fail)
def t7_k116  : Nat → List AV → Tree := fun a117 l118 =>
  .tg a117 0
    (.asL (l118.getD 0 .un) fun o119 =>
    .asB (l118.getD 1 .un) fun b120 =>
    .asP (l118.getD 2 .un) fun o121 =>
    .asP (l118.getD 3 .un) fun o122 =>
    .asI .i64 (l118.getD 4 .un) fun n123 =>
    .asP (l118.getD 5 .un) fun o124 =>
    .nn o124 fun a125 a126 =>
    .asB (l118.getD 6 .un) fun b127 =>
    .asI .u8 (l118.getD 7 .un) fun n128 =>
    .asB (l118.getD 8 .un) fun b129 =>
    .asB (l118.getD 9 .un) fun b130 =>
    .join (
      cond b130
        (.call 13 [(.sc (.p o121))] fun v132 =>
        .asB v132 fun b133 =>
        .call 22 [(.sc (.p o122))] fun v134 =>
        .asB v134 fun b135 =>
        .ret 0 [(.sc (.sl o119)), (.sc (.b b120)), (.sc (.p o121)), (.sc (.p o122)), (.sc (.i .i64 n123)), (.sc (.p (.some (a125, a126)))), (.sc (.b (b133 == b135))), (.sc (.i .u8 n128)), (.sc (.b b129)), (.sc (.b b130))])
        (cond (n128 == (9 : Int))
          (.ld a125 (a126 + 5) 1 fun l136 =>
          .nth l136 0 fun v137 =>
          .asI .u32 (.sc v137) fun n138 =>
          .br .true
            (cond ((Int.tmod n138 (8 : Int)) == (0 : Int))
              (.call 23 [(.sc (.p o121))] fun v139 =>
              .call 24 [(.sc (.p o122))] fun v140 =>
              .ret 0 [(.sc (.sl o119)), (.sc (.b b120)), (.sc (.p o121)), (.sc (.p o122)), (.sc (.i .i64 n123)), (.sc (.p (.some (a125, a126)))), (.sc (.b b127)), (.sc (.i .u8 n128)), (.sc (.b b129)), (.sc (.b b130))])
              (.ret 0 [(.sc (.sl o119)), (.sc (.b b120)), (.sc (.p o121)), (.sc (.p o122)), (.sc (.i .i64 n123)), (.sc (.p (.some (a125, a126)))), (.sc (.b b127)), (.sc (.i .u8 n128)), (.sc (.b b129)), (.sc (.b b130))]))
            (.fail))
          (.ld a125 (a126 + 1) 1 fun l141 =>
          .nth l141 0 fun v142 =>
          .asI .i64 (.sc v142) fun n143 =>
          .ld a125 (a126 + 2) 2 fun l144 =>
          .nth l144 0 fun v145 =>
          .asI .u32 (.sc v145) fun n146 =>
          .nth l144 1 fun v147 =>
          .asI .u16 (.sc v147) fun n148 =>
          .ld a125 (a126 + 4) 1 fun l149 =>
          .nth l149 0 fun v150 =>
          .asI .u64 (.sc v150) fun n151 =>
          .ld a125 (a126 + 1) 1 fun l152 =>
          .nth l152 0 fun v153 =>
          .asI .i64 (.sc v153) fun n154 =>
          .ld a125 (a126 + 2) 2 fun l155 =>
          .nth l155 0 fun v156 =>
          .asI .u32 (.sc v156) fun n157 =>
          .nth l155 1 fun v158 =>
          .asI .u16 (.sc v158) fun n159 =>
          .ld a125 (a126 + 4) 1 fun l160 =>
          .nth l160 0 fun v161 =>
          .asI .u64 (.sc v161) fun n162 =>
          .call 15 [(.sc (.p o121)), (.sc (.i .i64 n143)), (.ag [(.i .u32 n146), (.i .u16 n148)]), (.sc (.i .u64 n151))] fun v163 =>
          .asI .i64 v163 fun n164 =>
          .same a125 (a126 + 4) [(.i .u64 n162)] (
          .same a125 (a126 + 2) [(.i .u32 n157), (.i .u16 n159)] (
          .same a125 (a126 + 1) [(.i .i64 n154)] (
          .call 26 [(.ag [(.i .u32 n157), (.i .u16 n159)])] fun v165 =>
          .asA 2 v165 fun l166 =>
          .nth l166 0 fun v167 =>
          .asI .u32 (.sc v167) fun n168 =>
          .nth l166 1 fun v169 =>
          .asI .u16 (.sc v169) fun n170 =>
          .same a125 (a126 + 4) [(.i .u64 n162)] (
          .same a125 (a126 + 1) [(.i .i64 n154)] (
          .call 25 [(.sc (.p o122)), (.sc (.i .i64 n154)), (.ag [(.i .u32 n168), (.i .u16 n170)]), (.sc (.i .u64 n162))] fun v171 =>
          .asI .i64 v171 fun n172 =>
          .ret 0 [(.sc (.sl o119)), (.sc (.b b120)), (.sc (.p o121)), (.sc (.p o122)), (.sc (.i .i64 n123)), (.sc (.p (.some (a125, a126)))), (.sc (.b (n164 == n172))), (.sc (.i .u8 n128)), (.sc (.b b129)), (.sc (.b b130))])))))))) t7_k131)
    (.fail)
def t7_b255  : List AV → Tree := fun l256 =>
  .asL (l256.getD 0 .un) fun o257 =>
  .asB (l256.getD 1 .un) fun b258 =>
  .asP (l256.getD 2 .un) fun o259 =>
  .asP (l256.getD 3 .un) fun o260 =>
  .asI .i64 (l256.getD 4 .un) fun n261 =>
  .asL (l256.getD 5 .un) fun o262 =>
  .asI .i64 (l256.getD 6 .un) fun n263 =>
  cond (decide (n263 < (slLen o262)))
    (.ixS 4 o262 n263 fun a264 a265 a266 =>
    .ld a264 ((a265 + (a266 * 4)) + 0) 1 fun l267 =>
    .nth l267 0 fun v268 =>
    .asI .i64 (.sc v268) fun n269 =>
    .nn o260 fun a270 a271 =>
    .ld a270 (a271 + 2) 1 fun l272 =>
    .nth l272 0 fun v273 =>
    .asL (.sc v273) fun o274 =>
    .ixS 4 o274 n263 fun a275 a276 a277 =>
    .ld a275 ((a276 + (a277 * 4)) + 0) 1 fun l278 =>
    .nth l278 0 fun v279 =>
    .asI .i64 (.sc v279) fun n280 =>
    cond (n269 != n280)
      (.ret 1 [(.sc (.b .false))])
      (.ixS 4 o262 n263 fun a281 a282 a283 =>
      .ld a281 ((a282 + (a283 * 4)) + 1) 2 fun l284 =>
      .nth l284 0 fun v285 =>
      .asI .u32 (.sc v285) fun n286 =>
      .nth l284 1 fun v287 =>
      .asI .u16 (.sc v287) fun n288 =>
      .nn o260 fun a289 a290 =>
      .ld a289 (a290 + 2) 1 fun l291 =>
      .nth l291 0 fun v292 =>
      .asL (.sc v292) fun o293 =>
      .ixS 4 o293 n263 fun a294 a295 a296 =>
      .ld a294 ((a295 + (a296 * 4)) + 1) 2 fun l297 =>
      .nth l297 0 fun v298 =>
      .asI .u32 (.sc v298) fun n299 =>
      .nth l297 1 fun v300 =>
      .asI .u16 (.sc v300) fun n301 =>
      .call 26 [(.ag [(.i .u32 n286), (.i .u16 n288)])] fun v302 =>
      .asA 2 v302 fun l303 =>
      .nth l303 0 fun v304 =>
      .asI .u32 (.sc v304) fun n305 =>
      .nth l303 1 fun v306 =>
      .asI .u16 (.sc v306) fun n307 =>
      .same a294 ((a295 + (a296 * 4)) + 1) [(.i .u32 n299), (.i .u16 n301)] (
      .same a289 (a290 + 2) [(.sl o293)] (
      cond (!((n305 == n299) && ((n307 == n301) && .true)))
        (.ret 1 [(.sc (.b .false))])
        (.ixS 4 o262 n263 fun a308 a309 a310 =>
        .ld a308 ((a309 + (a310 * 4)) + 3) 1 fun l311 =>
        .nth l311 0 fun v312 =>
        .asI .u64 (.sc v312) fun n313 =>
        .nn o260 fun a314 a315 =>
        .ld a314 (a315 + 2) 1 fun l316 =>
        .nth l316 0 fun v317 =>
        .asL (.sc v317) fun o318 =>
        .ixS 4 o318 n263 fun a319 a320 a321 =>
        .ld a319 ((a320 + (a321 * 4)) + 3) 1 fun l322 =>
        .nth l322 0 fun v323 =>
        .asI .u64 (.sc v323) fun n324 =>
        cond (n313 != n324)
          (.ret 1 [(.sc (.b .false))])
          (.ret 0 [(.sc (.sl o257)), (.sc (.b b258)), (.sc (.p o259)), (.sc (.p o260)), (.sc (.i .i64 n261)), (.sc (.sl o262)), (.sc (.i .i64 (IntKind.wrap .i64 (n263 + (1 : Int)))))]))))))
    (.ret 8 [(.sc (.sl o257)), (.sc (.b b258)), (.sc (.p o259)), (.sc (.p o260)), (.sc (.i .i64 n261))])
def t7_k255  : Nat → List AV → Tree := fun a325 l326 =>
  .tg a325 8
    (.asL (l326.getD 0 .un) fun o327 =>
    .asB (l326.getD 1 .un) fun b328 =>
    .asP (l326.getD 2 .un) fun o329 =>
    .asP (l326.getD 3 .un) fun o330 =>
    .asI .i64 (l326.getD 4 .un) fun n331 =>
    .ret 0 [(.sc (.sl o327)), (.sc (.b b328)), (.sc (.p o329)), (.sc (.p o330)), (.sc (.i .i64 (IntKind.wrap .i64 (n331 + (1 : Int)))))])
    (.tg a325 1
      (.asB (l326.getD 0 .un) fun b332 =>
      .ret 1 [(.sc (.b b332))])
      (.fail))
def t7_k89  : Nat → List AV → Tree := fun a187 l188 =>
  .tg a187 0
    (.asL (l188.getD 0 .un) fun o189 =>
    .asB (l188.getD 1 .un) fun b190 =>
    .asP (l188.getD 2 .un) fun o191 =>
    .asP (l188.getD 3 .un) fun o192 =>
    .asI .i64 (l188.getD 4 .un) fun n193 =>
    .asP (l188.getD 5 .un) fun o194 =>
    .nn o194 fun a195 a196 =>
    .asB (l188.getD 6 .un) fun b197 =>
    .asI .u8 (l188.getD 7 .un) fun n198 =>
    .asB (l188.getD 8 .un) fun b199 =>
    .ld a195 (a196 + 4) 1 fun l200 =>
    .nth l200 0 fun v201 =>
    .asI .u64 (.sc v201) fun n202 =>
    .call 16 [(.sc (.p o191)), (.sc (.i .u64 n202))] fun v203 =>
    .asT 2 v203 fun l204 =>
    .nthC l204 0 fun v205 =>
    .asA 2 (v205.av) fun l206 =>
    .nth l206 0 fun v207 =>
    .asI .u32 (.sc v207) fun n208 =>
    .nth l206 1 fun v209 =>
    .asI .u16 (.sc v209) fun n210 =>
    .nthC l204 1 fun v211 =>
    .asB (v211.av) fun b212 =>
    .al [(.i .u32 (0 : Int)), (.i .u16 (0 : Int))] fun a213 =>
    .st a213 0 [(.i .u32 n208), (.i .u16 n210)] (
    .ld a195 (a196 + 4) 1 fun l214 =>
    .nth l214 0 fun v215 =>
    .asI .u64 (.sc v215) fun n216 =>
    .call 27 [(.sc (.p o192)), (.sc (.i .u64 n216))] fun v217 =>
    .asT 2 v217 fun l218 =>
    .nthC l218 0 fun v219 =>
    .asA 2 (v219.av) fun l220 =>
    .nth l220 0 fun v221 =>
    .asI .u32 (.sc v221) fun n222 =>
    .nth l220 1 fun v223 =>
    .asI .u16 (.sc v223) fun n224 =>
    .nthC l218 1 fun v225 =>
    .asB (v225.av) fun b226 =>
    .al [(.i .u32 (0 : Int)), (.i .u16 (0 : Int))] fun a227 =>
    .st a227 0 [(.i .u32 n222), (.i .u16 n224)] (
    .call 18 [(.sc (.p o191))] fun v228 =>
    .asL v228 fun o229 =>
    cond (!b197)
      (.ret 1 [(.sc (.b .false))])
      (.ld a213 0 2 fun l230 =>
      .nth l230 0 fun v231 =>
      .asI .u32 (.sc v231) fun n232 =>
      .nth l230 1 fun v233 =>
      .asI .u16 (.sc v233) fun n234 =>
      .ld a227 0 2 fun l235 =>
      .nth l235 0 fun v236 =>
      .asI .u32 (.sc v236) fun n237 =>
      .nth l235 1 fun v238 =>
      .asI .u16 (.sc v238) fun n239 =>
      .call 26 [(.ag [(.i .u32 n232), (.i .u16 n234)])] fun v240 =>
      .asA 2 v240 fun l241 =>
      .nth l241 0 fun v242 =>
      .asI .u32 (.sc v242) fun n243 =>
      .nth l241 1 fun v244 =>
      .asI .u16 (.sc v244) fun n245 =>
      .same a227 0 [(.i .u32 n237), (.i .u16 n239)] (
      cond (!((n243 == n237) && ((n245 == n239) && .true)))
        (.ret 1 [(.sc (.b .false))])
        (cond (!(b212 == b226))
          (.ret 1 [(.sc (.b .false))])
          (.call 14 [(.sc (.p o191))] fun v246 =>
          .asI .i64 v246 fun n247 =>
          .call 28 [(.sc (.p o192))] fun v248 =>
          .asI .i64 v248 fun n249 =>
          cond (n247 != n249)
            (.ret 1 [(.sc (.b .false))])
            (.nn o192 fun a250 a251 =>
            .ld a250 (a251 + 2) 1 fun l252 =>
            .nth l252 0 fun v253 =>
            .asL (.sc v253) fun o254 =>
            cond ((slLen o229) != (slLen o254))
              (.ret 1 [(.sc (.b .false))])
              (.loop t7_b255 [(.sc (.sl o189)), (.sc (.b b190)), (.sc (.p o191)), (.sc (.p o192)), (.sc (.i .i64 n193)), (.sc (.sl o229)), (.sc (.i .i64 (0 : Int)))] t7_k255)))))))))
    (.fail)
def t7_k75  : Nat → List AV → Tree := fun a76 l77 =>
  .tg a76 0
    (.asL (l77.getD 0 .un) fun o78 =>
    .asB (l77.getD 1 .un) fun b79 =>
    .asP (l77.getD 2 .un) fun o80 =>
    .asP (l77.getD 3 .un) fun o81 =>
    .asI .i64 (l77.getD 4 .un) fun n82 =>
    .asP (l77.getD 5 .un) fun o83 =>
    .nn o83 fun a84 a85 =>
    .asB (l77.getD 6 .un) fun b86 =>
    .asI .u8 (l77.getD 7 .un) fun n87 =>
    .asB (l77.getD 8 .un) fun b88 =>
    .join (
      cond b88
        (.ld a84 (a85 + 5) 1 fun l90 =>
        .nth l90 0 fun v91 =>
        .asI .u32 (.sc v91) fun n92 =>
        .ld a84 (a85 + 4) 1 fun l93 =>
        .nth l93 0 fun v94 =>
        .asI .u64 (.sc v94) fun n95 =>
        .ld a84 (a85 + 5) 1 fun l96 =>
        .nth l96 0 fun v97 =>
        .asI .u32 (.sc v97) fun n98 =>
        .ld a84 (a85 + 4) 1 fun l99 =>
        .nth l99 0 fun v100 =>
        .asI .u64 (.sc v100) fun n101 =>
        .call 11 [(.sc (.p o80)), (.sc (.i .u32 n92)), (.sc (.i .u64 n95))] fun v102 =>
        .asI .i64 v102 fun n103 =>
        .same a84 (a85 + 4) [(.i .u64 n101)] (
        .same a84 (a85 + 5) [(.i .u32 n98)] (
        .call 20 [(.sc (.p o81)), (.sc (.i .u32 n98)), (.sc (.i .u64 n101))] fun v104 =>
        .asI .i64 v104 fun n105 =>
        .ret 0 [(.sc (.sl o78)), (.sc (.b b79)), (.sc (.p o80)), (.sc (.p o81)), (.sc (.i .i64 n82)), (.sc (.p (.some (a84, a85)))), (.sc (.b (n103 == n105))), (.sc (.i .u8 n87)), (.sc (.b b88))])))
        (cond (n87 == (6 : Int))
          (.ld a84 (a85 + 5) 1 fun l106 =>
          .nth l106 0 fun v107 =>
          .asI .u32 (.sc v107) fun n108 =>
          .ld a84 (a85 + 5) 1 fun l109 =>
          .nth l109 0 fun v110 =>
          .asI .u32 (.sc v110) fun n111 =>
          .call 12 [(.sc (.p o80)), (.sc (.i .u32 n108))] fun v112 =>
          .asB v112 fun b113 =>
          .same a84 (a85 + 5) [(.i .u32 n111)] (
          .call 21 [(.sc (.p o81)), (.sc (.i .u32 n111))] fun v114 =>
          .asB v114 fun b115 =>
          .ret 0 [(.sc (.sl o78)), (.sc (.b b79)), (.sc (.p o80)), (.sc (.p o81)), (.sc (.i .i64 n82)), (.sc (.p (.some (a84, a85)))), (.sc (.b (b113 == b115))), (.sc (.i .u8 n87)), (.sc (.b b88))]))
          (.join (
            cond (n87 == (7 : Int))
              (.ret 0 [(.sc (.sl o78)), (.sc (.b b79)), (.sc (.p o80)), (.sc (.p o81)), (.sc (.i .i64 n82)), (.sc (.p (.some (a84, a85)))), (.sc (.b b86)), (.sc (.i .u8 n87)), (.sc (.b b88)), (.sc (.b (n87 == (7 : Int))))])
              (.ret 0 [(.sc (.sl o78)), (.sc (.b b79)), (.sc (.p o80)), (.sc (.p o81)), (.sc (.i .i64 n82)), (.sc (.p (.some (a84, a85)))), (.sc (.b b86)), (.sc (.i .u8 n87)), (.sc (.b b88)), (.sc (.b (n87 == (8 : Int))))])) t7_k116))) t7_k89)
    (.fail)
def t7_k46  : Nat → List AV → Tree := fun a62 l63 =>
  .tg a62 0
    (.asL (l63.getD 0 .un) fun o64 =>
    .asB (l63.getD 1 .un) fun b65 =>
    .asP (l63.getD 2 .un) fun o66 =>
    .asP (l63.getD 3 .un) fun o67 =>
    .asI .i64 (l63.getD 4 .un) fun n68 =>
    .asP (l63.getD 5 .un) fun o69 =>
    .nn o69 fun a70 a71 =>
    .ld a70 (a71 + 0) 1 fun l72 =>
    .nth l72 0 fun v73 =>
    .asI .u8 (.sc v73) fun n74 =>
    .br .true
      (.join (
        cond ((Int.tmod n74 (10 : Int)) == (4 : Int))
          (.ret 0 [(.sc (.sl o64)), (.sc (.b b65)), (.sc (.p o66)), (.sc (.p o67)), (.sc (.i .i64 n68)), (.sc (.p (.some (a70, a71)))), (.sc (.b .true)), (.sc (.i .u8 (Int.tmod n74 (10 : Int)))), (.sc (.b ((Int.tmod n74 (10 : Int)) == (4 : Int))))])
          (.ret 0 [(.sc (.sl o64)), (.sc (.b b65)), (.sc (.p o66)), (.sc (.p o67)), (.sc (.i .i64 n68)), (.sc (.p (.some (a70, a71)))), (.sc (.b .true)), (.sc (.i .u8 (Int.tmod n74 (10 : Int)))), (.sc (.b ((Int.tmod n74 (10 : Int)) == (5 : Int))))])) t7_k75)
      (.fail))
    (.fail)
def t7_b17  : List AV → Tree := fun l18 =>
  .asL (l18.getD 0 .un) fun o19 =>
  .asB (l18.getD 1 .un) fun b20 =>
  .asP (l18.getD 2 .un) fun o21 =>
  .asP (l18.getD 3 .un) fun o22 =>
  .asI .i64 (l18.getD 4 .un) fun n23 =>
  cond (decide (n23 < (slLen o19)))
    (cond (decide (n23 < (80 : Int)))
      (.ixS 7 o19 n23 fun a24 a25 a26 =>
      .ld a24 (a25 + (a26 * 7)) 7 fun l27 =>
      .nth l27 0 fun v28 =>
      .asI .u8 (.sc v28) fun n29 =>
      .nth l27 1 fun v30 =>
      .asI .i64 (.sc v30) fun n31 =>
      .nth l27 2 fun v32 =>
      .asI .u32 (.sc v32) fun n33 =>
      .nth l27 3 fun v34 =>
      .asI .u16 (.sc v34) fun n35 =>
      .nth l27 4 fun v36 =>
      .asI .u64 (.sc v36) fun n37 =>
      .nth l27 5 fun v38 =>
      .asI .u32 (.sc v38) fun n39 =>
      .nth l27 6 fun v40 =>
      .asB (.sc v40) fun b41 =>
      .al [(.i .u8 (0 : Int)), (.i .i64 (0 : Int)), (.i .u32 (0 : Int)), (.i .u16 (0 : Int)), (.i .u64 (0 : Int)), (.i .u32 (0 : Int)), (.b .false)] fun a42 =>
      .st a42 0 [(.i .u8 n29), (.i .i64 n31), (.i .u32 n33), (.i .u16 n35), (.i .u64 n37), (.i .u32 n39), (.b b41)] (
      .ld a42 (0 + 6) 1 fun l43 =>
      .nth l43 0 fun v44 =>
      .asB (.sc v44) fun b45 =>
      .join (
        cond b45
          (.ld a42 (0 + 1) 1 fun l47 =>
          .nth l47 0 fun v48 =>
          .asI .i64 (.sc v48) fun n49 =>
          .br .true
            (.st a42 (0 + 1) [(.i .i64 (IntKind.wrap .i64 ((1 : Int) + (IntKind.wrap .i64 (Int.tmod (IntKind.wrap .u64 n49) (6 : Int))))))] (
            .ld a42 ((0 + 2) + 0) 1 fun l50 =>
            .nth l50 0 fun v51 =>
            .asI .u32 (.sc v51) fun n52 =>
            .br .true
              (.ld a42 ((0 + 2) + 1) 1 fun l53 =>
              .nth l53 0 fun v54 =>
              .asI .u16 (.sc v54) fun n55 =>
              .br .true
                (.st a42 (0 + 2) [(.i .u32 (IntKind.wrap .u32 ((1 : Int) + (Int.tmod n52 (3 : Int))))), (.i .u16 (IntKind.wrap .u16 ((1 : Int) + (Int.tmod n55 (2 : Int)))))] (
                .ld a42 (0 + 4) 1 fun l56 =>
                .nth l56 0 fun v57 =>
                .asI .u64 (.sc v57) fun n58 =>
                .br .true
                  (.st a42 (0 + 4) [(.i .u64 (IntKind.wrap .u64 ((IntKind.wrap .u64 n23) + (Int.tmod n58 (5 : Int)))))] (
                  .ld a42 (0 + 5) 1 fun l59 =>
                  .nth l59 0 fun v60 =>
                  .asI .u32 (.sc v60) fun n61 =>
                  .br .true
                    (.st a42 (0 + 5) [(.i .u32 (Int.tmod n61 (3 : Int)))] (
                    .ret 0 [(.sc (.sl o19)), (.sc (.b b20)), (.sc (.p o21)), (.sc (.p o22)), (.sc (.i .i64 n23)), (.sc (.p (.some (a42, 0))))]))
                    (.fail)))
                  (.fail)))
                (.fail))
              (.fail)))
            (.fail))
          (.ret 0 [(.sc (.sl o19)), (.sc (.b b20)), (.sc (.p o21)), (.sc (.p o22)), (.sc (.i .i64 n23)), (.sc (.p (.some (a42, 0))))])) t7_k46))
      (.ret 2 [(.sc (.b b20))]))
    (.ret 2 [(.sc (.b b20))])
def t7_k17  : Nat → List AV → Tree := fun a333 l334 =>
  .tg a333 2
    (.asB (l334.getD 0 .un) fun b335 =>
    .ret 0 [(.sc (.b b335))])
    (.tg a333 1
      (.asB (l334.getD 0 .un) fun b336 =>
      .ret 0 [(.sc (.b b336))])
      (.fail))
def t7_k2  : Nat → List AV → Tree := fun a3 l4 =>
  .tg a3 0
    (.asI .i64 (l4.getD 0 .un) fun n5 =>
    .asI .u64 (l4.getD 1 .un) fun n6 =>
    .asL (l4.getD 2 .un) fun o7 =>
    .asB (l4.getD 3 .un) fun b8 =>
    .call 10 [(.sc (.i .i64 n5)), (.sc (.i .u64 n6))] fun v9 =>
    .asT 2 v9 fun l10 =>
    .nthC l10 0 fun v11 =>
    .asP (v11.av) fun o12 =>
    .nthC l10 1 fun v13 =>
    .asI .i64 (v13.av) fun n14 =>
    .call 19 [(.sc (.i .i64 n5)), (.sc (.i .u64 n6))] fun v15 =>
    .asP v15 fun o16 =>
    cond (Option.isNone o16)
      (cond b8
        (cond (Option.isNone o12)
          (.ret 0 [(.sc (.b (n14 == (1 : Int))))])
          (.ret 0 [(.sc (.b .false))]))
        (.ret 0 [(.sc (.b .false))]))
      (cond (Option.isNone o12)
        (.ret 0 [(.sc (.b .false))])
        (cond (n14 != (0 : Int))
          (.ret 0 [(.sc (.b .false))])
          (.loop t7_b17 [(.sc (.sl o7)), (.sc (.b b8)), (.sc (.p o12)), (.sc (.p o16)), (.sc (.i .i64 (0 : Int)))] t7_k17))))
    (.fail)
/-- scuttlebutt/scuttlebuttlaw16.ReachPlays -/
def t7 (n0_ : Int) (n1_ : Int) (b2_ : Bool) (s3_ : Option SlD) : Tree :=
  .call 9 [] fun v0 =>
  .asB v0 fun b1 =>
  cond (!b1)
    (.ret 0 [(.sc (.b .false))])
    (.join (
      cond b2_
        (.br .true
          (.br .true
            (.ret 0 [(.sc (.i .i64 (IntKind.wrap .i64 ((1 : Int) + (IntKind.wrap .i64 (Int.tmod (IntKind.wrap .u64 n0_) (4 : Int))))))), (.sc (.i .u64 (IntKind.wrap .u64 ((1 : Int) + (Int.tmod n1_ (30 : Int)))))), (.sc (.sl s3_)), (.sc (.b b1))])
            (.fail))
          (.fail))
        (.ret 0 [(.sc (.i .i64 n0_)), (.sc (.i .u64 n1_)), (.sc (.sl s3_)), (.sc (.b b1))])) t7_k2)
theorem t7_eq (n0_ : Int) (n1_ : Int) (b2_ : Bool) (s3_ : Option SlD) : bodyK T (hs 7) Try.f7 [.sc (.i .i64 n0_), .sc (.i .u64 n1_), .sc (.b b2_), .sc (.sl s3_)] = t7 n0_ n1_ b2_ s3_ := by kernel_rfl
end Go.Proofs.Ytbgmnnfajohmaaa
