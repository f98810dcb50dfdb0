/- Trees of functions, printed by a program of mine; each is proved to be the function's. -/
import Derived.Test.YtloiifcocgpnbaaGen
namespace Go.Proofs.Ytloiifcocgpnbaa
open Go Go.Proofs.Ytloiifcocgpnbaa.Fw
set_option linter.unusedVariables false
set_option maxRecDepth 20000
def t7_k95  : Nat → List AV → Tree := fun a96 l97 =>
  .tg a96 0
    (.asL (l97.getD 0 .un) fun o98 =>
    .asB (l97.getD 1 .un) fun b99 =>
    .asP (l97.getD 2 .un) fun o100 =>
    .asP (l97.getD 3 .un) fun o101 =>
    .asI .u64 (l97.getD 4 .un) fun n102 =>
    .asI .i64 (l97.getD 5 .un) fun n103 =>
    .asP (l97.getD 6 .un) fun o104 =>
    .nn o104 fun a105 a106 =>
    .asI .u64 (l97.getD 7 .un) fun n107 =>
    .asB (l97.getD 8 .un) fun b108 =>
    .asI .u8 (l97.getD 9 .un) fun n109 =>
    .asB (l97.getD 10 .un) fun b110 =>
    .ret 0 [(.sc (.sl o98)), (.sc (.b b99)), (.sc (.p o100)), (.sc (.p o101)), (.sc (.i .u64 n102)), (.sc (.i .i64 n103)), (.sc (.p (.some (a105, a106)))), (.sc (.i .u64 n107)), (.sc (.b b108)), (.sc (.i .u8 n109)), (.sc (.b b110))])
    (.fail)
def t7_k94  : Nat → List AV → Tree := fun a111 l112 =>
  .tg a111 0
    (.asL (l112.getD 0 .un) fun o113 =>
    .asB (l112.getD 1 .un) fun b114 =>
    .asP (l112.getD 2 .un) fun o115 =>
    .asP (l112.getD 3 .un) fun o116 =>
    .asI .u64 (l112.getD 4 .un) fun n117 =>
    .asI .i64 (l112.getD 5 .un) fun n118 =>
    .asP (l112.getD 6 .un) fun o119 =>
    .nn o119 fun a120 a121 =>
    .asI .u64 (l112.getD 7 .un) fun n122 =>
    .asB (l112.getD 8 .un) fun b123 =>
    .asI .u8 (l112.getD 9 .un) fun n124 =>
    .asB (l112.getD 10 .un) fun b125 =>
    .ret 0 [(.sc (.sl o113)), (.sc (.b b114)), (.sc (.p o115)), (.sc (.p o116)), (.sc (.i .u64 n117)), (.sc (.i .i64 n118)), (.sc (.p (.some (a120, a121)))), (.sc (.i .u64 n122)), (.sc (.b b123)), (.sc (.i .u8 n124)), (.sc (.b b125))])
    (.fail)
def t7_k148  : Nat → List AV → Tree := fun a152 l153 =>
  .tg a152 0
    (.asL (l153.getD 0 .un) fun o154 =>
    .asB (l153.getD 1 .un) fun b155 =>
    .asP (l153.getD 2 .un) fun o156 =>
    .asP (l153.getD 3 .un) fun o157 =>
    .asI .u64 (l153.getD 4 .un) fun n158 =>
    .asI .i64 (l153.getD 5 .un) fun n159 =>
    .asP (l153.getD 6 .un) fun o160 =>
    .nn o160 fun a161 a162 =>
    .asI .u64 (l153.getD 7 .un) fun n163 =>
    .asI .u16 (l153.getD 8 .un) fun n164 =>
    .asI .u8 (l153.getD 9 .un) fun n165 =>
    .asB (l153.getD 10 .un) fun b166 =>
    .ld a161 a162 8 fun l167 =>
    .nth l167 0 fun v168 =>
    .asI .u8 (.sc v168) fun n169 =>
    .nth l167 1 fun v170 =>
    .asI .u8 (.sc v170) fun n171 =>
    .nth l167 2 fun v172 =>
    .asI .u8 (.sc v172) fun n173 =>
    .nth l167 3 fun v174 =>
    .asI .u8 (.sc v174) fun n175 =>
    .nth l167 4 fun v176 =>
    .asI .u8 (.sc v176) fun n177 =>
    .nth l167 5 fun v178 =>
    .asI .u32 (.sc v178) fun n179 =>
    .nth l167 6 fun v180 =>
    .asI .u16 (.sc v180) fun n181 =>
    .nth l167 7 fun v182 =>
    .asI .u64 (.sc v182) fun n183 =>
    .call 14 [(.ag [(.i .u8 n169), (.i .u8 n171), (.i .u8 n173), (.i .u8 n175), (.i .u8 n177), (.i .u32 n179), (.i .u16 n181), (.i .u64 n183)])] fun v184 =>
    .asA 2 v184 fun l185 =>
    .nth l185 0 fun v186 =>
    .asI .u32 (.sc v186) fun n187 =>
    .nth l185 1 fun v188 =>
    .asI .u16 (.sc v188) fun n189 =>
    .call 15 [(.sc (.p o156)), (.sc (.i .u64 n163)), (.sc (.i .u16 n164)), (.ag [(.i .u32 n187), (.i .u16 n189)])] fun v190 =>
    .asT 2 v190 fun l191 =>
    .nthC l191 0 fun v192 =>
    .asA 2 (v192.av) fun l193 =>
    .nth l193 0 fun v194 =>
    .asI .u32 (.sc v194) fun n195 =>
    .nth l193 1 fun v196 =>
    .asI .u16 (.sc v196) fun n197 =>
    .nthC l191 1 fun v198 =>
    .asI .i64 (v198.av) fun n199 =>
    .al [(.i .u32 (0 : Int)), (.i .u16 (0 : Int))] fun a200 =>
    .st a200 0 [(.i .u32 n195), (.i .u16 n197)] (
    .ld a161 a162 8 fun l201 =>
    .nth l201 0 fun v202 =>
    .asI .u8 (.sc v202) fun n203 =>
    .nth l201 1 fun v204 =>
    .asI .u8 (.sc v204) fun n205 =>
    .nth l201 2 fun v206 =>
    .asI .u8 (.sc v206) fun n207 =>
    .nth l201 3 fun v208 =>
    .asI .u8 (.sc v208) fun n209 =>
    .nth l201 4 fun v210 =>
    .asI .u8 (.sc v210) fun n211 =>
    .nth l201 5 fun v212 =>
    .asI .u32 (.sc v212) fun n213 =>
    .nth l201 6 fun v214 =>
    .asI .u16 (.sc v214) fun n215 =>
    .nth l201 7 fun v216 =>
    .asI .u64 (.sc v216) fun n217 =>
    .call 14 [(.ag [(.i .u8 n203), (.i .u8 n205), (.i .u8 n207), (.i .u8 n209), (.i .u8 n211), (.i .u32 n213), (.i .u16 n215), (.i .u64 n217)])] fun v218 =>
    .asA 2 v218 fun l219 =>
    .nth l219 0 fun v220 =>
    .asI .u32 (.sc v220) fun n221 =>
    .nth l219 1 fun v222 =>
    .asI .u16 (.sc v222) fun n223 =>
    .call 23 [(.ag [(.i .u32 n221), (.i .u16 n223)])] fun v224 =>
    .asA 2 v224 fun l225 =>
    .nth l225 0 fun v226 =>
    .asI .u32 (.sc v226) fun n227 =>
    .nth l225 1 fun v228 =>
    .asI .u16 (.sc v228) fun n229 =>
    .call 22 [(.sc (.p o157)), (.sc (.i .u64 n163)), (.sc (.i .u16 n164)), (.ag [(.i .u32 n227), (.i .u16 n229)])] fun v230 =>
    .asT 2 v230 fun l231 =>
    .nthC l231 0 fun v232 =>
    .asA 2 (v232.av) fun l233 =>
    .nth l233 0 fun v234 =>
    .asI .u32 (.sc v234) fun n235 =>
    .nth l233 1 fun v236 =>
    .asI .u16 (.sc v236) fun n237 =>
    .nthC l231 1 fun v238 =>
    .asI .i64 (v238.av) fun n239 =>
    .al [(.i .u32 (0 : Int)), (.i .u16 (0 : Int))] fun a240 =>
    .st a240 0 [(.i .u32 n235), (.i .u16 n237)] (
    .ld a200 0 2 fun l241 =>
    .nth l241 0 fun v242 =>
    .asI .u32 (.sc v242) fun n243 =>
    .nth l241 1 fun v244 =>
    .asI .u16 (.sc v244) fun n245 =>
    .ld a240 0 2 fun l246 =>
    .nth l246 0 fun v247 =>
    .asI .u32 (.sc v247) fun n248 =>
    .nth l246 1 fun v249 =>
    .asI .u16 (.sc v249) fun n250 =>
    .call 23 [(.ag [(.i .u32 n243), (.i .u16 n245)])] fun v251 =>
    .asA 2 v251 fun l252 =>
    .nth l252 0 fun v253 =>
    .asI .u32 (.sc v253) fun n254 =>
    .nth l252 1 fun v255 =>
    .asI .u16 (.sc v255) fun n256 =>
    .same a240 0 [(.i .u32 n248), (.i .u16 n250)] (
    cond ((n254 == n248) && ((n256 == n250) && .true))
      (.ret 0 [(.sc (.sl o154)), (.sc (.b b155)), (.sc (.p o156)), (.sc (.p o157)), (.sc (.i .u64 n158)), (.sc (.i .i64 n159)), (.sc (.p (.some (a161, a162)))), (.sc (.i .u64 n163)), (.sc (.b (n199 == n239))), (.sc (.i .u8 n165)), (.sc (.b b166))])
      (.ret 0 [(.sc (.sl o154)), (.sc (.b b155)), (.sc (.p o156)), (.sc (.p o157)), (.sc (.i .u64 n158)), (.sc (.i .i64 n159)), (.sc (.p (.some (a161, a162)))), (.sc (.i .u64 n163)), (.sc (.b .false)), (.sc (.i .u8 n165)), (.sc (.b b166))])))))
    (.fail)
def t7_k141  : Nat → List AV → Tree := fun a416 l417 =>
  .tg a416 0
    (.asL (l417.getD 0 .un) fun o418 =>
    .asB (l417.getD 1 .un) fun b419 =>
    .asP (l417.getD 2 .un) fun o420 =>
    .asP (l417.getD 3 .un) fun o421 =>
    .asI .u64 (l417.getD 4 .un) fun n422 =>
    .asI .i64 (l417.getD 5 .un) fun n423 =>
    .asP (l417.getD 6 .un) fun o424 =>
    .nn o424 fun a425 a426 =>
    .asI .u64 (l417.getD 7 .un) fun n427 =>
    .asB (l417.getD 8 .un) fun b428 =>
    .asI .u8 (l417.getD 9 .un) fun n429 =>
    .asB (l417.getD 10 .un) fun b430 =>
    .call 27 [(.sc (.p o420)), (.sc (.p o421))] fun v431 =>
    .asB v431 fun b432 =>
    cond (!b428)
      (.ret 1 [(.sc (.b .false))])
      (cond (!b432)
        (.ret 1 [(.sc (.b .false))])
        (.ret 0 [(.sc (.sl o418)), (.sc (.b b419)), (.sc (.p o420)), (.sc (.p o421)), (.sc (.i .u64 n422)), (.sc (.i .i64 (IntKind.wrap .i64 (n423 + (1 : Int)))))])))
    (.fail)
def t7_k93  : Nat → List AV → Tree := fun a126 l127 =>
  .tg a126 0
    (.asL (l127.getD 0 .un) fun o128 =>
    .asB (l127.getD 1 .un) fun b129 =>
    .asP (l127.getD 2 .un) fun o130 =>
    .asP (l127.getD 3 .un) fun o131 =>
    .asI .u64 (l127.getD 4 .un) fun n132 =>
    .asI .i64 (l127.getD 5 .un) fun n133 =>
    .asP (l127.getD 6 .un) fun o134 =>
    .nn o134 fun a135 a136 =>
    .asI .u64 (l127.getD 7 .un) fun n137 =>
    .asB (l127.getD 8 .un) fun b138 =>
    .asI .u8 (l127.getD 9 .un) fun n139 =>
    .asB (l127.getD 10 .un) fun b140 =>
    .join (
      cond b140
        (.ld a135 (a136 + 3) 1 fun l142 =>
        .nth l142 0 fun v143 =>
        .asI .u8 (.sc v143) fun n144 =>
        .br .true
          (.ld a135 (a136 + 3) 1 fun l145 =>
          .nth l145 0 fun v146 =>
          .asI .u8 (.sc v146) fun n147 =>
          .join (
            cond (decide (n147 > (250 : Int)))
              (.ld a135 (a136 + 7) 1 fun l149 =>
              .nth l149 0 fun v150 =>
              .asI .u64 (.sc v150) fun n151 =>
              .ret 0 [(.sc (.sl o128)), (.sc (.b b129)), (.sc (.p o130)), (.sc (.p o131)), (.sc (.i .u64 n132)), (.sc (.i .i64 n133)), (.sc (.p (.some (a135, a136)))), (.sc (.i .u64 n137)), (.sc (.i .u16 (IntKind.wrap .u16 n151))), (.sc (.i .u8 n139)), (.sc (.b b140))])
              (.ret 0 [(.sc (.sl o128)), (.sc (.b b129)), (.sc (.p o130)), (.sc (.p o131)), (.sc (.i .u64 n132)), (.sc (.i .i64 n133)), (.sc (.p (.some (a135, a136)))), (.sc (.i .u64 n137)), (.sc (.i .u16 (IntKind.wrap .u16 ((20000 : Int) + (IntKind.wrap .u16 (Int.tmod n144 (8 : Int))))))), (.sc (.i .u8 n139)), (.sc (.b b140))])) t7_k148)
          (.fail))
        (cond (n139 == (9 : Int))
          (.call 17 [(.sc (.p o130)), (.sc (.i .u64 n137))] fun v257 =>
          .asI .i64 v257 fun n258 =>
          .call 24 [(.sc (.p o131)), (.sc (.i .u64 n137))] fun v259 =>
          .asI .i64 v259 fun n260 =>
          .ret 0 [(.sc (.sl o128)), (.sc (.b b129)), (.sc (.p o130)), (.sc (.p o131)), (.sc (.i .u64 n132)), (.sc (.i .i64 n133)), (.sc (.p (.some (a135, a136)))), (.sc (.i .u64 n137)), (.sc (.b (n258 == n260))), (.sc (.i .u8 n139)), (.sc (.b b140))])
          (cond (n139 == (10 : Int))
            (.ld a135 (a136 + 1) 1 fun l261 =>
            .nth l261 0 fun v262 =>
            .asI .u8 (.sc v262) fun n263 =>
            .br .true
              (cond ((Int.tmod n263 (8 : Int)) == (0 : Int))
                (.ld a135 (a136 + 3) 1 fun l264 =>
                .nth l264 0 fun v265 =>
                .asI .u8 (.sc v265) fun n266 =>
                .br .true
                  (.ld a135 (a136 + 3) 1 fun l267 =>
                  .nth l267 0 fun v268 =>
                  .asI .u8 (.sc v268) fun n269 =>
                  .br .true
                    (.call 19 [(.sc (.p o130)), (.sc (.i .u32 (IntKind.wrap .u32 (Int.tmod n266 (4 : Int)))))] fun v270 =>
                    .asI .i64 v270 fun n271 =>
                    .same a135 (a136 + 3) [(.i .u8 n269)] (
                    .call 25 [(.sc (.p o131)), (.sc (.i .u32 (IntKind.wrap .u32 (Int.tmod n269 (4 : Int)))))] fun v272 =>
                    .asI .i64 v272 fun n273 =>
                    .ret 0 [(.sc (.sl o128)), (.sc (.b b129)), (.sc (.p o130)), (.sc (.p o131)), (.sc (.i .u64 n132)), (.sc (.i .i64 n133)), (.sc (.p (.some (a135, a136)))), (.sc (.i .u64 n137)), (.sc (.b (n271 == n273))), (.sc (.i .u8 n139)), (.sc (.b b140))]))
                    (.fail))
                  (.fail))
                (.ret 0 [(.sc (.sl o128)), (.sc (.b b129)), (.sc (.p o130)), (.sc (.p o131)), (.sc (.i .u64 n132)), (.sc (.i .i64 n133)), (.sc (.p (.some (a135, a136)))), (.sc (.i .u64 n137)), (.sc (.b b138)), (.sc (.i .u8 n139)), (.sc (.b b140))]))
              (.fail))
            (.ld a135 a136 8 fun l274 =>
            .nth l274 0 fun v275 =>
            .asI .u8 (.sc v275) fun n276 =>
            .nth l274 1 fun v277 =>
            .asI .u8 (.sc v277) fun n278 =>
            .nth l274 2 fun v279 =>
            .asI .u8 (.sc v279) fun n280 =>
            .nth l274 3 fun v281 =>
            .asI .u8 (.sc v281) fun n282 =>
            .nth l274 4 fun v283 =>
            .asI .u8 (.sc v283) fun n284 =>
            .nth l274 5 fun v285 =>
            .asI .u32 (.sc v285) fun n286 =>
            .nth l274 6 fun v287 =>
            .asI .u16 (.sc v287) fun n288 =>
            .nth l274 7 fun v289 =>
            .asI .u64 (.sc v289) fun n290 =>
            .ld a135 a136 8 fun l291 =>
            .nth l291 0 fun v292 =>
            .asI .u8 (.sc v292) fun n293 =>
            .nth l291 1 fun v294 =>
            .asI .u8 (.sc v294) fun n295 =>
            .nth l291 2 fun v296 =>
            .asI .u8 (.sc v296) fun n297 =>
            .nth l291 3 fun v298 =>
            .asI .u8 (.sc v298) fun n299 =>
            .nth l291 4 fun v300 =>
            .asI .u8 (.sc v300) fun n301 =>
            .nth l291 5 fun v302 =>
            .asI .u32 (.sc v302) fun n303 =>
            .nth l291 6 fun v304 =>
            .asI .u16 (.sc v304) fun n305 =>
            .nth l291 7 fun v306 =>
            .asI .u64 (.sc v306) fun n307 =>
            .al [(.i .u32 (0 : Int)), (.i .u16 (0 : Int))] fun a308 =>
            .call 13 [(.ag [(.i .u8 n276), (.i .u8 n278), (.i .u8 n280), (.i .u8 n282), (.i .u8 n284), (.i .u32 n286), (.i .u16 n288), (.i .u64 n290)])] fun v309 =>
            .asA 2 v309 fun l310 =>
            .nth l310 0 fun v311 =>
            .asI .u32 (.sc v311) fun n312 =>
            .nth l310 1 fun v313 =>
            .asI .u16 (.sc v313) fun n314 =>
            .same a135 a136 [(.i .u8 n293), (.i .u8 n295), (.i .u8 n297), (.i .u8 n299), (.i .u8 n301), (.i .u32 n303), (.i .u16 n305), (.i .u64 n307)] (
            .call 14 [(.ag [(.i .u8 n293), (.i .u8 n295), (.i .u8 n297), (.i .u8 n299), (.i .u8 n301), (.i .u32 n303), (.i .u16 n305), (.i .u64 n307)])] fun v315 =>
            .asA 2 v315 fun l316 =>
            .nth l316 0 fun v317 =>
            .asI .u32 (.sc v317) fun n318 =>
            .nth l316 1 fun v319 =>
            .asI .u16 (.sc v319) fun n320 =>
            .call 12 [(.sc (.p o130)), (.sc (.i .u64 n137)), (.ag [(.i .u32 n312), (.i .u16 n314)]), (.ag [(.i .u32 n318), (.i .u16 n320)])] fun v321 =>
            .asT 2 v321 fun l322 =>
            .nthC l322 0 fun v323 =>
            .asA 2 (v323.av) fun l324 =>
            .nth l324 0 fun v325 =>
            .asI .u32 (.sc v325) fun n326 =>
            .nth l324 1 fun v327 =>
            .asI .u16 (.sc v327) fun n328 =>
            .nthC l322 1 fun v329 =>
            .asI .i64 (v329.av) fun n330 =>
            .st a308 0 [(.i .u32 n326), (.i .u16 n328)] (
            .ld a135 a136 8 fun l331 =>
            .nth l331 0 fun v332 =>
            .asI .u8 (.sc v332) fun n333 =>
            .nth l331 1 fun v334 =>
            .asI .u8 (.sc v334) fun n335 =>
            .nth l331 2 fun v336 =>
            .asI .u8 (.sc v336) fun n337 =>
            .nth l331 3 fun v338 =>
            .asI .u8 (.sc v338) fun n339 =>
            .nth l331 4 fun v340 =>
            .asI .u8 (.sc v340) fun n341 =>
            .nth l331 5 fun v342 =>
            .asI .u32 (.sc v342) fun n343 =>
            .nth l331 6 fun v344 =>
            .asI .u16 (.sc v344) fun n345 =>
            .nth l331 7 fun v346 =>
            .asI .u64 (.sc v346) fun n347 =>
            .ld a135 a136 8 fun l348 =>
            .nth l348 0 fun v349 =>
            .asI .u8 (.sc v349) fun n350 =>
            .nth l348 1 fun v351 =>
            .asI .u8 (.sc v351) fun n352 =>
            .nth l348 2 fun v353 =>
            .asI .u8 (.sc v353) fun n354 =>
            .nth l348 3 fun v355 =>
            .asI .u8 (.sc v355) fun n356 =>
            .nth l348 4 fun v357 =>
            .asI .u8 (.sc v357) fun n358 =>
            .nth l348 5 fun v359 =>
            .asI .u32 (.sc v359) fun n360 =>
            .nth l348 6 fun v361 =>
            .asI .u16 (.sc v361) fun n362 =>
            .nth l348 7 fun v363 =>
            .asI .u64 (.sc v363) fun n364 =>
            .al [(.i .u32 (0 : Int)), (.i .u16 (0 : Int))] fun a365 =>
            .call 13 [(.ag [(.i .u8 n333), (.i .u8 n335), (.i .u8 n337), (.i .u8 n339), (.i .u8 n341), (.i .u32 n343), (.i .u16 n345), (.i .u64 n347)])] fun v366 =>
            .asA 2 v366 fun l367 =>
            .nth l367 0 fun v368 =>
            .asI .u32 (.sc v368) fun n369 =>
            .nth l367 1 fun v370 =>
            .asI .u16 (.sc v370) fun n371 =>
            .same a135 a136 [(.i .u8 n350), (.i .u8 n352), (.i .u8 n354), (.i .u8 n356), (.i .u8 n358), (.i .u32 n360), (.i .u16 n362), (.i .u64 n364)] (
            .call 23 [(.ag [(.i .u32 n369), (.i .u16 n371)])] fun v372 =>
            .asA 2 v372 fun l373 =>
            .nth l373 0 fun v374 =>
            .asI .u32 (.sc v374) fun n375 =>
            .nth l373 1 fun v376 =>
            .asI .u16 (.sc v376) fun n377 =>
            .same a135 a136 [(.i .u8 n350), (.i .u8 n352), (.i .u8 n354), (.i .u8 n356), (.i .u8 n358), (.i .u32 n360), (.i .u16 n362), (.i .u64 n364)] (
            .call 14 [(.ag [(.i .u8 n350), (.i .u8 n352), (.i .u8 n354), (.i .u8 n356), (.i .u8 n358), (.i .u32 n360), (.i .u16 n362), (.i .u64 n364)])] fun v378 =>
            .asA 2 v378 fun l379 =>
            .nth l379 0 fun v380 =>
            .asI .u32 (.sc v380) fun n381 =>
            .nth l379 1 fun v382 =>
            .asI .u16 (.sc v382) fun n383 =>
            .call 23 [(.ag [(.i .u32 n381), (.i .u16 n383)])] fun v384 =>
            .asA 2 v384 fun l385 =>
            .nth l385 0 fun v386 =>
            .asI .u32 (.sc v386) fun n387 =>
            .nth l385 1 fun v388 =>
            .asI .u16 (.sc v388) fun n389 =>
            .call 26 [(.sc (.p o131)), (.sc (.i .u64 n137)), (.ag [(.i .u32 n375), (.i .u16 n377)]), (.ag [(.i .u32 n387), (.i .u16 n389)])] fun v390 =>
            .asT 2 v390 fun l391 =>
            .nthC l391 0 fun v392 =>
            .asA 2 (v392.av) fun l393 =>
            .nth l393 0 fun v394 =>
            .asI .u32 (.sc v394) fun n395 =>
            .nth l393 1 fun v396 =>
            .asI .u16 (.sc v396) fun n397 =>
            .nthC l391 1 fun v398 =>
            .asI .i64 (v398.av) fun n399 =>
            .st a365 0 [(.i .u32 n395), (.i .u16 n397)] (
            .ld a308 0 2 fun l400 =>
            .nth l400 0 fun v401 =>
            .asI .u32 (.sc v401) fun n402 =>
            .nth l400 1 fun v403 =>
            .asI .u16 (.sc v403) fun n404 =>
            .ld a365 0 2 fun l405 =>
            .nth l405 0 fun v406 =>
            .asI .u32 (.sc v406) fun n407 =>
            .nth l405 1 fun v408 =>
            .asI .u16 (.sc v408) fun n409 =>
            .call 23 [(.ag [(.i .u32 n402), (.i .u16 n404)])] fun v410 =>
            .asA 2 v410 fun l411 =>
            .nth l411 0 fun v412 =>
            .asI .u32 (.sc v412) fun n413 =>
            .nth l411 1 fun v414 =>
            .asI .u16 (.sc v414) fun n415 =>
            .same a365 0 [(.i .u32 n407), (.i .u16 n409)] (
            cond ((n413 == n407) && ((n415 == n409) && .true))
              (.ret 0 [(.sc (.sl o128)), (.sc (.b b129)), (.sc (.p o130)), (.sc (.p o131)), (.sc (.i .u64 n132)), (.sc (.i .i64 n133)), (.sc (.p (.some (a135, a136)))), (.sc (.i .u64 n137)), (.sc (.b (n330 == n399))), (.sc (.i .u8 n139)), (.sc (.b b140))])
              (.ret 0 [(.sc (.sl o128)), (.sc (.b b129)), (.sc (.p o130)), (.sc (.p o131)), (.sc (.i .u64 n132)), (.sc (.i .i64 n133)), (.sc (.p (.some (a135, a136)))), (.sc (.i .u64 n137)), (.sc (.b .false)), (.sc (.i .u8 n139)), (.sc (.b b140))]))))))))))) t7_k141)
    (.fail)
def t7_k74  : Nat → List AV → Tree := fun a78 l79 =>
  .tg a78 0
    (.asL (l79.getD 0 .un) fun o80 =>
    .asB (l79.getD 1 .un) fun b81 =>
    .asP (l79.getD 2 .un) fun o82 =>
    .asP (l79.getD 3 .un) fun o83 =>
    .asI .u64 (l79.getD 4 .un) fun n84 =>
    .asI .i64 (l79.getD 5 .un) fun n85 =>
    .asP (l79.getD 6 .un) fun o86 =>
    .nn o86 fun a87 a88 =>
    .asI .u64 (l79.getD 7 .un) fun n89 =>
    .ld a87 (a88 + 0) 1 fun l90 =>
    .nth l90 0 fun v91 =>
    .asI .u8 (.sc v91) fun n92 =>
    .br .true
      (.join (
        cond ((Int.tmod n92 (11 : Int)) == (5 : Int))
          (.ret 0 [(.sc (.sl o80)), (.sc (.b b81)), (.sc (.p o82)), (.sc (.p o83)), (.sc (.i .u64 n84)), (.sc (.i .i64 n85)), (.sc (.p (.some (a87, a88)))), (.sc (.i .u64 n89)), (.sc (.b .true)), (.sc (.i .u8 (Int.tmod n92 (11 : Int)))), (.sc (.b ((Int.tmod n92 (11 : Int)) == (5 : Int))))])
          (.join (
            cond ((Int.tmod n92 (11 : Int)) == (6 : Int))
              (.ret 0 [(.sc (.sl o80)), (.sc (.b b81)), (.sc (.p o82)), (.sc (.p o83)), (.sc (.i .u64 n84)), (.sc (.i .i64 n85)), (.sc (.p (.some (a87, a88)))), (.sc (.i .u64 n89)), (.sc (.b .true)), (.sc (.i .u8 (Int.tmod n92 (11 : Int)))), (.sc (.b ((Int.tmod n92 (11 : Int)) == (6 : Int))))])
              (.join (
                cond ((Int.tmod n92 (11 : Int)) == (7 : Int))
                  (.ret 0 [(.sc (.sl o80)), (.sc (.b b81)), (.sc (.p o82)), (.sc (.p o83)), (.sc (.i .u64 n84)), (.sc (.i .i64 n85)), (.sc (.p (.some (a87, a88)))), (.sc (.i .u64 n89)), (.sc (.b .true)), (.sc (.i .u8 (Int.tmod n92 (11 : Int)))), (.sc (.b ((Int.tmod n92 (11 : Int)) == (7 : Int))))])
                  (.ret 0 [(.sc (.sl o80)), (.sc (.b b81)), (.sc (.p o82)), (.sc (.p o83)), (.sc (.i .u64 n84)), (.sc (.i .i64 n85)), (.sc (.p (.some (a87, a88)))), (.sc (.i .u64 n89)), (.sc (.b .true)), (.sc (.i .u8 (Int.tmod n92 (11 : Int)))), (.sc (.b ((Int.tmod n92 (11 : Int)) == (8 : Int))))])) t7_k95)) t7_k94)) t7_k93)
      (.fail))
    (.fail)
def t7_b39  : List AV → Tree := fun l40 =>
  .asL (l40.getD 0 .un) fun o41 =>
  .asB (l40.getD 1 .un) fun b42 =>
  .asP (l40.getD 2 .un) fun o43 =>
  .asP (l40.getD 3 .un) fun o44 =>
  .asI .u64 (l40.getD 4 .un) fun n45 =>
  .asI .i64 (l40.getD 5 .un) fun n46 =>
  cond (decide (n46 < (slLen o41)))
    (cond (decide (n46 < (80 : Int)))
      (.ixS 8 o41 n46 fun a47 a48 a49 =>
      .ld a47 (a48 + (a49 * 8)) 8 fun l50 =>
      .nth l50 0 fun v51 =>
      .asI .u8 (.sc v51) fun n52 =>
      .nth l50 1 fun v53 =>
      .asI .u8 (.sc v53) fun n54 =>
      .nth l50 2 fun v55 =>
      .asI .u8 (.sc v55) fun n56 =>
      .nth l50 3 fun v57 =>
      .asI .u8 (.sc v57) fun n58 =>
      .nth l50 4 fun v59 =>
      .asI .u8 (.sc v59) fun n60 =>
      .nth l50 5 fun v61 =>
      .asI .u32 (.sc v61) fun n62 =>
      .nth l50 6 fun v63 =>
      .asI .u16 (.sc v63) fun n64 =>
      .nth l50 7 fun v65 =>
      .asI .u64 (.sc v65) fun n66 =>
      .al [(.i .u8 (0 : Int)), (.i .u8 (0 : Int)), (.i .u8 (0 : Int)), (.i .u8 (0 : Int)), (.i .u8 (0 : Int)), (.i .u32 (0 : Int)), (.i .u16 (0 : Int)), (.i .u64 (0 : Int))] fun a67 =>
      .st a67 0 [(.i .u8 n52), (.i .u8 n54), (.i .u8 n56), (.i .u8 n58), (.i .u8 n60), (.i .u32 n62), (.i .u16 n64), (.i .u64 n66)] (
      .ld a67 (0 + 4) 1 fun l68 =>
      .nth l68 0 fun v69 =>
      .asI .u8 (.sc v69) fun n70 =>
      .br .true
        (.ld a67 (0 + 4) 1 fun l71 =>
        .nth l71 0 fun v72 =>
        .asI .u8 (.sc v72) fun n73 =>
        .join (
          cond (decide (n73 > (252 : Int)))
            (.ld a67 (0 + 7) 1 fun l75 =>
            .nth l75 0 fun v76 =>
            .asI .u64 (.sc v76) fun n77 =>
            .ret 0 [(.sc (.sl o41)), (.sc (.b b42)), (.sc (.p o43)), (.sc (.p o44)), (.sc (.i .u64 (IntKind.wrap .u64 (n45 + (IntKind.wrap .u64 (Int.tmod n70 (8 : Int))))))), (.sc (.i .i64 n46)), (.sc (.p (.some (a67, 0)))), (.sc (.i .u64 n77))])
            (.ret 0 [(.sc (.sl o41)), (.sc (.b b42)), (.sc (.p o43)), (.sc (.p o44)), (.sc (.i .u64 (IntKind.wrap .u64 (n45 + (IntKind.wrap .u64 (Int.tmod n70 (8 : Int))))))), (.sc (.i .i64 n46)), (.sc (.p (.some (a67, 0)))), (.sc (.i .u64 (IntKind.wrap .u64 (n45 + (IntKind.wrap .u64 (Int.tmod n70 (8 : Int)))))))])) t7_k74)
        (.fail)))
      (.ret 2 [(.sc (.b b42))]))
    (.ret 2 [(.sc (.b b42))])
def t7_k39  : Nat → List AV → Tree := fun a433 l434 =>
  .tg a433 2
    (.asB (l434.getD 0 .un) fun b435 =>
    .ret 0 [(.sc (.b b435))])
    (.tg a433 1
      (.asB (l434.getD 0 .un) fun b436 =>
      .ret 0 [(.sc (.b b436))])
      (.fail))
def t7_k3  : Nat → List AV → Tree := fun a10 l11 =>
  .tg a10 0
    (.asI .u32 (l11.getD 0 .un) fun n12 =>
    .asI .u64 (l11.getD 1 .un) fun n13 =>
    .asI .i64 (l11.getD 2 .un) fun n14 =>
    .asL (l11.getD 3 .un) fun o15 =>
    .asP (l11.getD 4 .un) fun o16 =>
    .nn o16 fun a17 a18 =>
    .asB (l11.getD 5 .un) fun b19 =>
    .ld a17 a18 2 fun l20 =>
    .nth l20 0 fun v21 =>
    .asI .i64 (.sc v21) fun n22 =>
    .nth l20 1 fun v23 =>
    .asI .i64 (.sc v23) fun n24 =>
    .call 11 [(.ag [(.i .i64 n22), (.i .i64 n24)]), (.sc (.i .u32 n12)), (.sc (.i .u64 n13)), (.sc (.i .i64 n14))] fun v25 =>
    .asT 2 v25 fun l26 =>
    .nthC l26 0 fun v27 =>
    .asP (v27.av) fun o28 =>
    .nthC l26 1 fun v29 =>
    .asI .i64 (v29.av) fun n30 =>
    .ld a17 (a18 + 0) 1 fun l31 =>
    .nth l31 0 fun v32 =>
    .asI .i64 (.sc v32) fun n33 =>
    .ld a17 (a18 + 1) 1 fun l34 =>
    .nth l34 0 fun v35 =>
    .asI .i64 (.sc v35) fun n36 =>
    .call 21 [(.ag [(.i .i64 n33), (.i .i64 n36)]), (.sc (.i .u32 n12)), (.sc (.i .u64 n13)), (.sc (.i .i64 n14))] fun v37 =>
    .asP v37 fun o38 =>
    cond (Option.isNone o38)
      (cond b19
        (cond (Option.isNone o28)
          (.ret 0 [(.sc (.b (n30 == (1 : Int))))])
          (.ret 0 [(.sc (.b .false))]))
        (.ret 0 [(.sc (.b .false))]))
      (cond (Option.isNone o28)
        (.ret 0 [(.sc (.b .false))])
        (cond (n30 != (0 : Int))
          (.ret 0 [(.sc (.b .false))])
          (.loop t7_b39 [(.sc (.sl o15)), (.sc (.b b19)), (.sc (.p o28)), (.sc (.p o38)), (.sc (.i .u64 (0 : Int))), (.sc (.i .i64 (0 : Int)))] t7_k39))))
    (.fail)
/-- scuttlebutt/scuttlebuttlaw08.NatboxPlays -/
def t7 (n0_0 : Int) (n0_1 : Int) (n1_ : Int) (n2_ : Int) (n3_ : Int) (b4_ : Bool) (s5_ : Option SlD) : Tree :=
  .al [(.i .i64 n0_0), (.i .i64 n0_1)] fun a0 =>
  .call 10 [] fun v1 =>
  .asB v1 fun b2 =>
  cond (!b2)
    (.ret 0 [(.sc (.b .false))])
    (.join (
      cond b4_
        (.ld a0 (0 + 0) 1 fun l4 =>
        .nth l4 0 fun v5 =>
        .asI .i64 (.sc v5) fun n6 =>
        .br .true
          (.ld a0 (0 + 1) 1 fun l7 =>
          .nth l7 0 fun v8 =>
          .asI .i64 (.sc v8) fun n9 =>
          .br .true
            (.st a0 0 [(.i .i64 (IntKind.wrap .i64 (Int.tmod (IntKind.wrap .u64 n6) (3 : Int)))), (.i .i64 (IntKind.wrap .i64 (Int.tmod (IntKind.wrap .u64 n9) (3 : Int))))] (
            .br .true
              (.br .true
                (.br .true
                  (.ret 0 [(.sc (.i .u32 (IntKind.wrap .u32 ((Int.tmod n1_ (9 : Int)) + (1 : Int))))), (.sc (.i .u64 (IntKind.wrap .u64 ((1 : Int) + (Int.tmod n2_ (30 : Int)))))), (.sc (.i .i64 (IntKind.wrap .i64 ((1 : Int) + (IntKind.wrap .i64 (Int.tmod (IntKind.wrap .u64 n3_) (6 : Int))))))), (.sc (.sl s5_)), (.sc (.p (.some (a0, 0)))), (.sc (.b b2))])
                  (.fail))
                (.fail))
              (.fail)))
            (.fail))
          (.fail))
        (.ret 0 [(.sc (.i .u32 n1_)), (.sc (.i .u64 n2_)), (.sc (.i .i64 n3_)), (.sc (.sl s5_)), (.sc (.p (.some (a0, 0)))), (.sc (.b b2))])) t7_k3)
theorem t7_eq (n0_0 : Int) (n0_1 : Int) (n1_ : Int) (n2_ : Int) (n3_ : Int) (b4_ : Bool) (s5_ : Option SlD) : bodyK T (hs 7) Try.f7 [.ag [.i .i64 n0_0, .i .i64 n0_1], .sc (.i .u32 n1_), .sc (.i .u64 n2_), .sc (.i .i64 n3_), .sc (.b b4_), .sc (.sl s5_)] = t7 n0_0 n0_1 n1_ n2_ n3_ b4_ s5_ := by kernel_rfl
end Go.Proofs.Ytloiifcocgpnbaa
