/- Trees of functions, printed by a program of mine; each is proved to be the function's. -/
import Derived.Test.YtbgmnnfajohmaaaGen
namespace Go.Proofs.Ytbgmnnfajohmaaa
open Go Go.Proofs.Ytbgmnnfajohmaaa.Fw
set_option linter.unusedVariables false
def t5_k55  : Nat → List AV → Tree := fun a61 l62 =>
  .tg a61 0
    (.asP (l62.getD 0 .un) fun o63 =>
    .nn o63 fun a64 a65 =>
    .asP (l62.getD 1 .un) fun o66 =>
    .nn o66 fun a67 a68 =>
    .asB (l62.getD 2 .un) fun b69 =>
    .asP (l62.getD 3 .un) fun o70 =>
    .asB (l62.getD 4 .un) fun b71 =>
    .asI .i64 (l62.getD 5 .un) fun n72 =>
    .asI .i64 (l62.getD 6 .un) fun n73 =>
    .asP (l62.getD 7 .un) fun o74 =>
    .nn o74 fun a75 a76 =>
    .asB (l62.getD 8 .un) fun b77 =>
    .asP (l62.getD 9 .un) fun o78 =>
    .nn o78 fun a79 a80 =>
    .asB (l62.getD 10 .un) fun b81 =>
    cond b69
      (cond b71
        (.ld a64 a65 2 fun l82 =>
        .nth l82 0 fun v83 =>
        .asI .u32 (.sc v83) fun n84 =>
        .nth l82 1 fun v85 =>
        .asI .u16 (.sc v85) fun n86 =>
        .call 17 [(.ag [(.i .u32 n84), (.i .u16 n86)])] fun v87 =>
        .asB v87 fun b88 =>
        cond ((n72 == (0 : Int)) == (!b88))
          (cond b71
            (.ld a67 a68 2 fun l89 =>
            .nth l89 0 fun v90 =>
            .asI .u32 (.sc v90) fun n91 =>
            .nth l89 1 fun v92 =>
            .asI .u16 (.sc v92) fun n93 =>
            .call 17 [(.ag [(.i .u32 n91), (.i .u16 n93)])] fun v94 =>
            .asB v94 fun b95 =>
            cond ((n73 == (0 : Int)) == (!b95))
              (cond (b77 == b81)
                (cond (!b77)
                  (.call 18 [(.sc (.p o70))] fun v96 =>
                  .asL v96 fun o97 =>
                  .ret 0 [(.sc (.b (((slLen o97) == (1 : Int)) == b81)))])
                  (.ld a75 a76 2 fun l98 =>
                  .nth l98 0 fun v99 =>
                  .asI .u32 (.sc v99) fun n100 =>
                  .nth l98 1 fun v101 =>
                  .asI .u16 (.sc v101) fun n102 =>
                  .ld a79 a80 2 fun l103 =>
                  .nth l103 0 fun v104 =>
                  .asI .u32 (.sc v104) fun n105 =>
                  .nth l103 1 fun v106 =>
                  .asI .u16 (.sc v106) fun n107 =>
                  cond ((n100 == n105) && ((n102 == n107) && .true))
                    (.call 18 [(.sc (.p o70))] fun v108 =>
                    .asL v108 fun o109 =>
                    .ret 0 [(.sc (.b (((slLen o109) == (1 : Int)) == b81)))])
                    (.ret 0 [(.sc (.b .false))])))
                (.ret 0 [(.sc (.b .false))]))
              (.ret 0 [(.sc (.b .false))]))
            (cond ((n73 == (0 : Int)) == .false)
              (cond (b77 == b81)
                (cond (!b77)
                  (.call 18 [(.sc (.p o70))] fun v110 =>
                  .asL v110 fun o111 =>
                  .ret 0 [(.sc (.b (((slLen o111) == (1 : Int)) == b81)))])
                  (.ld a75 a76 2 fun l112 =>
                  .nth l112 0 fun v113 =>
                  .asI .u32 (.sc v113) fun n114 =>
                  .nth l112 1 fun v115 =>
                  .asI .u16 (.sc v115) fun n116 =>
                  .ld a79 a80 2 fun l117 =>
                  .nth l117 0 fun v118 =>
                  .asI .u32 (.sc v118) fun n119 =>
                  .nth l117 1 fun v120 =>
                  .asI .u16 (.sc v120) fun n121 =>
                  cond ((n114 == n119) && ((n116 == n121) && .true))
                    (.call 18 [(.sc (.p o70))] fun v122 =>
                    .asL v122 fun o123 =>
                    .ret 0 [(.sc (.b (((slLen o123) == (1 : Int)) == b81)))])
                    (.ret 0 [(.sc (.b .false))])))
                (.ret 0 [(.sc (.b .false))]))
              (.ret 0 [(.sc (.b .false))])))
          (.ret 0 [(.sc (.b .false))]))
        (cond ((n72 == (0 : Int)) == .false)
          (cond b71
            (.ld a67 a68 2 fun l124 =>
            .nth l124 0 fun v125 =>
            .asI .u32 (.sc v125) fun n126 =>
            .nth l124 1 fun v127 =>
            .asI .u16 (.sc v127) fun n128 =>
            .call 17 [(.ag [(.i .u32 n126), (.i .u16 n128)])] fun v129 =>
            .asB v129 fun b130 =>
            cond ((n73 == (0 : Int)) == (!b130))
              (cond (b77 == b81)
                (cond (!b77)
                  (.call 18 [(.sc (.p o70))] fun v131 =>
                  .asL v131 fun o132 =>
                  .ret 0 [(.sc (.b (((slLen o132) == (1 : Int)) == b81)))])
                  (.ld a75 a76 2 fun l133 =>
                  .nth l133 0 fun v134 =>
                  .asI .u32 (.sc v134) fun n135 =>
                  .nth l133 1 fun v136 =>
                  .asI .u16 (.sc v136) fun n137 =>
                  .ld a79 a80 2 fun l138 =>
                  .nth l138 0 fun v139 =>
                  .asI .u32 (.sc v139) fun n140 =>
                  .nth l138 1 fun v141 =>
                  .asI .u16 (.sc v141) fun n142 =>
                  cond ((n135 == n140) && ((n137 == n142) && .true))
                    (.call 18 [(.sc (.p o70))] fun v143 =>
                    .asL v143 fun o144 =>
                    .ret 0 [(.sc (.b (((slLen o144) == (1 : Int)) == b81)))])
                    (.ret 0 [(.sc (.b .false))])))
                (.ret 0 [(.sc (.b .false))]))
              (.ret 0 [(.sc (.b .false))]))
            (cond ((n73 == (0 : Int)) == .false)
              (cond (b77 == b81)
                (cond (!b77)
                  (.call 18 [(.sc (.p o70))] fun v145 =>
                  .asL v145 fun o146 =>
                  .ret 0 [(.sc (.b (((slLen o146) == (1 : Int)) == b81)))])
                  (.ld a75 a76 2 fun l147 =>
                  .nth l147 0 fun v148 =>
                  .asI .u32 (.sc v148) fun n149 =>
                  .nth l147 1 fun v150 =>
                  .asI .u16 (.sc v150) fun n151 =>
                  .ld a79 a80 2 fun l152 =>
                  .nth l152 0 fun v153 =>
                  .asI .u32 (.sc v153) fun n154 =>
                  .nth l152 1 fun v155 =>
                  .asI .u16 (.sc v155) fun n156 =>
                  cond ((n149 == n154) && ((n151 == n156) && .true))
                    (.call 18 [(.sc (.p o70))] fun v157 =>
                    .asL v157 fun o158 =>
                    .ret 0 [(.sc (.b (((slLen o158) == (1 : Int)) == b81)))])
                    (.ret 0 [(.sc (.b .false))])))
                (.ret 0 [(.sc (.b .false))]))
              (.ret 0 [(.sc (.b .false))])))
          (.ret 0 [(.sc (.b .false))])))
      (.ret 0 [(.sc (.b .false))]))
    (.fail)
def t5_k159  : Nat → List AV → Tree := fun a160 l161 =>
  .tg a160 0
    (.asP (l161.getD 0 .un) fun o162 =>
    .nn o162 fun a163 a164 =>
    .asP (l161.getD 1 .un) fun o165 =>
    .nn o165 fun a166 a167 =>
    .asB (l161.getD 2 .un) fun b168 =>
    .asP (l161.getD 3 .un) fun o169 =>
    .asB (l161.getD 4 .un) fun b170 =>
    .asI .i64 (l161.getD 5 .un) fun n171 =>
    .asI .i64 (l161.getD 6 .un) fun n172 =>
    .asP (l161.getD 7 .un) fun o173 =>
    .nn o173 fun a174 a175 =>
    .asB (l161.getD 8 .un) fun b176 =>
    .asP (l161.getD 9 .un) fun o177 =>
    .nn o177 fun a178 a179 =>
    .asB (l161.getD 10 .un) fun b180 =>
    cond b168
      (cond b170
        (.ld a163 a164 2 fun l181 =>
        .nth l181 0 fun v182 =>
        .asI .u32 (.sc v182) fun n183 =>
        .nth l181 1 fun v184 =>
        .asI .u16 (.sc v184) fun n185 =>
        .call 17 [(.ag [(.i .u32 n183), (.i .u16 n185)])] fun v186 =>
        .asB v186 fun b187 =>
        cond ((n171 == (0 : Int)) == (!b187))
          (cond b170
            (.ld a166 a167 2 fun l188 =>
            .nth l188 0 fun v189 =>
            .asI .u32 (.sc v189) fun n190 =>
            .nth l188 1 fun v191 =>
            .asI .u16 (.sc v191) fun n192 =>
            .call 17 [(.ag [(.i .u32 n190), (.i .u16 n192)])] fun v193 =>
            .asB v193 fun b194 =>
            cond ((n172 == (0 : Int)) == (!b194))
              (cond (b176 == b180)
                (cond (!b176)
                  (.call 18 [(.sc (.p o169))] fun v195 =>
                  .asL v195 fun o196 =>
                  .ret 0 [(.sc (.b (((slLen o196) == (1 : Int)) == b180)))])
                  (.ld a174 a175 2 fun l197 =>
                  .nth l197 0 fun v198 =>
                  .asI .u32 (.sc v198) fun n199 =>
                  .nth l197 1 fun v200 =>
                  .asI .u16 (.sc v200) fun n201 =>
                  .ld a178 a179 2 fun l202 =>
                  .nth l202 0 fun v203 =>
                  .asI .u32 (.sc v203) fun n204 =>
                  .nth l202 1 fun v205 =>
                  .asI .u16 (.sc v205) fun n206 =>
                  cond ((n199 == n204) && ((n201 == n206) && .true))
                    (.call 18 [(.sc (.p o169))] fun v207 =>
                    .asL v207 fun o208 =>
                    .ret 0 [(.sc (.b (((slLen o208) == (1 : Int)) == b180)))])
                    (.ret 0 [(.sc (.b .false))])))
                (.ret 0 [(.sc (.b .false))]))
              (.ret 0 [(.sc (.b .false))]))
            (cond ((n172 == (0 : Int)) == .false)
              (cond (b176 == b180)
                (cond (!b176)
                  (.call 18 [(.sc (.p o169))] fun v209 =>
                  .asL v209 fun o210 =>
                  .ret 0 [(.sc (.b (((slLen o210) == (1 : Int)) == b180)))])
                  (.ld a174 a175 2 fun l211 =>
                  .nth l211 0 fun v212 =>
                  .asI .u32 (.sc v212) fun n213 =>
                  .nth l211 1 fun v214 =>
                  .asI .u16 (.sc v214) fun n215 =>
                  .ld a178 a179 2 fun l216 =>
                  .nth l216 0 fun v217 =>
                  .asI .u32 (.sc v217) fun n218 =>
                  .nth l216 1 fun v219 =>
                  .asI .u16 (.sc v219) fun n220 =>
                  cond ((n213 == n218) && ((n215 == n220) && .true))
                    (.call 18 [(.sc (.p o169))] fun v221 =>
                    .asL v221 fun o222 =>
                    .ret 0 [(.sc (.b (((slLen o222) == (1 : Int)) == b180)))])
                    (.ret 0 [(.sc (.b .false))])))
                (.ret 0 [(.sc (.b .false))]))
              (.ret 0 [(.sc (.b .false))])))
          (.ret 0 [(.sc (.b .false))]))
        (cond ((n171 == (0 : Int)) == .false)
          (cond b170
            (.ld a166 a167 2 fun l223 =>
            .nth l223 0 fun v224 =>
            .asI .u32 (.sc v224) fun n225 =>
            .nth l223 1 fun v226 =>
            .asI .u16 (.sc v226) fun n227 =>
            .call 17 [(.ag [(.i .u32 n225), (.i .u16 n227)])] fun v228 =>
            .asB v228 fun b229 =>
            cond ((n172 == (0 : Int)) == (!b229))
              (cond (b176 == b180)
                (cond (!b176)
                  (.call 18 [(.sc (.p o169))] fun v230 =>
                  .asL v230 fun o231 =>
                  .ret 0 [(.sc (.b (((slLen o231) == (1 : Int)) == b180)))])
                  (.ld a174 a175 2 fun l232 =>
                  .nth l232 0 fun v233 =>
                  .asI .u32 (.sc v233) fun n234 =>
                  .nth l232 1 fun v235 =>
                  .asI .u16 (.sc v235) fun n236 =>
                  .ld a178 a179 2 fun l237 =>
                  .nth l237 0 fun v238 =>
                  .asI .u32 (.sc v238) fun n239 =>
                  .nth l237 1 fun v240 =>
                  .asI .u16 (.sc v240) fun n241 =>
                  cond ((n234 == n239) && ((n236 == n241) && .true))
                    (.call 18 [(.sc (.p o169))] fun v242 =>
                    .asL v242 fun o243 =>
                    .ret 0 [(.sc (.b (((slLen o243) == (1 : Int)) == b180)))])
                    (.ret 0 [(.sc (.b .false))])))
                (.ret 0 [(.sc (.b .false))]))
              (.ret 0 [(.sc (.b .false))]))
            (cond ((n172 == (0 : Int)) == .false)
              (cond (b176 == b180)
                (cond (!b176)
                  (.call 18 [(.sc (.p o169))] fun v244 =>
                  .asL v244 fun o245 =>
                  .ret 0 [(.sc (.b (((slLen o245) == (1 : Int)) == b180)))])
                  (.ld a174 a175 2 fun l246 =>
                  .nth l246 0 fun v247 =>
                  .asI .u32 (.sc v247) fun n248 =>
                  .nth l246 1 fun v249 =>
                  .asI .u16 (.sc v249) fun n250 =>
                  .ld a178 a179 2 fun l251 =>
                  .nth l251 0 fun v252 =>
                  .asI .u32 (.sc v252) fun n253 =>
                  .nth l251 1 fun v254 =>
                  .asI .u16 (.sc v254) fun n255 =>
                  cond ((n248 == n253) && ((n250 == n255) && .true))
                    (.call 18 [(.sc (.p o169))] fun v256 =>
                    .asL v256 fun o257 =>
                    .ret 0 [(.sc (.b (((slLen o257) == (1 : Int)) == b180)))])
                    (.ret 0 [(.sc (.b .false))])))
                (.ret 0 [(.sc (.b .false))]))
              (.ret 0 [(.sc (.b .false))])))
          (.ret 0 [(.sc (.b .false))])))
      (.ret 0 [(.sc (.b .false))]))
    (.fail)
def t5_k265  : Nat → List AV → Tree := fun a271 l272 =>
  .tg a271 0
    (.asP (l272.getD 0 .un) fun o273 =>
    .nn o273 fun a274 a275 =>
    .asP (l272.getD 1 .un) fun o276 =>
    .nn o276 fun a277 a278 =>
    .asB (l272.getD 2 .un) fun b279 =>
    .asP (l272.getD 3 .un) fun o280 =>
    .asB (l272.getD 4 .un) fun b281 =>
    .asI .i64 (l272.getD 5 .un) fun n282 =>
    .asI .i64 (l272.getD 6 .un) fun n283 =>
    .asP (l272.getD 7 .un) fun o284 =>
    .nn o284 fun a285 a286 =>
    .asB (l272.getD 8 .un) fun b287 =>
    .asP (l272.getD 9 .un) fun o288 =>
    .nn o288 fun a289 a290 =>
    .asB (l272.getD 10 .un) fun b291 =>
    cond b279
      (cond b281
        (.ld a274 a275 2 fun l292 =>
        .nth l292 0 fun v293 =>
        .asI .u32 (.sc v293) fun n294 =>
        .nth l292 1 fun v295 =>
        .asI .u16 (.sc v295) fun n296 =>
        .call 17 [(.ag [(.i .u32 n294), (.i .u16 n296)])] fun v297 =>
        .asB v297 fun b298 =>
        cond ((n282 == (0 : Int)) == (!b298))
          (cond b281
            (.ld a277 a278 2 fun l299 =>
            .nth l299 0 fun v300 =>
            .asI .u32 (.sc v300) fun n301 =>
            .nth l299 1 fun v302 =>
            .asI .u16 (.sc v302) fun n303 =>
            .call 17 [(.ag [(.i .u32 n301), (.i .u16 n303)])] fun v304 =>
            .asB v304 fun b305 =>
            cond ((n283 == (0 : Int)) == (!b305))
              (cond (b287 == b291)
                (cond (!b287)
                  (.call 18 [(.sc (.p o280))] fun v306 =>
                  .asL v306 fun o307 =>
                  .ret 0 [(.sc (.b (((slLen o307) == (1 : Int)) == b291)))])
                  (.ld a285 a286 2 fun l308 =>
                  .nth l308 0 fun v309 =>
                  .asI .u32 (.sc v309) fun n310 =>
                  .nth l308 1 fun v311 =>
                  .asI .u16 (.sc v311) fun n312 =>
                  .ld a289 a290 2 fun l313 =>
                  .nth l313 0 fun v314 =>
                  .asI .u32 (.sc v314) fun n315 =>
                  .nth l313 1 fun v316 =>
                  .asI .u16 (.sc v316) fun n317 =>
                  cond ((n310 == n315) && ((n312 == n317) && .true))
                    (.call 18 [(.sc (.p o280))] fun v318 =>
                    .asL v318 fun o319 =>
                    .ret 0 [(.sc (.b (((slLen o319) == (1 : Int)) == b291)))])
                    (.ret 0 [(.sc (.b .false))])))
                (.ret 0 [(.sc (.b .false))]))
              (.ret 0 [(.sc (.b .false))]))
            (cond ((n283 == (0 : Int)) == .false)
              (cond (b287 == b291)
                (cond (!b287)
                  (.call 18 [(.sc (.p o280))] fun v320 =>
                  .asL v320 fun o321 =>
                  .ret 0 [(.sc (.b (((slLen o321) == (1 : Int)) == b291)))])
                  (.ld a285 a286 2 fun l322 =>
                  .nth l322 0 fun v323 =>
                  .asI .u32 (.sc v323) fun n324 =>
                  .nth l322 1 fun v325 =>
                  .asI .u16 (.sc v325) fun n326 =>
                  .ld a289 a290 2 fun l327 =>
                  .nth l327 0 fun v328 =>
                  .asI .u32 (.sc v328) fun n329 =>
                  .nth l327 1 fun v330 =>
                  .asI .u16 (.sc v330) fun n331 =>
                  cond ((n324 == n329) && ((n326 == n331) && .true))
                    (.call 18 [(.sc (.p o280))] fun v332 =>
                    .asL v332 fun o333 =>
                    .ret 0 [(.sc (.b (((slLen o333) == (1 : Int)) == b291)))])
                    (.ret 0 [(.sc (.b .false))])))
                (.ret 0 [(.sc (.b .false))]))
              (.ret 0 [(.sc (.b .false))])))
          (.ret 0 [(.sc (.b .false))]))
        (cond ((n282 == (0 : Int)) == .false)
          (cond b281
            (.ld a277 a278 2 fun l334 =>
            .nth l334 0 fun v335 =>
            .asI .u32 (.sc v335) fun n336 =>
            .nth l334 1 fun v337 =>
            .asI .u16 (.sc v337) fun n338 =>
            .call 17 [(.ag [(.i .u32 n336), (.i .u16 n338)])] fun v339 =>
            .asB v339 fun b340 =>
            cond ((n283 == (0 : Int)) == (!b340))
              (cond (b287 == b291)
                (cond (!b287)
                  (.call 18 [(.sc (.p o280))] fun v341 =>
                  .asL v341 fun o342 =>
                  .ret 0 [(.sc (.b (((slLen o342) == (1 : Int)) == b291)))])
                  (.ld a285 a286 2 fun l343 =>
                  .nth l343 0 fun v344 =>
                  .asI .u32 (.sc v344) fun n345 =>
                  .nth l343 1 fun v346 =>
                  .asI .u16 (.sc v346) fun n347 =>
                  .ld a289 a290 2 fun l348 =>
                  .nth l348 0 fun v349 =>
                  .asI .u32 (.sc v349) fun n350 =>
                  .nth l348 1 fun v351 =>
                  .asI .u16 (.sc v351) fun n352 =>
                  cond ((n345 == n350) && ((n347 == n352) && .true))
                    (.call 18 [(.sc (.p o280))] fun v353 =>
                    .asL v353 fun o354 =>
                    .ret 0 [(.sc (.b (((slLen o354) == (1 : Int)) == b291)))])
                    (.ret 0 [(.sc (.b .false))])))
                (.ret 0 [(.sc (.b .false))]))
              (.ret 0 [(.sc (.b .false))]))
            (cond ((n283 == (0 : Int)) == .false)
              (cond (b287 == b291)
                (cond (!b287)
                  (.call 18 [(.sc (.p o280))] fun v355 =>
                  .asL v355 fun o356 =>
                  .ret 0 [(.sc (.b (((slLen o356) == (1 : Int)) == b291)))])
                  (.ld a285 a286 2 fun l357 =>
                  .nth l357 0 fun v358 =>
                  .asI .u32 (.sc v358) fun n359 =>
                  .nth l357 1 fun v360 =>
                  .asI .u16 (.sc v360) fun n361 =>
                  .ld a289 a290 2 fun l362 =>
                  .nth l362 0 fun v363 =>
                  .asI .u32 (.sc v363) fun n364 =>
                  .nth l362 1 fun v365 =>
                  .asI .u16 (.sc v365) fun n366 =>
                  cond ((n359 == n364) && ((n361 == n366) && .true))
                    (.call 18 [(.sc (.p o280))] fun v367 =>
                    .asL v367 fun o368 =>
                    .ret 0 [(.sc (.b (((slLen o368) == (1 : Int)) == b291)))])
                    (.ret 0 [(.sc (.b .false))])))
                (.ret 0 [(.sc (.b .false))]))
              (.ret 0 [(.sc (.b .false))])))
          (.ret 0 [(.sc (.b .false))])))
      (.ret 0 [(.sc (.b .false))]))
    (.fail)
def t5_k369  : Nat → List AV → Tree := fun a370 l371 =>
  .tg a370 0
    (.asP (l371.getD 0 .un) fun o372 =>
    .nn o372 fun a373 a374 =>
    .asP (l371.getD 1 .un) fun o375 =>
    .nn o375 fun a376 a377 =>
    .asB (l371.getD 2 .un) fun b378 =>
    .asP (l371.getD 3 .un) fun o379 =>
    .asB (l371.getD 4 .un) fun b380 =>
    .asI .i64 (l371.getD 5 .un) fun n381 =>
    .asI .i64 (l371.getD 6 .un) fun n382 =>
    .asP (l371.getD 7 .un) fun o383 =>
    .nn o383 fun a384 a385 =>
    .asB (l371.getD 8 .un) fun b386 =>
    .asP (l371.getD 9 .un) fun o387 =>
    .nn o387 fun a388 a389 =>
    .asB (l371.getD 10 .un) fun b390 =>
    cond b378
      (cond b380
        (.ld a373 a374 2 fun l391 =>
        .nth l391 0 fun v392 =>
        .asI .u32 (.sc v392) fun n393 =>
        .nth l391 1 fun v394 =>
        .asI .u16 (.sc v394) fun n395 =>
        .call 17 [(.ag [(.i .u32 n393), (.i .u16 n395)])] fun v396 =>
        .asB v396 fun b397 =>
        cond ((n381 == (0 : Int)) == (!b397))
          (cond b380
            (.ld a376 a377 2 fun l398 =>
            .nth l398 0 fun v399 =>
            .asI .u32 (.sc v399) fun n400 =>
            .nth l398 1 fun v401 =>
            .asI .u16 (.sc v401) fun n402 =>
            .call 17 [(.ag [(.i .u32 n400), (.i .u16 n402)])] fun v403 =>
            .asB v403 fun b404 =>
            cond ((n382 == (0 : Int)) == (!b404))
              (cond (b386 == b390)
                (cond (!b386)
                  (.call 18 [(.sc (.p o379))] fun v405 =>
                  .asL v405 fun o406 =>
                  .ret 0 [(.sc (.b (((slLen o406) == (1 : Int)) == b390)))])
                  (.ld a384 a385 2 fun l407 =>
                  .nth l407 0 fun v408 =>
                  .asI .u32 (.sc v408) fun n409 =>
                  .nth l407 1 fun v410 =>
                  .asI .u16 (.sc v410) fun n411 =>
                  .ld a388 a389 2 fun l412 =>
                  .nth l412 0 fun v413 =>
                  .asI .u32 (.sc v413) fun n414 =>
                  .nth l412 1 fun v415 =>
                  .asI .u16 (.sc v415) fun n416 =>
                  cond ((n409 == n414) && ((n411 == n416) && .true))
                    (.call 18 [(.sc (.p o379))] fun v417 =>
                    .asL v417 fun o418 =>
                    .ret 0 [(.sc (.b (((slLen o418) == (1 : Int)) == b390)))])
                    (.ret 0 [(.sc (.b .false))])))
                (.ret 0 [(.sc (.b .false))]))
              (.ret 0 [(.sc (.b .false))]))
            (cond ((n382 == (0 : Int)) == .false)
              (cond (b386 == b390)
                (cond (!b386)
                  (.call 18 [(.sc (.p o379))] fun v419 =>
                  .asL v419 fun o420 =>
                  .ret 0 [(.sc (.b (((slLen o420) == (1 : Int)) == b390)))])
                  (.ld a384 a385 2 fun l421 =>
                  .nth l421 0 fun v422 =>
                  .asI .u32 (.sc v422) fun n423 =>
                  .nth l421 1 fun v424 =>
                  .asI .u16 (.sc v424) fun n425 =>
                  .ld a388 a389 2 fun l426 =>
                  .nth l426 0 fun v427 =>
                  .asI .u32 (.sc v427) fun n428 =>
                  .nth l426 1 fun v429 =>
                  .asI .u16 (.sc v429) fun n430 =>
                  cond ((n423 == n428) && ((n425 == n430) && .true))
                    (.call 18 [(.sc (.p o379))] fun v431 =>
                    .asL v431 fun o432 =>
                    .ret 0 [(.sc (.b (((slLen o432) == (1 : Int)) == b390)))])
                    (.ret 0 [(.sc (.b .false))])))
                (.ret 0 [(.sc (.b .false))]))
              (.ret 0 [(.sc (.b .false))])))
          (.ret 0 [(.sc (.b .false))]))
        (cond ((n381 == (0 : Int)) == .false)
          (cond b380
            (.ld a376 a377 2 fun l433 =>
            .nth l433 0 fun v434 =>
            .asI .u32 (.sc v434) fun n435 =>
            .nth l433 1 fun v436 =>
            .asI .u16 (.sc v436) fun n437 =>
            .call 17 [(.ag [(.i .u32 n435), (.i .u16 n437)])] fun v438 =>
            .asB v438 fun b439 =>
            cond ((n382 == (0 : Int)) == (!b439))
              (cond (b386 == b390)
                (cond (!b386)
                  (.call 18 [(.sc (.p o379))] fun v440 =>
                  .asL v440 fun o441 =>
                  .ret 0 [(.sc (.b (((slLen o441) == (1 : Int)) == b390)))])
                  (.ld a384 a385 2 fun l442 =>
                  .nth l442 0 fun v443 =>
                  .asI .u32 (.sc v443) fun n444 =>
                  .nth l442 1 fun v445 =>
                  .asI .u16 (.sc v445) fun n446 =>
                  .ld a388 a389 2 fun l447 =>
                  .nth l447 0 fun v448 =>
                  .asI .u32 (.sc v448) fun n449 =>
                  .nth l447 1 fun v450 =>
                  .asI .u16 (.sc v450) fun n451 =>
                  cond ((n444 == n449) && ((n446 == n451) && .true))
                    (.call 18 [(.sc (.p o379))] fun v452 =>
                    .asL v452 fun o453 =>
                    .ret 0 [(.sc (.b (((slLen o453) == (1 : Int)) == b390)))])
                    (.ret 0 [(.sc (.b .false))])))
                (.ret 0 [(.sc (.b .false))]))
              (.ret 0 [(.sc (.b .false))]))
            (cond ((n382 == (0 : Int)) == .false)
              (cond (b386 == b390)
                (cond (!b386)
                  (.call 18 [(.sc (.p o379))] fun v454 =>
                  .asL v454 fun o455 =>
                  .ret 0 [(.sc (.b (((slLen o455) == (1 : Int)) == b390)))])
                  (.ld a384 a385 2 fun l456 =>
                  .nth l456 0 fun v457 =>
                  .asI .u32 (.sc v457) fun n458 =>
                  .nth l456 1 fun v459 =>
                  .asI .u16 (.sc v459) fun n460 =>
                  .ld a388 a389 2 fun l461 =>
                  .nth l461 0 fun v462 =>
                  .asI .u32 (.sc v462) fun n463 =>
                  .nth l461 1 fun v464 =>
                  .asI .u16 (.sc v464) fun n465 =>
                  cond ((n458 == n463) && ((n460 == n465) && .true))
                    (.call 18 [(.sc (.p o379))] fun v466 =>
                    .asL v466 fun o467 =>
                    .ret 0 [(.sc (.b (((slLen o467) == (1 : Int)) == b390)))])
                    (.ret 0 [(.sc (.b .false))])))
                (.ret 0 [(.sc (.b .false))]))
              (.ret 0 [(.sc (.b .false))])))
          (.ret 0 [(.sc (.b .false))])))
      (.ret 0 [(.sc (.b .false))]))
    (.fail)
def t5_k499  : Nat → List AV → Tree := fun a500 l501 =>
  .tg a500 0
    (.asP (l501.getD 0 .un) fun o502 =>
    .nn o502 fun a503 a504 =>
    .asP (l501.getD 1 .un) fun o505 =>
    .nn o505 fun a506 a507 =>
    .asB (l501.getD 2 .un) fun b508 =>
    .asP (l501.getD 3 .un) fun o509 =>
    .asB (l501.getD 4 .un) fun b510 =>
    .asI .i64 (l501.getD 5 .un) fun n511 =>
    .asI .i64 (l501.getD 6 .un) fun n512 =>
    .asP (l501.getD 7 .un) fun o513 =>
    .nn o513 fun a514 a515 =>
    .asB (l501.getD 8 .un) fun b516 =>
    .asP (l501.getD 9 .un) fun o517 =>
    .nn o517 fun a518 a519 =>
    .asB (l501.getD 10 .un) fun b520 =>
    cond b508
      (cond b510
        (.ld a503 a504 2 fun l521 =>
        .nth l521 0 fun v522 =>
        .asI .u32 (.sc v522) fun n523 =>
        .nth l521 1 fun v524 =>
        .asI .u16 (.sc v524) fun n525 =>
        .call 17 [(.ag [(.i .u32 n523), (.i .u16 n525)])] fun v526 =>
        .asB v526 fun b527 =>
        cond ((n511 == (0 : Int)) == (!b527))
          (cond b510
            (.ld a506 a507 2 fun l528 =>
            .nth l528 0 fun v529 =>
            .asI .u32 (.sc v529) fun n530 =>
            .nth l528 1 fun v531 =>
            .asI .u16 (.sc v531) fun n532 =>
            .call 17 [(.ag [(.i .u32 n530), (.i .u16 n532)])] fun v533 =>
            .asB v533 fun b534 =>
            cond ((n512 == (0 : Int)) == (!b534))
              (cond (b516 == b520)
                (cond (!b516)
                  (.call 18 [(.sc (.p o509))] fun v535 =>
                  .asL v535 fun o536 =>
                  .ret 0 [(.sc (.b (((slLen o536) == (1 : Int)) == b520)))])
                  (.ld a514 a515 2 fun l537 =>
                  .nth l537 0 fun v538 =>
                  .asI .u32 (.sc v538) fun n539 =>
                  .nth l537 1 fun v540 =>
                  .asI .u16 (.sc v540) fun n541 =>
                  .ld a518 a519 2 fun l542 =>
                  .nth l542 0 fun v543 =>
                  .asI .u32 (.sc v543) fun n544 =>
                  .nth l542 1 fun v545 =>
                  .asI .u16 (.sc v545) fun n546 =>
                  cond ((n539 == n544) && ((n541 == n546) && .true))
                    (.call 18 [(.sc (.p o509))] fun v547 =>
                    .asL v547 fun o548 =>
                    .ret 0 [(.sc (.b (((slLen o548) == (1 : Int)) == b520)))])
                    (.ret 0 [(.sc (.b .false))])))
                (.ret 0 [(.sc (.b .false))]))
              (.ret 0 [(.sc (.b .false))]))
            (cond ((n512 == (0 : Int)) == .false)
              (cond (b516 == b520)
                (cond (!b516)
                  (.call 18 [(.sc (.p o509))] fun v549 =>
                  .asL v549 fun o550 =>
                  .ret 0 [(.sc (.b (((slLen o550) == (1 : Int)) == b520)))])
                  (.ld a514 a515 2 fun l551 =>
                  .nth l551 0 fun v552 =>
                  .asI .u32 (.sc v552) fun n553 =>
                  .nth l551 1 fun v554 =>
                  .asI .u16 (.sc v554) fun n555 =>
                  .ld a518 a519 2 fun l556 =>
                  .nth l556 0 fun v557 =>
                  .asI .u32 (.sc v557) fun n558 =>
                  .nth l556 1 fun v559 =>
                  .asI .u16 (.sc v559) fun n560 =>
                  cond ((n553 == n558) && ((n555 == n560) && .true))
                    (.call 18 [(.sc (.p o509))] fun v561 =>
                    .asL v561 fun o562 =>
                    .ret 0 [(.sc (.b (((slLen o562) == (1 : Int)) == b520)))])
                    (.ret 0 [(.sc (.b .false))])))
                (.ret 0 [(.sc (.b .false))]))
              (.ret 0 [(.sc (.b .false))])))
          (.ret 0 [(.sc (.b .false))]))
        (cond ((n511 == (0 : Int)) == .false)
          (cond b510
            (.ld a506 a507 2 fun l563 =>
            .nth l563 0 fun v564 =>
            .asI .u32 (.sc v564) fun n565 =>
            .nth l563 1 fun v566 =>
            .asI .u16 (.sc v566) fun n567 =>
            .call 17 [(.ag [(.i .u32 n565), (.i .u16 n567)])] fun v568 =>
            .asB v568 fun b569 =>
            cond ((n512 == (0 : Int)) == (!b569))
              (cond (b516 == b520)
                (cond (!b516)
                  (.call 18 [(.sc (.p o509))] fun v570 =>
                  .asL v570 fun o571 =>
                  .ret 0 [(.sc (.b (((slLen o571) == (1 : Int)) == b520)))])
                  (.ld a514 a515 2 fun l572 =>
                  .nth l572 0 fun v573 =>
                  .asI .u32 (.sc v573) fun n574 =>
                  .nth l572 1 fun v575 =>
                  .asI .u16 (.sc v575) fun n576 =>
                  .ld a518 a519 2 fun l577 =>
                  .nth l577 0 fun v578 =>
                  .asI .u32 (.sc v578) fun n579 =>
                  .nth l577 1 fun v580 =>
                  .asI .u16 (.sc v580) fun n581 =>
                  cond ((n574 == n579) && ((n576 == n581) && .true))
                    (.call 18 [(.sc (.p o509))] fun v582 =>
                    .asL v582 fun o583 =>
                    .ret 0 [(.sc (.b (((slLen o583) == (1 : Int)) == b520)))])
                    (.ret 0 [(.sc (.b .false))])))
                (.ret 0 [(.sc (.b .false))]))
              (.ret 0 [(.sc (.b .false))]))
            (cond ((n512 == (0 : Int)) == .false)
              (cond (b516 == b520)
                (cond (!b516)
                  (.call 18 [(.sc (.p o509))] fun v584 =>
                  .asL v584 fun o585 =>
                  .ret 0 [(.sc (.b (((slLen o585) == (1 : Int)) == b520)))])
                  (.ld a514 a515 2 fun l586 =>
                  .nth l586 0 fun v587 =>
                  .asI .u32 (.sc v587) fun n588 =>
                  .nth l586 1 fun v589 =>
                  .asI .u16 (.sc v589) fun n590 =>
                  .ld a518 a519 2 fun l591 =>
                  .nth l591 0 fun v592 =>
                  .asI .u32 (.sc v592) fun n593 =>
                  .nth l591 1 fun v594 =>
                  .asI .u16 (.sc v594) fun n595 =>
                  cond ((n588 == n593) && ((n590 == n595) && .true))
                    (.call 18 [(.sc (.p o509))] fun v596 =>
                    .asL v596 fun o597 =>
                    .ret 0 [(.sc (.b (((slLen o597) == (1 : Int)) == b520)))])
                    (.ret 0 [(.sc (.b .false))])))
                (.ret 0 [(.sc (.b .false))]))
              (.ret 0 [(.sc (.b .false))])))
          (.ret 0 [(.sc (.b .false))])))
      (.ret 0 [(.sc (.b .false))]))
    (.fail)
/-- scuttlebutt/scuttlebuttlaw16.ReachOnce -/
def t5 (n0_ : Int) (n1_0 : Int) (n1_1 : Int) (n2_0 : Int) (n2_1 : Int) (n3_ : Int) (n4_ : Int) : Tree :=
  .al [(.i .u32 n1_0), (.i .u16 n1_1)] fun a0 =>
  .al [(.i .u32 n2_0), (.i .u16 n2_1)] fun a1 =>
  .call 9 [] fun v2 =>
  .asB v2 fun b3 =>
  cond (!b3)
    (.ret 0 [(.sc (.b .false))])
    (.call 10 [(.sc (.i .i64 (1 : Int))), (.sc (.i .u64 (1000 : Int)))] fun v4 =>
    .asT 2 v4 fun l5 =>
    .nthC l5 0 fun v6 =>
    .asP (v6.av) fun o7 =>
    .nthC l5 1 fun v8 =>
    .asI .i64 (v8.av) fun n9 =>
    cond (Option.isNone o7)
      (.ret 0 [(.sc (.b .false))])
      (cond (n9 != (0 : Int))
        (.ret 0 [(.sc (.b .false))])
        (cond (decide (n0_ ≥ (1 : Int)))
          (.ld a0 0 2 fun l10 =>
          .nth l10 0 fun v11 =>
          .asI .u32 (.sc v11) fun n12 =>
          .nth l10 1 fun v13 =>
          .asI .u16 (.sc v13) fun n14 =>
          .call 15 [(.sc (.p o7)), (.sc (.i .i64 n0_)), (.ag [(.i .u32 n12), (.i .u16 n14)]), (.sc (.i .u64 (IntKind.wrap .u64 n3_)))] fun v15 =>
          .asI .i64 v15 fun n16 =>
          .ld a1 0 2 fun l17 =>
          .nth l17 0 fun v18 =>
          .asI .u32 (.sc v18) fun n19 =>
          .nth l17 1 fun v20 =>
          .asI .u16 (.sc v20) fun n21 =>
          .call 15 [(.sc (.p o7)), (.sc (.i .i64 n0_)), (.ag [(.i .u32 n19), (.i .u16 n21)]), (.sc (.i .u64 (IntKind.wrap .u64 n4_)))] fun v22 =>
          .asI .i64 v22 fun n23 =>
          .call 16 [(.sc (.p o7)), (.sc (.i .u64 (0 : Int)))] fun v24 =>
          .asT 2 v24 fun l25 =>
          .nthC l25 0 fun v26 =>
          .asA 2 (v26.av) fun l27 =>
          .nth l27 0 fun v28 =>
          .asI .u32 (.sc v28) fun n29 =>
          .nth l27 1 fun v30 =>
          .asI .u16 (.sc v30) fun n31 =>
          .nthC l25 1 fun v32 =>
          .asB (v32.av) fun b33 =>
          .al [(.i .u32 (0 : Int)), (.i .u16 (0 : Int))] fun a34 =>
          .st a34 0 [(.i .u32 n29), (.i .u16 n31)] (
          .ld a0 0 2 fun l35 =>
          .nth l35 0 fun v36 =>
          .asI .u32 (.sc v36) fun n37 =>
          .nth l35 1 fun v38 =>
          .asI .u16 (.sc v38) fun n39 =>
          .al [(.i .u32 (0 : Int)), (.i .u16 (0 : Int))] fun a40 =>
          .st a40 0 [(.i .u32 n37), (.i .u16 n39)] (
          cond (decide (n0_ ≤ (32 : Int)))
            (.ld a0 0 2 fun l41 =>
            .nth l41 0 fun v42 =>
            .asI .u32 (.sc v42) fun n43 =>
            .nth l41 1 fun v44 =>
            .asI .u16 (.sc v44) fun n45 =>
            .call 17 [(.ag [(.i .u32 n43), (.i .u16 n45)])] fun v46 =>
            .asB v46 fun b47 =>
            cond (decide (n0_ ≤ (32 : Int)))
              (.ld a1 0 2 fun l48 =>
              .nth l48 0 fun v49 =>
              .asI .u32 (.sc v49) fun n50 =>
              .nth l48 1 fun v51 =>
              .asI .u16 (.sc v51) fun n52 =>
              .call 17 [(.ag [(.i .u32 n50), (.i .u16 n52)])] fun v53 =>
              .asB v53 fun b54 =>
              .join (
                cond (!b54)
                  (.ld a1 0 2 fun l56 =>
                  .nth l56 0 fun v57 =>
                  .asI .u32 (.sc v57) fun n58 =>
                  .nth l56 1 fun v59 =>
                  .asI .u16 (.sc v59) fun n60 =>
                  .st a40 0 [(.i .u32 n58), (.i .u16 n60)] (
                  .ret 0 [(.sc (.p (.some (a0, 0)))), (.sc (.p (.some (a1, 0)))), (.sc (.b b3)), (.sc (.p o7)), (.sc (.b (decide (n0_ ≤ (32 : Int))))), (.sc (.i .i64 n16)), (.sc (.i .i64 n23)), (.sc (.p (.some (a34, 0)))), (.sc (.b b33)), (.sc (.p (.some (a40, 0)))), (.sc (.b .true))]))
                  (.ret 0 [(.sc (.p (.some (a0, 0)))), (.sc (.p (.some (a1, 0)))), (.sc (.b b3)), (.sc (.p o7)), (.sc (.b (decide (n0_ ≤ (32 : Int))))), (.sc (.i .i64 n16)), (.sc (.i .i64 n23)), (.sc (.p (.some (a34, 0)))), (.sc (.b b33)), (.sc (.p (.some (a40, 0)))), (.sc (.b (!b47)))])) t5_k55)
              (.join (
                .ret 0 [(.sc (.p (.some (a0, 0)))), (.sc (.p (.some (a1, 0)))), (.sc (.b b3)), (.sc (.p o7)), (.sc (.b (decide (n0_ ≤ (32 : Int))))), (.sc (.i .i64 n16)), (.sc (.i .i64 n23)), (.sc (.p (.some (a34, 0)))), (.sc (.b b33)), (.sc (.p (.some (a40, 0)))), (.sc (.b (!b47)))]) t5_k159))
            (cond (decide (n0_ ≤ (32 : Int)))
              (.ld a1 0 2 fun l258 =>
              .nth l258 0 fun v259 =>
              .asI .u32 (.sc v259) fun n260 =>
              .nth l258 1 fun v261 =>
              .asI .u16 (.sc v261) fun n262 =>
              .call 17 [(.ag [(.i .u32 n260), (.i .u16 n262)])] fun v263 =>
              .asB v263 fun b264 =>
              .join (
                cond (!b264)
                  (.ld a1 0 2 fun l266 =>
                  .nth l266 0 fun v267 =>
                  .asI .u32 (.sc v267) fun n268 =>
                  .nth l266 1 fun v269 =>
                  .asI .u16 (.sc v269) fun n270 =>
                  .st a40 0 [(.i .u32 n268), (.i .u16 n270)] (
                  .ret 0 [(.sc (.p (.some (a0, 0)))), (.sc (.p (.some (a1, 0)))), (.sc (.b b3)), (.sc (.p o7)), (.sc (.b (decide (n0_ ≤ (32 : Int))))), (.sc (.i .i64 n16)), (.sc (.i .i64 n23)), (.sc (.p (.some (a34, 0)))), (.sc (.b b33)), (.sc (.p (.some (a40, 0)))), (.sc (.b .true))]))
                  (.ret 0 [(.sc (.p (.some (a0, 0)))), (.sc (.p (.some (a1, 0)))), (.sc (.b b3)), (.sc (.p o7)), (.sc (.b (decide (n0_ ≤ (32 : Int))))), (.sc (.i .i64 n16)), (.sc (.i .i64 n23)), (.sc (.p (.some (a34, 0)))), (.sc (.b b33)), (.sc (.p (.some (a40, 0)))), (.sc (.b .false))])) t5_k265)
              (.join (
                .ret 0 [(.sc (.p (.some (a0, 0)))), (.sc (.p (.some (a1, 0)))), (.sc (.b b3)), (.sc (.p o7)), (.sc (.b (decide (n0_ ≤ (32 : Int))))), (.sc (.i .i64 n16)), (.sc (.i .i64 n23)), (.sc (.p (.some (a34, 0)))), (.sc (.b b33)), (.sc (.p (.some (a40, 0)))), (.sc (.b .false))]) t5_k369)))))
          (.ld a0 0 2 fun l468 =>
          .nth l468 0 fun v469 =>
          .asI .u32 (.sc v469) fun n470 =>
          .nth l468 1 fun v471 =>
          .asI .u16 (.sc v471) fun n472 =>
          .call 15 [(.sc (.p o7)), (.sc (.i .i64 n0_)), (.ag [(.i .u32 n470), (.i .u16 n472)]), (.sc (.i .u64 (IntKind.wrap .u64 n3_)))] fun v473 =>
          .asI .i64 v473 fun n474 =>
          .ld a1 0 2 fun l475 =>
          .nth l475 0 fun v476 =>
          .asI .u32 (.sc v476) fun n477 =>
          .nth l475 1 fun v478 =>
          .asI .u16 (.sc v478) fun n479 =>
          .call 15 [(.sc (.p o7)), (.sc (.i .i64 n0_)), (.ag [(.i .u32 n477), (.i .u16 n479)]), (.sc (.i .u64 (IntKind.wrap .u64 n4_)))] fun v480 =>
          .asI .i64 v480 fun n481 =>
          .call 16 [(.sc (.p o7)), (.sc (.i .u64 (0 : Int)))] fun v482 =>
          .asT 2 v482 fun l483 =>
          .nthC l483 0 fun v484 =>
          .asA 2 (v484.av) fun l485 =>
          .nth l485 0 fun v486 =>
          .asI .u32 (.sc v486) fun n487 =>
          .nth l485 1 fun v488 =>
          .asI .u16 (.sc v488) fun n489 =>
          .nthC l483 1 fun v490 =>
          .asB (v490.av) fun b491 =>
          .al [(.i .u32 (0 : Int)), (.i .u16 (0 : Int))] fun a492 =>
          .st a492 0 [(.i .u32 n487), (.i .u16 n489)] (
          .ld a0 0 2 fun l493 =>
          .nth l493 0 fun v494 =>
          .asI .u32 (.sc v494) fun n495 =>
          .nth l493 1 fun v496 =>
          .asI .u16 (.sc v496) fun n497 =>
          .al [(.i .u32 (0 : Int)), (.i .u16 (0 : Int))] fun a498 =>
          .st a498 0 [(.i .u32 n495), (.i .u16 n497)] (
          .join (
            .ret 0 [(.sc (.p (.some (a0, 0)))), (.sc (.p (.some (a1, 0)))), (.sc (.b b3)), (.sc (.p o7)), (.sc (.b .false)), (.sc (.i .i64 n474)), (.sc (.i .i64 n481)), (.sc (.p (.some (a492, 0)))), (.sc (.b b491)), (.sc (.p (.some (a498, 0)))), (.sc (.b .false))]) t5_k499))))))
theorem t5_eq (n0_ : Int) (n1_0 : Int) (n1_1 : Int) (n2_0 : Int) (n2_1 : Int) (n3_ : Int) (n4_ : Int) : bodyK T (hs 5) Try.f5 [.sc (.i .i64 n0_), .ag [.i .u32 n1_0, .i .u16 n1_1], .ag [.i .u32 n2_0, .i .u16 n2_1], .sc (.i .u16 n3_), .sc (.i .u16 n4_)] = t5 n0_ n1_0 n1_1 n2_0 n2_1 n3_ n4_ := by kernel_rfl
end Go.Proofs.Ytbgmnnfajohmaaa
