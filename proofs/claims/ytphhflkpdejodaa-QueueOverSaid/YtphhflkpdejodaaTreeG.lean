/- Trees of functions, printed by a program of mine; each is proved to be the function's. -/
import Derived.Test.YtphhflkpdejodaaGen
namespace Go.Proofs.Ytphhflkpdejodaa
open Go Go.Proofs.Ytphhflkpdejodaa.Fw
set_option linter.unusedVariables false
def t5_b178  : List AV → Tree := fun l179 =>
  .asB (l179.getD 0 .un) fun b180 =>
  .asI .i64 (l179.getD 1 .un) fun n181 =>
  .asP (l179.getD 2 .un) fun o182 =>
  .asI .i64 (l179.getD 3 .un) fun n183 =>
  .asI .i64 (l179.getD 4 .un) fun n184 =>
  .asI .i64 (l179.getD 5 .un) fun n185 =>
  cond (decide (n185 < n184))
    (.call 18 [(.sc (.p o182)), (.ag [(.i .i64 (IntKind.wrap .i64 ((2 : Int) + n185))), (.i .i64 (0 : Int)), (.i .u32 (0 : Int)), (.i .u32 (1 : Int)), (.i .u16 (1 : Int))]), (.sc (.i .i64 (9 : Int)))] fun v186 =>
    .asI .i64 v186 fun n187 =>
    .ret 0 [(.sc (.b b180)), (.sc (.i .i64 n181)), (.sc (.p o182)), (.sc (.i .i64 n183)), (.sc (.i .i64 n184)), (.sc (.i .i64 (IntKind.wrap .i64 (n185 + (1 : Int)))))])
    (.ret 2 [(.sc (.b b180)), (.sc (.i .i64 n181)), (.sc (.p o182)), (.sc (.i .i64 n183)), (.sc (.i .i64 n184))])
def t5_k178  : Nat → List AV → Tree := fun a188 l189 =>
  .tg a188 2
    (.asB (l189.getD 0 .un) fun b190 =>
    .asI .i64 (l189.getD 1 .un) fun n191 =>
    .asP (l189.getD 2 .un) fun o192 =>
    .asI .i64 (l189.getD 3 .un) fun n193 =>
    .asI .i64 (l189.getD 4 .un) fun n194 =>
    .call 21 [(.sc (.p o192))] fun v195 =>
    .asL v195 fun o196 =>
    cond b190
      (cond (n193 == (0 : Int))
        (cond ((slLen o196) == (minI (IntKind.wrap .i64 (n194 + (1 : Int))) n191))
          (cond (decide (n194 < n191))
            (cond (decide (n194 ≥ n191))
              (.ret 0 [(.sc (.b .true))])
              (.ixS 6 o196 (IntKind.wrap .i64 ((slLen o196) - (1 : Int))) fun a197 a198 a199 =>
              .ld a197 (((a198 + (a199 * 6)) + 0) + 0) 1 fun l200 =>
              .nth l200 0 fun v201 =>
              .asI .i64 (.sc v201) fun n202 =>
              .ret 0 [(.sc (.b (n202 == (1 : Int))))]))
            (.ixS 6 o196 (IntKind.wrap .i64 ((slLen o196) - (1 : Int))) fun a203 a204 a205 =>
            .ld a203 ((a204 + (a205 * 6)) + 5) 1 fun l206 =>
            .nth l206 0 fun v207 =>
            .asI .i64 (.sc v207) fun n208 =>
            cond (n208 == (9 : Int))
              (cond (decide (n194 ≥ n191))
                (.ret 0 [(.sc (.b .true))])
                (.ixS 6 o196 (IntKind.wrap .i64 ((slLen o196) - (1 : Int))) fun a209 a210 a211 =>
                .ld a209 (((a210 + (a211 * 6)) + 0) + 0) 1 fun l212 =>
                .nth l212 0 fun v213 =>
                .asI .i64 (.sc v213) fun n214 =>
                .ret 0 [(.sc (.b (n214 == (1 : Int))))]))
              (.ret 0 [(.sc (.b .false))])))
          (.ret 0 [(.sc (.b .false))]))
        (.ret 0 [(.sc (.b .false))]))
      (.ret 0 [(.sc (.b .false))]))
    (.fail)
def t5_b215  : List AV → Tree := fun l216 =>
  .asB (l216.getD 0 .un) fun b217 =>
  .asI .i64 (l216.getD 1 .un) fun n218 =>
  .asP (l216.getD 2 .un) fun o219 =>
  .asI .i64 (l216.getD 3 .un) fun n220 =>
  .asI .i64 (l216.getD 4 .un) fun n221 =>
  .asI .i64 (l216.getD 5 .un) fun n222 =>
  cond (decide (n222 < n221))
    (.call 18 [(.sc (.p o219)), (.ag [(.i .i64 (IntKind.wrap .i64 ((2 : Int) + n222))), (.i .i64 (0 : Int)), (.i .u32 (0 : Int)), (.i .u32 (1 : Int)), (.i .u16 (1 : Int))]), (.sc (.i .i64 (9 : Int)))] fun v223 =>
    .asI .i64 v223 fun n224 =>
    .ret 0 [(.sc (.b b217)), (.sc (.i .i64 n218)), (.sc (.p o219)), (.sc (.i .i64 n220)), (.sc (.i .i64 n221)), (.sc (.i .i64 (IntKind.wrap .i64 (n222 + (1 : Int)))))])
    (.ret 2 [(.sc (.b b217)), (.sc (.i .i64 n218)), (.sc (.p o219)), (.sc (.i .i64 n220)), (.sc (.i .i64 n221))])
def t5_k215  : Nat → List AV → Tree := fun a225 l226 =>
  .tg a225 2
    (.asB (l226.getD 0 .un) fun b227 =>
    .asI .i64 (l226.getD 1 .un) fun n228 =>
    .asP (l226.getD 2 .un) fun o229 =>
    .asI .i64 (l226.getD 3 .un) fun n230 =>
    .asI .i64 (l226.getD 4 .un) fun n231 =>
    .call 21 [(.sc (.p o229))] fun v232 =>
    .asL v232 fun o233 =>
    cond b227
      (cond (n230 == (0 : Int))
        (cond ((slLen o233) == (minI (IntKind.wrap .i64 (n231 + (1 : Int))) n228))
          (cond (decide (n231 < n228))
            (cond (decide (n231 ≥ n228))
              (.ret 0 [(.sc (.b .true))])
              (.ixS 6 o233 (IntKind.wrap .i64 ((slLen o233) - (1 : Int))) fun a234 a235 a236 =>
              .ld a234 (((a235 + (a236 * 6)) + 0) + 0) 1 fun l237 =>
              .nth l237 0 fun v238 =>
              .asI .i64 (.sc v238) fun n239 =>
              .ret 0 [(.sc (.b (n239 == (1 : Int))))]))
            (.ixS 6 o233 (IntKind.wrap .i64 ((slLen o233) - (1 : Int))) fun a240 a241 a242 =>
            .ld a240 ((a241 + (a242 * 6)) + 5) 1 fun l243 =>
            .nth l243 0 fun v244 =>
            .asI .i64 (.sc v244) fun n245 =>
            cond (n245 == (9 : Int))
              (cond (decide (n231 ≥ n228))
                (.ret 0 [(.sc (.b .true))])
                (.ixS 6 o233 (IntKind.wrap .i64 ((slLen o233) - (1 : Int))) fun a246 a247 a248 =>
                .ld a246 (((a247 + (a248 * 6)) + 0) + 0) 1 fun l249 =>
                .nth l249 0 fun v250 =>
                .asI .i64 (.sc v250) fun n251 =>
                .ret 0 [(.sc (.b (n251 == (1 : Int))))]))
              (.ret 0 [(.sc (.b .false))])))
          (.ret 0 [(.sc (.b .false))]))
        (.ret 0 [(.sc (.b .false))]))
      (.ret 0 [(.sc (.b .false))]))
    (.fail)
def t5_b283  : List AV → Tree := fun l284 =>
  .asB (l284.getD 0 .un) fun b285 =>
  .asI .i64 (l284.getD 1 .un) fun n286 =>
  .asP (l284.getD 2 .un) fun o287 =>
  .asI .i64 (l284.getD 3 .un) fun n288 =>
  .asI .i64 (l284.getD 4 .un) fun n289 =>
  .asI .i64 (l284.getD 5 .un) fun n290 =>
  cond (decide (n290 < n289))
    (.call 18 [(.sc (.p o287)), (.ag [(.i .i64 (IntKind.wrap .i64 ((2 : Int) + n290))), (.i .i64 (0 : Int)), (.i .u32 (0 : Int)), (.i .u32 (1 : Int)), (.i .u16 (1 : Int))]), (.sc (.i .i64 (9 : Int)))] fun v291 =>
    .asI .i64 v291 fun n292 =>
    .ret 0 [(.sc (.b b285)), (.sc (.i .i64 n286)), (.sc (.p o287)), (.sc (.i .i64 n288)), (.sc (.i .i64 n289)), (.sc (.i .i64 (IntKind.wrap .i64 (n290 + (1 : Int)))))])
    (.ret 2 [(.sc (.b b285)), (.sc (.i .i64 n286)), (.sc (.p o287)), (.sc (.i .i64 n288)), (.sc (.i .i64 n289))])
def t5_k283  : Nat → List AV → Tree := fun a293 l294 =>
  .tg a293 2
    (.asB (l294.getD 0 .un) fun b295 =>
    .asI .i64 (l294.getD 1 .un) fun n296 =>
    .asP (l294.getD 2 .un) fun o297 =>
    .asI .i64 (l294.getD 3 .un) fun n298 =>
    .asI .i64 (l294.getD 4 .un) fun n299 =>
    .call 21 [(.sc (.p o297))] fun v300 =>
    .asL v300 fun o301 =>
    cond b295
      (cond (n298 == (0 : Int))
        (cond ((slLen o301) == (minI (IntKind.wrap .i64 (n299 + (1 : Int))) n296))
          (cond (decide (n299 < n296))
            (cond (decide (n299 ≥ n296))
              (.ret 0 [(.sc (.b .true))])
              (.ixS 6 o301 (IntKind.wrap .i64 ((slLen o301) - (1 : Int))) fun a302 a303 a304 =>
              .ld a302 (((a303 + (a304 * 6)) + 0) + 0) 1 fun l305 =>
              .nth l305 0 fun v306 =>
              .asI .i64 (.sc v306) fun n307 =>
              .ret 0 [(.sc (.b (n307 == (1 : Int))))]))
            (.ixS 6 o301 (IntKind.wrap .i64 ((slLen o301) - (1 : Int))) fun a308 a309 a310 =>
            .ld a308 ((a309 + (a310 * 6)) + 5) 1 fun l311 =>
            .nth l311 0 fun v312 =>
            .asI .i64 (.sc v312) fun n313 =>
            cond (n313 == (9 : Int))
              (cond (decide (n299 ≥ n296))
                (.ret 0 [(.sc (.b .true))])
                (.ixS 6 o301 (IntKind.wrap .i64 ((slLen o301) - (1 : Int))) fun a314 a315 a316 =>
                .ld a314 (((a315 + (a316 * 6)) + 0) + 0) 1 fun l317 =>
                .nth l317 0 fun v318 =>
                .asI .i64 (.sc v318) fun n319 =>
                .ret 0 [(.sc (.b (n319 == (1 : Int))))]))
              (.ret 0 [(.sc (.b .false))])))
          (.ret 0 [(.sc (.b .false))]))
        (.ret 0 [(.sc (.b .false))]))
      (.ret 0 [(.sc (.b .false))]))
    (.fail)
def t5_b320  : List AV → Tree := fun l321 =>
  .asB (l321.getD 0 .un) fun b322 =>
  .asI .i64 (l321.getD 1 .un) fun n323 =>
  .asP (l321.getD 2 .un) fun o324 =>
  .asI .i64 (l321.getD 3 .un) fun n325 =>
  .asI .i64 (l321.getD 4 .un) fun n326 =>
  .asI .i64 (l321.getD 5 .un) fun n327 =>
  cond (decide (n327 < n326))
    (.call 18 [(.sc (.p o324)), (.ag [(.i .i64 (IntKind.wrap .i64 ((2 : Int) + n327))), (.i .i64 (0 : Int)), (.i .u32 (0 : Int)), (.i .u32 (1 : Int)), (.i .u16 (1 : Int))]), (.sc (.i .i64 (9 : Int)))] fun v328 =>
    .asI .i64 v328 fun n329 =>
    .ret 0 [(.sc (.b b322)), (.sc (.i .i64 n323)), (.sc (.p o324)), (.sc (.i .i64 n325)), (.sc (.i .i64 n326)), (.sc (.i .i64 (IntKind.wrap .i64 (n327 + (1 : Int)))))])
    (.ret 2 [(.sc (.b b322)), (.sc (.i .i64 n323)), (.sc (.p o324)), (.sc (.i .i64 n325)), (.sc (.i .i64 n326))])
def t5_k320  : Nat → List AV → Tree := fun a330 l331 =>
  .tg a330 2
    (.asB (l331.getD 0 .un) fun b332 =>
    .asI .i64 (l331.getD 1 .un) fun n333 =>
    .asP (l331.getD 2 .un) fun o334 =>
    .asI .i64 (l331.getD 3 .un) fun n335 =>
    .asI .i64 (l331.getD 4 .un) fun n336 =>
    .call 21 [(.sc (.p o334))] fun v337 =>
    .asL v337 fun o338 =>
    cond b332
      (cond (n335 == (0 : Int))
        (cond ((slLen o338) == (minI (IntKind.wrap .i64 (n336 + (1 : Int))) n333))
          (cond (decide (n336 < n333))
            (cond (decide (n336 ≥ n333))
              (.ret 0 [(.sc (.b .true))])
              (.ixS 6 o338 (IntKind.wrap .i64 ((slLen o338) - (1 : Int))) fun a339 a340 a341 =>
              .ld a339 (((a340 + (a341 * 6)) + 0) + 0) 1 fun l342 =>
              .nth l342 0 fun v343 =>
              .asI .i64 (.sc v343) fun n344 =>
              .ret 0 [(.sc (.b (n344 == (1 : Int))))]))
            (.ixS 6 o338 (IntKind.wrap .i64 ((slLen o338) - (1 : Int))) fun a345 a346 a347 =>
            .ld a345 ((a346 + (a347 * 6)) + 5) 1 fun l348 =>
            .nth l348 0 fun v349 =>
            .asI .i64 (.sc v349) fun n350 =>
            cond (n350 == (9 : Int))
              (cond (decide (n336 ≥ n333))
                (.ret 0 [(.sc (.b .true))])
                (.ixS 6 o338 (IntKind.wrap .i64 ((slLen o338) - (1 : Int))) fun a351 a352 a353 =>
                .ld a351 (((a352 + (a353 * 6)) + 0) + 0) 1 fun l354 =>
                .nth l354 0 fun v355 =>
                .asI .i64 (.sc v355) fun n356 =>
                .ret 0 [(.sc (.b (n356 == (1 : Int))))]))
              (.ret 0 [(.sc (.b .false))])))
          (.ret 0 [(.sc (.b .false))]))
        (.ret 0 [(.sc (.b .false))]))
      (.ret 0 [(.sc (.b .false))]))
    (.fail)
/-- scuttlebutt/scuttlebuttlaw12.QueueOver -/
def t5 (n0_0 : Int) (n0_1 : Int) (n0_2 : Int) (n0_3 : Int) (n0_4 : Int) (b0_5 : Bool) (n1_0 : Int) (n1_1 : Int) (n1_2 : Int) (n1_3 : Int) (n1_4 : Int) (b1_5 : Bool) (n2_ : Int) (n3_ : Int) : Tree :=
  .al [(.i .i64 n0_0), (.i .i64 n0_1), (.i .u32 n0_2), (.i .u32 n0_3), (.i .u16 n0_4), (.b b0_5)] fun a0 =>
  .al [(.i .i64 n1_0), (.i .i64 n1_1), (.i .u32 n1_2), (.i .u32 n1_3), (.i .u16 n1_4), (.b b1_5)] fun a1 =>
  .call 9 [] fun v2 =>
  .asB v2 fun b3 =>
  cond (!b3)
    (.ret 0 [(.sc (.b .false))])
    (.br .true
      (.call 10 [(.sc (.i .i64 (IntKind.wrap .i64 ((1 : Int) + (IntKind.wrap .i64 (Int.tmod n2_ (8 : Int)))))))] fun v4 =>
      .asT 2 v4 fun l5 =>
      .nthC l5 0 fun v6 =>
      .asP (v6.av) fun o7 =>
      .nthC l5 1 fun v8 =>
      .asI .i64 (v8.av) fun n9 =>
      cond (Option.isNone o7)
        (.ret 0 [(.sc (.b .false))])
        (cond (n9 != (0 : Int))
          (.ret 0 [(.sc (.b .false))])
          (.st a0 (0 + 5) [(.b .true)] (
          .st a1 (0 + 5) [(.b .true)] (
          .ld a0 0 6 fun l10 =>
          .nth l10 0 fun v11 =>
          .asI .i64 (.sc v11) fun n12 =>
          .nth l10 1 fun v13 =>
          .asI .i64 (.sc v13) fun n14 =>
          .nth l10 2 fun v15 =>
          .asI .u32 (.sc v15) fun n16 =>
          .nth l10 3 fun v17 =>
          .asI .u32 (.sc v17) fun n18 =>
          .nth l10 4 fun v19 =>
          .asI .u16 (.sc v19) fun n20 =>
          .nth l10 5 fun v21 =>
          .asB (.sc v21) fun b22 =>
          .call 14 [(.ag [(.i .i64 n12), (.i .i64 n14), (.i .u32 n16), (.i .u32 n18), (.i .u16 n20), (.b b22)])] fun v23 =>
          .asA 5 v23 fun l24 =>
          .nth l24 0 fun v25 =>
          .asI .i64 (.sc v25) fun n26 =>
          .nth l24 1 fun v27 =>
          .asI .i64 (.sc v27) fun n28 =>
          .nth l24 2 fun v29 =>
          .asI .u32 (.sc v29) fun n30 =>
          .nth l24 3 fun v31 =>
          .asI .u32 (.sc v31) fun n32 =>
          .nth l24 4 fun v33 =>
          .asI .u16 (.sc v33) fun n34 =>
          .al [(.i .i64 (0 : Int)), (.i .i64 (0 : Int)), (.i .u32 (0 : Int)), (.i .u32 (0 : Int)), (.i .u16 (0 : Int))] fun a35 =>
          .st a35 0 [(.i .i64 n26), (.i .i64 n28), (.i .u32 n30), (.i .u32 n32), (.i .u16 n34)] (
          .ld a1 0 6 fun l36 =>
          .nth l36 0 fun v37 =>
          .asI .i64 (.sc v37) fun n38 =>
          .nth l36 1 fun v39 =>
          .asI .i64 (.sc v39) fun n40 =>
          .nth l36 2 fun v41 =>
          .asI .u32 (.sc v41) fun n42 =>
          .nth l36 3 fun v43 =>
          .asI .u32 (.sc v43) fun n44 =>
          .nth l36 4 fun v45 =>
          .asI .u16 (.sc v45) fun n46 =>
          .nth l36 5 fun v47 =>
          .asB (.sc v47) fun b48 =>
          .call 14 [(.ag [(.i .i64 n38), (.i .i64 n40), (.i .u32 n42), (.i .u32 n44), (.i .u16 n46), (.b b48)])] fun v49 =>
          .asA 5 v49 fun l50 =>
          .nth l50 0 fun v51 =>
          .asI .i64 (.sc v51) fun n52 =>
          .nth l50 1 fun v53 =>
          .asI .i64 (.sc v53) fun n54 =>
          .nth l50 2 fun v55 =>
          .asI .u32 (.sc v55) fun n56 =>
          .nth l50 3 fun v57 =>
          .asI .u32 (.sc v57) fun n58 =>
          .nth l50 4 fun v59 =>
          .asI .u16 (.sc v59) fun n60 =>
          .al [(.i .i64 (0 : Int)), (.i .i64 (0 : Int)), (.i .u32 (0 : Int)), (.i .u32 (0 : Int)), (.i .u16 (0 : Int))] fun a61 =>
          .st a61 0 [(.i .i64 n52), (.i .i64 n54), (.i .u32 n56), (.i .u32 n58), (.i .u16 n60)] (
          .st a35 (0 + 0) [(.i .i64 (1 : Int))] (
          .st a61 (0 + 0) [(.i .i64 (1 : Int))] (
          .ld a35 0 5 fun l62 =>
          .nth l62 0 fun v63 =>
          .asI .i64 (.sc v63) fun n64 =>
          .nth l62 1 fun v65 =>
          .asI .i64 (.sc v65) fun n66 =>
          .nth l62 2 fun v67 =>
          .asI .u32 (.sc v67) fun n68 =>
          .nth l62 3 fun v69 =>
          .asI .u32 (.sc v69) fun n70 =>
          .nth l62 4 fun v71 =>
          .asI .u16 (.sc v71) fun n72 =>
          .call 18 [(.sc (.p o7)), (.ag [(.i .i64 n64), (.i .i64 n66), (.i .u32 n68), (.i .u32 n70), (.i .u16 n72)]), (.sc (.i .i64 (4 : Int)))] fun v73 =>
          .asI .i64 v73 fun n74 =>
          .call 16 [(.sc (.p o7)), (.sc (.i .i64 (1 : Int)))] fun v75 =>
          .asL v75 fun o76 =>
          .ld a61 0 5 fun l77 =>
          .nth l77 0 fun v78 =>
          .asI .i64 (.sc v78) fun n79 =>
          .nth l77 1 fun v80 =>
          .asI .i64 (.sc v80) fun n81 =>
          .nth l77 2 fun v82 =>
          .asI .u32 (.sc v82) fun n83 =>
          .nth l77 3 fun v84 =>
          .asI .u32 (.sc v84) fun n85 =>
          .nth l77 4 fun v86 =>
          .asI .u16 (.sc v86) fun n87 =>
          .call 18 [(.sc (.p o7)), (.ag [(.i .i64 n79), (.i .i64 n81), (.i .u32 n83), (.i .u32 n85), (.i .u16 n87)]), (.sc (.i .i64 (4 : Int)))] fun v88 =>
          .asI .i64 v88 fun n89 =>
          .call 21 [(.sc (.p o7))] fun v90 =>
          .asL v90 fun o91 =>
          .ld a61 0 5 fun l92 =>
          .nth l92 0 fun v93 =>
          .asI .i64 (.sc v93) fun n94 =>
          .nth l92 1 fun v95 =>
          .asI .i64 (.sc v95) fun n96 =>
          .nth l92 2 fun v97 =>
          .asI .u32 (.sc v97) fun n98 =>
          .nth l92 3 fun v99 =>
          .asI .u32 (.sc v99) fun n100 =>
          .nth l92 4 fun v101 =>
          .asI .u16 (.sc v101) fun n102 =>
          .ld a35 0 5 fun l103 =>
          .nth l103 0 fun v104 =>
          .asI .i64 (.sc v104) fun n105 =>
          .nth l103 1 fun v106 =>
          .asI .i64 (.sc v106) fun n107 =>
          .nth l103 2 fun v108 =>
          .asI .u32 (.sc v108) fun n109 =>
          .nth l103 3 fun v110 =>
          .asI .u32 (.sc v110) fun n111 =>
          .nth l103 4 fun v112 =>
          .asI .u16 (.sc v112) fun n113 =>
          .call 23 [(.ag [(.i .i64 n94), (.i .i64 n96), (.i .u32 n98), (.i .u32 n100), (.i .u16 n102)]), (.ag [(.i .i64 n105), (.i .i64 n107), (.i .u32 n109), (.i .u32 n111), (.i .u16 n113)])] fun v114 =>
          .asB v114 fun b115 =>
          cond ((slLen o91) != (1 : Int))
            (.ret 0 [(.sc (.b .false))])
            (cond (!((n89 == (0 : Int)) == b115))
              (.ret 0 [(.sc (.b .false))])
              (cond b115
                (.ixS 6 o91 (0 : Int) fun a116 a117 a118 =>
                .ld a116 ((a117 + (a118 * 6)) + 0) 5 fun l119 =>
                .nth l119 0 fun v120 =>
                .asI .i64 (.sc v120) fun n121 =>
                .nth l119 1 fun v122 =>
                .asI .i64 (.sc v122) fun n123 =>
                .nth l119 2 fun v124 =>
                .asI .u32 (.sc v124) fun n125 =>
                .nth l119 3 fun v126 =>
                .asI .u32 (.sc v126) fun n127 =>
                .nth l119 4 fun v128 =>
                .asI .u16 (.sc v128) fun n129 =>
                .ld a61 0 5 fun l130 =>
                .nth l130 0 fun v131 =>
                .asI .i64 (.sc v131) fun n132 =>
                .nth l130 1 fun v133 =>
                .asI .i64 (.sc v133) fun n134 =>
                .nth l130 2 fun v135 =>
                .asI .u32 (.sc v135) fun n136 =>
                .nth l130 3 fun v137 =>
                .asI .u32 (.sc v137) fun n138 =>
                .nth l130 4 fun v139 =>
                .asI .u16 (.sc v139) fun n140 =>
                cond (!((n121 == n132) && ((n123 == n134) && ((n125 == n136) && (((n127 == n138) && ((n129 == n140) && .true)) && .true)))))
                  (.ret 0 [(.sc (.b .false))])
                  (.ixS 6 o91 (0 : Int) fun a141 a142 a143 =>
                  .ld a141 ((a142 + (a143 * 6)) + 5) 1 fun l144 =>
                  .nth l144 0 fun v145 =>
                  .asI .i64 (.sc v145) fun n146 =>
                  cond (n146 != (4 : Int))
                    (.ret 0 [(.sc (.b .false))])
                    (cond (!b115)
                      (.ixS 6 o91 (0 : Int) fun a147 a148 a149 =>
                      .ld a147 ((a148 + (a149 * 6)) + 0) 5 fun l150 =>
                      .nth l150 0 fun v151 =>
                      .asI .i64 (.sc v151) fun n152 =>
                      .nth l150 1 fun v153 =>
                      .asI .i64 (.sc v153) fun n154 =>
                      .nth l150 2 fun v155 =>
                      .asI .u32 (.sc v155) fun n156 =>
                      .nth l150 3 fun v157 =>
                      .asI .u32 (.sc v157) fun n158 =>
                      .nth l150 4 fun v159 =>
                      .asI .u16 (.sc v159) fun n160 =>
                      .ld a35 0 5 fun l161 =>
                      .nth l161 0 fun v162 =>
                      .asI .i64 (.sc v162) fun n163 =>
                      .nth l161 1 fun v164 =>
                      .asI .i64 (.sc v164) fun n165 =>
                      .nth l161 2 fun v166 =>
                      .asI .u32 (.sc v166) fun n167 =>
                      .nth l161 3 fun v168 =>
                      .asI .u32 (.sc v168) fun n169 =>
                      .nth l161 4 fun v170 =>
                      .asI .u16 (.sc v170) fun n171 =>
                      cond (!((n152 == n163) && ((n154 == n165) && ((n156 == n167) && (((n158 == n169) && ((n160 == n171) && .true)) && .true)))))
                        (.ret 0 [(.sc (.b .false))])
                        (.ixS 6 o91 (0 : Int) fun a172 a173 a174 =>
                        .ld a172 ((a173 + (a174 * 6)) + 5) 1 fun l175 =>
                        .nth l175 0 fun v176 =>
                        .asI .i64 (.sc v176) fun n177 =>
                        cond (n177 != (3 : Int))
                          (.ret 0 [(.sc (.b .false))])
                          (cond (n89 != (6 : Int))
                            (.ret 0 [(.sc (.b .false))])
                            (.br .true
                              (.loop t5_b178 [(.sc (.b b3)), (.sc (.i .i64 (IntKind.wrap .i64 ((1 : Int) + (IntKind.wrap .i64 (Int.tmod n2_ (8 : Int))))))), (.sc (.p o7)), (.sc (.i .i64 n74)), (.sc (.i .i64 (IntKind.wrap .i64 (Int.tmod n3_ (12 : Int))))), (.sc (.i .i64 (0 : Int)))] t5_k178)
                              (.fail)))))
                      (.br .true
                        (.loop t5_b215 [(.sc (.b b3)), (.sc (.i .i64 (IntKind.wrap .i64 ((1 : Int) + (IntKind.wrap .i64 (Int.tmod n2_ (8 : Int))))))), (.sc (.p o7)), (.sc (.i .i64 n74)), (.sc (.i .i64 (IntKind.wrap .i64 (Int.tmod n3_ (12 : Int))))), (.sc (.i .i64 (0 : Int)))] t5_k215)
                        (.fail)))))
                (cond (!b115)
                  (.ixS 6 o91 (0 : Int) fun a252 a253 a254 =>
                  .ld a252 ((a253 + (a254 * 6)) + 0) 5 fun l255 =>
                  .nth l255 0 fun v256 =>
                  .asI .i64 (.sc v256) fun n257 =>
                  .nth l255 1 fun v258 =>
                  .asI .i64 (.sc v258) fun n259 =>
                  .nth l255 2 fun v260 =>
                  .asI .u32 (.sc v260) fun n261 =>
                  .nth l255 3 fun v262 =>
                  .asI .u32 (.sc v262) fun n263 =>
                  .nth l255 4 fun v264 =>
                  .asI .u16 (.sc v264) fun n265 =>
                  .ld a35 0 5 fun l266 =>
                  .nth l266 0 fun v267 =>
                  .asI .i64 (.sc v267) fun n268 =>
                  .nth l266 1 fun v269 =>
                  .asI .i64 (.sc v269) fun n270 =>
                  .nth l266 2 fun v271 =>
                  .asI .u32 (.sc v271) fun n272 =>
                  .nth l266 3 fun v273 =>
                  .asI .u32 (.sc v273) fun n274 =>
                  .nth l266 4 fun v275 =>
                  .asI .u16 (.sc v275) fun n276 =>
                  cond (!((n257 == n268) && ((n259 == n270) && ((n261 == n272) && (((n263 == n274) && ((n265 == n276) && .true)) && .true)))))
                    (.ret 0 [(.sc (.b .false))])
                    (.ixS 6 o91 (0 : Int) fun a277 a278 a279 =>
                    .ld a277 ((a278 + (a279 * 6)) + 5) 1 fun l280 =>
                    .nth l280 0 fun v281 =>
                    .asI .i64 (.sc v281) fun n282 =>
                    cond (n282 != (3 : Int))
                      (.ret 0 [(.sc (.b .false))])
                      (cond (n89 != (6 : Int))
                        (.ret 0 [(.sc (.b .false))])
                        (.br .true
                          (.loop t5_b283 [(.sc (.b b3)), (.sc (.i .i64 (IntKind.wrap .i64 ((1 : Int) + (IntKind.wrap .i64 (Int.tmod n2_ (8 : Int))))))), (.sc (.p o7)), (.sc (.i .i64 n74)), (.sc (.i .i64 (IntKind.wrap .i64 (Int.tmod n3_ (12 : Int))))), (.sc (.i .i64 (0 : Int)))] t5_k283)
                          (.fail)))))
                  (.br .true
                    (.loop t5_b320 [(.sc (.b b3)), (.sc (.i .i64 (IntKind.wrap .i64 ((1 : Int) + (IntKind.wrap .i64 (Int.tmod n2_ (8 : Int))))))), (.sc (.p o7)), (.sc (.i .i64 n74)), (.sc (.i .i64 (IntKind.wrap .i64 (Int.tmod n3_ (12 : Int))))), (.sc (.i .i64 (0 : Int)))] t5_k320)
                    (.fail))))))))))))))
      (.fail))
theorem t5_eq (n0_0 : Int) (n0_1 : Int) (n0_2 : Int) (n0_3 : Int) (n0_4 : Int) (b0_5 : Bool) (n1_0 : Int) (n1_1 : Int) (n1_2 : Int) (n1_3 : Int) (n1_4 : Int) (b1_5 : Bool) (n2_ : Int) (n3_ : Int) : bodyK T (hs 5) Try.f5 [.ag [.i .i64 n0_0, .i .i64 n0_1, .i .u32 n0_2, .i .u32 n0_3, .i .u16 n0_4, .b b0_5], .ag [.i .i64 n1_0, .i .i64 n1_1, .i .u32 n1_2, .i .u32 n1_3, .i .u16 n1_4, .b b1_5], .sc (.i .u8 n2_), .sc (.i .u8 n3_)] = t5 n0_0 n0_1 n0_2 n0_3 n0_4 b0_5 n1_0 n1_1 n1_2 n1_3 n1_4 b1_5 n2_ n3_ := by kernel_rfl
end Go.Proofs.Ytphhflkpdejodaa
