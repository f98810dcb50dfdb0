/- Trees of functions, printed by a program of mine; each is proved to be the function's. -/
import Derived.Test.YtphhflkpdejodaaGen
namespace Go.Proofs.Ytphhflkpdejodaa
open Go Go.Proofs.Ytphhflkpdejodaa.Fw
set_option linter.unusedVariables false
def t6_b150  : List AV → Tree := fun l151 =>
  .asB (l151.getD 0 .un) fun b152 =>
  .asL (l151.getD 1 .un) fun o153 =>
  .asI .i64 (l151.getD 2 .un) fun n154 =>
  .asI .i64 (l151.getD 3 .un) fun n155 =>
  .asI .i64 (l151.getD 4 .un) fun n156 =>
  .asL (l151.getD 5 .un) fun o157 =>
  .asI .i64 (l151.getD 6 .un) fun n158 =>
  cond (decide (n158 < (slLen o157)))
    (.ixS 6 o157 n158 fun a159 a160 a161 =>
    .ld a159 ((a160 + (a161 * 6)) + 5) 1 fun l162 =>
    .nth l162 0 fun v163 =>
    .asI .i64 (.sc v163) fun n164 =>
    .ixS 6 o153 n158 fun a165 a166 a167 =>
    .ld a165 ((a166 + (a167 * 6)) + 5) 1 fun l168 =>
    .nth l168 0 fun v169 =>
    .asI .i64 (.sc v169) fun n170 =>
    .ret 0 [(.sc (.b b152)), (.sc (.sl o153)), (.sc (.i .i64 n154)), (.sc (.i .i64 (IntKind.wrap .i64 (n155 + n164)))), (.sc (.i .i64 (IntKind.wrap .i64 (n156 + n170)))), (.sc (.sl o157)), (.sc (.i .i64 (IntKind.wrap .i64 (n158 + (1 : Int)))))])
    (.ret 10 [(.sc (.b b152)), (.sc (.i .i64 n154)), (.sc (.i .i64 n155)), (.sc (.i .i64 n156))])
def t6_k150  : Nat → List AV → Tree := fun a171 l172 =>
  .tg a171 10
    (.asB (l172.getD 0 .un) fun b173 =>
    .asI .i64 (l172.getD 1 .un) fun n174 =>
    .asI .i64 (l172.getD 2 .un) fun n175 =>
    .asI .i64 (l172.getD 3 .un) fun n176 =>
    cond b173
      (.ret 0 [(.sc (.b (n175 == (IntKind.wrap .i64 (n176 - n174)))))])
      (.ret 0 [(.sc (.b .false))]))
    (.fail)
def t6_b34  : List AV → Tree := fun l35 =>
  .asB (l35.getD 0 .un) fun b36 =>
  .asP (l35.getD 1 .un) fun o37 =>
  .asL (l35.getD 2 .un) fun o38 =>
  .asL (l35.getD 3 .un) fun o39 =>
  .asI .i64 (l35.getD 4 .un) fun n40 =>
  .asI .i64 (l35.getD 5 .un) fun n41 =>
  cond (decide (n41 < (slLen o38)))
    (cond (decide (n41 < n40))
      (.ixS 5 o39 n41 fun a42 a43 a44 =>
      .ld a42 (a43 + (a44 * 5)) 5 fun l45 =>
      .nth l45 0 fun v46 =>
      .asI .i64 (.sc v46) fun n47 =>
      .nth l45 1 fun v48 =>
      .asI .i64 (.sc v48) fun n49 =>
      .nth l45 2 fun v50 =>
      .asI .u32 (.sc v50) fun n51 =>
      .nth l45 3 fun v52 =>
      .asI .u32 (.sc v52) fun n53 =>
      .nth l45 4 fun v54 =>
      .asI .u16 (.sc v54) fun n55 =>
      .ixS 6 o38 n41 fun a56 a57 a58 =>
      .ld a56 ((a57 + (a58 * 6)) + 0) 5 fun l59 =>
      .nth l59 0 fun v60 =>
      .asI .i64 (.sc v60) fun n61 =>
      .nth l59 1 fun v62 =>
      .asI .i64 (.sc v62) fun n63 =>
      .nth l59 2 fun v64 =>
      .asI .u32 (.sc v64) fun n65 =>
      .nth l59 3 fun v66 =>
      .asI .u32 (.sc v66) fun n67 =>
      .nth l59 4 fun v68 =>
      .asI .u16 (.sc v68) fun n69 =>
      cond (!((n47 == n61) && ((n49 == n63) && ((n51 == n65) && (((n53 == n67) && ((n55 == n69) && .true)) && .true)))))
        (.ret 1 [(.sc (.b .false))])
        (cond (decide (n41 > (0 : Int)))
          (.ixS 6 o38 (IntKind.wrap .i64 (n41 - (1 : Int))) fun a70 a71 a72 =>
          .ld a70 ((a71 + (a72 * 6)) + 5) 1 fun l73 =>
          .nth l73 0 fun v74 =>
          .asI .i64 (.sc v74) fun n75 =>
          .ixS 6 o38 n41 fun a76 a77 a78 =>
          .ld a76 ((a77 + (a78 * 6)) + 5) 1 fun l79 =>
          .nth l79 0 fun v80 =>
          .asI .i64 (.sc v80) fun n81 =>
          cond (decide (n75 < n81))
            (.ret 1 [(.sc (.b .false))])
            (.ixS 6 o38 (IntKind.wrap .i64 (n41 - (1 : Int))) fun a82 a83 a84 =>
            .ld a82 ((a83 + (a84 * 6)) + 5) 1 fun l85 =>
            .nth l85 0 fun v86 =>
            .asI .i64 (.sc v86) fun n87 =>
            .ixS 6 o38 n41 fun a88 a89 a90 =>
            .ld a88 ((a89 + (a90 * 6)) + 5) 1 fun l91 =>
            .nth l91 0 fun v92 =>
            .asI .i64 (.sc v92) fun n93 =>
            cond (n87 == n93)
              (.ixS 6 o38 (IntKind.wrap .i64 (n41 - (1 : Int))) fun a94 a95 a96 =>
              .ld a94 (((a95 + (a96 * 6)) + 0) + 0) 1 fun l97 =>
              .nth l97 0 fun v98 =>
              .asI .i64 (.sc v98) fun n99 =>
              .ixS 6 o38 n41 fun a100 a101 a102 =>
              .ld a100 (((a101 + (a102 * 6)) + 0) + 0) 1 fun l103 =>
              .nth l103 0 fun v104 =>
              .asI .i64 (.sc v104) fun n105 =>
              cond (decide (n99 ≥ n105))
                (.ret 1 [(.sc (.b .false))])
                (.ret 0 [(.sc (.b b36)), (.sc (.p o37)), (.sc (.sl o38)), (.sc (.sl o39)), (.sc (.i .i64 n40)), (.sc (.i .i64 (IntKind.wrap .i64 (n41 + (1 : Int)))))]))
              (.ret 0 [(.sc (.b b36)), (.sc (.p o37)), (.sc (.sl o38)), (.sc (.sl o39)), (.sc (.i .i64 n40)), (.sc (.i .i64 (IntKind.wrap .i64 (n41 + (1 : Int)))))])))
          (.ret 0 [(.sc (.b b36)), (.sc (.p o37)), (.sc (.sl o38)), (.sc (.sl o39)), (.sc (.i .i64 n40)), (.sc (.i .i64 (IntKind.wrap .i64 (n41 + (1 : Int)))))])))
      (cond (decide (n41 > (0 : Int)))
        (.ixS 6 o38 (IntKind.wrap .i64 (n41 - (1 : Int))) fun a106 a107 a108 =>
        .ld a106 ((a107 + (a108 * 6)) + 5) 1 fun l109 =>
        .nth l109 0 fun v110 =>
        .asI .i64 (.sc v110) fun n111 =>
        .ixS 6 o38 n41 fun a112 a113 a114 =>
        .ld a112 ((a113 + (a114 * 6)) + 5) 1 fun l115 =>
        .nth l115 0 fun v116 =>
        .asI .i64 (.sc v116) fun n117 =>
        cond (decide (n111 < n117))
          (.ret 1 [(.sc (.b .false))])
          (.ixS 6 o38 (IntKind.wrap .i64 (n41 - (1 : Int))) fun a118 a119 a120 =>
          .ld a118 ((a119 + (a120 * 6)) + 5) 1 fun l121 =>
          .nth l121 0 fun v122 =>
          .asI .i64 (.sc v122) fun n123 =>
          .ixS 6 o38 n41 fun a124 a125 a126 =>
          .ld a124 ((a125 + (a126 * 6)) + 5) 1 fun l127 =>
          .nth l127 0 fun v128 =>
          .asI .i64 (.sc v128) fun n129 =>
          cond (n123 == n129)
            (.ixS 6 o38 (IntKind.wrap .i64 (n41 - (1 : Int))) fun a130 a131 a132 =>
            .ld a130 (((a131 + (a132 * 6)) + 0) + 0) 1 fun l133 =>
            .nth l133 0 fun v134 =>
            .asI .i64 (.sc v134) fun n135 =>
            .ixS 6 o38 n41 fun a136 a137 a138 =>
            .ld a136 (((a137 + (a138 * 6)) + 0) + 0) 1 fun l139 =>
            .nth l139 0 fun v140 =>
            .asI .i64 (.sc v140) fun n141 =>
            cond (decide (n135 ≥ n141))
              (.ret 1 [(.sc (.b .false))])
              (.ret 0 [(.sc (.b b36)), (.sc (.p o37)), (.sc (.sl o38)), (.sc (.sl o39)), (.sc (.i .i64 n40)), (.sc (.i .i64 (IntKind.wrap .i64 (n41 + (1 : Int)))))]))
            (.ret 0 [(.sc (.b b36)), (.sc (.p o37)), (.sc (.sl o38)), (.sc (.sl o39)), (.sc (.i .i64 n40)), (.sc (.i .i64 (IntKind.wrap .i64 (n41 + (1 : Int)))))])))
        (.ret 0 [(.sc (.b b36)), (.sc (.p o37)), (.sc (.sl o38)), (.sc (.sl o39)), (.sc (.i .i64 n40)), (.sc (.i .i64 (IntKind.wrap .i64 (n41 + (1 : Int)))))])))
    (.ret 6 [(.sc (.b b36)), (.sc (.p o37)), (.sc (.sl o38)), (.sc (.i .i64 n40))])
def t6_k34  : Nat → List AV → Tree := fun a142 l143 =>
  .tg a142 6
    (.asB (l143.getD 0 .un) fun b144 =>
    .asP (l143.getD 1 .un) fun o145 =>
    .asL (l143.getD 2 .un) fun o146 =>
    .asI .i64 (l143.getD 3 .un) fun n147 =>
    .call 21 [(.sc (.p o145))] fun v148 =>
    .asL v148 fun o149 =>
    .loop t6_b150 [(.sc (.b b144)), (.sc (.sl o146)), (.sc (.i .i64 n147)), (.sc (.i .i64 (0 : Int))), (.sc (.i .i64 (0 : Int))), (.sc (.sl o149)), (.sc (.i .i64 (0 : Int)))] t6_k150)
    (.tg a142 1
      (.asB (l143.getD 0 .un) fun b177 =>
      .ret 0 [(.sc (.b b177))])
      (.fail))
def t6_b8  : List AV → Tree := fun l9 =>
  .asL (l9.getD 0 .un) fun o10 =>
  .asI .u8 (l9.getD 1 .un) fun n11 =>
  .asB (l9.getD 2 .un) fun b12 =>
  .asP (l9.getD 3 .un) fun o13 =>
  .asI .i64 (l9.getD 4 .un) fun n14 =>
  cond (decide (n14 < (slLen o10)))
    (cond (decide (n14 < (6 : Int)))
      (.ixS 1 o10 n14 fun a15 a16 a17 =>
      .ld a15 (a16 + (a17 * 1)) 1 fun l18 =>
      .nth l18 0 fun v19 =>
      .asI .u8 (.sc v19) fun n20 =>
      .br .true
        (.call 18 [(.sc (.p o13)), (.ag [(.i .i64 (IntKind.wrap .i64 (n14 + (1 : Int)))), (.i .i64 (0 : Int)), (.i .u32 (0 : Int)), (.i .u32 (1 : Int)), (.i .u16 (1 : Int))]), (.sc (.i .i64 (IntKind.wrap .i64 ((2 : Int) + (IntKind.wrap .i64 (Int.tmod n20 (5 : Int)))))))] fun v21 =>
        .asI .i64 v21 fun n22 =>
        .ret 0 [(.sc (.sl o10)), (.sc (.i .u8 n11)), (.sc (.b b12)), (.sc (.p o13)), (.sc (.i .i64 (IntKind.wrap .i64 (n14 + (1 : Int)))))])
        (.fail))
      (.ret 2 [(.sc (.i .u8 n11)), (.sc (.b b12)), (.sc (.p o13))]))
    (.ret 2 [(.sc (.i .u8 n11)), (.sc (.b b12)), (.sc (.p o13))])
def t6_k8  : Nat → List AV → Tree := fun a23 l24 =>
  .tg a23 2
    (.asI .u8 (l24.getD 0 .un) fun n25 =>
    .asB (l24.getD 1 .un) fun b26 =>
    .asP (l24.getD 2 .un) fun o27 =>
    .call 21 [(.sc (.p o27))] fun v28 =>
    .asL v28 fun o29 =>
    .br .true
      (.call 16 [(.sc (.p o27)), (.sc (.i .i64 (IntKind.wrap .i64 (Int.tmod n25 (8 : Int)))))] fun v30 =>
      .asL v30 fun o31 =>
      .br .true
        (cond ((slLen o31) != (minI (IntKind.wrap .i64 (Int.tmod n25 (8 : Int))) (slLen o29)))
          (.ret 0 [(.sc (.b .false))])
          (.call 22 [(.sc (.p o27))] fun v32 =>
          .asI .i64 v32 fun n33 =>
          cond (n33 != (slLen o29))
            (.ret 0 [(.sc (.b .false))])
            (.loop t6_b34 [(.sc (.b b26)), (.sc (.p o27)), (.sc (.sl o29)), (.sc (.sl o31)), (.sc (.i .i64 (minI (IntKind.wrap .i64 (Int.tmod n25 (8 : Int))) (slLen o29)))), (.sc (.i .i64 (0 : Int)))] t6_k34)))
        (.fail))
      (.fail))
    (.fail)
/-- scuttlebutt/scuttlebuttlaw12.QueueOrder -/
def t6 (s0_ : Option SlD) (n1_ : Int) : Tree :=
  .call 9 [] fun v0 =>
  .asB v0 fun b1 =>
  cond (!b1)
    (.ret 0 [(.sc (.b .false))])
    (.call 10 [(.sc (.i .i64 (8 : Int)))] fun v2 =>
    .asT 2 v2 fun l3 =>
    .nthC l3 0 fun v4 =>
    .asP (v4.av) fun o5 =>
    .nthC l3 1 fun v6 =>
    .asI .i64 (v6.av) fun n7 =>
    cond (Option.isNone o5)
      (.ret 0 [(.sc (.b .false))])
      (cond (n7 != (0 : Int))
        (.ret 0 [(.sc (.b .false))])
        (.loop t6_b8 [(.sc (.sl s0_)), (.sc (.i .u8 n1_)), (.sc (.b b1)), (.sc (.p o5)), (.sc (.i .i64 (0 : Int)))] t6_k8)))
theorem t6_eq (s0_ : Option SlD) (n1_ : Int) : bodyK T (hs 6) Try.f6 [.sc (.sl s0_), .sc (.i .u8 n1_)] = t6 s0_ n1_ := by kernel_rfl
end Go.Proofs.Ytphhflkpdejodaa
