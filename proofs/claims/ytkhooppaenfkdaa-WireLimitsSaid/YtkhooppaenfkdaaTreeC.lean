/- Trees of functions, printed by a program of mine; each is proved to be the function's. -/
import Derived.Test.YtkhooppaenfkdaaGen
namespace Go.Proofs.Ytkhooppaenfkdaa
open Go Go.Proofs.Ytkhooppaenfkdaa.Fw
set_option linter.unusedVariables false
set_option maxRecDepth 20000
def t6_b105  : List AV → Tree := fun l106 =>
  .asP (l106.getD 0 .un) fun o107 =>
  .nn o107 fun a108 a109 =>
  .asS (l106.getD 1 .un) fun x110 =>
  .asIt (l106.getD 2 .un) fun a111 =>
  .asL (l106.getD 3 .un) fun o112 =>
  .asI .i64 (l106.getD 4 .un) fun n113 =>
  .asI .i64 (l106.getD 5 .un) fun n114 =>
  cond (decide (n114 < n113))
    (.ixS 5 o112 n114 fun a115 a116 a117 =>
    .ld a115 (a116 + (a117 * 5)) 5 fun l118 =>
    .nth l118 0 fun v119 =>
    .asI .i64 (.sc v119) fun n120 =>
    .nth l118 1 fun v121 =>
    .asI .i64 (.sc v121) fun n122 =>
    .nth l118 2 fun v123 =>
    .asI .u32 (.sc v123) fun n124 =>
    .nth l118 3 fun v125 =>
    .asI .u32 (.sc v125) fun n126 =>
    .nth l118 4 fun v127 =>
    .asI .u16 (.sc v127) fun n128 =>
    .al [(.i .i64 (0 : Int)), (.i .i64 (0 : Int)), (.i .u32 (0 : Int)), (.i .u32 (0 : Int)), (.i .u16 (0 : Int))] fun a129 =>
    .st a129 0 [(.i .i64 n120), (.i .i64 n122), (.i .u32 n124), (.i .u32 n126), (.i .u16 n128)] (
    .ld a129 0 5 fun l130 =>
    .nth l130 0 fun v131 =>
    .asI .i64 (.sc v131) fun n132 =>
    .nth l130 1 fun v133 =>
    .asI .i64 (.sc v133) fun n134 =>
    .nth l130 2 fun v135 =>
    .asI .u32 (.sc v135) fun n136 =>
    .nth l130 3 fun v137 =>
    .asI .u32 (.sc v137) fun n138 =>
    .nth l130 4 fun v139 =>
    .asI .u16 (.sc v139) fun n140 =>
    .call 14 [(.ag [(.i .i64 n132), (.i .i64 n134), (.i .u32 n136), (.i .u32 n138), (.i .u16 n140)])] fun v141 =>
    .asT 2 v141 fun l142 =>
    .nthC l142 0 fun v143 =>
    .asS (v143.av) fun x144 =>
    .nthC l142 1 fun v145 =>
    .asB (v145.av) fun b146 =>
    .br (decide (((((ByteArray.size x110) + (ByteArray.size x144)) : Nat) : Int) ≤ (9223372036854775807 : Int)))
      (.ret 0 [(.sc (.p (.some (a108, a109)))), (.sc (.s (x110 ++ x144))), (.sc (.it a111)), (.sc (.sl o112)), (.sc (.i .i64 n113)), (.sc (.i .i64 (IntKind.wrap .i64 (n114 + (1 : Int)))))])
      (.fail)))
    (.ret 8 [(.sc (.p (.some (a108, a109)))), (.sc (.s x110)), (.sc (.it a111))])
def t6_k105  : Nat → List AV → Tree := fun a147 l148 =>
  .tg a147 8
    (.asP (l148.getD 0 .un) fun o149 =>
    .nn o149 fun a150 a151 =>
    .asS (l148.getD 1 .un) fun x152 =>
    .asIt (l148.getD 2 .un) fun a153 =>
    .ret 0 [(.sc (.p (.some (a150, a151)))), (.sc (.s x152)), (.sc (.it a153))])
    (.fail)
def t6_b50  : List AV → Tree := fun l51 =>
  .asP (l51.getD 0 .un) fun o52 =>
  .nn o52 fun a53 a54 =>
  .asS (l51.getD 1 .un) fun x55 =>
  .asIt (l51.getD 2 .un) fun a56 =>
  .itx a56 fun r57 => match r57 with
  | some q57 => (fun a58 n59 =>
    cond (n59 == (110 : Int))
      (.ld a53 (a54 + 3) 1 fun l60 =>
      .nth l60 0 fun v61 =>
      .asI .i64 (.sc v61) fun n62 =>
      .call 11 [(.sc (.i .u64 (IntKind.wrap .u64 n62))), (.sc (.i .i64 (1 : Int)))] fun v63 =>
      .asS v63 fun x64 =>
      .br (decide (((((ByteArray.size x55) + (ByteArray.size x64)) : Nat) : Int) ≤ (9223372036854775807 : Int)))
        (.ret 0 [(.sc (.p (.some (a53, a54)))), (.sc (.s (x55 ++ x64))), (.sc (.it a56))])
        (.fail))
      (cond (n59 == (97 : Int))
        (.ld a53 (a54 + 4) 2 fun l65 =>
        .nth l65 0 fun v66 =>
        .asI .u32 (.sc v66) fun n67 =>
        .nth l65 1 fun v68 =>
        .asI .u16 (.sc v68) fun n69 =>
        .call 12 [(.ag [(.i .u32 n67), (.i .u16 n69)])] fun v70 =>
        .asS v70 fun x71 =>
        .br (decide (((((ByteArray.size x55) + (ByteArray.size x71)) : Nat) : Int) ≤ (9223372036854775807 : Int)))
          (.ret 0 [(.sc (.p (.some (a53, a54)))), (.sc (.s (x55 ++ x71))), (.sc (.it a56))])
          (.fail))
        (cond (n59 == (112 : Int))
          (.ld a53 (a54 + 6) 1 fun l72 =>
          .nth l72 0 fun v73 =>
          .asC .f64 (.sc v73) fun a74 a75 =>
          .call 13 [(.sc (.cx .f64 a74 a75))] fun v76 =>
          .asT 2 v76 fun l77 =>
          .nthC l77 0 fun v78 =>
          .asS (v78.av) fun x79 =>
          .nthC l77 1 fun v80 =>
          .asB (v80.av) fun b81 =>
          .br (decide (((((ByteArray.size x55) + (ByteArray.size x79)) : Nat) : Int) ≤ (9223372036854775807 : Int)))
            (.ret 0 [(.sc (.p (.some (a53, a54)))), (.sc (.s (x55 ++ x79))), (.sc (.it a56))])
            (.fail))
          (cond (n59 == (102 : Int))
            (.ld a53 (a54 + 7) 1 fun l82 =>
            .nth l82 0 fun v83 =>
            .asB (.sc v83) fun b84 =>
            cond b84
              (.call 11 [(.sc (.i .u64 (1 : Int))), (.sc (.i .i64 (1 : Int)))] fun v85 =>
              .asS v85 fun x86 =>
              .br (decide (((((ByteArray.size x55) + (ByteArray.size x86)) : Nat) : Int) ≤ (9223372036854775807 : Int)))
                (.ret 0 [(.sc (.p (.some (a53, a54)))), (.sc (.s (x55 ++ x86))), (.sc (.it a56))])
                (.fail))
              (.call 11 [(.sc (.i .u64 (0 : Int))), (.sc (.i .i64 (1 : Int)))] fun v87 =>
              .asS v87 fun x88 =>
              .br (decide (((((ByteArray.size x55) + (ByteArray.size x88)) : Nat) : Int) ≤ (9223372036854775807 : Int)))
                (.ret 0 [(.sc (.p (.some (a53, a54)))), (.sc (.s (x55 ++ x88))), (.sc (.it a56))])
                (.fail)))
            (cond (n59 == (98 : Int))
              (.ld a53 (a54 + 8) 1 fun l89 =>
              .nth l89 0 fun v90 =>
              .asS (.sc v90) fun x91 =>
              .ld a53 (a54 + 8) 1 fun l92 =>
              .nth l92 0 fun v93 =>
              .asS (.sc v93) fun x94 =>
              .call 11 [(.sc (.i .u64 (IntKind.wrap .u64 (((ByteArray.size x91) : Nat) : Int)))), (.sc (.i .i64 (2 : Int)))] fun v95 =>
              .asS v95 fun x96 =>
              .same a53 (a54 + 8) [(.s x94)] (
              .br (decide (((((ByteArray.size x96) + (ByteArray.size x94)) : Nat) : Int) ≤ (9223372036854775807 : Int)))
                (.br (decide (((((ByteArray.size x55) + (ByteArray.size (x96 ++ x94))) : Nat) : Int) ≤ (9223372036854775807 : Int)))
                  (.ret 0 [(.sc (.p (.some (a53, a54)))), (.sc (.s (x55 ++ (x96 ++ x94)))), (.sc (.it a56))])
                  (.fail))
                (.fail)))
              (cond (n59 == (114 : Int))
                (.ld a53 (a54 + 9) 1 fun l97 =>
                .nth l97 0 fun v98 =>
                .asL (.sc v98) fun o99 =>
                .call 11 [(.sc (.i .u64 (IntKind.wrap .u64 (slLen o99)))), (.sc (.i .i64 (1 : Int)))] fun v100 =>
                .asS v100 fun x101 =>
                .br (decide (((((ByteArray.size x55) + (ByteArray.size x101)) : Nat) : Int) ≤ (9223372036854775807 : Int)))
                  (.ld a53 (a54 + 9) 1 fun l102 =>
                  .nth l102 0 fun v103 =>
                  .asL (.sc v103) fun o104 =>
                  .loop t6_b105 [(.sc (.p (.some (a53, a54)))), (.sc (.s (x55 ++ x101))), (.sc (.it a56)), (.sc (.sl o104)), (.sc (.i .i64 (slLen o104))), (.sc (.i .i64 (0 : Int)))] t6_k105)
                  (.fail))
                (.ret 0 [(.sc (.p (.some (a53, a54)))), (.sc (.s x55)), (.sc (.it a56))]))))))) q57.1 q57.2
  | none => (.ret 2 [(.sc (.s x55))])
def t6_k50  : Nat → List AV → Tree := fun a154 l155 =>
  .tg a154 2
    (.asS (l155.getD 0 .un) fun x156 =>
    cond (decide ((((ByteArray.size x156) : Nat) : Int) > (1024 : Int)))
      (.ret 0 [(.tu [(.sc (.s (.mk (.mk [])))), (.sc (.b .false))])])
      (.ret 0 [(.tu [(.sc (.s x156)), (.sc (.b .true))])]))
    (.fail)
/-- scuttlebutt/wire.Put -/
def t6 (n0_0 : Int) (n0_1 : Int) (n0_2 : Int) (n0_3 : Int) (n0_4 : Int) (n0_5 : Int) (n0_6 m0_6 : Nat) (b0_7 : Bool) (x0_8 : ByteArray) (s0_9 : Option SlD) : Tree :=
  .al [(.i .i64 n0_0), (.i .i64 n0_1), (.i .u32 n0_2), (.i .i64 n0_3), (.i .u32 n0_4), (.i .u16 n0_5), (.cx .f64 n0_6 m0_6), (.b b0_7), (.s x0_8), (.sl s0_9)] fun a0 =>
  .ld a0 0 10 fun l1 =>
  .nth l1 0 fun v2 =>
  .asI .i64 (.sc v2) fun n3 =>
  .nth l1 1 fun v4 =>
  .asI .i64 (.sc v4) fun n5 =>
  .nth l1 2 fun v6 =>
  .asI .u32 (.sc v6) fun n7 =>
  .nth l1 3 fun v8 =>
  .asI .i64 (.sc v8) fun n9 =>
  .nth l1 4 fun v10 =>
  .asI .u32 (.sc v10) fun n11 =>
  .nth l1 5 fun v12 =>
  .asI .u16 (.sc v12) fun n13 =>
  .nth l1 6 fun v14 =>
  .asC .f64 (.sc v14) fun a15 a16 =>
  .nth l1 7 fun v17 =>
  .asB (.sc v17) fun b18 =>
  .nth l1 8 fun v19 =>
  .asS (.sc v19) fun x20 =>
  .nth l1 9 fun v21 =>
  .asL (.sc v21) fun o22 =>
  .call 10 [(.ag [(.i .i64 n3), (.i .i64 n5), (.i .u32 n7), (.i .i64 n9), (.i .u32 n11), (.i .u16 n13), (.cx .f64 a15 a16), (.b b18), (.s x20), (.sl o22)])] fun v23 =>
  .asB v23 fun b24 =>
  cond (!b24)
    (.ret 0 [(.tu [(.sc (.s (.mk (.mk [])))), (.sc (.b .false))])])
    (.ld a0 (0 + 0) 1 fun l25 =>
    .nth l25 0 fun v26 =>
    .asI .i64 (.sc v26) fun n27 =>
    .call 8 [(.sc (.i .i64 n27))] fun v28 =>
    .asT 2 v28 fun l29 =>
    .nthC l29 0 fun v30 =>
    .asS (v30.av) fun x31 =>
    .nthC l29 1 fun v32 =>
    .asB (v32.av) fun b33 =>
    .ld a0 (0 + 0) 1 fun l34 =>
    .nth l34 0 fun v35 =>
    .asI .i64 (.sc v35) fun n36 =>
    .ld a0 (0 + 1) 1 fun l37 =>
    .nth l37 0 fun v38 =>
    .asI .i64 (.sc v38) fun n39 =>
    .ld a0 (0 + 2) 1 fun l40 =>
    .nth l40 0 fun v41 =>
    .asI .u32 (.sc v41) fun n42 =>
    .call 11 [(.sc (.i .u64 (IntKind.wrap .u64 n36))), (.sc (.i .i64 (1 : Int)))] fun v43 =>
    .asS v43 fun x44 =>
    .same a0 (0 + 2) [(.i .u32 n42)] (
    .same a0 (0 + 1) [(.i .i64 n39)] (
    .call 11 [(.sc (.i .u64 (IntKind.wrap .u64 n39))), (.sc (.i .i64 (1 : Int)))] fun v45 =>
    .asS v45 fun x46 =>
    .same a0 (0 + 2) [(.i .u32 n42)] (
    .br (decide (((((ByteArray.size x44) + (ByteArray.size x46)) : Nat) : Int) ≤ (9223372036854775807 : Int)))
      (.call 11 [(.sc (.i .u64 (IntKind.wrap .u64 n42))), (.sc (.i .i64 (4 : Int)))] fun v47 =>
      .asS v47 fun x48 =>
      .br (decide (((((ByteArray.size (x44 ++ x46)) + (ByteArray.size x48)) : Nat) : Int) ≤ (9223372036854775807 : Int)))
        (.itn x31 fun a49 =>
        .loop t6_b50 [(.sc (.p (.some (a0, 0)))), (.sc (.s ((x44 ++ x46) ++ x48))), (.sc (.it a49))] t6_k50)
        (.fail))
      (.fail)))))
theorem t6_eq (n0_0 : Int) (n0_1 : Int) (n0_2 : Int) (n0_3 : Int) (n0_4 : Int) (n0_5 : Int) (n0_6 m0_6 : Nat) (b0_7 : Bool) (x0_8 : ByteArray) (s0_9 : Option SlD) : bodyK T (hs 6) Try.f6 [.ag [.i .i64 n0_0, .i .i64 n0_1, .i .u32 n0_2, .i .i64 n0_3, .i .u32 n0_4, .i .u16 n0_5, .cx .f64 n0_6 m0_6, .b b0_7, .s x0_8, .sl s0_9]] = t6 n0_0 n0_1 n0_2 n0_3 n0_4 n0_5 n0_6 m0_6 b0_7 x0_8 s0_9 := by kernel_rfl
def t7_b26  : List AV → Tree := fun l27 =>
  .asS (l27.getD 0 .un) fun x28 =>
  .asP (l27.getD 1 .un) fun o29 =>
  .nn o29 fun a30 a31 =>
  .asP (l27.getD 2 .un) fun o32 =>
  .nn o32 fun a33 a34 =>
  .asP (l27.getD 3 .un) fun o35 =>
  .asIt (l27.getD 4 .un) fun a36 =>
  .itx a36 fun r37 => match r37 with
  | some q37 => (fun a38 n39 =>
    .call 17 [(.sc (.p o35)), (.sc (.p (.some (a33, a34)))), (.sc (.i .i32 n39))] fun v40 =>
    .ret 0 [(.sc (.s x28)), (.sc (.p (.some (a30, a31)))), (.sc (.p (.some (a33, a34)))), (.sc (.p o35)), (.sc (.it a36))]) q37.1 q37.2
  | none => (.ret 2 [(.sc (.s x28)), (.sc (.p (.some (a30, a31)))), (.sc (.p (.some (a33, a34)))), (.sc (.p o35))])
def t7_k26  : Nat → List AV → Tree := fun a41 l42 =>
  .tg a41 2
    (.asS (l42.getD 0 .un) fun x43 =>
    .asP (l42.getD 1 .un) fun o44 =>
    .nn o44 fun a45 a46 =>
    .asP (l42.getD 2 .un) fun o47 =>
    .nn o47 fun a48 a49 =>
    .asP (l42.getD 3 .un) fun o50 =>
    .nn o50 fun a51 a52 =>
    .ld a51 (a52 + 0) 2 fun l53 =>
    .nth l53 0 fun v54 =>
    .asS (.sc v54) fun x55 =>
    .nth l53 1 fun v56 =>
    .asB (.sc v56) fun b57 =>
    .call 18 [(.ag [(.s x55), (.b b57)])] fun v58 =>
    .asB v58 fun b59 =>
    cond (!b59)
      (.ret 3 [(.sc (.p (.some (a45, a46))))])
      (.ld a48 a49 10 fun l60 =>
      .nth l60 0 fun v61 =>
      .asI .i64 (.sc v61) fun n62 =>
      .nth l60 1 fun v63 =>
      .asI .i64 (.sc v63) fun n64 =>
      .nth l60 2 fun v65 =>
      .asI .u32 (.sc v65) fun n66 =>
      .nth l60 3 fun v67 =>
      .asI .i64 (.sc v67) fun n68 =>
      .nth l60 4 fun v69 =>
      .asI .u32 (.sc v69) fun n70 =>
      .nth l60 5 fun v71 =>
      .asI .u16 (.sc v71) fun n72 =>
      .nth l60 6 fun v73 =>
      .asC .f64 (.sc v73) fun a74 a75 =>
      .nth l60 7 fun v76 =>
      .asB (.sc v76) fun b77 =>
      .nth l60 8 fun v78 =>
      .asS (.sc v78) fun x79 =>
      .nth l60 9 fun v80 =>
      .asL (.sc v80) fun o81 =>
      .call 6 [(.ag [(.i .i64 n62), (.i .i64 n64), (.i .u32 n66), (.i .i64 n68), (.i .u32 n70), (.i .u16 n72), (.cx .f64 a74 a75), (.b b77), (.s x79), (.sl o81)])] fun v82 =>
      .asT 2 v82 fun l83 =>
      .nthC l83 0 fun v84 =>
      .asS (v84.av) fun x85 =>
      .nthC l83 1 fun v86 =>
      .asB (v86.av) fun b87 =>
      cond b87
        (cond ((ByteArray.toList x85) == (ByteArray.toList x43))
          (.ld a48 a49 10 fun l88 =>
          .nth l88 0 fun v89 =>
          .asI .i64 (.sc v89) fun n90 =>
          .nth l88 1 fun v91 =>
          .asI .i64 (.sc v91) fun n92 =>
          .nth l88 2 fun v93 =>
          .asI .u32 (.sc v93) fun n94 =>
          .nth l88 3 fun v95 =>
          .asI .i64 (.sc v95) fun n96 =>
          .nth l88 4 fun v97 =>
          .asI .u32 (.sc v97) fun n98 =>
          .nth l88 5 fun v99 =>
          .asI .u16 (.sc v99) fun n100 =>
          .nth l88 6 fun v101 =>
          .asC .f64 (.sc v101) fun a102 a103 =>
          .nth l88 7 fun v104 =>
          .asB (.sc v104) fun b105 =>
          .nth l88 8 fun v106 =>
          .asS (.sc v106) fun x107 =>
          .nth l88 9 fun v108 =>
          .asL (.sc v108) fun o109 =>
          .st a45 a46 [(.i .i64 n90), (.i .i64 n92), (.i .u32 n94), (.i .i64 n96), (.i .u32 n98), (.i .u16 n100), (.cx .f64 a102 a103), (.b b105), (.s x107), (.sl o109)] (
          .ret 1 [(.sc (.p (.some (a45, a46)))), (.sc (.i .i64 (0 : Int)))]))
          (.ret 3 [(.sc (.p (.some (a45, a46))))]))
        (.ret 3 [(.sc (.p (.some (a45, a46))))])))
    (.fail)
def t7_b112  : List AV → Tree := fun l113 =>
  .asI .i64 (l113.getD 0 .un) fun n114 =>
  .br (n114 == (0 : Int))
    (.asP (l113.getD 1 .un) fun o115 =>
    .nn o115 fun a116 a117 =>
    .st a116 a117 [(.i .i64 (0 : Int)), (.i .i64 (0 : Int)), (.i .u32 (0 : Int)), (.i .i64 (0 : Int)), (.i .u32 (0 : Int)), (.i .u16 (0 : Int)), (.cx .f64 0 0), (.b .false), (.s (.mk (.mk []))), (.sl .none)] (
    .ret 2 [(.sc (.p (.some (a116, a117)))), (.sc (.i .i64 (2 : Int)))]))
    (.fail)
def t7_k112  : Nat → List AV → Tree := fun a118 l119 =>
  .tg a118 2
    (.asP (l119.getD 0 .un) fun o120 =>
    .nn o120 fun a121 a122 =>
    .asI .i64 (l119.getD 1 .un) fun n123 =>
    .ld a121 a122 10 fun l124 =>
    .nth l124 0 fun v125 =>
    .asI .i64 (.sc v125) fun n126 =>
    .nth l124 1 fun v127 =>
    .asI .i64 (.sc v127) fun n128 =>
    .nth l124 2 fun v129 =>
    .asI .u32 (.sc v129) fun n130 =>
    .nth l124 3 fun v131 =>
    .asI .i64 (.sc v131) fun n132 =>
    .nth l124 4 fun v133 =>
    .asI .u32 (.sc v133) fun n134 =>
    .nth l124 5 fun v135 =>
    .asI .u16 (.sc v135) fun n136 =>
    .nth l124 6 fun v137 =>
    .asC .f64 (.sc v137) fun a138 a139 =>
    .nth l124 7 fun v140 =>
    .asB (.sc v140) fun b141 =>
    .nth l124 8 fun v142 =>
    .asS (.sc v142) fun x143 =>
    .nth l124 9 fun v144 =>
    .asL (.sc v144) fun o145 =>
    .ret 0 [(.tu [(.ag [(.i .i64 n126), (.i .i64 n128), (.i .u32 n130), (.i .i64 n132), (.i .u32 n134), (.i .u16 n136), (.cx .f64 a138 a139), (.b b141), (.s x143), (.sl o145)]), (.sc (.i .i64 n123))])])
    (.fail)
def t7_k1  : Nat → List AV → Tree := fun a110 l111 =>
  .tg a110 3
    (.loop t7_b112 ((.sc (.i .i64 (0 : Int))) :: l111) t7_k112)
    (.tg a110 1
      (.asP (l111.getD 0 .un) fun o146 =>
      .nn o146 fun a147 a148 =>
      .asI .i64 (l111.getD 1 .un) fun n149 =>
      .ld a147 a148 10 fun l150 =>
      .nth l150 0 fun v151 =>
      .asI .i64 (.sc v151) fun n152 =>
      .nth l150 1 fun v153 =>
      .asI .i64 (.sc v153) fun n154 =>
      .nth l150 2 fun v155 =>
      .asI .u32 (.sc v155) fun n156 =>
      .nth l150 3 fun v157 =>
      .asI .i64 (.sc v157) fun n158 =>
      .nth l150 4 fun v159 =>
      .asI .u32 (.sc v159) fun n160 =>
      .nth l150 5 fun v161 =>
      .asI .u16 (.sc v161) fun n162 =>
      .nth l150 6 fun v163 =>
      .asC .f64 (.sc v163) fun a164 a165 =>
      .nth l150 7 fun v166 =>
      .asB (.sc v166) fun b167 =>
      .nth l150 8 fun v168 =>
      .asS (.sc v168) fun x169 =>
      .nth l150 9 fun v170 =>
      .asL (.sc v170) fun o171 =>
      .ret 0 [(.tu [(.ag [(.i .i64 n152), (.i .i64 n154), (.i .u32 n156), (.i .i64 n158), (.i .u32 n160), (.i .u16 n162), (.cx .f64 a164 a165), (.b b167), (.s x169), (.sl o171)]), (.sc (.i .i64 n149))])])
      (.fail))
/-- scuttlebutt/wire.Get -/
def t7 (x0_ : ByteArray) : Tree :=
  .al [(.i .i64 (0 : Int)), (.i .i64 (0 : Int)), (.i .u32 (0 : Int)), (.i .i64 (0 : Int)), (.i .u32 (0 : Int)), (.i .u16 (0 : Int)), (.cx .f64 0 0), (.b .false), (.s (.mk (.mk []))), (.sl .none)] fun a0 =>
  .join (
    .al [(.i .i64 (0 : Int)), (.i .i64 (0 : Int)), (.i .u32 (0 : Int)), (.i .i64 (0 : Int)), (.i .u32 (0 : Int)), (.i .u16 (0 : Int)), (.cx .f64 0 0), (.b .false), (.s (.mk (.mk []))), (.sl .none)] fun a2 =>
    .call 15 [(.sc (.s x0_))] fun v3 =>
    .asA 2 v3 fun l4 =>
    .nth l4 0 fun v5 =>
    .asS (.sc v5) fun x6 =>
    .nth l4 1 fun v7 =>
    .asB (.sc v7) fun b8 =>
    .al [(.s x6), (.b b8)] fun a9 =>
    cond (decide ((((ByteArray.size x0_) : Nat) : Int) > (1024 : Int)))
      (.st a0 0 [(.i .i64 (0 : Int)), (.i .i64 (0 : Int)), (.i .u32 (0 : Int)), (.i .i64 (0 : Int)), (.i .u32 (0 : Int)), (.i .u16 (0 : Int)), (.cx .f64 0 0), (.b .false), (.s (.mk (.mk []))), (.sl .none)] (
      .ret 1 [(.sc (.p (.some (a0, 0)))), (.sc (.i .i64 (3 : Int)))]))
      (.call 16 [(.sc (.p (.some (a9, 0)))), (.sc (.i .i64 (1 : Int)))] fun v10 =>
      .asI .i64 v10 fun n11 =>
      .call 16 [(.sc (.p (.some (a9, 0)))), (.sc (.i .i64 (1 : Int)))] fun v12 =>
      .asI .i64 v12 fun n13 =>
      .st a2 (0 + 0) [(.i .i64 n11)] (
      .st a2 (0 + 1) [(.i .i64 n13)] (
      .call 16 [(.sc (.p (.some (a9, 0)))), (.sc (.i .i64 (4 : Int)))] fun v14 =>
      .asI .i64 v14 fun n15 =>
      .st a2 (0 + 2) [(.i .u32 (IntKind.wrap .u32 n15))] (
      .ld a2 (0 + 0) 1 fun l16 =>
      .nth l16 0 fun v17 =>
      .asI .i64 (.sc v17) fun n18 =>
      .call 8 [(.sc (.i .i64 n18))] fun v19 =>
      .asT 2 v19 fun l20 =>
      .nthC l20 0 fun v21 =>
      .asS (v21.av) fun x22 =>
      .nthC l20 1 fun v23 =>
      .asB (v23.av) fun b24 =>
      cond (!b24)
        (.ret 3 [(.sc (.p (.some (a0, 0))))])
        (.itn x22 fun a25 =>
        .loop t7_b26 [(.sc (.s x0_)), (.sc (.p (.some (a0, 0)))), (.sc (.p (.some (a2, 0)))), (.sc (.p (.some (a9, 0)))), (.sc (.it a25))] t7_k26)))))) t7_k1
theorem t7_eq (x0_ : ByteArray) : bodyK T (hs 7) Try.f7 [.sc (.s x0_)] = t7 x0_ := by kernel_rfl
def t17_b41  : List AV → Tree := fun l42 =>
  .asP (l42.getD 0 .un) fun o43 =>
  .asP (l42.getD 1 .un) fun o44 =>
  .asI .i64 (l42.getD 2 .un) fun n45 =>
  cond (decide (n45 > (0 : Int)))
    (.nn o43 fun a46 a47 =>
    .ld a46 ((a47 + 0) + 1) 1 fun l48 =>
    .nth l48 0 fun v49 =>
    .asB (.sc v49) fun b50 =>
    cond (!b50)
      (.nn o43 fun a51 a52 =>
      .ld a51 ((a52 + 0) + 0) 1 fun l53 =>
      .nth l53 0 fun v54 =>
      .asS (.sc v54) fun x55 =>
      .call 33 [(.sc (.s x55))] fun v56 =>
      .asT 3 v56 fun l57 =>
      .nthC l57 0 fun v58 =>
      .asA 5 (v58.av) fun l59 =>
      .nth l59 0 fun v60 =>
      .asI .i64 (.sc v60) fun n61 =>
      .nth l59 1 fun v62 =>
      .asI .i64 (.sc v62) fun n63 =>
      .nth l59 2 fun v64 =>
      .asI .u32 (.sc v64) fun n65 =>
      .nth l59 3 fun v66 =>
      .asI .u32 (.sc v66) fun n67 =>
      .nth l59 4 fun v68 =>
      .asI .u16 (.sc v68) fun n69 =>
      .nthC l57 1 fun v70 =>
      .asS (v70.av) fun x71 =>
      .nthC l57 2 fun v72 =>
      .asB (v72.av) fun b73 =>
      .al [(.i .i64 (0 : Int)), (.i .i64 (0 : Int)), (.i .u32 (0 : Int)), (.i .u32 (0 : Int)), (.i .u16 (0 : Int))] fun a74 =>
      .st a74 0 [(.i .i64 n61), (.i .i64 n63), (.i .u32 n65), (.i .u32 n67), (.i .u16 n69)] (
      .nn o43 fun a75 a76 =>
      .st a75 (a76 + 0) [(.s x71), (.b (!b73))] (
      .nn o44 fun a77 a78 =>
      .ld a77 (a78 + 9) 1 fun l79 =>
      .nth l79 0 fun v80 =>
      .asL (.sc v80) fun o81 =>
      .ld a74 0 5 fun l82 =>
      .nth l82 0 fun v83 =>
      .asI .i64 (.sc v83) fun n84 =>
      .nth l82 1 fun v85 =>
      .asI .i64 (.sc v85) fun n86 =>
      .nth l82 2 fun v87 =>
      .asI .u32 (.sc v87) fun n88 =>
      .nth l82 3 fun v89 =>
      .asI .u32 (.sc v89) fun n90 =>
      .nth l82 4 fun v91 =>
      .asI .u16 (.sc v91) fun n92 =>
      .al [(.i .i64 n84), (.i .i64 n86), (.i .u32 n88), (.i .u32 n90), (.i .u16 n92)] fun a93 =>
      .lds 5 (.some (.mk a93 0 1 1 5)) (slN (.some (.mk a93 0 1 1 5))) fun l94 =>
      .app 5 32 o81 l94 (slN (.some (.mk a93 0 1 1 5))) fun o95 =>
      .nn o44 fun a96 a97 =>
      .st a96 (a97 + 9) [(.sl o95)] (
      .ret 0 [(.sc (.p o43)), (.sc (.p o44)), (.sc (.i .i64 (IntKind.wrap .i64 (n45 - (1 : Int)))))]))))
      (.ret 4 []))
    (.ret 4 [])
def t17_k41  : Nat → List AV → Tree := fun a98 l99 =>
  .tg a98 4
    (.ret 0 [(.tu [])])
    (.fail)
/-- (*scuttlebutt/wire.reader).field -/
def t17 (p0_ q0_ : Nat) (p1_ q1_ : Nat) (n2_ : Int) : Tree :=
  cond (n2_ == (110 : Int))
    (.call 16 [(.sc (.p (.some (p0_, q0_)))), (.sc (.i .i64 (1 : Int)))] fun v0 =>
    .asI .i64 v0 fun n1 =>
    .nn (.some (p1_, q1_)) fun a2 a3 =>
    .st a2 (a3 + 3) [(.i .i64 n1)] (
    .ret 0 [(.tu [])]))
    (cond (n2_ == (97 : Int))
      (.call 31 [(.sc (.p (.some (p0_, q0_)))), (.sc (.i .i64 (6 : Int)))] fun v4 =>
      .asS v4 fun x5 =>
      .call 30 [(.sc (.s x5))] fun v6 =>
      .asT 2 v6 fun l7 =>
      .nthC l7 0 fun v8 =>
      .asA 2 (v8.av) fun l9 =>
      .nth l9 0 fun v10 =>
      .asI .u32 (.sc v10) fun n11 =>
      .nth l9 1 fun v12 =>
      .asI .u16 (.sc v12) fun n13 =>
      .nthC l7 1 fun v14 =>
      .asB (v14.av) fun b15 =>
      .nn (.some (p1_, q1_)) fun a16 a17 =>
      .st a16 (a17 + 4) [(.i .u32 n11), (.i .u16 n13)] (
      .ret 0 [(.tu [])]))
      (cond (n2_ == (112 : Int))
        (.call 31 [(.sc (.p (.some (p0_, q0_)))), (.sc (.i .i64 (8 : Int)))] fun v18 =>
        .asS v18 fun x19 =>
        .call 32 [(.sc (.s x19))] fun v20 =>
        .asT 2 v20 fun l21 =>
        .nthC l21 0 fun v22 =>
        .asC .f64 (v22.av) fun a23 a24 =>
        .nthC l21 1 fun v25 =>
        .asB (v25.av) fun b26 =>
        .nn (.some (p1_, q1_)) fun a27 a28 =>
        .st a27 (a28 + 6) [(.cx .f64 a23 a24)] (
        .ret 0 [(.tu [])]))
        (cond (n2_ == (102 : Int))
          (.call 16 [(.sc (.p (.some (p0_, q0_)))), (.sc (.i .i64 (1 : Int)))] fun v29 =>
          .asI .i64 v29 fun n30 =>
          .nn (.some (p1_, q1_)) fun a31 a32 =>
          .st a31 (a32 + 7) [(.b (n30 == (1 : Int)))] (
          .ret 0 [(.tu [])]))
          (cond (n2_ == (98 : Int))
            (.call 16 [(.sc (.p (.some (p0_, q0_)))), (.sc (.i .i64 (2 : Int)))] fun v33 =>
            .asI .i64 v33 fun n34 =>
            .call 31 [(.sc (.p (.some (p0_, q0_)))), (.sc (.i .i64 n34))] fun v35 =>
            .asS v35 fun x36 =>
            .nn (.some (p1_, q1_)) fun a37 a38 =>
            .st a37 (a38 + 8) [(.s x36)] (
            .ret 0 [(.tu [])]))
            (cond (n2_ == (114 : Int))
              (.call 16 [(.sc (.p (.some (p0_, q0_)))), (.sc (.i .i64 (1 : Int)))] fun v39 =>
              .asI .i64 v39 fun n40 =>
              .loop t17_b41 [(.sc (.p (.some (p0_, q0_)))), (.sc (.p (.some (p1_, q1_)))), (.sc (.i .i64 n40))] t17_k41)
              (.ret 0 [(.tu [])]))))))
theorem t17_eq (p0_ q0_ : Nat) (p1_ q1_ : Nat) (n2_ : Int) : bodyK T (hs 17) Try.f17 [.sc (.p (some (p0_, q0_))), .sc (.p (some (p1_, q1_))), .sc (.i .i32 n2_)] = t17 p0_ q0_ p1_ q1_ n2_ := by kernel_rfl
end Go.Proofs.Ytkhooppaenfkdaa
