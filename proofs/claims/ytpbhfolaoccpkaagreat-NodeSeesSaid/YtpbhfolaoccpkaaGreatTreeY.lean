/- Trees of functions, printed by a program of mine; each is proved to be the function's. -/
import Derived.Test.YtpbhfolaoccpkaaGreatGen
namespace Go.Proofs.YtpbhfolaoccpkaaGreat
open Go Go.Proofs.YtpbhfolaoccpkaaGreat.Fw
set_option linter.unusedVariables false
set_option maxRecDepth 20000
def t25_b26  : List AV → Tree := fun l27 =>
  .asS (l27.getD 0 .un) fun x28 =>
  .asP (l27.getD 1 .un) fun o29 =>
  .nn o29 fun a30 a31 =>
  .asP (l27.getD 2 .un) fun o32 =>
  .nn o32 fun a33 a34 =>
  .asP (l27.getD 3 .un) fun o35 =>
  .asIt (l27.getD 4 .un) fun a36 =>
  .itx a36 fun r37 => match r37 with
  | some q37 => (fun a38 n39 =>
    .call 101 [(.sc (.p o35)), (.sc (.p (.some (a33, a34)))), (.sc (.i .i32 n39))] fun v40 =>
    .ret 0 [(.sc (.s x28)), (.sc (.p (.some (a30, a31)))), (.sc (.p (.some (a33, a34)))), (.sc (.p o35)), (.sc (.it a36))]) q37.1 q37.2
  | none => (.ret 2 [(.sc (.s x28)), (.sc (.p (.some (a30, a31)))), (.sc (.p (.some (a33, a34)))), (.sc (.p o35))])
def t25_k26  : Nat → List AV → Tree := fun a41 l42 =>
  .tg a41 2
    (.asS (l42.getD 0 .un) fun x43 =>
    .asP (l42.getD 1 .un) fun o44 =>
    .nn o44 fun a45 a46 =>
    .asP (l42.getD 2 .un) fun o47 =>
    .nn o47 fun a48 a49 =>
    .asP (l42.getD 3 .un) fun o50 =>
    .nn o50 fun a51 a52 =>
    .ld a51 (a52 + 0) 2 fun l53 =>
    .nth l53 0 fun v54 =>
    .asS (.sc v54) fun x55 =>
    .nth l53 1 fun v56 =>
    .asB (.sc v56) fun b57 =>
    .call 102 [(.ag [(.s x55), (.b b57)])] fun v58 =>
    .asB v58 fun b59 =>
    cond (!b59)
      (.ret 3 [(.sc (.p (.some (a45, a46))))])
      (.ld a48 a49 10 fun l60 =>
      .nth l60 0 fun v61 =>
      .asI .i64 (.sc v61) fun n62 =>
      .nth l60 1 fun v63 =>
      .asI .i64 (.sc v63) fun n64 =>
      .nth l60 2 fun v65 =>
      .asI .u32 (.sc v65) fun n66 =>
      .nth l60 3 fun v67 =>
      .asI .i64 (.sc v67) fun n68 =>
      .nth l60 4 fun v69 =>
      .asI .u32 (.sc v69) fun n70 =>
      .nth l60 5 fun v71 =>
      .asI .u16 (.sc v71) fun n72 =>
      .nth l60 6 fun v73 =>
      .asC .f64 (.sc v73) fun a74 a75 =>
      .nth l60 7 fun v76 =>
      .asB (.sc v76) fun b77 =>
      .nth l60 8 fun v78 =>
      .asS (.sc v78) fun x79 =>
      .nth l60 9 fun v80 =>
      .asL (.sc v80) fun o81 =>
      .call 103 [(.ag [(.i .i64 n62), (.i .i64 n64), (.i .u32 n66), (.i .i64 n68), (.i .u32 n70), (.i .u16 n72), (.cx .f64 a74 a75), (.b b77), (.s x79), (.sl o81)])] fun v82 =>
      .asT 2 v82 fun l83 =>
      .nthC l83 0 fun v84 =>
      .asS (v84.av) fun x85 =>
      .nthC l83 1 fun v86 =>
      .asB (v86.av) fun b87 =>
      cond b87
        (cond ((ByteArray.toList x85) == (ByteArray.toList x43))
          (.ld a48 a49 10 fun l88 =>
          .nth l88 0 fun v89 =>
          .asI .i64 (.sc v89) fun n90 =>
          .nth l88 1 fun v91 =>
          .asI .i64 (.sc v91) fun n92 =>
          .nth l88 2 fun v93 =>
          .asI .u32 (.sc v93) fun n94 =>
          .nth l88 3 fun v95 =>
          .asI .i64 (.sc v95) fun n96 =>
          .nth l88 4 fun v97 =>
          .asI .u32 (.sc v97) fun n98 =>
          .nth l88 5 fun v99 =>
          .asI .u16 (.sc v99) fun n100 =>
          .nth l88 6 fun v101 =>
          .asC .f64 (.sc v101) fun a102 a103 =>
          .nth l88 7 fun v104 =>
          .asB (.sc v104) fun b105 =>
          .nth l88 8 fun v106 =>
          .asS (.sc v106) fun x107 =>
          .nth l88 9 fun v108 =>
          .asL (.sc v108) fun o109 =>
          .st a45 a46 [(.i .i64 n90), (.i .i64 n92), (.i .u32 n94), (.i .i64 n96), (.i .u32 n98), (.i .u16 n100), (.cx .f64 a102 a103), (.b b105), (.s x107), (.sl o109)] (
          .ret 1 [(.sc (.p (.some (a45, a46)))), (.sc (.i .i64 (0 : Int)))]))
          (.ret 3 [(.sc (.p (.some (a45, a46))))]))
        (.ret 3 [(.sc (.p (.some (a45, a46))))])))
    (.fail)
def t25_b112  : List AV → Tree := fun l113 =>
  .asI .i64 (l113.getD 0 .un) fun n114 =>
  .br (n114 == (0 : Int))
    (.asP (l113.getD 1 .un) fun o115 =>
    .nn o115 fun a116 a117 =>
    .st a116 a117 [(.i .i64 (0 : Int)), (.i .i64 (0 : Int)), (.i .u32 (0 : Int)), (.i .i64 (0 : Int)), (.i .u32 (0 : Int)), (.i .u16 (0 : Int)), (.cx .f64 0 0), (.b .false), (.s (.mk (.mk []))), (.sl .none)] (
    .ret 2 [(.sc (.p (.some (a116, a117)))), (.sc (.i .i64 (2 : Int)))]))
    (.fail)
def t25_k112  : Nat → List AV → Tree := fun a118 l119 =>
  .tg a118 2
    (.asP (l119.getD 0 .un) fun o120 =>
    .nn o120 fun a121 a122 =>
    .asI .i64 (l119.getD 1 .un) fun n123 =>
    .ld a121 a122 10 fun l124 =>
    .nth l124 0 fun v125 =>
    .asI .i64 (.sc v125) fun n126 =>
    .nth l124 1 fun v127 =>
    .asI .i64 (.sc v127) fun n128 =>
    .nth l124 2 fun v129 =>
    .asI .u32 (.sc v129) fun n130 =>
    .nth l124 3 fun v131 =>
    .asI .i64 (.sc v131) fun n132 =>
    .nth l124 4 fun v133 =>
    .asI .u32 (.sc v133) fun n134 =>
    .nth l124 5 fun v135 =>
    .asI .u16 (.sc v135) fun n136 =>
    .nth l124 6 fun v137 =>
    .asC .f64 (.sc v137) fun a138 a139 =>
    .nth l124 7 fun v140 =>
    .asB (.sc v140) fun b141 =>
    .nth l124 8 fun v142 =>
    .asS (.sc v142) fun x143 =>
    .nth l124 9 fun v144 =>
    .asL (.sc v144) fun o145 =>
    .ret 0 [(.tu [(.ag [(.i .i64 n126), (.i .i64 n128), (.i .u32 n130), (.i .i64 n132), (.i .u32 n134), (.i .u16 n136), (.cx .f64 a138 a139), (.b b141), (.s x143), (.sl o145)]), (.sc (.i .i64 n123))])])
    (.fail)
def t25_k1  : Nat → List AV → Tree := fun a110 l111 =>
  .tg a110 3
    (.loop t25_b112 ((.sc (.i .i64 (0 : Int))) :: l111) t25_k112)
    (.tg a110 1
      (.asP (l111.getD 0 .un) fun o146 =>
      .nn o146 fun a147 a148 =>
      .asI .i64 (l111.getD 1 .un) fun n149 =>
      .ld a147 a148 10 fun l150 =>
      .nth l150 0 fun v151 =>
      .asI .i64 (.sc v151) fun n152 =>
      .nth l150 1 fun v153 =>
      .asI .i64 (.sc v153) fun n154 =>
      .nth l150 2 fun v155 =>
      .asI .u32 (.sc v155) fun n156 =>
      .nth l150 3 fun v157 =>
      .asI .i64 (.sc v157) fun n158 =>
      .nth l150 4 fun v159 =>
      .asI .u32 (.sc v159) fun n160 =>
      .nth l150 5 fun v161 =>
      .asI .u16 (.sc v161) fun n162 =>
      .nth l150 6 fun v163 =>
      .asC .f64 (.sc v163) fun a164 a165 =>
      .nth l150 7 fun v166 =>
      .asB (.sc v166) fun b167 =>
      .nth l150 8 fun v168 =>
      .asS (.sc v168) fun x169 =>
      .nth l150 9 fun v170 =>
      .asL (.sc v170) fun o171 =>
      .ret 0 [(.tu [(.ag [(.i .i64 n152), (.i .i64 n154), (.i .u32 n156), (.i .i64 n158), (.i .u32 n160), (.i .u16 n162), (.cx .f64 a164 a165), (.b b167), (.s x169), (.sl o171)]), (.sc (.i .i64 n149))])])
      (.fail))
/-- scuttlebutt/wire.Get -/
def t25 (x0_ : ByteArray) : Tree :=
  .al [(.i .i64 (0 : Int)), (.i .i64 (0 : Int)), (.i .u32 (0 : Int)), (.i .i64 (0 : Int)), (.i .u32 (0 : Int)), (.i .u16 (0 : Int)), (.cx .f64 0 0), (.b .false), (.s (.mk (.mk []))), (.sl .none)] fun a0 =>
  .join (
    .al [(.i .i64 (0 : Int)), (.i .i64 (0 : Int)), (.i .u32 (0 : Int)), (.i .i64 (0 : Int)), (.i .u32 (0 : Int)), (.i .u16 (0 : Int)), (.cx .f64 0 0), (.b .false), (.s (.mk (.mk []))), (.sl .none)] fun a2 =>
    .call 98 [(.sc (.s x0_))] fun v3 =>
    .asA 2 v3 fun l4 =>
    .nth l4 0 fun v5 =>
    .asS (.sc v5) fun x6 =>
    .nth l4 1 fun v7 =>
    .asB (.sc v7) fun b8 =>
    .al [(.s x6), (.b b8)] fun a9 =>
    cond (decide ((((ByteArray.size x0_) : Nat) : Int) > (1024 : Int)))
      (.st a0 0 [(.i .i64 (0 : Int)), (.i .i64 (0 : Int)), (.i .u32 (0 : Int)), (.i .i64 (0 : Int)), (.i .u32 (0 : Int)), (.i .u16 (0 : Int)), (.cx .f64 0 0), (.b .false), (.s (.mk (.mk []))), (.sl .none)] (
      .ret 1 [(.sc (.p (.some (a0, 0)))), (.sc (.i .i64 (3 : Int)))]))
      (.call 99 [(.sc (.p (.some (a9, 0)))), (.sc (.i .i64 (1 : Int)))] fun v10 =>
      .asI .i64 v10 fun n11 =>
      .call 99 [(.sc (.p (.some (a9, 0)))), (.sc (.i .i64 (1 : Int)))] fun v12 =>
      .asI .i64 v12 fun n13 =>
      .st a2 (0 + 0) [(.i .i64 n11)] (
      .st a2 (0 + 1) [(.i .i64 n13)] (
      .call 99 [(.sc (.p (.some (a9, 0)))), (.sc (.i .i64 (4 : Int)))] fun v14 =>
      .asI .i64 v14 fun n15 =>
      .st a2 (0 + 2) [(.i .u32 (IntKind.wrap .u32 n15))] (
      .ld a2 (0 + 0) 1 fun l16 =>
      .nth l16 0 fun v17 =>
      .asI .i64 (.sc v17) fun n18 =>
      .call 100 [(.sc (.i .i64 n18))] fun v19 =>
      .asT 2 v19 fun l20 =>
      .nthC l20 0 fun v21 =>
      .asS (v21.av) fun x22 =>
      .nthC l20 1 fun v23 =>
      .asB (v23.av) fun b24 =>
      cond (!b24)
        (.ret 3 [(.sc (.p (.some (a0, 0))))])
        (.itn x22 fun a25 =>
        .loop t25_b26 [(.sc (.s x0_)), (.sc (.p (.some (a0, 0)))), (.sc (.p (.some (a2, 0)))), (.sc (.p (.some (a9, 0)))), (.sc (.it a25))] t25_k26)))))) t25_k1
theorem t25_eq (x0_ : ByteArray) : bodyK T (hs 25) Tryz.f25 [.sc (.s x0_)] = t25 x0_ := by kernel_rfl
/-- scuttlebutt/pack.Read -/
def t98 (x0_ : ByteArray) : Tree :=
  .al [(.s (.mk (.mk []))), (.b .false)] fun a0 =>
  .st a0 0 [(.s x0_), (.b .false)] (
  .ld a0 0 2 fun l1 =>
  .nth l1 0 fun v2 =>
  .asS (.sc v2) fun x3 =>
  .nth l1 1 fun v4 =>
  .asB (.sc v4) fun b5 =>
  .ret 0 [(.ag [(.s x3), (.b b5)])])
theorem t98_eq (x0_ : ByteArray) : bodyK T (hs 98) Tryz.f98 [.sc (.s x0_)] = t98 x0_ := by kernel_rfl
/-- (*scuttlebutt/wire.reader).number -/
def t99 (p0_ q0_ : Nat) (n1_ : Int) : Tree :=
  .nn (.some (p0_, q0_)) fun a0 a1 =>
  .ld a0 (a1 + 0) 2 fun l2 =>
  .nth l2 0 fun v3 =>
  .asS (.sc v3) fun x4 =>
  .nth l2 1 fun v5 =>
  .asB (.sc v5) fun b6 =>
  .call 191 [(.ag [(.s x4), (.b b6)]), (.sc (.i .i64 n1_))] fun v7 =>
  .asT 2 v7 fun l8 =>
  .nthC l8 0 fun v9 =>
  .asI .u64 (v9.av) fun n10 =>
  .nthC l8 1 fun v11 =>
  .asA 2 (v11.av) fun l12 =>
  .nth l12 0 fun v13 =>
  .asS (.sc v13) fun x14 =>
  .nth l12 1 fun v15 =>
  .asB (.sc v15) fun b16 =>
  .al [(.s (.mk (.mk []))), (.b .false)] fun a17 =>
  .st a17 0 [(.s x14), (.b b16)] (
  .ld a17 0 2 fun l18 =>
  .nth l18 0 fun v19 =>
  .asS (.sc v19) fun x20 =>
  .nth l18 1 fun v21 =>
  .asB (.sc v21) fun b22 =>
  .nn (.some (p0_, q0_)) fun a23 a24 =>
  .st a23 (a24 + 0) [(.s x20), (.b b22)] (
  .ret 0 [(.sc (.i .i64 (IntKind.wrap .i64 n10)))]))
theorem t99_eq (p0_ q0_ : Nat) (n1_ : Int) : bodyK T (hs 99) Tryz.f99 [.sc (.p (some (p0_, q0_))), .sc (.i .i64 n1_)] = t99 p0_ q0_ n1_ := by kernel_rfl
/-- scuttlebutt/wire.Has -/
def t100 (n0_ : Int) : Tree :=
  .al [(.s (.mk (.mk []))), (.s (.mk (.mk []))), (.s (.mk (.mk []))), (.s (.mk (.mk []))), (.s (.mk (.mk []))), (.s (.mk (.mk []))), (.s (.mk (.mk []))), (.s (.mk (.mk []))), (.s (.mk (.mk []))), (.s (.mk (.mk []))), (.s (.mk (.mk []))), (.s (.mk (.mk []))), (.s (.mk (.mk []))), (.s (.mk (.mk []))), (.s (.mk (.mk []))), (.s (.mk (.mk []))), (.s (.mk (.mk [])))] fun a0 =>
  .st a0 0 [(.s (.mk (.mk []))), (.s (.mk (.mk [110, 114]))), (.s (.mk (.mk [112, 114]))), (.s (.mk (.mk [110, 97, 114]))), (.s (.mk (.mk [110]))), (.s (.mk (.mk [110, 98]))), (.s (.mk (.mk [97, 102]))), (.s (.mk (.mk [97, 102]))), (.s (.mk (.mk [110]))), (.s (.mk (.mk [110]))), (.s (.mk (.mk [102]))), (.s (.mk (.mk [102]))), (.s (.mk (.mk []))), (.s (.mk (.mk [112, 114]))), (.s (.mk (.mk [114]))), (.s (.mk (.mk [102, 114]))), (.s (.mk (.mk [110, 97])))] (
  cond (decide (n0_ < (1 : Int)))
    (.ret 0 [(.tu [(.sc (.s (.mk (.mk [])))), (.sc (.b .false))])])
    (cond (decide (n0_ ≥ (17 : Int)))
      (.ret 0 [(.tu [(.sc (.s (.mk (.mk [])))), (.sc (.b .false))])])
      (.br ((decide ((0 : Int) ≤ n0_)) && (decide (n0_ < (17 : Int))))
        (.ld a0 (0 + ((Int.toNat n0_) * 1)) 1 fun l1 =>
        .nth l1 0 fun v2 =>
        .asS (.sc v2) fun x3 =>
        .ret 0 [(.tu [(.sc (.s x3)), (.sc (.b .true))])])
        (.fail))))
theorem t100_eq (n0_ : Int) : bodyK T (hs 100) Tryz.f100 [.sc (.i .i64 n0_)] = t100 n0_ := by kernel_rfl
def t101_b41  : List AV → Tree := fun l42 =>
  .asP (l42.getD 0 .un) fun o43 =>
  .asP (l42.getD 1 .un) fun o44 =>
  .asI .i64 (l42.getD 2 .un) fun n45 =>
  cond (decide (n45 > (0 : Int)))
    (.nn o43 fun a46 a47 =>
    .ld a46 ((a47 + 0) + 1) 1 fun l48 =>
    .nth l48 0 fun v49 =>
    .asB (.sc v49) fun b50 =>
    cond (!b50)
      (.nn o43 fun a51 a52 =>
      .ld a51 ((a52 + 0) + 0) 1 fun l53 =>
      .nth l53 0 fun v54 =>
      .asS (.sc v54) fun x55 =>
      .call 195 [(.sc (.s x55))] fun v56 =>
      .asT 3 v56 fun l57 =>
      .nthC l57 0 fun v58 =>
      .asA 5 (v58.av) fun l59 =>
      .nth l59 0 fun v60 =>
      .asI .i64 (.sc v60) fun n61 =>
      .nth l59 1 fun v62 =>
      .asI .i64 (.sc v62) fun n63 =>
      .nth l59 2 fun v64 =>
      .asI .u32 (.sc v64) fun n65 =>
      .nth l59 3 fun v66 =>
      .asI .u32 (.sc v66) fun n67 =>
      .nth l59 4 fun v68 =>
      .asI .u16 (.sc v68) fun n69 =>
      .nthC l57 1 fun v70 =>
      .asS (v70.av) fun x71 =>
      .nthC l57 2 fun v72 =>
      .asB (v72.av) fun b73 =>
      .al [(.i .i64 (0 : Int)), (.i .i64 (0 : Int)), (.i .u32 (0 : Int)), (.i .u32 (0 : Int)), (.i .u16 (0 : Int))] fun a74 =>
      .st a74 0 [(.i .i64 n61), (.i .i64 n63), (.i .u32 n65), (.i .u32 n67), (.i .u16 n69)] (
      .nn o43 fun a75 a76 =>
      .st a75 (a76 + 0) [(.s x71), (.b (!b73))] (
      .nn o44 fun a77 a78 =>
      .ld a77 (a78 + 9) 1 fun l79 =>
      .nth l79 0 fun v80 =>
      .asL (.sc v80) fun o81 =>
      .ld a74 0 5 fun l82 =>
      .nth l82 0 fun v83 =>
      .asI .i64 (.sc v83) fun n84 =>
      .nth l82 1 fun v85 =>
      .asI .i64 (.sc v85) fun n86 =>
      .nth l82 2 fun v87 =>
      .asI .u32 (.sc v87) fun n88 =>
      .nth l82 3 fun v89 =>
      .asI .u32 (.sc v89) fun n90 =>
      .nth l82 4 fun v91 =>
      .asI .u16 (.sc v91) fun n92 =>
      .al [(.i .i64 n84), (.i .i64 n86), (.i .u32 n88), (.i .u32 n90), (.i .u16 n92)] fun a93 =>
      .lds 5 (.some (.mk a93 0 1 1 5)) (slN (.some (.mk a93 0 1 1 5))) fun l94 =>
      .app 5 32 o81 l94 (slN (.some (.mk a93 0 1 1 5))) fun o95 =>
      .nn o44 fun a96 a97 =>
      .st a96 (a97 + 9) [(.sl o95)] (
      .ret 0 [(.sc (.p o43)), (.sc (.p o44)), (.sc (.i .i64 (IntKind.wrap .i64 (n45 - (1 : Int)))))]))))
      (.ret 4 []))
    (.ret 4 [])
def t101_k41  : Nat → List AV → Tree := fun a98 l99 =>
  .tg a98 4
    (.ret 0 [(.tu [])])
    (.fail)
/-- (*scuttlebutt/wire.reader).field -/
def t101 (p0_ q0_ : Nat) (p1_ q1_ : Nat) (n2_ : Int) : Tree :=
  cond (n2_ == (110 : Int))
    (.call 99 [(.sc (.p (.some (p0_, q0_)))), (.sc (.i .i64 (1 : Int)))] fun v0 =>
    .asI .i64 v0 fun n1 =>
    .nn (.some (p1_, q1_)) fun a2 a3 =>
    .st a2 (a3 + 3) [(.i .i64 n1)] (
    .ret 0 [(.tu [])]))
    (cond (n2_ == (97 : Int))
      (.call 193 [(.sc (.p (.some (p0_, q0_)))), (.sc (.i .i64 (6 : Int)))] fun v4 =>
      .asS v4 fun x5 =>
      .call 192 [(.sc (.s x5))] fun v6 =>
      .asT 2 v6 fun l7 =>
      .nthC l7 0 fun v8 =>
      .asA 2 (v8.av) fun l9 =>
      .nth l9 0 fun v10 =>
      .asI .u32 (.sc v10) fun n11 =>
      .nth l9 1 fun v12 =>
      .asI .u16 (.sc v12) fun n13 =>
      .nthC l7 1 fun v14 =>
      .asB (v14.av) fun b15 =>
      .nn (.some (p1_, q1_)) fun a16 a17 =>
      .st a16 (a17 + 4) [(.i .u32 n11), (.i .u16 n13)] (
      .ret 0 [(.tu [])]))
      (cond (n2_ == (112 : Int))
        (.call 193 [(.sc (.p (.some (p0_, q0_)))), (.sc (.i .i64 (8 : Int)))] fun v18 =>
        .asS v18 fun x19 =>
        .call 194 [(.sc (.s x19))] fun v20 =>
        .asT 2 v20 fun l21 =>
        .nthC l21 0 fun v22 =>
        .asC .f64 (v22.av) fun a23 a24 =>
        .nthC l21 1 fun v25 =>
        .asB (v25.av) fun b26 =>
        .nn (.some (p1_, q1_)) fun a27 a28 =>
        .st a27 (a28 + 6) [(.cx .f64 a23 a24)] (
        .ret 0 [(.tu [])]))
        (cond (n2_ == (102 : Int))
          (.call 99 [(.sc (.p (.some (p0_, q0_)))), (.sc (.i .i64 (1 : Int)))] fun v29 =>
          .asI .i64 v29 fun n30 =>
          .nn (.some (p1_, q1_)) fun a31 a32 =>
          .st a31 (a32 + 7) [(.b (n30 == (1 : Int)))] (
          .ret 0 [(.tu [])]))
          (cond (n2_ == (98 : Int))
            (.call 99 [(.sc (.p (.some (p0_, q0_)))), (.sc (.i .i64 (2 : Int)))] fun v33 =>
            .asI .i64 v33 fun n34 =>
            .call 193 [(.sc (.p (.some (p0_, q0_)))), (.sc (.i .i64 n34))] fun v35 =>
            .asS v35 fun x36 =>
            .nn (.some (p1_, q1_)) fun a37 a38 =>
            .st a37 (a38 + 8) [(.s x36)] (
            .ret 0 [(.tu [])]))
            (cond (n2_ == (114 : Int))
              (.call 99 [(.sc (.p (.some (p0_, q0_)))), (.sc (.i .i64 (1 : Int)))] fun v39 =>
              .asI .i64 v39 fun n40 =>
              .loop t101_b41 [(.sc (.p (.some (p0_, q0_)))), (.sc (.p (.some (p1_, q1_)))), (.sc (.i .i64 n40))] t101_k41)
              (.ret 0 [(.tu [])]))))))
theorem t101_eq (p0_ q0_ : Nat) (p1_ q1_ : Nat) (n2_ : Int) : bodyK T (hs 101) Tryz.f101 [.sc (.p (some (p0_, q0_))), .sc (.p (some (p1_, q1_))), .sc (.i .i32 n2_)] = t101 p0_ q0_ p1_ q1_ n2_ := by kernel_rfl
/-- (scuttlebutt/pack.Reader).Done -/
def t102 (x0_0 : ByteArray) (b0_1 : Bool) : Tree :=
  .al [(.s x0_0), (.b b0_1)] fun a0 =>
  .ld a0 (0 + 1) 1 fun l1 =>
  .nth l1 0 fun v2 =>
  .asB (.sc v2) fun b3 =>
  cond (!b3)
    (.ld a0 (0 + 0) 1 fun l4 =>
    .nth l4 0 fun v5 =>
    .asS (.sc v5) fun x6 =>
    .ret 0 [(.sc (.b ((ByteArray.toList x6) == (ByteArray.toList (.mk (.mk []))))))])
    (.ret 0 [(.sc (.b .false))])
theorem t102_eq (x0_0 : ByteArray) (b0_1 : Bool) : bodyK T (hs 102) Tryz.f102 [.ag [.s x0_0, .b b0_1]] = t102 x0_0 b0_1 := by kernel_rfl
def t103_b105  : List AV → Tree := fun l106 =>
  .asP (l106.getD 0 .un) fun o107 =>
  .nn o107 fun a108 a109 =>
  .asS (l106.getD 1 .un) fun x110 =>
  .asIt (l106.getD 2 .un) fun a111 =>
  .asL (l106.getD 3 .un) fun o112 =>
  .asI .i64 (l106.getD 4 .un) fun n113 =>
  .asI .i64 (l106.getD 5 .un) fun n114 =>
  cond (decide (n114 < n113))
    (.ixS 5 o112 n114 fun a115 a116 a117 =>
    .ld a115 (a116 + (a117 * 5)) 5 fun l118 =>
    .nth l118 0 fun v119 =>
    .asI .i64 (.sc v119) fun n120 =>
    .nth l118 1 fun v121 =>
    .asI .i64 (.sc v121) fun n122 =>
    .nth l118 2 fun v123 =>
    .asI .u32 (.sc v123) fun n124 =>
    .nth l118 3 fun v125 =>
    .asI .u32 (.sc v125) fun n126 =>
    .nth l118 4 fun v127 =>
    .asI .u16 (.sc v127) fun n128 =>
    .al [(.i .i64 (0 : Int)), (.i .i64 (0 : Int)), (.i .u32 (0 : Int)), (.i .u32 (0 : Int)), (.i .u16 (0 : Int))] fun a129 =>
    .st a129 0 [(.i .i64 n120), (.i .i64 n122), (.i .u32 n124), (.i .u32 n126), (.i .u16 n128)] (
    .ld a129 0 5 fun l130 =>
    .nth l130 0 fun v131 =>
    .asI .i64 (.sc v131) fun n132 =>
    .nth l130 1 fun v133 =>
    .asI .i64 (.sc v133) fun n134 =>
    .nth l130 2 fun v135 =>
    .asI .u32 (.sc v135) fun n136 =>
    .nth l130 3 fun v137 =>
    .asI .u32 (.sc v137) fun n138 =>
    .nth l130 4 fun v139 =>
    .asI .u16 (.sc v139) fun n140 =>
    .call 200 [(.ag [(.i .i64 n132), (.i .i64 n134), (.i .u32 n136), (.i .u32 n138), (.i .u16 n140)])] fun v141 =>
    .asT 2 v141 fun l142 =>
    .nthC l142 0 fun v143 =>
    .asS (v143.av) fun x144 =>
    .nthC l142 1 fun v145 =>
    .asB (v145.av) fun b146 =>
    .br (decide (((((ByteArray.size x110) + (ByteArray.size x144)) : Nat) : Int) ≤ (9223372036854775807 : Int)))
      (.ret 0 [(.sc (.p (.some (a108, a109)))), (.sc (.s (x110 ++ x144))), (.sc (.it a111)), (.sc (.sl o112)), (.sc (.i .i64 n113)), (.sc (.i .i64 (IntKind.wrap .i64 (n114 + (1 : Int)))))])
      (.fail)))
    (.ret 8 [(.sc (.p (.some (a108, a109)))), (.sc (.s x110)), (.sc (.it a111))])
def t103_k105  : Nat → List AV → Tree := fun a147 l148 =>
  .tg a147 8
    (.asP (l148.getD 0 .un) fun o149 =>
    .nn o149 fun a150 a151 =>
    .asS (l148.getD 1 .un) fun x152 =>
    .asIt (l148.getD 2 .un) fun a153 =>
    .ret 0 [(.sc (.p (.some (a150, a151)))), (.sc (.s x152)), (.sc (.it a153))])
    (.fail)
def t103_b50  : List AV → Tree := fun l51 =>
  .asP (l51.getD 0 .un) fun o52 =>
  .nn o52 fun a53 a54 =>
  .asS (l51.getD 1 .un) fun x55 =>
  .asIt (l51.getD 2 .un) fun a56 =>
  .itx a56 fun r57 => match r57 with
  | some q57 => (fun a58 n59 =>
    cond (n59 == (110 : Int))
      (.ld a53 (a54 + 3) 1 fun l60 =>
      .nth l60 0 fun v61 =>
      .asI .i64 (.sc v61) fun n62 =>
      .call 197 [(.sc (.i .u64 (IntKind.wrap .u64 n62))), (.sc (.i .i64 (1 : Int)))] fun v63 =>
      .asS v63 fun x64 =>
      .br (decide (((((ByteArray.size x55) + (ByteArray.size x64)) : Nat) : Int) ≤ (9223372036854775807 : Int)))
        (.ret 0 [(.sc (.p (.some (a53, a54)))), (.sc (.s (x55 ++ x64))), (.sc (.it a56))])
        (.fail))
      (cond (n59 == (97 : Int))
        (.ld a53 (a54 + 4) 2 fun l65 =>
        .nth l65 0 fun v66 =>
        .asI .u32 (.sc v66) fun n67 =>
        .nth l65 1 fun v68 =>
        .asI .u16 (.sc v68) fun n69 =>
        .call 198 [(.ag [(.i .u32 n67), (.i .u16 n69)])] fun v70 =>
        .asS v70 fun x71 =>
        .br (decide (((((ByteArray.size x55) + (ByteArray.size x71)) : Nat) : Int) ≤ (9223372036854775807 : Int)))
          (.ret 0 [(.sc (.p (.some (a53, a54)))), (.sc (.s (x55 ++ x71))), (.sc (.it a56))])
          (.fail))
        (cond (n59 == (112 : Int))
          (.ld a53 (a54 + 6) 1 fun l72 =>
          .nth l72 0 fun v73 =>
          .asC .f64 (.sc v73) fun a74 a75 =>
          .call 199 [(.sc (.cx .f64 a74 a75))] fun v76 =>
          .asT 2 v76 fun l77 =>
          .nthC l77 0 fun v78 =>
          .asS (v78.av) fun x79 =>
          .nthC l77 1 fun v80 =>
          .asB (v80.av) fun b81 =>
          .br (decide (((((ByteArray.size x55) + (ByteArray.size x79)) : Nat) : Int) ≤ (9223372036854775807 : Int)))
            (.ret 0 [(.sc (.p (.some (a53, a54)))), (.sc (.s (x55 ++ x79))), (.sc (.it a56))])
            (.fail))
          (cond (n59 == (102 : Int))
            (.ld a53 (a54 + 7) 1 fun l82 =>
            .nth l82 0 fun v83 =>
            .asB (.sc v83) fun b84 =>
            cond b84
              (.call 197 [(.sc (.i .u64 (1 : Int))), (.sc (.i .i64 (1 : Int)))] fun v85 =>
              .asS v85 fun x86 =>
              .br (decide (((((ByteArray.size x55) + (ByteArray.size x86)) : Nat) : Int) ≤ (9223372036854775807 : Int)))
                (.ret 0 [(.sc (.p (.some (a53, a54)))), (.sc (.s (x55 ++ x86))), (.sc (.it a56))])
                (.fail))
              (.call 197 [(.sc (.i .u64 (0 : Int))), (.sc (.i .i64 (1 : Int)))] fun v87 =>
              .asS v87 fun x88 =>
              .br (decide (((((ByteArray.size x55) + (ByteArray.size x88)) : Nat) : Int) ≤ (9223372036854775807 : Int)))
                (.ret 0 [(.sc (.p (.some (a53, a54)))), (.sc (.s (x55 ++ x88))), (.sc (.it a56))])
                (.fail)))
            (cond (n59 == (98 : Int))
              (.ld a53 (a54 + 8) 1 fun l89 =>
              .nth l89 0 fun v90 =>
              .asS (.sc v90) fun x91 =>
              .ld a53 (a54 + 8) 1 fun l92 =>
              .nth l92 0 fun v93 =>
              .asS (.sc v93) fun x94 =>
              .call 197 [(.sc (.i .u64 (IntKind.wrap .u64 (((ByteArray.size x91) : Nat) : Int)))), (.sc (.i .i64 (2 : Int)))] fun v95 =>
              .asS v95 fun x96 =>
              .same a53 (a54 + 8) [(.s x94)] (
              .br (decide (((((ByteArray.size x96) + (ByteArray.size x94)) : Nat) : Int) ≤ (9223372036854775807 : Int)))
                (.br (decide (((((ByteArray.size x55) + (ByteArray.size (x96 ++ x94))) : Nat) : Int) ≤ (9223372036854775807 : Int)))
                  (.ret 0 [(.sc (.p (.some (a53, a54)))), (.sc (.s (x55 ++ (x96 ++ x94)))), (.sc (.it a56))])
                  (.fail))
                (.fail)))
              (cond (n59 == (114 : Int))
                (.ld a53 (a54 + 9) 1 fun l97 =>
                .nth l97 0 fun v98 =>
                .asL (.sc v98) fun o99 =>
                .call 197 [(.sc (.i .u64 (IntKind.wrap .u64 (slLen o99)))), (.sc (.i .i64 (1 : Int)))] fun v100 =>
                .asS v100 fun x101 =>
                .br (decide (((((ByteArray.size x55) + (ByteArray.size x101)) : Nat) : Int) ≤ (9223372036854775807 : Int)))
                  (.ld a53 (a54 + 9) 1 fun l102 =>
                  .nth l102 0 fun v103 =>
                  .asL (.sc v103) fun o104 =>
                  .loop t103_b105 [(.sc (.p (.some (a53, a54)))), (.sc (.s (x55 ++ x101))), (.sc (.it a56)), (.sc (.sl o104)), (.sc (.i .i64 (slLen o104))), (.sc (.i .i64 (0 : Int)))] t103_k105)
                  (.fail))
                (.ret 0 [(.sc (.p (.some (a53, a54)))), (.sc (.s x55)), (.sc (.it a56))]))))))) q57.1 q57.2
  | none => (.ret 2 [(.sc (.s x55))])
def t103_k50  : Nat → List AV → Tree := fun a154 l155 =>
  .tg a154 2
    (.asS (l155.getD 0 .un) fun x156 =>
    cond (decide ((((ByteArray.size x156) : Nat) : Int) > (1024 : Int)))
      (.ret 0 [(.tu [(.sc (.s (.mk (.mk [])))), (.sc (.b .false))])])
      (.ret 0 [(.tu [(.sc (.s x156)), (.sc (.b .true))])]))
    (.fail)
/-- scuttlebutt/wire.Put -/
def t103 (n0_0 : Int) (n0_1 : Int) (n0_2 : Int) (n0_3 : Int) (n0_4 : Int) (n0_5 : Int) (n0_6 m0_6 : Nat) (b0_7 : Bool) (x0_8 : ByteArray) (s0_9 : Option SlD) : Tree :=
  .al [(.i .i64 n0_0), (.i .i64 n0_1), (.i .u32 n0_2), (.i .i64 n0_3), (.i .u32 n0_4), (.i .u16 n0_5), (.cx .f64 n0_6 m0_6), (.b b0_7), (.s x0_8), (.sl s0_9)] fun a0 =>
  .ld a0 0 10 fun l1 =>
  .nth l1 0 fun v2 =>
  .asI .i64 (.sc v2) fun n3 =>
  .nth l1 1 fun v4 =>
  .asI .i64 (.sc v4) fun n5 =>
  .nth l1 2 fun v6 =>
  .asI .u32 (.sc v6) fun n7 =>
  .nth l1 3 fun v8 =>
  .asI .i64 (.sc v8) fun n9 =>
  .nth l1 4 fun v10 =>
  .asI .u32 (.sc v10) fun n11 =>
  .nth l1 5 fun v12 =>
  .asI .u16 (.sc v12) fun n13 =>
  .nth l1 6 fun v14 =>
  .asC .f64 (.sc v14) fun a15 a16 =>
  .nth l1 7 fun v17 =>
  .asB (.sc v17) fun b18 =>
  .nth l1 8 fun v19 =>
  .asS (.sc v19) fun x20 =>
  .nth l1 9 fun v21 =>
  .asL (.sc v21) fun o22 =>
  .call 196 [(.ag [(.i .i64 n3), (.i .i64 n5), (.i .u32 n7), (.i .i64 n9), (.i .u32 n11), (.i .u16 n13), (.cx .f64 a15 a16), (.b b18), (.s x20), (.sl o22)])] fun v23 =>
  .asB v23 fun b24 =>
  cond (!b24)
    (.ret 0 [(.tu [(.sc (.s (.mk (.mk [])))), (.sc (.b .false))])])
    (.ld a0 (0 + 0) 1 fun l25 =>
    .nth l25 0 fun v26 =>
    .asI .i64 (.sc v26) fun n27 =>
    .call 100 [(.sc (.i .i64 n27))] fun v28 =>
    .asT 2 v28 fun l29 =>
    .nthC l29 0 fun v30 =>
    .asS (v30.av) fun x31 =>
    .nthC l29 1 fun v32 =>
    .asB (v32.av) fun b33 =>
    .ld a0 (0 + 0) 1 fun l34 =>
    .nth l34 0 fun v35 =>
    .asI .i64 (.sc v35) fun n36 =>
    .ld a0 (0 + 1) 1 fun l37 =>
    .nth l37 0 fun v38 =>
    .asI .i64 (.sc v38) fun n39 =>
    .ld a0 (0 + 2) 1 fun l40 =>
    .nth l40 0 fun v41 =>
    .asI .u32 (.sc v41) fun n42 =>
    .call 197 [(.sc (.i .u64 (IntKind.wrap .u64 n36))), (.sc (.i .i64 (1 : Int)))] fun v43 =>
    .asS v43 fun x44 =>
    .same a0 (0 + 2) [(.i .u32 n42)] (
    .same a0 (0 + 1) [(.i .i64 n39)] (
    .call 197 [(.sc (.i .u64 (IntKind.wrap .u64 n39))), (.sc (.i .i64 (1 : Int)))] fun v45 =>
    .asS v45 fun x46 =>
    .same a0 (0 + 2) [(.i .u32 n42)] (
    .br (decide (((((ByteArray.size x44) + (ByteArray.size x46)) : Nat) : Int) ≤ (9223372036854775807 : Int)))
      (.call 197 [(.sc (.i .u64 (IntKind.wrap .u64 n42))), (.sc (.i .i64 (4 : Int)))] fun v47 =>
      .asS v47 fun x48 =>
      .br (decide (((((ByteArray.size (x44 ++ x46)) + (ByteArray.size x48)) : Nat) : Int) ≤ (9223372036854775807 : Int)))
        (.itn x31 fun a49 =>
        .loop t103_b50 [(.sc (.p (.some (a0, 0)))), (.sc (.s ((x44 ++ x46) ++ x48))), (.sc (.it a49))] t103_k50)
        (.fail))
      (.fail)))))
theorem t103_eq (n0_0 : Int) (n0_1 : Int) (n0_2 : Int) (n0_3 : Int) (n0_4 : Int) (n0_5 : Int) (n0_6 m0_6 : Nat) (b0_7 : Bool) (x0_8 : ByteArray) (s0_9 : Option SlD) : bodyK T (hs 103) Tryz.f103 [.ag [.i .i64 n0_0, .i .i64 n0_1, .i .u32 n0_2, .i .i64 n0_3, .i .u32 n0_4, .i .u16 n0_5, .cx .f64 n0_6 m0_6, .b b0_7, .s x0_8, .sl s0_9]] = t103 n0_0 n0_1 n0_2 n0_3 n0_4 n0_5 n0_6 m0_6 b0_7 x0_8 s0_9 := by kernel_rfl
def t191_b18  : List AV → Tree := fun l19 =>
  .asI .u64 (l19.getD 0 .un) fun n20 =>
  .asP (l19.getD 1 .un) fun o21 =>
  .nn o21 fun a22 a23 =>
  .asS (l19.getD 2 .un) fun x24 =>
  .asI .i64 (l19.getD 3 .un) fun n25 =>
  .asI .i64 (l19.getD 4 .un) fun n26 =>
  cond (decide (n26 < n25))
    (.br (decide ((0 : Int) ≤ (8 : Int)))
      (.br ((decide ((0 : Int) ≤ n26)) && (decide (n26 < (((ByteArray.size x24) : Nat) : Int))))
        (.ret 0 [(.sc (.i .u64 (IntKind.wrap .u64 (((BitVec.toNat ((BitVec.ofInt 64 (IntKind.wrap .u64 (n20 * (256 : Int)))) ||| (BitVec.ofInt 64 (IntKind.wrap .u64 (strAt x24 (Int.toNat n26)))))) : Nat) : Int)))), (.sc (.p (.some (a22, a23)))), (.sc (.s x24)), (.sc (.i .i64 n25)), (.sc (.i .i64 (IntKind.wrap .i64 (n26 + (1 : Int)))))])
        (.fail))
      (.fail))
    (.ret 2 [(.sc (.i .u64 n20)), (.sc (.p (.some (a22, a23))))])
def t191_k18  : Nat → List AV → Tree := fun a27 l28 =>
  .tg a27 2
    (.asI .u64 (l28.getD 0 .un) fun n29 =>
    .asP (l28.getD 1 .un) fun o30 =>
    .nn o30 fun a31 a32 =>
    .ld a31 a32 2 fun l33 =>
    .nth l33 0 fun v34 =>
    .asS (.sc v34) fun x35 =>
    .nth l33 1 fun v36 =>
    .asB (.sc v36) fun b37 =>
    .st a31 a32 [(.s x35), (.b b37)] (
    .ret 1 [(.sc (.i .u64 n29)), (.sc (.p (.some (a31, a32))))]))
    (.fail)
def t191_b40  : List AV → Tree := fun l41 =>
  .asI .i64 (l41.getD 0 .un) fun n42 =>
  .br (n42 == (0 : Int))
    (.asP (l41.getD 1 .un) fun o43 =>
    .nn o43 fun a44 a45 =>
    .st a44 a45 [(.s (.mk (.mk []))), (.b .true)] (
    .ret 2 [(.sc (.i .u64 (0 : Int))), (.sc (.p (.some (a44, a45))))]))
    (.fail)
def t191_k40  : Nat → List AV → Tree := fun a46 l47 =>
  .tg a46 2
    (.asI .u64 (l47.getD 0 .un) fun n48 =>
    .asP (l47.getD 1 .un) fun o49 =>
    .nn o49 fun a50 a51 =>
    .ld a50 a51 2 fun l52 =>
    .nth l52 0 fun v53 =>
    .asS (.sc v53) fun x54 =>
    .nth l52 1 fun v55 =>
    .asB (.sc v55) fun b56 =>
    .ret 0 [(.tu [(.sc (.i .u64 n48)), (.ag [(.s x54), (.b b56)])])])
    (.fail)
def t191_k2  : Nat → List AV → Tree := fun a38 l39 =>
  .tg a38 3
    (.loop t191_b40 ((.sc (.i .i64 (0 : Int))) :: l39) t191_k40)
    (.tg a38 1
      (.asI .u64 (l39.getD 0 .un) fun n57 =>
      .asP (l39.getD 1 .un) fun o58 =>
      .nn o58 fun a59 a60 =>
      .ld a59 a60 2 fun l61 =>
      .nth l61 0 fun v62 =>
      .asS (.sc v62) fun x63 =>
      .nth l61 1 fun v64 =>
      .asB (.sc v64) fun b65 =>
      .ret 0 [(.tu [(.sc (.i .u64 n57)), (.ag [(.s x63), (.b b65)])])])
      (.fail))
/-- (scuttlebutt/pack.Reader).Number -/
def t191 (x0_0 : ByteArray) (b0_1 : Bool) (n1_ : Int) : Tree :=
  .al [(.s x0_0), (.b b0_1)] fun a0 =>
  .al [(.s (.mk (.mk []))), (.b .false)] fun a1 =>
  .join (
    cond (decide (n1_ < (1 : Int)))
      (.ret 3 [(.sc (.p (.some (a1, 0))))])
      (cond (decide (n1_ > (8 : Int)))
        (.ret 3 [(.sc (.p (.some (a1, 0))))])
        (.ld a0 0 2 fun l3 =>
        .nth l3 0 fun v4 =>
        .asS (.sc v4) fun x5 =>
        .nth l3 1 fun v6 =>
        .asB (.sc v6) fun b7 =>
        .call 272 [(.ag [(.s x5), (.b b7)]), (.sc (.i .i64 n1_))] fun v8 =>
        .asT 2 v8 fun l9 =>
        .nthC l9 0 fun v10 =>
        .asS (v10.av) fun x11 =>
        .nthC l9 1 fun v12 =>
        .asA 2 (v12.av) fun l13 =>
        .nth l13 0 fun v14 =>
        .asS (.sc v14) fun x15 =>
        .nth l13 1 fun v16 =>
        .asB (.sc v16) fun b17 =>
        .st a1 0 [(.s x15), (.b b17)] (
        .loop t191_b18 [(.sc (.i .u64 (0 : Int))), (.sc (.p (.some (a1, 0)))), (.sc (.s x11)), (.sc (.i .i64 (((ByteArray.size x11) : Nat) : Int))), (.sc (.i .i64 (0 : Int)))] t191_k18)))) t191_k2
theorem t191_eq (x0_0 : ByteArray) (b0_1 : Bool) (n1_ : Int) : bodyK T (hs 191) Tryz.f191 [.ag [.s x0_0, .b b0_1], .sc (.i .i64 n1_)] = t191 x0_0 b0_1 n1_ := by kernel_rfl
/-- (*scuttlebutt/wire.reader).bytes -/
def t193 (p0_ q0_ : Nat) (n1_ : Int) : Tree :=
  .nn (.some (p0_, q0_)) fun a0 a1 =>
  .ld a0 ((a1 + 0) + 1) 1 fun l2 =>
  .nth l2 0 fun v3 =>
  .asB (.sc v3) fun b4 =>
  cond b4
    (.nn (.some (p0_, q0_)) fun a5 a6 =>
    .st a5 (a6 + 0) [(.s (.mk (.mk []))), (.b .true)] (
    .ret 0 [(.sc (.s (.mk (.mk []))))]))
    (.nn (.some (p0_, q0_)) fun a7 a8 =>
    .ld a7 ((a8 + 0) + 0) 1 fun l9 =>
    .nth l9 0 fun v10 =>
    .asS (.sc v10) fun x11 =>
    cond (decide (n1_ > (((ByteArray.size x11) : Nat) : Int)))
      (.nn (.some (p0_, q0_)) fun a12 a13 =>
      .st a12 (a13 + 0) [(.s (.mk (.mk []))), (.b .true)] (
      .ret 0 [(.sc (.s (.mk (.mk []))))]))
      (.nn (.some (p0_, q0_)) fun a14 a15 =>
      .ld a14 ((a15 + 0) + 0) 1 fun l16 =>
      .nth l16 0 fun v17 =>
      .asS (.sc v17) fun x18 =>
      .br (((decide ((0 : Int) ≤ (0 : Int))) && (decide ((0 : Int) ≤ n1_))) && (decide (n1_ ≤ (((ByteArray.size x18) : Nat) : Int))))
        (.nn (.some (p0_, q0_)) fun a19 a20 =>
        .ld a19 ((a20 + 0) + 0) 1 fun l21 =>
        .nth l21 0 fun v22 =>
        .asS (.sc v22) fun x23 =>
        .br (((decide ((0 : Int) ≤ n1_)) && (decide (n1_ ≤ (((ByteArray.size x23) : Nat) : Int)))) && (decide ((((ByteArray.size x23) : Nat) : Int) ≤ (((ByteArray.size x23) : Nat) : Int))))
          (.nn (.some (p0_, q0_)) fun a24 a25 =>
          .st a24 ((a25 + 0) + 0) [(.s (ByteArray.extract x23 (Int.toNat n1_) (Int.toNat (((ByteArray.size x23) : Nat) : Int))))] (
          .ret 0 [(.sc (.s (ByteArray.extract x18 (Int.toNat (0 : Int)) (Int.toNat n1_))))]))
          (.fail))
        (.fail)))
theorem t193_eq (p0_ q0_ : Nat) (n1_ : Int) : bodyK T (hs 193) Tryz.f193 [.sc (.p (some (p0_, q0_))), .sc (.i .i64 n1_)] = t193 p0_ q0_ n1_ := by kernel_rfl
def t196_b80  : List AV → Tree := fun l81 =>
  .asS (l81.getD 0 .un) fun x82 =>
  .asL (l81.getD 1 .un) fun o83 =>
  .asI .i64 (l81.getD 2 .un) fun n84 =>
  .asI .i64 (l81.getD 3 .un) fun n85 =>
  cond (decide (n85 < n84))
    (.ixS 3 o83 n85 fun a86 a87 a88 =>
    .ld a86 (a87 + (a88 * 3)) 3 fun l89 =>
    .nth l89 0 fun v90 =>
    .asS (.sc v90) fun x91 =>
    .nth l89 1 fun v92 =>
    .asB (.sc v92) fun b93 =>
    .nth l89 2 fun v94 =>
    .asB (.sc v94) fun b95 =>
    .al [(.s (.mk (.mk []))), (.b .false), (.b .false)] fun a96 =>
    .st a96 0 [(.s x91), (.b b93), (.b b95)] (
    .ld a96 (0 + 0) 1 fun l97 =>
    .nth l97 0 fun v98 =>
    .asS (.sc v98) fun x99 =>
    .call 278 [(.sc (.s x82)), (.sc (.s x99))] fun v100 =>
    .asB v100 fun b101 =>
    cond b101
      (.ld a96 (0 + 2) 1 fun l102 =>
      .nth l102 0 fun v103 =>
      .asB (.sc v103) fun b104 =>
      cond (!b104)
        (.ret 1 [(.sc (.b .false))])
        (cond (!b101)
          (.ld a96 (0 + 1) 1 fun l105 =>
          .nth l105 0 fun v106 =>
          .asB (.sc v106) fun b107 =>
          cond (!b107)
            (.ret 1 [(.sc (.b .false))])
            (.ret 0 [(.sc (.s x82)), (.sc (.sl o83)), (.sc (.i .i64 n84)), (.sc (.i .i64 (IntKind.wrap .i64 (n85 + (1 : Int)))))]))
          (.ret 0 [(.sc (.s x82)), (.sc (.sl o83)), (.sc (.i .i64 n84)), (.sc (.i .i64 (IntKind.wrap .i64 (n85 + (1 : Int)))))])))
      (cond (!b101)
        (.ld a96 (0 + 1) 1 fun l108 =>
        .nth l108 0 fun v109 =>
        .asB (.sc v109) fun b110 =>
        cond (!b110)
          (.ret 1 [(.sc (.b .false))])
          (.ret 0 [(.sc (.s x82)), (.sc (.sl o83)), (.sc (.i .i64 n84)), (.sc (.i .i64 (IntKind.wrap .i64 (n85 + (1 : Int)))))]))
        (.ret 0 [(.sc (.s x82)), (.sc (.sl o83)), (.sc (.i .i64 n84)), (.sc (.i .i64 (IntKind.wrap .i64 (n85 + (1 : Int)))))]))))
    (.ret 2 [])
def t196_k80  : Nat → List AV → Tree := fun a111 l112 =>
  .tg a111 2
    (.ret 0 [(.sc (.b .true))])
    (.tg a111 1
      (.asB (l112.getD 0 .un) fun b113 =>
      .ret 0 [(.sc (.b b113))])
      (.fail))
def t196_b115  : List AV → Tree := fun l116 =>
  .asS (l116.getD 0 .un) fun x117 =>
  .asL (l116.getD 1 .un) fun o118 =>
  .asI .i64 (l116.getD 2 .un) fun n119 =>
  .asI .i64 (l116.getD 3 .un) fun n120 =>
  cond (decide (n120 < n119))
    (.ixS 3 o118 n120 fun a121 a122 a123 =>
    .ld a121 (a122 + (a123 * 3)) 3 fun l124 =>
    .nth l124 0 fun v125 =>
    .asS (.sc v125) fun x126 =>
    .nth l124 1 fun v127 =>
    .asB (.sc v127) fun b128 =>
    .nth l124 2 fun v129 =>
    .asB (.sc v129) fun b130 =>
    .al [(.s (.mk (.mk []))), (.b .false), (.b .false)] fun a131 =>
    .st a131 0 [(.s x126), (.b b128), (.b b130)] (
    .ld a131 (0 + 0) 1 fun l132 =>
    .nth l132 0 fun v133 =>
    .asS (.sc v133) fun x134 =>
    .call 278 [(.sc (.s x117)), (.sc (.s x134))] fun v135 =>
    .asB v135 fun b136 =>
    cond b136
      (.ld a131 (0 + 2) 1 fun l137 =>
      .nth l137 0 fun v138 =>
      .asB (.sc v138) fun b139 =>
      cond (!b139)
        (.ret 1 [(.sc (.b .false))])
        (cond (!b136)
          (.ld a131 (0 + 1) 1 fun l140 =>
          .nth l140 0 fun v141 =>
          .asB (.sc v141) fun b142 =>
          cond (!b142)
            (.ret 1 [(.sc (.b .false))])
            (.ret 0 [(.sc (.s x117)), (.sc (.sl o118)), (.sc (.i .i64 n119)), (.sc (.i .i64 (IntKind.wrap .i64 (n120 + (1 : Int)))))]))
          (.ret 0 [(.sc (.s x117)), (.sc (.sl o118)), (.sc (.i .i64 n119)), (.sc (.i .i64 (IntKind.wrap .i64 (n120 + (1 : Int)))))])))
      (cond (!b136)
        (.ld a131 (0 + 1) 1 fun l143 =>
        .nth l143 0 fun v144 =>
        .asB (.sc v144) fun b145 =>
        cond (!b145)
          (.ret 1 [(.sc (.b .false))])
          (.ret 0 [(.sc (.s x117)), (.sc (.sl o118)), (.sc (.i .i64 n119)), (.sc (.i .i64 (IntKind.wrap .i64 (n120 + (1 : Int)))))]))
        (.ret 0 [(.sc (.s x117)), (.sc (.sl o118)), (.sc (.i .i64 n119)), (.sc (.i .i64 (IntKind.wrap .i64 (n120 + (1 : Int)))))]))))
    (.ret 2 [])
def t196_k115  : Nat → List AV → Tree := fun a146 l147 =>
  .tg a146 2
    (.ret 0 [(.sc (.b .true))])
    (.tg a146 1
      (.asB (l147.getD 0 .un) fun b148 =>
      .ret 0 [(.sc (.b b148))])
      (.fail))
def t196_b157  : List AV → Tree := fun l158 =>
  .asS (l158.getD 0 .un) fun x159 =>
  .asL (l158.getD 1 .un) fun o160 =>
  .asI .i64 (l158.getD 2 .un) fun n161 =>
  .asI .i64 (l158.getD 3 .un) fun n162 =>
  cond (decide (n162 < n161))
    (.ixS 3 o160 n162 fun a163 a164 a165 =>
    .ld a163 (a164 + (a165 * 3)) 3 fun l166 =>
    .nth l166 0 fun v167 =>
    .asS (.sc v167) fun x168 =>
    .nth l166 1 fun v169 =>
    .asB (.sc v169) fun b170 =>
    .nth l166 2 fun v171 =>
    .asB (.sc v171) fun b172 =>
    .al [(.s (.mk (.mk []))), (.b .false), (.b .false)] fun a173 =>
    .st a173 0 [(.s x168), (.b b170), (.b b172)] (
    .ld a173 (0 + 0) 1 fun l174 =>
    .nth l174 0 fun v175 =>
    .asS (.sc v175) fun x176 =>
    .call 278 [(.sc (.s x159)), (.sc (.s x176))] fun v177 =>
    .asB v177 fun b178 =>
    cond b178
      (.ld a173 (0 + 2) 1 fun l179 =>
      .nth l179 0 fun v180 =>
      .asB (.sc v180) fun b181 =>
      cond (!b181)
        (.ret 1 [(.sc (.b .false))])
        (cond (!b178)
          (.ld a173 (0 + 1) 1 fun l182 =>
          .nth l182 0 fun v183 =>
          .asB (.sc v183) fun b184 =>
          cond (!b184)
            (.ret 1 [(.sc (.b .false))])
            (.ret 0 [(.sc (.s x159)), (.sc (.sl o160)), (.sc (.i .i64 n161)), (.sc (.i .i64 (IntKind.wrap .i64 (n162 + (1 : Int)))))]))
          (.ret 0 [(.sc (.s x159)), (.sc (.sl o160)), (.sc (.i .i64 n161)), (.sc (.i .i64 (IntKind.wrap .i64 (n162 + (1 : Int)))))])))
      (cond (!b178)
        (.ld a173 (0 + 1) 1 fun l185 =>
        .nth l185 0 fun v186 =>
        .asB (.sc v186) fun b187 =>
        cond (!b187)
          (.ret 1 [(.sc (.b .false))])
          (.ret 0 [(.sc (.s x159)), (.sc (.sl o160)), (.sc (.i .i64 n161)), (.sc (.i .i64 (IntKind.wrap .i64 (n162 + (1 : Int)))))]))
        (.ret 0 [(.sc (.s x159)), (.sc (.sl o160)), (.sc (.i .i64 n161)), (.sc (.i .i64 (IntKind.wrap .i64 (n162 + (1 : Int)))))]))))
    (.ret 2 [])
def t196_k157  : Nat → List AV → Tree := fun a188 l189 =>
  .tg a188 2
    (.ret 0 [(.sc (.b .true))])
    (.tg a188 1
      (.asB (l189.getD 0 .un) fun b190 =>
      .ret 0 [(.sc (.b b190))])
      (.fail))
def t196_b192  : List AV → Tree := fun l193 =>
  .asS (l193.getD 0 .un) fun x194 =>
  .asL (l193.getD 1 .un) fun o195 =>
  .asI .i64 (l193.getD 2 .un) fun n196 =>
  .asI .i64 (l193.getD 3 .un) fun n197 =>
  cond (decide (n197 < n196))
    (.ixS 3 o195 n197 fun a198 a199 a200 =>
    .ld a198 (a199 + (a200 * 3)) 3 fun l201 =>
    .nth l201 0 fun v202 =>
    .asS (.sc v202) fun x203 =>
    .nth l201 1 fun v204 =>
    .asB (.sc v204) fun b205 =>
    .nth l201 2 fun v206 =>
    .asB (.sc v206) fun b207 =>
    .al [(.s (.mk (.mk []))), (.b .false), (.b .false)] fun a208 =>
    .st a208 0 [(.s x203), (.b b205), (.b b207)] (
    .ld a208 (0 + 0) 1 fun l209 =>
    .nth l209 0 fun v210 =>
    .asS (.sc v210) fun x211 =>
    .call 278 [(.sc (.s x194)), (.sc (.s x211))] fun v212 =>
    .asB v212 fun b213 =>
    cond b213
      (.ld a208 (0 + 2) 1 fun l214 =>
      .nth l214 0 fun v215 =>
      .asB (.sc v215) fun b216 =>
      cond (!b216)
        (.ret 1 [(.sc (.b .false))])
        (cond (!b213)
          (.ld a208 (0 + 1) 1 fun l217 =>
          .nth l217 0 fun v218 =>
          .asB (.sc v218) fun b219 =>
          cond (!b219)
            (.ret 1 [(.sc (.b .false))])
            (.ret 0 [(.sc (.s x194)), (.sc (.sl o195)), (.sc (.i .i64 n196)), (.sc (.i .i64 (IntKind.wrap .i64 (n197 + (1 : Int)))))]))
          (.ret 0 [(.sc (.s x194)), (.sc (.sl o195)), (.sc (.i .i64 n196)), (.sc (.i .i64 (IntKind.wrap .i64 (n197 + (1 : Int)))))])))
      (cond (!b213)
        (.ld a208 (0 + 1) 1 fun l220 =>
        .nth l220 0 fun v221 =>
        .asB (.sc v221) fun b222 =>
        cond (!b222)
          (.ret 1 [(.sc (.b .false))])
          (.ret 0 [(.sc (.s x194)), (.sc (.sl o195)), (.sc (.i .i64 n196)), (.sc (.i .i64 (IntKind.wrap .i64 (n197 + (1 : Int)))))]))
        (.ret 0 [(.sc (.s x194)), (.sc (.sl o195)), (.sc (.i .i64 n196)), (.sc (.i .i64 (IntKind.wrap .i64 (n197 + (1 : Int)))))]))))
    (.ret 2 [])
def t196_k192  : Nat → List AV → Tree := fun a223 l224 =>
  .tg a223 2
    (.ret 0 [(.sc (.b .true))])
    (.tg a223 1
      (.asB (l224.getD 0 .un) fun b225 =>
      .ret 0 [(.sc (.b b225))])
      (.fail))
/-- scuttlebutt/wire.Right -/
def t196 (n0_0 : Int) (n0_1 : Int) (n0_2 : Int) (n0_3 : Int) (n0_4 : Int) (n0_5 : Int) (n0_6 m0_6 : Nat) (b0_7 : Bool) (x0_8 : ByteArray) (s0_9 : Option SlD) : Tree :=
  .al [(.i .i64 n0_0), (.i .i64 n0_1), (.i .u32 n0_2), (.i .i64 n0_3), (.i .u32 n0_4), (.i .u16 n0_5), (.cx .f64 n0_6 m0_6), (.b b0_7), (.s x0_8), (.sl s0_9)] fun a0 =>
  .ld a0 (0 + 0) 1 fun l1 =>
  .nth l1 0 fun v2 =>
  .asI .i64 (.sc v2) fun n3 =>
  .call 100 [(.sc (.i .i64 n3))] fun v4 =>
  .asT 2 v4 fun l5 =>
  .nthC l5 0 fun v6 =>
  .asS (v6.av) fun x7 =>
  .nthC l5 1 fun v8 =>
  .asB (v8.av) fun b9 =>
  cond (!b9)
    (.ret 0 [(.sc (.b .false))])
    (.ld a0 (0 + 1) 1 fun l10 =>
    .nth l10 0 fun v11 =>
    .asI .i64 (.sc v11) fun n12 =>
    .call 273 [(.sc (.i .i64 n12))] fun v13 =>
    .asB v13 fun b14 =>
    cond (!b14)
      (.ret 0 [(.sc (.b .false))])
      (.ld a0 (0 + 6) 1 fun l15 =>
      .nth l15 0 fun v16 =>
      .asC .f64 (.sc v16) fun a17 a18 =>
      .call 274 [(.sc (.cx .f64 a17 a18))] fun v19 =>
      .asB v19 fun b20 =>
      cond (!b20)
        (.ret 0 [(.sc (.b .false))])
        (.ld a0 (0 + 3) 1 fun l21 =>
        .nth l21 0 fun v22 =>
        .asI .i64 (.sc v22) fun n23 =>
        .ld a0 (0 + 3) 1 fun l24 =>
        .nth l24 0 fun v25 =>
        .asI .i64 (.sc v25) fun n26 =>
        .ld a0 (0 + 4) 2 fun l27 =>
        .nth l27 0 fun v28 =>
        .asI .u32 (.sc v28) fun n29 =>
        .nth l27 1 fun v30 =>
        .asI .u16 (.sc v30) fun n31 =>
        .ld a0 (0 + 4) 2 fun l32 =>
        .nth l32 0 fun v33 =>
        .asI .u32 (.sc v33) fun n34 =>
        .nth l32 1 fun v35 =>
        .asI .u16 (.sc v35) fun n36 =>
        .ld a0 (0 + 6) 1 fun l37 =>
        .nth l37 0 fun v38 =>
        .asC .f64 (.sc v38) fun a39 a40 =>
        .ld a0 (0 + 6) 1 fun l41 =>
        .nth l41 0 fun v42 =>
        .asC .f64 (.sc v42) fun a43 a44 =>
        .ld a0 (0 + 7) 1 fun l45 =>
        .nth l45 0 fun v46 =>
        .asB (.sc v46) fun b47 =>
        .ld a0 (0 + 8) 1 fun l48 =>
        .nth l48 0 fun v49 =>
        .asS (.sc v49) fun x50 =>
        .ld a0 (0 + 8) 1 fun l51 =>
        .nth l51 0 fun v52 =>
        .asS (.sc v52) fun x53 =>
        .ld a0 (0 + 9) 1 fun l54 =>
        .nth l54 0 fun v55 =>
        .asL (.sc v55) fun o56 =>
        .ld a0 (0 + 9) 1 fun l57 =>
        .nth l57 0 fun v58 =>
        .asL (.sc v58) fun o59 =>
        .ld a0 (0 + 0) 1 fun l60 =>
        .nth l60 0 fun v61 =>
        .asI .i64 (.sc v61) fun n62 =>
        .call 273 [(.sc (.i .i64 n26))] fun v63 =>
        .asB v63 fun b64 =>
        .same a0 (0 + 0) [(.i .i64 n62)] (
        .same a0 (0 + 9) [(.sl o59)] (
        .same a0 (0 + 9) [(.sl o56)] (
        .same a0 (0 + 8) [(.s x53)] (
        .same a0 (0 + 8) [(.s x50)] (
        .same a0 (0 + 7) [(.b b47)] (
        .same a0 (0 + 6) [(.cx .f64 a43 a44)] (
        .same a0 (0 + 6) [(.cx .f64 a39 a40)] (
        .same a0 (0 + 4) [(.i .u32 n34), (.i .u16 n36)] (
        .same a0 (0 + 4) [(.i .u32 n29), (.i .u16 n31)] (
        .same a0 (0 + 3) [(.i .i64 n23)] (
        .call 115 [(.ag [(.i .u32 n34), (.i .u16 n36)])] fun v65 =>
        .asB v65 fun b66 =>
        .same a0 (0 + 0) [(.i .i64 n62)] (
        .same a0 (0 + 9) [(.sl o59)] (
        .same a0 (0 + 9) [(.sl o56)] (
        .same a0 (0 + 8) [(.s x53)] (
        .same a0 (0 + 8) [(.s x50)] (
        .same a0 (0 + 7) [(.b b47)] (
        .same a0 (0 + 6) [(.cx .f64 a43 a44)] (
        .same a0 (0 + 6) [(.cx .f64 a39 a40)] (
        .same a0 (0 + 4) [(.i .u32 n29), (.i .u16 n31)] (
        .same a0 (0 + 3) [(.i .i64 n23)] (
        .call 116 [(.sc (.cx .f64 a43 a44))] fun v67 =>
        .asB v67 fun b68 =>
        .same a0 (0 + 0) [(.i .i64 n62)] (
        .same a0 (0 + 9) [(.sl o59)] (
        .same a0 (0 + 9) [(.sl o56)] (
        .same a0 (0 + 8) [(.s x53)] (
        .same a0 (0 + 8) [(.s x50)] (
        .same a0 (0 + 7) [(.b b47)] (
        .same a0 (0 + 6) [(.cx .f64 a39 a40)] (
        .same a0 (0 + 4) [(.i .u32 n29), (.i .u16 n31)] (
        .same a0 (0 + 3) [(.i .i64 n23)] (
        cond (!((ByteArray.toList x53) == (ByteArray.toList (.mk (.mk [])))))
          (.ld a0 (0 + 8) 1 fun l69 =>
          .nth l69 0 fun v70 =>
          .asS (.sc v70) fun x71 =>
          .call 276 [(.sc (.i .i64 n62))] fun v72 =>
          .asI .i64 v72 fun n73 =>
          .same a0 (0 + 8) [(.s x71)] (
          .same a0 (0 + 9) [(.sl o59)] (
          .same a0 (0 + 9) [(.sl o56)] (
          .same a0 (0 + 8) [(.s x50)] (
          .same a0 (0 + 7) [(.b b47)] (
          .same a0 (0 + 6) [(.cx .f64 a39 a40)] (
          .same a0 (0 + 4) [(.i .u32 n29), (.i .u16 n31)] (
          .same a0 (0 + 3) [(.i .i64 n23)] (
          cond (decide ((slLen o59) ≤ n73))
            (.ld a0 (0 + 9) 1 fun l74 =>
            .nth l74 0 fun v75 =>
            .asL (.sc v75) fun o76 =>
            .call 277 [(.sc (.sl o76)), (.sc (.fn 275 [] []))] fun v77 =>
            .asB v77 fun b78 =>
            .same a0 (0 + 8) [(.s x71)] (
            .same a0 (0 + 9) [(.sl o56)] (
            .same a0 (0 + 8) [(.s x50)] (
            .same a0 (0 + 7) [(.b b47)] (
            .same a0 (0 + 6) [(.cx .f64 a39 a40)] (
            .same a0 (0 + 4) [(.i .u32 n29), (.i .u16 n31)] (
            .same a0 (0 + 3) [(.i .i64 n23)] (
            .al [(.s (.mk (.mk [110]))), (.b (n23 == (0 : Int))), (.b b64), (.s (.mk (.mk [97]))), (.b ((n29 == (0 : Int)) && ((n31 == (0 : Int)) && .true))), (.b (!b66)), (.s (.mk (.mk [112]))), (.b (((Ieee.Format.order (FloatKind.format .f64) a39 0) == (.some .eq)) && ((Ieee.Format.order (FloatKind.format .f64) a40 0) == (.some .eq)))), (.b b68), (.s (.mk (.mk [102]))), (.b (!b47)), (.b .true), (.s (.mk (.mk [98]))), (.b ((ByteArray.toList x50) == (ByteArray.toList (.mk (.mk []))))), (.b (decide ((((ByteArray.size x71) : Nat) : Int) ≤ (900 : Int)))), (.s (.mk (.mk [114]))), (.b ((slLen o56) == (0 : Int))), (.b (!b78))] fun a79 =>
            .loop t196_b80 [(.sc (.s x7)), (.sc (.sl (.some (.mk a79 0 6 6 3)))), (.sc (.i .i64 (slLen (.some (.mk a79 0 6 6 3))))), (.sc (.i .i64 (0 : Int)))] t196_k80))))))))
            (.al [(.s (.mk (.mk [110]))), (.b (n23 == (0 : Int))), (.b b64), (.s (.mk (.mk [97]))), (.b ((n29 == (0 : Int)) && ((n31 == (0 : Int)) && .true))), (.b (!b66)), (.s (.mk (.mk [112]))), (.b (((Ieee.Format.order (FloatKind.format .f64) a39 0) == (.some .eq)) && ((Ieee.Format.order (FloatKind.format .f64) a40 0) == (.some .eq)))), (.b b68), (.s (.mk (.mk [102]))), (.b (!b47)), (.b .true), (.s (.mk (.mk [98]))), (.b ((ByteArray.toList x50) == (ByteArray.toList (.mk (.mk []))))), (.b (decide ((((ByteArray.size x71) : Nat) : Int) ≤ (900 : Int)))), (.s (.mk (.mk [114]))), (.b ((slLen o56) == (0 : Int))), (.b .false)] fun a114 =>
            .loop t196_b115 [(.sc (.s x7)), (.sc (.sl (.some (.mk a114 0 6 6 3)))), (.sc (.i .i64 (slLen (.some (.mk a114 0 6 6 3))))), (.sc (.i .i64 (0 : Int)))] t196_k115))))))))))
          (.call 276 [(.sc (.i .i64 n62))] fun v149 =>
          .asI .i64 v149 fun n150 =>
          .same a0 (0 + 9) [(.sl o59)] (
          .same a0 (0 + 9) [(.sl o56)] (
          .same a0 (0 + 8) [(.s x50)] (
          .same a0 (0 + 7) [(.b b47)] (
          .same a0 (0 + 6) [(.cx .f64 a39 a40)] (
          .same a0 (0 + 4) [(.i .u32 n29), (.i .u16 n31)] (
          .same a0 (0 + 3) [(.i .i64 n23)] (
          cond (decide ((slLen o59) ≤ n150))
            (.ld a0 (0 + 9) 1 fun l151 =>
            .nth l151 0 fun v152 =>
            .asL (.sc v152) fun o153 =>
            .call 277 [(.sc (.sl o153)), (.sc (.fn 275 [] []))] fun v154 =>
            .asB v154 fun b155 =>
            .same a0 (0 + 9) [(.sl o56)] (
            .same a0 (0 + 8) [(.s x50)] (
            .same a0 (0 + 7) [(.b b47)] (
            .same a0 (0 + 6) [(.cx .f64 a39 a40)] (
            .same a0 (0 + 4) [(.i .u32 n29), (.i .u16 n31)] (
            .same a0 (0 + 3) [(.i .i64 n23)] (
            .al [(.s (.mk (.mk [110]))), (.b (n23 == (0 : Int))), (.b b64), (.s (.mk (.mk [97]))), (.b ((n29 == (0 : Int)) && ((n31 == (0 : Int)) && .true))), (.b (!b66)), (.s (.mk (.mk [112]))), (.b (((Ieee.Format.order (FloatKind.format .f64) a39 0) == (.some .eq)) && ((Ieee.Format.order (FloatKind.format .f64) a40 0) == (.some .eq)))), (.b b68), (.s (.mk (.mk [102]))), (.b (!b47)), (.b .true), (.s (.mk (.mk [98]))), (.b ((ByteArray.toList x50) == (ByteArray.toList (.mk (.mk []))))), (.b .false), (.s (.mk (.mk [114]))), (.b ((slLen o56) == (0 : Int))), (.b (!b155))] fun a156 =>
            .loop t196_b157 [(.sc (.s x7)), (.sc (.sl (.some (.mk a156 0 6 6 3)))), (.sc (.i .i64 (slLen (.some (.mk a156 0 6 6 3))))), (.sc (.i .i64 (0 : Int)))] t196_k157)))))))
            (.al [(.s (.mk (.mk [110]))), (.b (n23 == (0 : Int))), (.b b64), (.s (.mk (.mk [97]))), (.b ((n29 == (0 : Int)) && ((n31 == (0 : Int)) && .true))), (.b (!b66)), (.s (.mk (.mk [112]))), (.b (((Ieee.Format.order (FloatKind.format .f64) a39 0) == (.some .eq)) && ((Ieee.Format.order (FloatKind.format .f64) a40 0) == (.some .eq)))), (.b b68), (.s (.mk (.mk [102]))), (.b (!b47)), (.b .true), (.s (.mk (.mk [98]))), (.b ((ByteArray.toList x50) == (ByteArray.toList (.mk (.mk []))))), (.b .false), (.s (.mk (.mk [114]))), (.b ((slLen o56) == (0 : Int))), (.b .false)] fun a191 =>
            .loop t196_b192 [(.sc (.s x7)), (.sc (.sl (.some (.mk a191 0 6 6 3)))), (.sc (.i .i64 (slLen (.some (.mk a191 0 6 6 3))))), (.sc (.i .i64 (0 : Int)))] t196_k192))))))))))))))))))))))))))))))))))))))))))
theorem t196_eq (n0_0 : Int) (n0_1 : Int) (n0_2 : Int) (n0_3 : Int) (n0_4 : Int) (n0_5 : Int) (n0_6 m0_6 : Nat) (b0_7 : Bool) (x0_8 : ByteArray) (s0_9 : Option SlD) : bodyK T (hs 196) Tryz.f196 [.ag [.i .i64 n0_0, .i .i64 n0_1, .i .u32 n0_2, .i .i64 n0_3, .i .u32 n0_4, .i .u16 n0_5, .cx .f64 n0_6 m0_6, .b b0_7, .s x0_8, .sl s0_9]] = t196 n0_0 n0_1 n0_2 n0_3 n0_4 n0_5 n0_6 m0_6 b0_7 x0_8 s0_9 := by kernel_rfl
def t197_b1  : List AV → Tree := fun l2 =>
  .asI .u64 (l2.getD 0 .un) fun n3 =>
  .asI .i64 (l2.getD 1 .un) fun n4 =>
  .asP (l2.getD 2 .un) fun o5 =>
  .nn o5 fun a6 a7 =>
  .asI .i64 (l2.getD 3 .un) fun n8 =>
  .asI .i64 (l2.getD 4 .un) fun n9 =>
  cond (decide (n9 < n8))
    (.br (decide ((0 : Int) ≤ (IntKind.wrap .i64 ((8 : Int) * (IntKind.wrap .i64 ((IntKind.wrap .i64 (n4 - (1 : Int))) - n9))))))
      (.br ((decide ((0 : Int) ≤ n9)) && (decide (n9 < (8 : Int))))
        (.st a6 (a7 + ((Int.toNat n9) * 1)) [(.i .u8 (IntKind.wrap .u8 (Int.fdiv n3 ((2 : Int) ^ (min (Int.toNat (IntKind.wrap .i64 ((8 : Int) * (IntKind.wrap .i64 ((IntKind.wrap .i64 (n4 - (1 : Int))) - n9))))) 64)))))] (
        .ret 0 [(.sc (.i .u64 n3)), (.sc (.i .i64 n4)), (.sc (.p (.some (a6, a7)))), (.sc (.i .i64 n8)), (.sc (.i .i64 (IntKind.wrap .i64 (n9 + (1 : Int)))))]))
        (.fail))
      (.fail))
    (.ret 2 [(.sc (.i .i64 n4)), (.sc (.p (.some (a6, a7))))])
def t197_k1  : Nat → List AV → Tree := fun a10 l11 =>
  .tg a10 2
    (.asI .i64 (l11.getD 0 .un) fun n12 =>
    .asP (l11.getD 1 .un) fun o13 =>
    .nn o13 fun a14 a15 =>
    .slc 1 (.some (.mk a14 a15 8 8 1)) .none (.some n12) .none fun o16 =>
    .lds 1 o16 (slN o16) fun l17 =>
    .asBy l17 fun x18 =>
    .ret 0 [(.sc (.s x18))])
    (.fail)
/-- scuttlebutt/pack.Number -/
def t197 (n0_ : Int) (n1_ : Int) : Tree :=
  cond (decide (n1_ < (1 : Int)))
    (.ret 0 [(.sc (.s (.mk (.mk []))))])
    (cond (decide (n1_ > (8 : Int)))
      (.ret 0 [(.sc (.s (.mk (.mk []))))])
      (.al [(.i .u8 (0 : Int)), (.i .u8 (0 : Int)), (.i .u8 (0 : Int)), (.i .u8 (0 : Int)), (.i .u8 (0 : Int)), (.i .u8 (0 : Int)), (.i .u8 (0 : Int)), (.i .u8 (0 : Int))] fun a0 =>
      .loop t197_b1 [(.sc (.i .u64 n0_)), (.sc (.i .i64 n1_)), (.sc (.p (.some (a0, 0)))), (.sc (.i .i64 n1_)), (.sc (.i .i64 (0 : Int)))] t197_k1))
theorem t197_eq (n0_ : Int) (n1_ : Int) : bodyK T (hs 197) Tryz.f197 [.sc (.i .u64 n0_), .sc (.i .i64 n1_)] = t197 n0_ n1_ := by kernel_rfl
def t272_b17  : List AV → Tree := fun l18 =>
  .asI .i64 (l18.getD 0 .un) fun n19 =>
  .br (n19 == (0 : Int))
    (.asP (l18.getD 1 .un) fun o20 =>
    .nn o20 fun a21 a22 =>
    .st a21 a22 [(.s (.mk (.mk []))), (.b .true)] (
    .ret 2 [(.sc (.s (.mk (.mk [])))), (.sc (.p (.some (a21, a22))))]))
    (.fail)
def t272_k17  : Nat → List AV → Tree := fun a23 l24 =>
  .tg a23 2
    (.asS (l24.getD 0 .un) fun x25 =>
    .asP (l24.getD 1 .un) fun o26 =>
    .nn o26 fun a27 a28 =>
    .ld a27 a28 2 fun l29 =>
    .nth l29 0 fun v30 =>
    .asS (.sc v30) fun x31 =>
    .nth l29 1 fun v32 =>
    .asB (.sc v32) fun b33 =>
    .ret 0 [(.tu [(.sc (.s x25)), (.ag [(.s x31), (.b b33)])])])
    (.fail)
def t272_k2  : Nat → List AV → Tree := fun a15 l16 =>
  .tg a15 3
    (.loop t272_b17 ((.sc (.i .i64 (0 : Int))) :: l16) t272_k17)
    (.tg a15 1
      (.asS (l16.getD 0 .un) fun x34 =>
      .asP (l16.getD 1 .un) fun o35 =>
      .nn o35 fun a36 a37 =>
      .ld a36 a37 2 fun l38 =>
      .nth l38 0 fun v39 =>
      .asS (.sc v39) fun x40 =>
      .nth l38 1 fun v41 =>
      .asB (.sc v41) fun b42 =>
      .ret 0 [(.tu [(.sc (.s x34)), (.ag [(.s x40), (.b b42)])])])
      (.fail))
/-- (scuttlebutt/pack.Reader).bytes -/
def t272 (x0_0 : ByteArray) (b0_1 : Bool) (n1_ : Int) : Tree :=
  .al [(.s x0_0), (.b b0_1)] fun a0 =>
  .al [(.s (.mk (.mk []))), (.b .false)] fun a1 =>
  .join (
    .ld a0 (0 + 1) 1 fun l3 =>
    .nth l3 0 fun v4 =>
    .asB (.sc v4) fun b5 =>
    cond b5
      (.ret 3 [(.sc (.p (.some (a1, 0))))])
      (.ld a0 (0 + 0) 1 fun l6 =>
      .nth l6 0 fun v7 =>
      .asS (.sc v7) fun x8 =>
      cond (decide (n1_ > (((ByteArray.size x8) : Nat) : Int)))
        (.ret 3 [(.sc (.p (.some (a1, 0))))])
        (.ld a0 (0 + 0) 1 fun l9 =>
        .nth l9 0 fun v10 =>
        .asS (.sc v10) fun x11 =>
        .br (((decide ((0 : Int) ≤ (0 : Int))) && (decide ((0 : Int) ≤ n1_))) && (decide (n1_ ≤ (((ByteArray.size x11) : Nat) : Int))))
          (.ld a0 (0 + 0) 1 fun l12 =>
          .nth l12 0 fun v13 =>
          .asS (.sc v13) fun x14 =>
          .br (((decide ((0 : Int) ≤ n1_)) && (decide (n1_ ≤ (((ByteArray.size x14) : Nat) : Int)))) && (decide ((((ByteArray.size x14) : Nat) : Int) ≤ (((ByteArray.size x14) : Nat) : Int))))
            (.st a1 0 [(.s (ByteArray.extract x14 (Int.toNat n1_) (Int.toNat (((ByteArray.size x14) : Nat) : Int)))), (.b .false)] (
            .ret 1 [(.sc (.s (ByteArray.extract x11 (Int.toNat (0 : Int)) (Int.toNat n1_)))), (.sc (.p (.some (a1, 0))))]))
            (.fail))
          (.fail)))) t272_k2
theorem t272_eq (x0_0 : ByteArray) (b0_1 : Bool) (n1_ : Int) : bodyK T (hs 272) Tryz.f272 [.ag [.s x0_0, .b b0_1], .sc (.i .i64 n1_)] = t272 x0_0 b0_1 n1_ := by kernel_rfl
/-- scuttlebutt/wire.node -/
def t273 (n0_ : Int) : Tree :=
  cond (decide (n0_ ≥ (1 : Int)))
    (.ret 0 [(.sc (.b (decide (n0_ ≤ (32 : Int)))))])
    (.ret 0 [(.sc (.b .false))])
theorem t273_eq (n0_ : Int) : bodyK T (hs 273) Tryz.f273 [.sc (.i .i64 n0_)] = t273 n0_ := by kernel_rfl
/-- scuttlebutt/wire.Right$1 -/
def t275 (n0_0 : Int) (n0_1 : Int) (n0_2 : Int) (n0_3 : Int) (n0_4 : Int) : Tree :=
  .al [(.i .i64 n0_0), (.i .i64 n0_1), (.i .u32 n0_2), (.i .u32 n0_3), (.i .u16 n0_4)] fun a0 =>
  .ld a0 0 5 fun l1 =>
  .nth l1 0 fun v2 =>
  .asI .i64 (.sc v2) fun n3 =>
  .nth l1 1 fun v4 =>
  .asI .i64 (.sc v4) fun n5 =>
  .nth l1 2 fun v6 =>
  .asI .u32 (.sc v6) fun n7 =>
  .nth l1 3 fun v8 =>
  .asI .u32 (.sc v8) fun n9 =>
  .nth l1 4 fun v10 =>
  .asI .u16 (.sc v10) fun n11 =>
  .call 87 [(.ag [(.i .i64 n3), (.i .i64 n5), (.i .u32 n7), (.i .u32 n9), (.i .u16 n11)])] fun v12 =>
  .asB v12 fun b13 =>
  .ret 0 [(.sc (.b (!b13)))]
theorem t275_eq (n0_0 : Int) (n0_1 : Int) (n0_2 : Int) (n0_3 : Int) (n0_4 : Int) : bodyK T (hs 275) Tryz.f275 [.ag [.i .i64 n0_0, .i .i64 n0_1, .i .u32 n0_2, .i .u32 n0_3, .i .u16 n0_4]] = t275 n0_0 n0_1 n0_2 n0_3 n0_4 := by kernel_rfl
/-- scuttlebutt/wire.news -/
def t276 (n0_ : Int) : Tree :=
  cond (n0_ == (13 : Int))
    (.ret 0 [(.sc (.i .i64 (32 : Int)))])
    (cond (n0_ == (15 : Int))
      (.ret 0 [(.sc (.i .i64 (32 : Int)))])
      (.ret 0 [(.sc (.i .i64 (8 : Int)))]))
theorem t276_eq (n0_ : Int) : bodyK T (hs 276) Tryz.f276 [.sc (.i .i64 n0_)] = t276 n0_ := by kernel_rfl
/-- slices.ContainsFunc[[]scuttlebutt/record.Record,scuttlebutt/record.Record] -/
def t277 (s0_ : Option SlD) (g1_ : FuncId) (f1_ c1_ : List (Nat × Nat)) : Tree :=
  .call 318 [(.sc (.sl s0_)), (.sc (.fn g1_ f1_ c1_))] fun v0 =>
  .asI .i64 v0 fun n1 =>
  .ret 0 [(.sc (.b (decide (n1 ≥ (0 : Int)))))]
theorem t277_eq (s0_ : Option SlD) (g1_ : FuncId) (f1_ c1_ : List (Nat × Nat)) : bodyK T (hs 277) Tryz.f277 [.sc (.sl s0_), .sc (.fn g1_ f1_ c1_)] = t277 s0_ g1_ f1_ c1_ := by kernel_rfl
/-- strings.Contains -/
def t278 (x0_ : ByteArray) (x1_ : ByteArray) : Tree :=
  .call 319 [(.sc (.s x0_)), (.sc (.s x1_))] fun v0 =>
  .asI .i64 v0 fun n1 =>
  .ret 0 [(.sc (.b (decide (n1 ≥ (0 : Int)))))]
theorem t278_eq (x0_ : ByteArray) (x1_ : ByteArray) : bodyK T (hs 278) Tryz.f278 [.sc (.s x0_), .sc (.s x1_)] = t278 x0_ x1_ := by kernel_rfl
def t318_b0  : List AV → Tree := fun l1 =>
  .asL (l1.getD 0 .un) fun o2 =>
  .asX (l1.getD 1 .un) fun v3 =>
  .asI .i64 (l1.getD 2 .un) fun n4 =>
  .asI .i64 (l1.getD 3 .un) fun n5 =>
  cond (decide (n5 < n4))
    (.ixS 5 o2 n5 fun a6 a7 a8 =>
    .ld a6 (a7 + (a8 * 5)) 5 fun l9 =>
    .nth l9 0 fun v10 =>
    .asI .i64 (.sc v10) fun n11 =>
    .nth l9 1 fun v12 =>
    .asI .i64 (.sc v12) fun n13 =>
    .nth l9 2 fun v14 =>
    .asI .u32 (.sc v14) fun n15 =>
    .nth l9 3 fun v16 =>
    .asI .u32 (.sc v16) fun n17 =>
    .nth l9 4 fun v18 =>
    .asI .u16 (.sc v18) fun n19 =>
    .callv (.sc v3) [(.ag [(.i .i64 n11), (.i .i64 n13), (.i .u32 n15), (.i .u32 n17), (.i .u16 n19)])] fun v20 =>
    .asB v20 fun b21 =>
    cond b21
      (.ret 1 [(.sc (.i .i64 n5))])
      (.ret 0 [(.sc (.sl o2)), (.sc v3), (.sc (.i .i64 n4)), (.sc (.i .i64 (IntKind.wrap .i64 (n5 + (1 : Int)))))]))
    (.ret 2 [])
def t318_k0  : Nat → List AV → Tree := fun a22 l23 =>
  .tg a22 2
    (.ret 0 [(.sc (.i .i64 (-1 : Int)))])
    (.tg a22 1
      (.asI .i64 (l23.getD 0 .un) fun n24 =>
      .ret 0 [(.sc (.i .i64 n24))])
      (.fail))
/-- slices.IndexFunc[[]scuttlebutt/record.Record,scuttlebutt/record.Record] -/
def t318 (s0_ : Option SlD) (g1_ : FuncId) (f1_ c1_ : List (Nat × Nat)) : Tree :=
  .loop t318_b0 [(.sc (.sl s0_)), (.sc (.fn g1_ f1_ c1_)), (.sc (.i .i64 (slLen s0_))), (.sc (.i .i64 (0 : Int)))] t318_k0
theorem t318_eq (s0_ : Option SlD) (g1_ : FuncId) (f1_ c1_ : List (Nat × Nat)) : bodyK T (hs 318) Tryz.f318 [.sc (.sl s0_), .sc (.fn g1_ f1_ c1_)] = t318 s0_ g1_ f1_ c1_ := by kernel_rfl
/-- strings.Index -/
def t319 (x0_ : ByteArray) (x1_ : ByteArray) : Tree :=
  .call 352 [(.sc (.s x0_)), (.sc (.s x1_))] fun v0 =>
  .asI .i64 v0 fun n1 =>
  .ret 0 [(.sc (.i .i64 n1))]
theorem t319_eq (x0_ : ByteArray) (x1_ : ByteArray) : bodyK T (hs 319) Tryz.f319 [.sc (.s x0_), .sc (.s x1_)] = t319 x0_ x1_ := by kernel_rfl
end Go.Proofs.YtpbhfolaoccpkaaGreat
namespace Go.Proofs.YtpbhfolaoccpkaaGreat
open Go Go.Proofs.YtpbhfolaoccpkaaGreat.Fw
set_option linter.unusedVariables false
set_option maxRecDepth 20000
/-- scuttlebutt/scuttlebuttref06.Has -/
def t92 (n0_ : Int) : Tree :=
  cond (decide (n0_ < (1 : Int)))
    (.ret 0 [(.tu [(.sc (.s (.mk (.mk [])))), (.sc (.b .false))])])
    (cond (decide (n0_ > (16 : Int)))
      (.ret 0 [(.tu [(.sc (.s (.mk (.mk [])))), (.sc (.b .false))])])
      (.al [(.s (.mk (.mk []))), (.s (.mk (.mk [110, 114]))), (.s (.mk (.mk [112, 114]))), (.s (.mk (.mk [110, 97, 114]))), (.s (.mk (.mk [110]))), (.s (.mk (.mk [110, 98]))), (.s (.mk (.mk [97, 102]))), (.s (.mk (.mk [97, 102]))), (.s (.mk (.mk [110]))), (.s (.mk (.mk [110]))), (.s (.mk (.mk [102]))), (.s (.mk (.mk [102]))), (.s (.mk (.mk []))), (.s (.mk (.mk [112, 114]))), (.s (.mk (.mk [114]))), (.s (.mk (.mk [102, 114]))), (.s (.mk (.mk [110, 97])))] fun a0 =>
      .ixS 1 (.some (.mk a0 0 17 17 1)) n0_ fun a1 a2 a3 =>
      .ld a1 (a2 + (a3 * 1)) 1 fun l4 =>
      .nth l4 0 fun v5 =>
      .asS (.sc v5) fun x6 =>
      .ret 0 [(.tu [(.sc (.s x6)), (.sc (.b .true))])]))
theorem t92_eq (n0_ : Int) : bodyK T (hs 92) Tryz.f92 [.sc (.i .i64 n0_)] = t92 n0_ := by kernel_rfl
def t93_b0  : List AV → Tree := fun l1 =>
  .asI .u64 (l1.getD 0 .un) fun n2 =>
  .asL (l1.getD 1 .un) fun o3 =>
  .asI .i64 (l1.getD 2 .un) fun n4 =>
  cond (decide (n4 ≥ (0 : Int)))
    (.br (decide ((0 : Int) ≤ (IntKind.wrap .i64 ((8 : Int) * n4))))
      (.al [(.i .u8 (IntKind.wrap .u8 (Int.fdiv n2 ((2 : Int) ^ (min (Int.toNat (IntKind.wrap .i64 ((8 : Int) * n4))) 64)))))] fun a5 =>
      .lds 1 (.some (.mk a5 0 1 1 1)) (slN (.some (.mk a5 0 1 1 1))) fun l6 =>
      .app 1 1 o3 l6 (slN (.some (.mk a5 0 1 1 1))) fun o7 =>
      .ret 0 [(.sc (.i .u64 n2)), (.sc (.sl o7)), (.sc (.i .i64 (IntKind.wrap .i64 (n4 - (1 : Int)))))])
      (.fail))
    (.ret 2 [(.sc (.sl o3))])
def t93_k0  : Nat → List AV → Tree := fun a8 l9 =>
  .tg a8 2
    (.asL (l9.getD 0 .un) fun o10 =>
    .lds 1 o10 (slN o10) fun l11 =>
    .asBy l11 fun x12 =>
    .ret 0 [(.sc (.s x12))])
    (.fail)
/-- scuttlebutt/scuttlebuttref02.Number -/
def t93 (n0_ : Int) (n1_ : Int) : Tree :=
  cond (decide (n1_ < (1 : Int)))
    (.ret 0 [(.sc (.s (.mk (.mk []))))])
    (cond (decide (n1_ > (8 : Int)))
      (.ret 0 [(.sc (.s (.mk (.mk []))))])
      (.loop t93_b0 [(.sc (.i .u64 n0_)), (.sc (.sl .none)), (.sc (.i .i64 (IntKind.wrap .i64 (n1_ - (1 : Int)))))] t93_k0))
theorem t93_eq (n0_ : Int) (n1_ : Int) : bodyK T (hs 93) Tryz.f93 [.sc (.i .u64 n0_), .sc (.i .i64 n1_)] = t93 n0_ n1_ := by kernel_rfl
/-- (scuttlebutt/scuttlebuttref03.Addr).None -/
def t120 (n0_0 : Int) (n0_1 : Int) : Tree :=
  .al [(.i .u32 n0_0), (.i .u16 n0_1)] fun a0 =>
  .ld a0 (0 + 0) 1 fun l1 =>
  .nth l1 0 fun v2 =>
  .asI .u32 (.sc v2) fun n3 =>
  cond (n3 == (0 : Int))
    (.ret 0 [(.sc (.b .true))])
    (.ld a0 (0 + 1) 1 fun l4 =>
    .nth l4 0 fun v5 =>
    .asI .u16 (.sc v5) fun n6 =>
    .ret 0 [(.sc (.b (n6 == (0 : Int))))])
theorem t120_eq (n0_0 : Int) (n0_1 : Int) : bodyK T (hs 120) Tryz.f120 [.ag [.i .u32 n0_0, .i .u16 n0_1]] = t120 n0_0 n0_1 := by kernel_rfl
def t186_b0  : List AV → Tree := fun l1 =>
  .asS (l1.getD 0 .un) fun x2 =>
  .asI .u8 (l1.getD 1 .un) fun n3 =>
  .asI .i64 (l1.getD 2 .un) fun n4 =>
  cond (decide (n4 < (((ByteArray.size x2) : Nat) : Int)))
    (.br ((decide ((0 : Int) ≤ n4)) && (decide (n4 < (((ByteArray.size x2) : Nat) : Int))))
      (cond ((strAt x2 (Int.toNat n4)) == n3)
        (.ret 1 [(.sc (.b .true))])
        (.ret 0 [(.sc (.s x2)), (.sc (.i .u8 n3)), (.sc (.i .i64 (IntKind.wrap .i64 (n4 + (1 : Int)))))]))
      (.fail))
    (.ret 2 [])
def t186_k0  : Nat → List AV → Tree := fun a5 l6 =>
  .tg a5 2
    (.ret 0 [(.sc (.b .false))])
    (.tg a5 1
      (.asB (l6.getD 0 .un) fun b7 =>
      .ret 0 [(.sc (.b b7))])
      (.fail))
/-- scuttlebutt/scuttlebuttref06.in -/
def t186 (x0_ : ByteArray) (n1_ : Int) : Tree :=
  .loop t186_b0 [(.sc (.s x0_)), (.sc (.i .u8 n1_)), (.sc (.i .i64 (0 : Int)))] t186_k0
theorem t186_eq (x0_ : ByteArray) (n1_ : Int) : bodyK T (hs 186) Tryz.f186 [.sc (.s x0_), .sc (.i .u8 n1_)] = t186 x0_ n1_ := by kernel_rfl
def t23_b95  : List AV → Tree := fun l96 =>
  .asP (l96.getD 0 .un) fun o97 =>
  .nn o97 fun a98 a99 =>
  .asS (l96.getD 1 .un) fun x100 =>
  .asS (l96.getD 2 .un) fun x101 =>
  .asI .i64 (l96.getD 3 .un) fun n102 =>
  .asI .i64 (l96.getD 4 .un) fun n103 =>
  .ld a98 (a99 + 9) 1 fun l104 =>
  .nth l104 0 fun v105 =>
  .asL (.sc v105) fun o106 =>
  cond (decide (n103 < (slLen o106)))
    (.ld a98 (a99 + 9) 1 fun l107 =>
    .nth l107 0 fun v108 =>
    .asL (.sc v108) fun o109 =>
    .ixS 5 o109 n103 fun a110 a111 a112 =>
    .ld a110 (a111 + (a112 * 5)) 5 fun l113 =>
    .nth l113 0 fun v114 =>
    .asI .i64 (.sc v114) fun n115 =>
    .nth l113 1 fun v116 =>
    .asI .i64 (.sc v116) fun n117 =>
    .nth l113 2 fun v118 =>
    .asI .u32 (.sc v118) fun n119 =>
    .nth l113 3 fun v120 =>
    .asI .u32 (.sc v120) fun n121 =>
    .nth l113 4 fun v122 =>
    .asI .u16 (.sc v122) fun n123 =>
    .call 96 [(.ag [(.i .i64 n115), (.i .i64 n117), (.i .u32 n119), (.i .u32 n121), (.i .u16 n123)])] fun v124 =>
    .asT 2 v124 fun l125 =>
    .nthC l125 0 fun v126 =>
    .asS (v126.av) fun x127 =>
    .nthC l125 1 fun v128 =>
    .asB (v128.av) fun b129 =>
    .br (decide (((((ByteArray.size x101) + (ByteArray.size x127)) : Nat) : Int) ≤ (9223372036854775807 : Int)))
      (.ret 0 [(.sc (.p (.some (a98, a99)))), (.sc (.s x100)), (.sc (.s (x101 ++ x127))), (.sc (.i .i64 n102)), (.sc (.i .i64 (IntKind.wrap .i64 (n103 + (1 : Int)))))])
      (.fail))
    (.ret 8 [(.sc (.p (.some (a98, a99)))), (.sc (.s x100)), (.sc (.s x101)), (.sc (.i .i64 n102))])
def t23_k95  : Nat → List AV → Tree := fun a130 l131 =>
  .tg a130 8
    (.asP (l131.getD 0 .un) fun o132 =>
    .nn o132 fun a133 a134 =>
    .asS (l131.getD 1 .un) fun x135 =>
    .asS (l131.getD 2 .un) fun x136 =>
    .asI .i64 (l131.getD 3 .un) fun n137 =>
    .ret 0 [(.sc (.p (.some (a133, a134)))), (.sc (.s x135)), (.sc (.s x136)), (.sc (.i .i64 (IntKind.wrap .i64 (n137 + (1 : Int)))))])
    (.fail)
def t23_b49  : List AV → Tree := fun l50 =>
  .asP (l50.getD 0 .un) fun o51 =>
  .nn o51 fun a52 a53 =>
  .asS (l50.getD 1 .un) fun x54 =>
  .asS (l50.getD 2 .un) fun x55 =>
  .asI .i64 (l50.getD 3 .un) fun n56 =>
  cond (decide (n56 < (((ByteArray.size x54) : Nat) : Int)))
    (.br ((decide ((0 : Int) ≤ n56)) && (decide (n56 < (((ByteArray.size x54) : Nat) : Int))))
      (cond ((strAt x54 (Int.toNat n56)) == (110 : Int))
        (.ld a52 (a53 + 3) 1 fun l57 =>
        .nth l57 0 fun v58 =>
        .asI .i64 (.sc v58) fun n59 =>
        .call 93 [(.sc (.i .u64 (IntKind.wrap .u64 n59))), (.sc (.i .i64 (1 : Int)))] fun v60 =>
        .asS v60 fun x61 =>
        .br (decide (((((ByteArray.size x55) + (ByteArray.size x61)) : Nat) : Int) ≤ (9223372036854775807 : Int)))
          (.ret 0 [(.sc (.p (.some (a52, a53)))), (.sc (.s x54)), (.sc (.s (x55 ++ x61))), (.sc (.i .i64 (IntKind.wrap .i64 (n56 + (1 : Int)))))])
          (.fail))
        (cond ((strAt x54 (Int.toNat n56)) == (97 : Int))
          (.ld a52 (a53 + 4) 2 fun l62 =>
          .nth l62 0 fun v63 =>
          .asI .u32 (.sc v63) fun n64 =>
          .nth l62 1 fun v65 =>
          .asI .u16 (.sc v65) fun n66 =>
          .call 94 [(.ag [(.i .u32 n64), (.i .u16 n66)])] fun v67 =>
          .asS v67 fun x68 =>
          .br (decide (((((ByteArray.size x55) + (ByteArray.size x68)) : Nat) : Int) ≤ (9223372036854775807 : Int)))
            (.ret 0 [(.sc (.p (.some (a52, a53)))), (.sc (.s x54)), (.sc (.s (x55 ++ x68))), (.sc (.i .i64 (IntKind.wrap .i64 (n56 + (1 : Int)))))])
            (.fail))
          (cond ((strAt x54 (Int.toNat n56)) == (112 : Int))
            (.ld a52 (a53 + 6) 1 fun l69 =>
            .nth l69 0 fun v70 =>
            .asC .f64 (.sc v70) fun a71 a72 =>
            .call 95 [(.sc (.cx .f64 a71 a72))] fun v73 =>
            .asT 2 v73 fun l74 =>
            .nthC l74 0 fun v75 =>
            .asS (v75.av) fun x76 =>
            .nthC l74 1 fun v77 =>
            .asB (v77.av) fun b78 =>
            .br (decide (((((ByteArray.size x55) + (ByteArray.size x76)) : Nat) : Int) ≤ (9223372036854775807 : Int)))
              (.ret 0 [(.sc (.p (.some (a52, a53)))), (.sc (.s x54)), (.sc (.s (x55 ++ x76))), (.sc (.i .i64 (IntKind.wrap .i64 (n56 + (1 : Int)))))])
              (.fail))
            (cond ((strAt x54 (Int.toNat n56)) == (102 : Int))
              (.ld a52 (a53 + 7) 1 fun l79 =>
              .nth l79 0 fun v80 =>
              .asB (.sc v80) fun b81 =>
              cond b81
                (.br (decide (((((ByteArray.size x55) + (ByteArray.size (.mk (.mk [1])))) : Nat) : Int) ≤ (9223372036854775807 : Int)))
                  (.ret 0 [(.sc (.p (.some (a52, a53)))), (.sc (.s x54)), (.sc (.s (x55 ++ (.mk (.mk [1]))))), (.sc (.i .i64 (IntKind.wrap .i64 (n56 + (1 : Int)))))])
                  (.fail))
                (.br (decide (((((ByteArray.size x55) + (ByteArray.size (.mk (.mk [0])))) : Nat) : Int) ≤ (9223372036854775807 : Int)))
                  (.ret 0 [(.sc (.p (.some (a52, a53)))), (.sc (.s x54)), (.sc (.s (x55 ++ (.mk (.mk [0]))))), (.sc (.i .i64 (IntKind.wrap .i64 (n56 + (1 : Int)))))])
                  (.fail)))
              (cond ((strAt x54 (Int.toNat n56)) == (98 : Int))
                (.ld a52 (a53 + 8) 1 fun l82 =>
                .nth l82 0 fun v83 =>
                .asS (.sc v83) fun x84 =>
                .ld a52 (a53 + 8) 1 fun l85 =>
                .nth l85 0 fun v86 =>
                .asS (.sc v86) fun x87 =>
                .call 93 [(.sc (.i .u64 (IntKind.wrap .u64 (((ByteArray.size x84) : Nat) : Int)))), (.sc (.i .i64 (2 : Int)))] fun v88 =>
                .asS v88 fun x89 =>
                .same a52 (a53 + 8) [(.s x87)] (
                .br (decide (((((ByteArray.size x55) + (ByteArray.size x89)) : Nat) : Int) ≤ (9223372036854775807 : Int)))
                  (.br (decide (((((ByteArray.size (x55 ++ x89)) + (ByteArray.size x87)) : Nat) : Int) ≤ (9223372036854775807 : Int)))
                    (.ret 0 [(.sc (.p (.some (a52, a53)))), (.sc (.s x54)), (.sc (.s ((x55 ++ x89) ++ x87))), (.sc (.i .i64 (IntKind.wrap .i64 (n56 + (1 : Int)))))])
                    (.fail))
                  (.fail)))
                (cond ((strAt x54 (Int.toNat n56)) == (114 : Int))
                  (.ld a52 (a53 + 9) 1 fun l90 =>
                  .nth l90 0 fun v91 =>
                  .asL (.sc v91) fun o92 =>
                  .call 93 [(.sc (.i .u64 (IntKind.wrap .u64 (slLen o92)))), (.sc (.i .i64 (1 : Int)))] fun v93 =>
                  .asS v93 fun x94 =>
                  .br (decide (((((ByteArray.size x55) + (ByteArray.size x94)) : Nat) : Int) ≤ (9223372036854775807 : Int)))
                    (.loop t23_b95 [(.sc (.p (.some (a52, a53)))), (.sc (.s x54)), (.sc (.s (x55 ++ x94))), (.sc (.i .i64 n56)), (.sc (.i .i64 (0 : Int)))] t23_k95)
                    (.fail))
                  (.ret 0 [(.sc (.p (.some (a52, a53)))), (.sc (.s x54)), (.sc (.s x55)), (.sc (.i .i64 (IntKind.wrap .i64 (n56 + (1 : Int)))))])))))))
      (.fail))
    (.ret 2 [(.sc (.s x55))])
def t23_k49  : Nat → List AV → Tree := fun a138 l139 =>
  .tg a138 2
    (.asS (l139.getD 0 .un) fun x140 =>
    cond (decide ((((ByteArray.size x140) : Nat) : Int) > (1024 : Int)))
      (.ret 0 [(.tu [(.sc (.s (.mk (.mk [])))), (.sc (.b .false))])])
      (.ret 0 [(.tu [(.sc (.s x140)), (.sc (.b .true))])]))
    (.fail)
/-- scuttlebutt/scuttlebuttref06.Put -/
def t23 (n0_0 : Int) (n0_1 : Int) (n0_2 : Int) (n0_3 : Int) (n0_4 : Int) (n0_5 : Int) (n0_6 m0_6 : Nat) (b0_7 : Bool) (x0_8 : ByteArray) (s0_9 : Option SlD) : Tree :=
  .al [(.i .i64 n0_0), (.i .i64 n0_1), (.i .u32 n0_2), (.i .i64 n0_3), (.i .u32 n0_4), (.i .u16 n0_5), (.cx .f64 n0_6 m0_6), (.b b0_7), (.s x0_8), (.sl s0_9)] fun a0 =>
  .ld a0 0 10 fun l1 =>
  .nth l1 0 fun v2 =>
  .asI .i64 (.sc v2) fun n3 =>
  .nth l1 1 fun v4 =>
  .asI .i64 (.sc v4) fun n5 =>
  .nth l1 2 fun v6 =>
  .asI .u32 (.sc v6) fun n7 =>
  .nth l1 3 fun v8 =>
  .asI .i64 (.sc v8) fun n9 =>
  .nth l1 4 fun v10 =>
  .asI .u32 (.sc v10) fun n11 =>
  .nth l1 5 fun v12 =>
  .asI .u16 (.sc v12) fun n13 =>
  .nth l1 6 fun v14 =>
  .asC .f64 (.sc v14) fun a15 a16 =>
  .nth l1 7 fun v17 =>
  .asB (.sc v17) fun b18 =>
  .nth l1 8 fun v19 =>
  .asS (.sc v19) fun x20 =>
  .nth l1 9 fun v21 =>
  .asL (.sc v21) fun o22 =>
  .call 91 [(.ag [(.i .i64 n3), (.i .i64 n5), (.i .u32 n7), (.i .i64 n9), (.i .u32 n11), (.i .u16 n13), (.cx .f64 a15 a16), (.b b18), (.s x20), (.sl o22)])] fun v23 =>
  .asB v23 fun b24 =>
  cond (!b24)
    (.ret 0 [(.tu [(.sc (.s (.mk (.mk [])))), (.sc (.b .false))])])
    (.ld a0 (0 + 0) 1 fun l25 =>
    .nth l25 0 fun v26 =>
    .asI .i64 (.sc v26) fun n27 =>
    .call 92 [(.sc (.i .i64 n27))] fun v28 =>
    .asT 2 v28 fun l29 =>
    .nthC l29 0 fun v30 =>
    .asS (v30.av) fun x31 =>
    .nthC l29 1 fun v32 =>
    .asB (v32.av) fun b33 =>
    .ld a0 (0 + 0) 1 fun l34 =>
    .nth l34 0 fun v35 =>
    .asI .i64 (.sc v35) fun n36 =>
    .ld a0 (0 + 1) 1 fun l37 =>
    .nth l37 0 fun v38 =>
    .asI .i64 (.sc v38) fun n39 =>
    .ld a0 (0 + 2) 1 fun l40 =>
    .nth l40 0 fun v41 =>
    .asI .u32 (.sc v41) fun n42 =>
    .call 93 [(.sc (.i .u64 (IntKind.wrap .u64 n36))), (.sc (.i .i64 (1 : Int)))] fun v43 =>
    .asS v43 fun x44 =>
    .same a0 (0 + 2) [(.i .u32 n42)] (
    .same a0 (0 + 1) [(.i .i64 n39)] (
    .call 93 [(.sc (.i .u64 (IntKind.wrap .u64 n39))), (.sc (.i .i64 (1 : Int)))] fun v45 =>
    .asS v45 fun x46 =>
    .same a0 (0 + 2) [(.i .u32 n42)] (
    .br (decide (((((ByteArray.size x44) + (ByteArray.size x46)) : Nat) : Int) ≤ (9223372036854775807 : Int)))
      (.call 93 [(.sc (.i .u64 (IntKind.wrap .u64 n42))), (.sc (.i .i64 (4 : Int)))] fun v47 =>
      .asS v47 fun x48 =>
      .br (decide (((((ByteArray.size (x44 ++ x46)) + (ByteArray.size x48)) : Nat) : Int) ≤ (9223372036854775807 : Int)))
        (.loop t23_b49 [(.sc (.p (.some (a0, 0)))), (.sc (.s x31)), (.sc (.s ((x44 ++ x46) ++ x48))), (.sc (.i .i64 (0 : Int)))] t23_k49)
        (.fail))
      (.fail)))))
theorem t23_eq (n0_0 : Int) (n0_1 : Int) (n0_2 : Int) (n0_3 : Int) (n0_4 : Int) (n0_5 : Int) (n0_6 m0_6 : Nat) (b0_7 : Bool) (x0_8 : ByteArray) (s0_9 : Option SlD) : bodyK T (hs 23) Tryz.f23 [.ag [.i .i64 n0_0, .i .i64 n0_1, .i .u32 n0_2, .i .i64 n0_3, .i .u32 n0_4, .i .u16 n0_5, .cx .f64 n0_6 m0_6, .b b0_7, .s x0_8, .sl s0_9]] = t23 n0_0 n0_1 n0_2 n0_3 n0_4 n0_5 n0_6 m0_6 b0_7 x0_8 s0_9 := by kernel_rfl
end Go.Proofs.YtpbhfolaoccpkaaGreat
namespace Go.Proofs.YtpbhfolaoccpkaaGreat
open Go Go.Proofs.YtpbhfolaoccpkaaGreat.Fw
set_option linter.unusedVariables false
set_option maxRecDepth 20000
/-- scuttlebutt/record.Right -/
def t87 (n0_0 : Int) (n0_1 : Int) (n0_2 : Int) (n0_3 : Int) (n0_4 : Int) : Tree :=
  .al [(.i .i64 n0_0), (.i .i64 n0_1), (.i .u32 n0_2), (.i .u32 n0_3), (.i .u16 n0_4)] fun a0 =>
  .ld a0 (0 + 0) 1 fun l1 =>
  .nth l1 0 fun v2 =>
  .asI .i64 (.sc v2) fun n3 =>
  cond (decide (n3 ≥ (1 : Int)))
    (.ld a0 (0 + 0) 1 fun l4 =>
    .nth l4 0 fun v5 =>
    .asI .i64 (.sc v5) fun n6 =>
    cond (decide (n6 ≤ (32 : Int)))
      (.ld a0 (0 + 1) 1 fun l7 =>
      .nth l7 0 fun v8 =>
      .asI .i64 (.sc v8) fun n9 =>
      cond (decide (n9 ≥ (0 : Int)))
        (.ld a0 (0 + 1) 1 fun l10 =>
        .nth l10 0 fun v11 =>
        .asI .i64 (.sc v11) fun n12 =>
        cond (decide (n12 < (4 : Int)))
          (.ld a0 (0 + 3) 2 fun l13 =>
          .nth l13 0 fun v14 =>
          .asI .u32 (.sc v14) fun n15 =>
          .nth l13 1 fun v16 =>
          .asI .u16 (.sc v16) fun n17 =>
          .call 115 [(.ag [(.i .u32 n15), (.i .u16 n17)])] fun v18 =>
          .asB v18 fun b19 =>
          .ret 0 [(.sc (.b (!b19)))])
          (.ret 0 [(.sc (.b .false))]))
        (.ret 0 [(.sc (.b .false))]))
      (.ret 0 [(.sc (.b .false))]))
    (.ret 0 [(.sc (.b .false))])
theorem t87_eq (n0_0 : Int) (n0_1 : Int) (n0_2 : Int) (n0_3 : Int) (n0_4 : Int) : bodyK T (hs 87) Tryz.f87 [.ag [.i .i64 n0_0, .i .i64 n0_1, .i .u32 n0_2, .i .u32 n0_3, .i .u16 n0_4]] = t87 n0_0 n0_1 n0_2 n0_3 n0_4 := by kernel_rfl
def t104_b0  : List AV → Tree := fun l1 =>
  .asS (l1.getD 0 .un) fun x2 =>
  .asI .i64 (l1.getD 1 .un) fun n3 =>
  .asI .i64 (l1.getD 2 .un) fun n4 =>
  cond (decide (n4 < (((ByteArray.size x2) : Nat) : Int)))
    (.br (decide ((0 : Int) ≤ (8 : Int)))
      (.br ((decide ((0 : Int) ≤ n4)) && (decide (n4 < (((ByteArray.size x2) : Nat) : Int))))
        (.ret 0 [(.sc (.s x2)), (.sc (.i .i64 (IntKind.wrap .i64 (((BitVec.toNat ((BitVec.ofInt 64 (IntKind.wrap .i64 (n3 * (256 : Int)))) ||| (BitVec.ofInt 64 (IntKind.wrap .i64 (strAt x2 (Int.toNat n4)))))) : Nat) : Int)))), (.sc (.i .i64 (IntKind.wrap .i64 (n4 + (1 : Int)))))])
        (.fail))
      (.fail))
    (.ret 2 [(.sc (.i .i64 n3))])
def t104_k0  : Nat → List AV → Tree := fun a5 l6 =>
  .tg a5 2
    (.asI .i64 (l6.getD 0 .un) fun n7 =>
    .ret 0 [(.sc (.i .i64 n7))])
    (.fail)
/-- scuttlebutt/scuttlebuttref06.number -/
def t104 (x0_ : ByteArray) : Tree :=
  .loop t104_b0 [(.sc (.s x0_)), (.sc (.i .i64 (0 : Int))), (.sc (.i .i64 (0 : Int)))] t104_k0
theorem t104_eq (x0_ : ByteArray) : bodyK T (hs 104) Tryz.f104 [.sc (.s x0_)] = t104 x0_ := by kernel_rfl
/-- scuttlebutt/scuttlebuttref06.cut -/
def t105 (x0_ : ByteArray) (n1_ : Int) : Tree :=
  .br (((decide ((0 : Int) ≤ (0 : Int))) && (decide ((0 : Int) ≤ (minI n1_ (((ByteArray.size x0_) : Nat) : Int))))) && (decide ((minI n1_ (((ByteArray.size x0_) : Nat) : Int)) ≤ (((ByteArray.size x0_) : Nat) : Int))))
    (.br (((decide ((0 : Int) ≤ (minI n1_ (((ByteArray.size x0_) : Nat) : Int)))) && (decide ((minI n1_ (((ByteArray.size x0_) : Nat) : Int)) ≤ (((ByteArray.size x0_) : Nat) : Int)))) && (decide ((((ByteArray.size x0_) : Nat) : Int) ≤ (((ByteArray.size x0_) : Nat) : Int))))
      (.ret 0 [(.tu [(.sc (.s (ByteArray.extract x0_ (Int.toNat (0 : Int)) (Int.toNat (minI n1_ (((ByteArray.size x0_) : Nat) : Int)))))), (.sc (.s (ByteArray.extract x0_ (Int.toNat (minI n1_ (((ByteArray.size x0_) : Nat) : Int))) (Int.toNat (((ByteArray.size x0_) : Nat) : Int)))))])])
      (.fail))
    (.fail)
theorem t105_eq (x0_ : ByteArray) (n1_ : Int) : bodyK T (hs 105) Tryz.f105 [.sc (.s x0_), .sc (.i .i64 n1_)] = t105 x0_ n1_ := by kernel_rfl
/-- scuttlebutt/scuttlebuttref05.parts -/
def t125 (n0_ m0_ : Nat) : Tree :=
  .call 213 [(.sc (.fl .f64 n0_))] fun v0 =>
  .asT 2 v0 fun l1 =>
  .nthC l1 0 fun v2 =>
  .asI .i64 (v2.av) fun n3 =>
  .nthC l1 1 fun v4 =>
  .asB (v4.av) fun b5 =>
  .call 213 [(.sc (.fl .f64 m0_))] fun v6 =>
  .asT 2 v6 fun l7 =>
  .nthC l7 0 fun v8 =>
  .asI .i64 (v8.av) fun n9 =>
  .nthC l7 1 fun v10 =>
  .asB (v10.av) fun b11 =>
  cond (!b5)
    (.ret 0 [(.tu [(.sc (.i .i64 (0 : Int))), (.sc (.i .i64 (0 : Int))), (.sc (.b .false))])])
    (cond (!b11)
      (.ret 0 [(.tu [(.sc (.i .i64 (0 : Int))), (.sc (.i .i64 (0 : Int))), (.sc (.b .false))])])
      (.ret 0 [(.tu [(.sc (.i .i64 n3)), (.sc (.i .i64 n9)), (.sc (.b .true))])]))
theorem t125_eq (n0_ m0_ : Nat) : bodyK T (hs 125) Tryz.f125 [.sc (.cx .f64 n0_ m0_)] = t125 n0_ m0_ := by kernel_rfl
/-- scuttlebutt/wire.plain$1 -/
def t316 (n0_ : Nat) : Tree :=
  cond ((Ieee.Format.order (FloatKind.format .f64) n0_ 0) == (.some .eq))
    (.call 317 [(.sc (.fl .f64 n0_))] fun v0 =>
    .asB v0 fun b1 =>
    .ret 0 [(.sc (.b b1))])
    (.ret 0 [(.sc (.b .false))])
theorem t316_eq (n0_ : Nat) : bodyK T (hs 316) Tryz.f316 [.sc (.fl .f64 n0_)] = t316 n0_ := by kernel_rfl
/-- internal/stringslite.Index -/
def t352 (x0_ : ByteArray) (x1_ : ByteArray) : Tree :=
  cond ((((ByteArray.size x1_) : Nat) : Int) == (0 : Int))
    (.ret 0 [(.sc (.i .i64 (0 : Int)))])
    (cond ((ByteArray.toList x1_) == (ByteArray.toList x0_))
      (.ret 0 [(.sc (.i .i64 (0 : Int)))])
      (cond ((((ByteArray.size x1_) : Nat) : Int) == (1 : Int))
        (.br ((decide ((0 : Int) ≤ (0 : Int))) && (decide ((0 : Int) < (((ByteArray.size x1_) : Nat) : Int))))
          (.call 367 [(.sc (.s x0_)), (.sc (.i .u8 (strAt x1_ (Int.toNat (0 : Int)))))] fun v0 =>
          .asI .i64 v0 fun n1 =>
          .ret 0 [(.sc (.i .i64 n1))])
          (.fail))
        (cond (decide ((((ByteArray.size x1_) : Nat) : Int) ≥ (((ByteArray.size x0_) : Nat) : Int)))
          (.ret 0 [(.sc (.i .i64 (-1 : Int)))])
          (.fail))))
theorem t352_eq (x0_ : ByteArray) (x1_ : ByteArray) : bodyK T (hs 352) Tryz.f352 [.sc (.s x0_), .sc (.s x1_)] = t352 x0_ x1_ := by kernel_rfl
/-- internal/stringslite.IndexByte -/
def t367 (x0_ : ByteArray) (n1_ : Int) : Tree :=
  .call 378 [(.sc (.s x0_)), (.sc (.i .u8 n1_))] fun v0 =>
  .asI .i64 v0 fun n1 =>
  .ret 0 [(.sc (.i .i64 n1))]
theorem t367_eq (x0_ : ByteArray) (n1_ : Int) : bodyK T (hs 367) Tryz.f367 [.sc (.s x0_), .sc (.i .u8 n1_)] = t367 x0_ n1_ := by kernel_rfl
def t201_b28  : List AV → Tree := fun l29 =>
  .asI .i64 (l29.getD 0 .un) fun n30 =>
  .asP (l29.getD 1 .un) fun o31 =>
  .nn o31 fun a32 a33 =>
  .asP (l29.getD 2 .un) fun o34 =>
  .nn o34 fun a35 a36 =>
  .asI .u64 (l29.getD 3 .un) fun n37 =>
  .asI .i64 (l29.getD 4 .un) fun n38 =>
  cond (decide (n38 < n30))
    (.br (decide ((0 : Int) ≤ (8 : Int)))
      (.ld a32 (a33 + 0) 1 fun l39 =>
      .nth l39 0 fun v40 =>
      .asS (.sc v40) fun x41 =>
      .br ((decide ((0 : Int) ≤ n38)) && (decide (n38 < (((ByteArray.size x41) : Nat) : Int))))
        (.ret 0 [(.sc (.i .i64 n30)), (.sc (.p (.some (a32, a33)))), (.sc (.p (.some (a35, a36)))), (.sc (.i .u64 (IntKind.wrap .u64 (((BitVec.toNat ((BitVec.ofInt 64 (IntKind.wrap .u64 (n37 * (256 : Int)))) ||| (BitVec.ofInt 64 (IntKind.wrap .u64 (strAt x41 (Int.toNat n38)))))) : Nat) : Int)))), (.sc (.i .i64 (IntKind.wrap .i64 (n38 + (1 : Int)))))])
        (.fail))
      (.fail))
    (.ret 2 [(.sc (.i .i64 n30)), (.sc (.p (.some (a32, a33)))), (.sc (.p (.some (a35, a36)))), (.sc (.i .u64 n37))])
def t201_k28  : Nat → List AV → Tree := fun a42 l43 =>
  .tg a42 2
    (.asI .i64 (l43.getD 0 .un) fun n44 =>
    .asP (l43.getD 1 .un) fun o45 =>
    .nn o45 fun a46 a47 =>
    .asP (l43.getD 2 .un) fun o48 =>
    .nn o48 fun a49 a50 =>
    .asI .u64 (l43.getD 3 .un) fun n51 =>
    .ld a46 (a47 + 0) 1 fun l52 =>
    .nth l52 0 fun v53 =>
    .asS (.sc v53) fun x54 =>
    .br (((decide ((0 : Int) ≤ n44)) && (decide (n44 ≤ (((ByteArray.size x54) : Nat) : Int)))) && (decide ((((ByteArray.size x54) : Nat) : Int) ≤ (((ByteArray.size x54) : Nat) : Int))))
      (.st a49 a50 [(.s (ByteArray.extract x54 (Int.toNat n44) (Int.toNat (((ByteArray.size x54) : Nat) : Int)))), (.b .false)] (
      .ld a49 a50 2 fun l55 =>
      .nth l55 0 fun v56 =>
      .asS (.sc v56) fun x57 =>
      .nth l55 1 fun v58 =>
      .asB (.sc v58) fun b59 =>
      .ret 0 [(.tu [(.sc (.i .u64 n51)), (.ag [(.s x57), (.b b59)])])]))
      (.fail))
    (.fail)
/-- (scuttlebutt/scuttlebuttref02.Reader).Number -/
def t201 (x0_0 : ByteArray) (b0_1 : Bool) (n1_ : Int) : Tree :=
  .al [(.s x0_0), (.b b0_1)] fun a0 =>
  .al [(.s (.mk (.mk []))), (.b .false)] fun a1 =>
  .ld a0 (0 + 1) 1 fun l2 =>
  .nth l2 0 fun v3 =>
  .asB (.sc v3) fun b4 =>
  cond b4
    (.st a1 0 [(.s (.mk (.mk []))), (.b .true)] (
    .ld a1 0 2 fun l5 =>
    .nth l5 0 fun v6 =>
    .asS (.sc v6) fun x7 =>
    .nth l5 1 fun v8 =>
    .asB (.sc v8) fun b9 =>
    .ret 0 [(.tu [(.sc (.i .u64 (0 : Int))), (.ag [(.s x7), (.b b9)])])]))
    (cond (decide (n1_ < (1 : Int)))
      (.st a1 0 [(.s (.mk (.mk []))), (.b .true)] (
      .ld a1 0 2 fun l10 =>
      .nth l10 0 fun v11 =>
      .asS (.sc v11) fun x12 =>
      .nth l10 1 fun v13 =>
      .asB (.sc v13) fun b14 =>
      .ret 0 [(.tu [(.sc (.i .u64 (0 : Int))), (.ag [(.s x12), (.b b14)])])]))
      (cond (decide (n1_ > (8 : Int)))
        (.st a1 0 [(.s (.mk (.mk []))), (.b .true)] (
        .ld a1 0 2 fun l15 =>
        .nth l15 0 fun v16 =>
        .asS (.sc v16) fun x17 =>
        .nth l15 1 fun v18 =>
        .asB (.sc v18) fun b19 =>
        .ret 0 [(.tu [(.sc (.i .u64 (0 : Int))), (.ag [(.s x17), (.b b19)])])]))
        (.ld a0 (0 + 0) 1 fun l20 =>
        .nth l20 0 fun v21 =>
        .asS (.sc v21) fun x22 =>
        cond (decide ((((ByteArray.size x22) : Nat) : Int) < n1_))
          (.st a1 0 [(.s (.mk (.mk []))), (.b .true)] (
          .ld a1 0 2 fun l23 =>
          .nth l23 0 fun v24 =>
          .asS (.sc v24) fun x25 =>
          .nth l23 1 fun v26 =>
          .asB (.sc v26) fun b27 =>
          .ret 0 [(.tu [(.sc (.i .u64 (0 : Int))), (.ag [(.s x25), (.b b27)])])]))
          (.loop t201_b28 [(.sc (.i .i64 n1_)), (.sc (.p (.some (a0, 0)))), (.sc (.p (.some (a1, 0)))), (.sc (.i .u64 (0 : Int))), (.sc (.i .i64 (0 : Int)))] t201_k28))))
theorem t201_eq (x0_0 : ByteArray) (b0_1 : Bool) (n1_ : Int) : bodyK T (hs 201) Tryz.f201 [.ag [.s x0_0, .b b0_1], .sc (.i .i64 n1_)] = t201 x0_0 b0_1 n1_ := by kernel_rfl
end Go.Proofs.YtpbhfolaoccpkaaGreat
namespace Go.Proofs.YtpbhfolaoccpkaaGreat
open Go Go.Proofs.YtpbhfolaoccpkaaGreat.Fw
set_option linter.unusedVariables false
set_option maxRecDepth 20000
/-- scuttlebutt/place.part -/
def t210 (n0_ : Nat) : Tree :=
  cond (((Ieee.Format.order (FloatKind.format .f64) n0_ 13920209183539462144) == (.some .gt)) || ((Ieee.Format.order (FloatKind.format .f64) n0_ 13920209183539462144) == (.some .eq)))
    (cond (((Ieee.Format.order (FloatKind.format .f64) n0_ 4696837146684686336) == (.some .lt)) || ((Ieee.Format.order (FloatKind.format .f64) n0_ 4696837146684686336) == (.some .eq)))
      (.call 283 [(.sc (.fl .f64 n0_))] fun v0 =>
      .asF .f64 v0 fun a1 =>
      .ret 0 [(.sc (.b ((Ieee.Format.order (FloatKind.format .f64) n0_ a1) == (.some .eq))))])
      (.ret 0 [(.sc (.b .false))]))
    (.ret 0 [(.sc (.b .false))])
theorem t210_eq (n0_ : Nat) : bodyK T (hs 210) Tryz.f210 [.sc (.fl .f64 n0_)] = t210 n0_ := by kernel_rfl
/-- math.Floor -/
def t283 (n0_ : Nat) : Tree :=
  .call 330 [(.sc (.fl .f64 n0_))] fun v0 =>
  .asF .f64 v0 fun a1 =>
  .ret 0 [(.sc (.fl .f64 a1))]
theorem t283_eq (n0_ : Nat) : bodyK T (hs 283) Tryz.f283 [.sc (.fl .f64 n0_)] = t283 n0_ := by kernel_rfl
/-- scuttlebutt/place.Right -/
def t116 (n0_ m0_ : Nat) : Tree :=
  .call 210 [(.sc (.fl .f64 n0_))] fun v0 =>
  .asB v0 fun b1 =>
  cond b1
    (.call 210 [(.sc (.fl .f64 m0_))] fun v2 =>
    .asB v2 fun b3 =>
    .ret 0 [(.sc (.b b3))])
    (.ret 0 [(.sc (.b .false))])
theorem t116_eq (n0_ m0_ : Nat) : bodyK T (hs 116) Tryz.f116 [.sc (.cx .f64 n0_ m0_)] = t116 n0_ m0_ := by kernel_rfl
/-- scuttlebutt/scuttlebuttref05.Right -/
def t121 (n0_ m0_ : Nat) : Tree :=
  .call 125 [(.sc (.cx .f64 n0_ m0_))] fun v0 =>
  .asT 3 v0 fun l1 =>
  .nthC l1 0 fun v2 =>
  .asI .i64 (v2.av) fun n3 =>
  .nthC l1 1 fun v4 =>
  .asI .i64 (v4.av) fun n5 =>
  .nthC l1 2 fun v6 =>
  .asB (v6.av) fun b7 =>
  .ret 0 [(.sc (.b b7))]
theorem t121_eq (n0_ m0_ : Nat) : bodyK T (hs 121) Tryz.f121 [.sc (.cx .f64 n0_ m0_)] = t121 n0_ m0_ := by kernel_rfl
/-- (scuttlebutt/scuttlebuttref03.Addr).Put -/
def t94 (n0_0 : Int) (n0_1 : Int) : Tree :=
  .al [(.i .u32 n0_0), (.i .u16 n0_1)] fun a0 =>
  .ld a0 (0 + 0) 1 fun l1 =>
  .nth l1 0 fun v2 =>
  .asI .u32 (.sc v2) fun n3 =>
  .ld a0 (0 + 1) 1 fun l4 =>
  .nth l4 0 fun v5 =>
  .asI .u16 (.sc v5) fun n6 =>
  .call 93 [(.sc (.i .u64 (IntKind.wrap .u64 n3))), (.sc (.i .i64 (4 : Int)))] fun v7 =>
  .asS v7 fun x8 =>
  .same a0 (0 + 1) [(.i .u16 n6)] (
  .call 93 [(.sc (.i .u64 (IntKind.wrap .u64 n6))), (.sc (.i .i64 (2 : Int)))] fun v9 =>
  .asS v9 fun x10 =>
  .br (decide (((((ByteArray.size x8) + (ByteArray.size x10)) : Nat) : Int) ≤ (9223372036854775807 : Int)))
    (.ret 0 [(.sc (.s (x8 ++ x10)))])
    (.fail))
theorem t94_eq (n0_0 : Int) (n0_1 : Int) : bodyK T (hs 94) Tryz.f94 [.ag [.i .u32 n0_0, .i .u16 n0_1]] = t94 n0_0 n0_1 := by kernel_rfl
/-- scuttlebutt/scuttlebuttref05.Put -/
def t95 (n0_ m0_ : Nat) : Tree :=
  .call 125 [(.sc (.cx .f64 n0_ m0_))] fun v0 =>
  .asT 3 v0 fun l1 =>
  .nthC l1 0 fun v2 =>
  .asI .i64 (v2.av) fun n3 =>
  .nthC l1 1 fun v4 =>
  .asI .i64 (v4.av) fun n5 =>
  .nthC l1 2 fun v6 =>
  .asB (v6.av) fun b7 =>
  cond (!b7)
    (.ret 0 [(.tu [(.sc (.s (.mk (.mk [])))), (.sc (.b .false))])])
    (.call 93 [(.sc (.i .u64 (IntKind.wrap .u64 (IntKind.wrap .i64 (n3 + (1000000 : Int)))))), (.sc (.i .i64 (4 : Int)))] fun v8 =>
    .asS v8 fun x9 =>
    .call 93 [(.sc (.i .u64 (IntKind.wrap .u64 (IntKind.wrap .i64 (n5 + (1000000 : Int)))))), (.sc (.i .i64 (4 : Int)))] fun v10 =>
    .asS v10 fun x11 =>
    .br (decide (((((ByteArray.size x9) + (ByteArray.size x11)) : Nat) : Int) ≤ (9223372036854775807 : Int)))
      (.ret 0 [(.tu [(.sc (.s (x9 ++ x11))), (.sc (.b .true))])])
      (.fail))
theorem t95_eq (n0_ m0_ : Nat) : bodyK T (hs 95) Tryz.f95 [.sc (.cx .f64 n0_ m0_)] = t95 n0_ m0_ := by kernel_rfl
/-- (scuttlebutt/scuttlebuttref04.Record).Put -/
def t96 (n0_0 : Int) (n0_1 : Int) (n0_2 : Int) (n0_3 : Int) (n0_4 : Int) : Tree :=
  .al [(.i .i64 n0_0), (.i .i64 n0_1), (.i .u32 n0_2), (.i .u32 n0_3), (.i .u16 n0_4)] fun a0 =>
  .ld a0 0 5 fun l1 =>
  .nth l1 0 fun v2 =>
  .asI .i64 (.sc v2) fun n3 =>
  .nth l1 1 fun v4 =>
  .asI .i64 (.sc v4) fun n5 =>
  .nth l1 2 fun v6 =>
  .asI .u32 (.sc v6) fun n7 =>
  .nth l1 3 fun v8 =>
  .asI .u32 (.sc v8) fun n9 =>
  .nth l1 4 fun v10 =>
  .asI .u16 (.sc v10) fun n11 =>
  .call 122 [(.ag [(.i .i64 n3), (.i .i64 n5), (.i .u32 n7), (.i .u32 n9), (.i .u16 n11)])] fun v12 =>
  .asB v12 fun b13 =>
  cond (!b13)
    (.ret 0 [(.tu [(.sc (.s (.mk (.mk [])))), (.sc (.b .false))])])
    (.ld a0 (0 + 0) 1 fun l14 =>
    .nth l14 0 fun v15 =>
    .asI .i64 (.sc v15) fun n16 =>
    .ld a0 (0 + 1) 1 fun l17 =>
    .nth l17 0 fun v18 =>
    .asI .i64 (.sc v18) fun n19 =>
    .ld a0 (0 + 2) 1 fun l20 =>
    .nth l20 0 fun v21 =>
    .asI .u32 (.sc v21) fun n22 =>
    .ld a0 (0 + 3) 2 fun l23 =>
    .nth l23 0 fun v24 =>
    .asI .u32 (.sc v24) fun n25 =>
    .nth l23 1 fun v26 =>
    .asI .u16 (.sc v26) fun n27 =>
    .call 93 [(.sc (.i .u64 (IntKind.wrap .u64 n16))), (.sc (.i .i64 (1 : Int)))] fun v28 =>
    .asS v28 fun x29 =>
    .same a0 (0 + 3) [(.i .u32 n25), (.i .u16 n27)] (
    .same a0 (0 + 2) [(.i .u32 n22)] (
    .same a0 (0 + 1) [(.i .i64 n19)] (
    .call 93 [(.sc (.i .u64 (IntKind.wrap .u64 n19))), (.sc (.i .i64 (1 : Int)))] fun v30 =>
    .asS v30 fun x31 =>
    .same a0 (0 + 3) [(.i .u32 n25), (.i .u16 n27)] (
    .same a0 (0 + 2) [(.i .u32 n22)] (
    .br (decide (((((ByteArray.size x29) + (ByteArray.size x31)) : Nat) : Int) ≤ (9223372036854775807 : Int)))
      (.call 93 [(.sc (.i .u64 (IntKind.wrap .u64 n22))), (.sc (.i .i64 (4 : Int)))] fun v32 =>
      .asS v32 fun x33 =>
      .same a0 (0 + 3) [(.i .u32 n25), (.i .u16 n27)] (
      .br (decide (((((ByteArray.size (x29 ++ x31)) + (ByteArray.size x33)) : Nat) : Int) ≤ (9223372036854775807 : Int)))
        (.call 94 [(.ag [(.i .u32 n25), (.i .u16 n27)])] fun v34 =>
        .asS v34 fun x35 =>
        .br (decide (((((ByteArray.size ((x29 ++ x31) ++ x33)) + (ByteArray.size x35)) : Nat) : Int) ≤ (9223372036854775807 : Int)))
          (.ret 0 [(.tu [(.sc (.s (((x29 ++ x31) ++ x33) ++ x35))), (.sc (.b .true))])])
          (.fail))
        (.fail)))
      (.fail)))))))
theorem t96_eq (n0_0 : Int) (n0_1 : Int) (n0_2 : Int) (n0_3 : Int) (n0_4 : Int) : bodyK T (hs 96) Tryz.f96 [.ag [.i .i64 n0_0, .i .i64 n0_1, .i .u32 n0_2, .i .u32 n0_3, .i .u16 n0_4]] = t96 n0_0 n0_1 n0_2 n0_3 n0_4 := by kernel_rfl
/-- scuttlebutt/scuttlebuttref04.Right -/
def t122 (n0_0 : Int) (n0_1 : Int) (n0_2 : Int) (n0_3 : Int) (n0_4 : Int) : Tree :=
  .al [(.i .i64 n0_0), (.i .i64 n0_1), (.i .u32 n0_2), (.i .u32 n0_3), (.i .u16 n0_4)] fun a0 =>
  .ld a0 (0 + 3) 2 fun l1 =>
  .nth l1 0 fun v2 =>
  .asI .u32 (.sc v2) fun n3 =>
  .nth l1 1 fun v4 =>
  .asI .u16 (.sc v4) fun n5 =>
  .call 120 [(.ag [(.i .u32 n3), (.i .u16 n5)])] fun v6 =>
  .asB v6 fun b7 =>
  .ld a0 (0 + 0) 1 fun l8 =>
  .nth l8 0 fun v9 =>
  .asI .i64 (.sc v9) fun n10 =>
  cond (decide (n10 ≥ (1 : Int)))
    (.ld a0 (0 + 0) 1 fun l11 =>
    .nth l11 0 fun v12 =>
    .asI .i64 (.sc v12) fun n13 =>
    cond (decide (n13 ≤ (32 : Int)))
      (.ld a0 (0 + 1) 1 fun l14 =>
      .nth l14 0 fun v15 =>
      .asI .i64 (.sc v15) fun n16 =>
      cond (decide (n16 ≥ (0 : Int)))
        (.ld a0 (0 + 1) 1 fun l17 =>
        .nth l17 0 fun v18 =>
        .asI .i64 (.sc v18) fun n19 =>
        cond (decide (n19 ≤ (3 : Int)))
          (.ret 0 [(.sc (.b (!b7)))])
          (.ret 0 [(.sc (.b .false))]))
        (.ret 0 [(.sc (.b .false))]))
      (.ret 0 [(.sc (.b .false))]))
    (.ret 0 [(.sc (.b .false))])
theorem t122_eq (n0_0 : Int) (n0_1 : Int) (n0_2 : Int) (n0_3 : Int) (n0_4 : Int) : bodyK T (hs 122) Tryz.f122 [.ag [.i .i64 n0_0, .i .i64 n0_1, .i .u32 n0_2, .i .u32 n0_3, .i .u16 n0_4]] = t122 n0_0 n0_1 n0_2 n0_3 n0_4 := by kernel_rfl
/-- scuttlebutt/scuttlebuttref05.of -/
def t126 (n0_ : Int) (n1_ : Int) : Tree :=
  .ret 0 [(.sc (.cx .f64 (FloatKind.nearest .f64 n0_) (FloatKind.nearest .f64 n1_)))]
theorem t126_eq (n0_ : Int) (n1_ : Int) : bodyK T (hs 126) Tryz.f126 [.sc (.i .i64 n0_), .sc (.i .i64 n1_)] = t126 n0_ n1_ := by kernel_rfl
/-- math.Signbit -/
def t317 (n0_ : Nat) : Tree :=
  .call 351 [(.sc (.fl .f64 n0_))] fun v0 =>
  .asI .u64 v0 fun n1 =>
  .ret 0 [(.sc (.b (decide ((IntKind.wrap .i64 n1) < (0 : Int)))))]
theorem t317_eq (n0_ : Nat) : bodyK T (hs 317) Tryz.f317 [.sc (.fl .f64 n0_)] = t317 n0_ := by kernel_rfl
end Go.Proofs.YtpbhfolaoccpkaaGreat
