/- Trees of functions, printed by a program of mine; each is proved to be the function's. -/
import Derived.Test.YtloiifcocgpnbaaGen
namespace Go.Proofs.Ytloiifcocgpnbaa
open Go Go.Proofs.Ytloiifcocgpnbaa.Fw
set_option linter.unusedVariables false
/-- scuttlebutt/scuttlebuttref08.New -/
def t21 (n0_0 : Int) (n0_1 : Int) (n1_ : Int) (n2_ : Int) (n3_ : Int) : Tree :=
  .al [(.i .i64 n0_0), (.i .i64 n0_1)] fun a0 =>
  .ld a0 0 2 fun l1 =>
  .nth l1 0 fun v2 =>
  .asI .i64 (.sc v2) fun n3 =>
  .nth l1 1 fun v4 =>
  .asI .i64 (.sc v4) fun n5 =>
  .call 46 [(.ag [(.i .i64 n3), (.i .i64 n5)])] fun v6 =>
  .asB v6 fun b7 =>
  cond (!b7)
    (.ret 0 [(.sc (.p .none))])
    (cond (n1_ == (0 : Int))
      (.ret 0 [(.sc (.p .none))])
      (cond (n2_ == (0 : Int))
        (.ret 0 [(.sc (.p .none))])
        (cond (decide (n2_ > (1000000 : Int)))
          (.ret 0 [(.sc (.p .none))])
          (cond (decide (n3_ < (1 : Int)))
            (.ret 0 [(.sc (.p .none))])
            (cond (decide (n3_ > (64 : Int)))
              (.ret 0 [(.sc (.p .none))])
              (.ld a0 0 2 fun l8 =>
              .nth l8 0 fun v9 =>
              .asI .i64 (.sc v9) fun n10 =>
              .nth l8 1 fun v11 =>
              .asI .i64 (.sc v11) fun n12 =>
              .al [(.i .i64 n10), (.i .i64 n12), (.i .u32 n1_), (.i .u64 n2_), (.i .i64 n3_), (.sl .none)] fun a13 =>
              .ret 0 [(.sc (.p (.some (a13, 0))))]))))))
theorem t21_eq (n0_0 : Int) (n0_1 : Int) (n1_ : Int) (n2_ : Int) (n3_ : Int) : bodyK T (hs 21) Try.f21 [.ag [.i .i64 n0_0, .i .i64 n0_1], .sc (.i .u32 n1_), .sc (.i .u64 n2_), .sc (.i .i64 n3_)] = t21 n0_0 n0_1 n1_ n2_ n3_ := by kernel_rfl
def t22_b21  : List AV → Tree := fun l22 =>
  .asP (l22.getD 0 .un) fun o23 =>
  .asI .u64 (l22.getD 1 .un) fun n24 =>
  .asI .u16 (l22.getD 2 .un) fun n25 =>
  .asP (l22.getD 3 .un) fun o26 =>
  .nn o26 fun a27 a28 =>
  .asP (l22.getD 4 .un) fun o29 =>
  .nn o29 fun a30 a31 =>
  .asI .i64 (l22.getD 5 .un) fun n32 =>
  .nn o23 fun a33 a34 =>
  .ld a33 (a34 + 5) 1 fun l35 =>
  .nth l35 0 fun v36 =>
  .asL (.sc v36) fun o37 =>
  cond (decide (n32 < (slLen o37)))
    (.nn o23 fun a38 a39 =>
    .ld a38 (a39 + 5) 1 fun l40 =>
    .nth l40 0 fun v41 =>
    .asL (.sc v41) fun o42 =>
    .ixS 7 o42 n32 fun a43 a44 a45 =>
    .ld a43 ((a44 + (a45 * 7)) + 4) 1 fun l46 =>
    .nth l46 0 fun v47 =>
    .asI .u16 (.sc v47) fun n48 =>
    cond (n48 == n25)
      (.nn o23 fun a49 a50 =>
      .ld a49 (a50 + 0) 2 fun l51 =>
      .nth l51 0 fun v52 =>
      .asI .i64 (.sc v52) fun n53 =>
      .nth l51 1 fun v54 =>
      .asI .i64 (.sc v54) fun n55 =>
      .nn o23 fun a56 a57 =>
      .ld a56 (a57 + 5) 1 fun l58 =>
      .nth l58 0 fun v59 =>
      .asL (.sc v59) fun o60 =>
      .ixS 7 o60 n32 fun a61 a62 a63 =>
      .ld a61 ((a62 + (a63 * 7)) + 5) 1 fun l64 =>
      .nth l64 0 fun v65 =>
      .asL (.sc v65) fun o66 =>
      .ld a27 a28 2 fun l67 =>
      .nth l67 0 fun v68 =>
      .asI .u32 (.sc v68) fun n69 =>
      .nth l67 1 fun v70 =>
      .asI .u16 (.sc v70) fun n71 =>
      .call 48 [(.ag [(.i .i64 n53), (.i .i64 n55)]), (.sc (.sl o66)), (.ag [(.i .u32 n69), (.i .u16 n71)])] fun v72 =>
      .asB v72 fun b73 =>
      cond b73
        (.nn o23 fun a74 a75 =>
        .ld a74 (a75 + 5) 1 fun l76 =>
        .nth l76 0 fun v77 =>
        .asL (.sc v77) fun o78 =>
        .nn o23 fun a79 a80 =>
        .ld a79 (a80 + 3) 1 fun l81 =>
        .nth l81 0 fun v82 =>
        .asI .u64 (.sc v82) fun n83 =>
        .ixS 7 o78 n32 fun a84 a85 a86 =>
        .st a84 ((a85 + (a86 * 7)) + 6) [(.i .u64 (IntKind.wrap .u64 (n24 + n83)))] (
        .nn o23 fun a87 a88 =>
        .ld a87 (a88 + 5) 1 fun l89 =>
        .nth l89 0 fun v90 =>
        .asL (.sc v90) fun o91 =>
        .ixS 7 o91 n32 fun a92 a93 a94 =>
        .ld a92 ((a93 + (a94 * 7)) + 0) 2 fun l95 =>
        .nth l95 0 fun v96 =>
        .asI .u32 (.sc v96) fun n97 =>
        .nth l95 1 fun v98 =>
        .asI .u16 (.sc v98) fun n99 =>
        .st a30 a31 [(.i .u32 n97), (.i .u16 n99)] (
        .ret 1 [(.sc (.p (.some (a30, a31)))), (.sc (.i .i64 (0 : Int)))])))
        (.ret 0 [(.sc (.p o23)), (.sc (.i .u64 n24)), (.sc (.i .u16 n25)), (.sc (.p (.some (a27, a28)))), (.sc (.p (.some (a30, a31)))), (.sc (.i .i64 (IntKind.wrap .i64 (n32 + (1 : Int)))))]))
      (.ret 0 [(.sc (.p o23)), (.sc (.i .u64 n24)), (.sc (.i .u16 n25)), (.sc (.p (.some (a27, a28)))), (.sc (.p (.some (a30, a31)))), (.sc (.i .i64 (IntKind.wrap .i64 (n32 + (1 : Int)))))]))
    (.ret 2 [(.sc (.p (.some (a30, a31))))])
def t22_k21  : Nat → List AV → Tree := fun a100 l101 =>
  .tg a100 2
    (.asP (l101.getD 0 .un) fun o102 =>
    .nn o102 fun a103 a104 =>
    .st a103 a104 [(.i .u32 (0 : Int)), (.i .u16 (0 : Int))] (
    .ld a103 a104 2 fun l105 =>
    .nth l105 0 fun v106 =>
    .asI .u32 (.sc v106) fun n107 =>
    .nth l105 1 fun v108 =>
    .asI .u16 (.sc v108) fun n109 =>
    .ret 0 [(.tu [(.ag [(.i .u32 n107), (.i .u16 n109)]), (.sc (.i .i64 (5 : Int)))])]))
    (.tg a100 1
      (.asP (l101.getD 0 .un) fun o110 =>
      .nn o110 fun a111 a112 =>
      .asI .i64 (l101.getD 1 .un) fun n113 =>
      .ld a111 a112 2 fun l114 =>
      .nth l114 0 fun v115 =>
      .asI .u32 (.sc v115) fun n116 =>
      .nth l114 1 fun v117 =>
      .asI .u16 (.sc v117) fun n118 =>
      .ret 0 [(.tu [(.ag [(.i .u32 n116), (.i .u16 n118)]), (.sc (.i .i64 n113))])])
      (.fail))
/-- (*scuttlebutt/scuttlebuttref08.Box).In -/
def t22 (p0_ q0_ : Nat) (n1_ : Int) (n2_ : Int) (n3_0 : Int) (n3_1 : Int) : Tree :=
  .al [(.i .u32 n3_0), (.i .u16 n3_1)] fun a0 =>
  .al [(.i .u32 (0 : Int)), (.i .u16 (0 : Int))] fun a1 =>
  .ld a0 0 2 fun l2 =>
  .nth l2 0 fun v3 =>
  .asI .u32 (.sc v3) fun n4 =>
  .nth l2 1 fun v5 =>
  .asI .u16 (.sc v5) fun n6 =>
  .call 47 [(.ag [(.i .u32 n4), (.i .u16 n6)])] fun v7 =>
  .asB v7 fun b8 =>
  cond b8
    (.st a1 0 [(.i .u32 (0 : Int)), (.i .u16 (0 : Int))] (
    .ld a1 0 2 fun l9 =>
    .nth l9 0 fun v10 =>
    .asI .u32 (.sc v10) fun n11 =>
    .nth l9 1 fun v12 =>
    .asI .u16 (.sc v12) fun n13 =>
    .ret 0 [(.tu [(.ag [(.i .u32 n11), (.i .u16 n13)]), (.sc (.i .i64 (1 : Int)))])]))
    (cond (decide (n1_ > (4611686018427387904 : Int)))
      (.st a1 0 [(.i .u32 (0 : Int)), (.i .u16 (0 : Int))] (
      .ld a1 0 2 fun l14 =>
      .nth l14 0 fun v15 =>
      .asI .u32 (.sc v15) fun n16 =>
      .nth l14 1 fun v17 =>
      .asI .u16 (.sc v17) fun n18 =>
      .ret 0 [(.tu [(.ag [(.i .u32 n16), (.i .u16 n18)]), (.sc (.i .i64 (1 : Int)))])]))
      (.call 24 [(.sc (.p (.some (p0_, q0_)))), (.sc (.i .u64 n1_))] fun v19 =>
      .asI .i64 v19 fun n20 =>
      .loop t22_b21 [(.sc (.p (.some (p0_, q0_)))), (.sc (.i .u64 n1_)), (.sc (.i .u16 n2_)), (.sc (.p (.some (a0, 0)))), (.sc (.p (.some (a1, 0)))), (.sc (.i .i64 (0 : Int)))] t22_k21))
theorem t22_eq (p0_ q0_ : Nat) (n1_ : Int) (n2_ : Int) (n3_0 : Int) (n3_1 : Int) : bodyK T (hs 22) Try.f22 [.sc (.p (some (p0_, q0_))), .sc (.i .u64 n1_), .sc (.i .u16 n2_), .ag [.i .u32 n3_0, .i .u16 n3_1]] = t22 p0_ q0_ n1_ n2_ n3_0 n3_1 := by kernel_rfl
/-- scuttlebutt/scuttlebuttlaw08.ref -/
def t23 (n0_0 : Int) (n0_1 : Int) : Tree :=
  .al [(.i .u32 n0_0), (.i .u16 n0_1)] fun a0 =>
  .al [(.i .u32 (0 : Int)), (.i .u16 (0 : Int))] fun a1 =>
  .ld a0 (0 + 0) 1 fun l2 =>
  .nth l2 0 fun v3 =>
  .asI .u32 (.sc v3) fun n4 =>
  .ld a0 (0 + 1) 1 fun l5 =>
  .nth l5 0 fun v6 =>
  .asI .u16 (.sc v6) fun n7 =>
  .st a1 0 [(.i .u32 n4), (.i .u16 n7)] (
  .ld a1 0 2 fun l8 =>
  .nth l8 0 fun v9 =>
  .asI .u32 (.sc v9) fun n10 =>
  .nth l8 1 fun v11 =>
  .asI .u16 (.sc v11) fun n12 =>
  .ret 0 [(.ag [(.i .u32 n10), (.i .u16 n12)])])
theorem t23_eq (n0_0 : Int) (n0_1 : Int) : bodyK T (hs 23) Try.f23 [.ag [.i .u32 n0_0, .i .u16 n0_1]] = t23 n0_0 n0_1 := by kernel_rfl
def t24_b0  : List AV → Tree := fun l1 =>
  .asP (l1.getD 0 .un) fun o2 =>
  .asI .u64 (l1.getD 1 .un) fun n3 =>
  .asL (l1.getD 2 .un) fun o4 =>
  .asI .i64 (l1.getD 3 .un) fun n5 =>
  .nn o2 fun a6 a7 =>
  .ld a6 (a7 + 5) 1 fun l8 =>
  .nth l8 0 fun v9 =>
  .asL (.sc v9) fun o10 =>
  cond (decide (n5 < (slLen o10)))
    (.nn o2 fun a11 a12 =>
    .ld a11 (a12 + 5) 1 fun l13 =>
    .nth l13 0 fun v14 =>
    .asL (.sc v14) fun o15 =>
    .ixS 7 o15 n5 fun a16 a17 a18 =>
    .ld a16 ((a17 + (a18 * 7)) + 6) 1 fun l19 =>
    .nth l19 0 fun v20 =>
    .asI .u64 (.sc v20) fun n21 =>
    cond (decide (n3 < n21))
      (.nn o2 fun a22 a23 =>
      .ld a22 (a23 + 5) 1 fun l24 =>
      .nth l24 0 fun v25 =>
      .asL (.sc v25) fun o26 =>
      .ixS 7 o26 n5 fun a27 a28 a29 =>
      .ld a27 (a28 + (a29 * 7)) 7 fun l30 =>
      .nth l30 0 fun v31 =>
      .asI .u32 (.sc v31) fun n32 =>
      .nth l30 1 fun v33 =>
      .asI .u16 (.sc v33) fun n34 =>
      .nth l30 2 fun v35 =>
      .asI .u32 (.sc v35) fun n36 =>
      .nth l30 3 fun v37 =>
      .asI .u16 (.sc v37) fun n38 =>
      .nth l30 4 fun v39 =>
      .asI .u16 (.sc v39) fun n40 =>
      .nth l30 5 fun v41 =>
      .asL (.sc v41) fun o42 =>
      .nth l30 6 fun v43 =>
      .asI .u64 (.sc v43) fun n44 =>
      .al [(.i .u32 n32), (.i .u16 n34), (.i .u32 n36), (.i .u16 n38), (.i .u16 n40), (.sl o42), (.i .u64 n44)] fun a45 =>
      .lds 7 (.some (.mk a45 0 1 1 7)) (slN (.some (.mk a45 0 1 1 7))) fun l46 =>
      .app 7 56 o4 l46 (slN (.some (.mk a45 0 1 1 7))) fun o47 =>
      .ret 0 [(.sc (.p o2)), (.sc (.i .u64 n3)), (.sc (.sl o47)), (.sc (.i .i64 (IntKind.wrap .i64 (n5 + (1 : Int)))))])
      (.ret 0 [(.sc (.p o2)), (.sc (.i .u64 n3)), (.sc (.sl o4)), (.sc (.i .i64 (IntKind.wrap .i64 (n5 + (1 : Int)))))]))
    (.ret 2 [(.sc (.p o2)), (.sc (.sl o4))])
def t24_k0  : Nat → List AV → Tree := fun a48 l49 =>
  .tg a48 2
    (.asP (l49.getD 0 .un) fun o50 =>
    .asL (l49.getD 1 .un) fun o51 =>
    .nn o50 fun a52 a53 =>
    .ld a52 (a53 + 5) 1 fun l54 =>
    .nth l54 0 fun v55 =>
    .asL (.sc v55) fun o56 =>
    .nn o50 fun a57 a58 =>
    .st a57 (a58 + 5) [(.sl o51)] (
    .ret 0 [(.sc (.i .i64 (IntKind.wrap .i64 ((slLen o56) - (slLen o51)))))]))
    (.fail)
/-- (*scuttlebutt/scuttlebuttref08.Box).Sweep -/
def t24 (p0_ q0_ : Nat) (n1_ : Int) : Tree :=
  .loop t24_b0 [(.sc (.p (.some (p0_, q0_)))), (.sc (.i .u64 n1_)), (.sc (.sl .none)), (.sc (.i .i64 (0 : Int)))] t24_k0
theorem t24_eq (p0_ q0_ : Nat) (n1_ : Int) : bodyK T (hs 24) Try.f24 [.sc (.p (some (p0_, q0_))), .sc (.i .u64 n1_)] = t24 p0_ q0_ n1_ := by kernel_rfl
/-- (*scuttlebutt/scuttlebuttref08.Box).Rebind -/
def t25 (p0_ q0_ : Nat) (n1_ : Int) : Tree :=
  cond (n1_ == (0 : Int))
    (.ret 0 [(.sc (.i .i64 (1 : Int)))])
    (.nn (.some (p0_, q0_)) fun a0 a1 =>
    .st a0 (a1 + 2) [(.i .u32 n1_)] (
    .nn (.some (p0_, q0_)) fun a2 a3 =>
    .st a2 (a3 + 5) [(.sl .none)] (
    .ret 0 [(.sc (.i .i64 (0 : Int)))])))
theorem t25_eq (p0_ q0_ : Nat) (n1_ : Int) : bodyK T (hs 25) Try.f25 [.sc (.p (some (p0_, q0_))), .sc (.i .u32 n1_)] = t25 p0_ q0_ n1_ := by kernel_rfl
def t26_k121  : Nat → List AV → Tree := fun a133 l134 =>
  .tg a133 0
    (.asP (l134.getD 0 .un) fun o135 =>
    .asP (l134.getD 1 .un) fun o136 =>
    .nn o136 fun a137 a138 =>
    .asI .i64 (l134.getD 2 .un) fun n139 =>
    .asL (l134.getD 3 .un) fun o140 =>
    .nn o135 fun a141 a142 =>
    .ld a141 (a142 + 5) 1 fun l143 =>
    .nth l143 0 fun v144 =>
    .asL (.sc v144) fun o145 =>
    .ixS 7 o145 n139 fun a146 a147 a148 =>
    .st a146 ((a147 + (a148 * 7)) + 5) [(.sl o140)] (
    .nn o135 fun a149 a150 =>
    .ld a149 (a150 + 2) 1 fun l151 =>
    .nth l151 0 fun v152 =>
    .asI .u32 (.sc v152) fun n153 =>
    .nn o135 fun a154 a155 =>
    .ld a154 (a155 + 5) 1 fun l156 =>
    .nth l156 0 fun v157 =>
    .asL (.sc v157) fun o158 =>
    .ixS 7 o158 n139 fun a159 a160 a161 =>
    .ld a159 ((a160 + (a161 * 7)) + 4) 1 fun l162 =>
    .nth l162 0 fun v163 =>
    .asI .u16 (.sc v163) fun n164 =>
    .st a137 a138 [(.i .u32 n153), (.i .u16 n164)] (
    .ld a137 a138 2 fun l165 =>
    .nth l165 0 fun v166 =>
    .asI .u32 (.sc v166) fun n167 =>
    .nth l165 1 fun v168 =>
    .asI .u16 (.sc v168) fun n169 =>
    .ret 0 [(.tu [(.ag [(.i .u32 n167), (.i .u16 n169)]), (.sc (.i .i64 (0 : Int)))])])))
    (.fail)
def t26_b83  : List AV → Tree := fun l84 =>
  .asP (l84.getD 0 .un) fun o85 =>
  .asP (l84.getD 1 .un) fun o86 =>
  .nn o86 fun a87 a88 =>
  .asP (l84.getD 2 .un) fun o89 =>
  .nn o89 fun a90 a91 =>
  .asI .i64 (l84.getD 3 .un) fun n92 =>
  .asL (l84.getD 4 .un) fun o93 =>
  .asB (l84.getD 5 .un) fun b94 =>
  .asI .i64 (l84.getD 6 .un) fun n95 =>
  cond (decide (n95 < (slLen o93)))
    (cond b94
      (.ret 0 [(.sc (.p o85)), (.sc (.p (.some (a87, a88)))), (.sc (.p (.some (a90, a91)))), (.sc (.i .i64 n92)), (.sc (.sl o93)), (.sc (.b .true)), (.sc (.i .i64 (IntKind.wrap .i64 (n95 + (1 : Int)))))])
      (.ixS 2 o93 n95 fun a96 a97 a98 =>
      .ld a96 (a97 + (a98 * 2)) 2 fun l99 =>
      .nth l99 0 fun v100 =>
      .asI .u32 (.sc v100) fun n101 =>
      .nth l99 1 fun v102 =>
      .asI .u16 (.sc v102) fun n103 =>
      .ld a87 a88 2 fun l104 =>
      .nth l104 0 fun v105 =>
      .asI .u32 (.sc v105) fun n106 =>
      .nth l104 1 fun v107 =>
      .asI .u16 (.sc v107) fun n108 =>
      .ret 0 [(.sc (.p o85)), (.sc (.p (.some (a87, a88)))), (.sc (.p (.some (a90, a91)))), (.sc (.i .i64 n92)), (.sc (.sl o93)), (.sc (.b ((n101 == n106) && ((n103 == n108) && .true)))), (.sc (.i .i64 (IntKind.wrap .i64 (n95 + (1 : Int)))))]))
    (.ret 2 [(.sc (.p o85)), (.sc (.p (.some (a87, a88)))), (.sc (.p (.some (a90, a91)))), (.sc (.i .i64 n92)), (.sc (.sl o93)), (.sc (.b b94))])
def t26_k83  : Nat → List AV → Tree := fun a109 l110 =>
  .tg a109 2
    (.asP (l110.getD 0 .un) fun o111 =>
    .asP (l110.getD 1 .un) fun o112 =>
    .nn o112 fun a113 a114 =>
    .asP (l110.getD 2 .un) fun o115 =>
    .nn o115 fun a116 a117 =>
    .asI .i64 (l110.getD 3 .un) fun n118 =>
    .asL (l110.getD 4 .un) fun o119 =>
    .asB (l110.getD 5 .un) fun b120 =>
    .join (
      cond (!b120)
        (.ld a113 a114 2 fun l122 =>
        .nth l122 0 fun v123 =>
        .asI .u32 (.sc v123) fun n124 =>
        .nth l122 1 fun v125 =>
        .asI .u16 (.sc v125) fun n126 =>
        .al [(.i .u32 n124), (.i .u16 n126)] fun a127 =>
        .lds 2 o119 (slN o119) fun l128 =>
        .app 2 8 .none l128 (slN o119) fun o129 =>
        .same a113 a114 [(.i .u32 n124), (.i .u16 n126)] (
        .lds 2 (.some (.mk a127 0 1 1 2)) (slN (.some (.mk a127 0 1 1 2))) fun l130 =>
        .app 2 8 o129 l130 (slN (.some (.mk a127 0 1 1 2))) fun o131 =>
        .slc 2 o131 (.some (maxI (IntKind.wrap .i64 ((slLen o131) - (16 : Int))) (0 : Int))) .none .none fun o132 =>
        .ret 0 [(.sc (.p o111)), (.sc (.p (.some (a116, a117)))), (.sc (.i .i64 n118)), (.sc (.sl o132))]))
        (.ret 0 [(.sc (.p o111)), (.sc (.p (.some (a116, a117)))), (.sc (.i .i64 n118)), (.sc (.sl o119))])) t26_k121)
    (.fail)
/-- (*scuttlebutt/scuttlebuttref08.Box).Out -/
def t26 (p0_ q0_ : Nat) (n1_ : Int) (n2_0 : Int) (n2_1 : Int) (n3_0 : Int) (n3_1 : Int) : Tree :=
  .al [(.i .u32 n2_0), (.i .u16 n2_1)] fun a0 =>
  .al [(.i .u32 n3_0), (.i .u16 n3_1)] fun a1 =>
  .al [(.i .u32 (0 : Int)), (.i .u16 (0 : Int))] fun a2 =>
  .ld a0 0 2 fun l3 =>
  .nth l3 0 fun v4 =>
  .asI .u32 (.sc v4) fun n5 =>
  .nth l3 1 fun v6 =>
  .asI .u16 (.sc v6) fun n7 =>
  .call 47 [(.ag [(.i .u32 n5), (.i .u16 n7)])] fun v8 =>
  .asB v8 fun b9 =>
  .ld a1 0 2 fun l10 =>
  .nth l10 0 fun v11 =>
  .asI .u32 (.sc v11) fun n12 =>
  .nth l10 1 fun v13 =>
  .asI .u16 (.sc v13) fun n14 =>
  .call 47 [(.ag [(.i .u32 n12), (.i .u16 n14)])] fun v15 =>
  .asB v15 fun b16 =>
  cond b9
    (.st a2 0 [(.i .u32 (0 : Int)), (.i .u16 (0 : Int))] (
    .ld a2 0 2 fun l17 =>
    .nth l17 0 fun v18 =>
    .asI .u32 (.sc v18) fun n19 =>
    .nth l17 1 fun v20 =>
    .asI .u16 (.sc v20) fun n21 =>
    .ret 0 [(.tu [(.ag [(.i .u32 n19), (.i .u16 n21)]), (.sc (.i .i64 (1 : Int)))])]))
    (cond b16
      (.st a2 0 [(.i .u32 (0 : Int)), (.i .u16 (0 : Int))] (
      .ld a2 0 2 fun l22 =>
      .nth l22 0 fun v23 =>
      .asI .u32 (.sc v23) fun n24 =>
      .nth l22 1 fun v25 =>
      .asI .u16 (.sc v25) fun n26 =>
      .ret 0 [(.tu [(.ag [(.i .u32 n24), (.i .u16 n26)]), (.sc (.i .i64 (1 : Int)))])]))
      (cond (decide (n1_ > (4611686018427387904 : Int)))
        (.st a2 0 [(.i .u32 (0 : Int)), (.i .u16 (0 : Int))] (
        .ld a2 0 2 fun l27 =>
        .nth l27 0 fun v28 =>
        .asI .u32 (.sc v28) fun n29 =>
        .nth l27 1 fun v30 =>
        .asI .u16 (.sc v30) fun n31 =>
        .ret 0 [(.tu [(.ag [(.i .u32 n29), (.i .u16 n31)]), (.sc (.i .i64 (1 : Int)))])]))
        (.call 24 [(.sc (.p (.some (p0_, q0_)))), (.sc (.i .u64 n1_))] fun v32 =>
        .asI .i64 v32 fun n33 =>
        .ld a0 0 2 fun l34 =>
        .nth l34 0 fun v35 =>
        .asI .u32 (.sc v35) fun n36 =>
        .nth l34 1 fun v37 =>
        .asI .u16 (.sc v37) fun n38 =>
        .nn (.some (p0_, q0_)) fun a39 a40 =>
        .ld a39 (a40 + 0) 2 fun l41 =>
        .nth l41 0 fun v42 =>
        .asI .i64 (.sc v42) fun n43 =>
        .nth l41 1 fun v44 =>
        .asI .i64 (.sc v44) fun n45 =>
        .ld a1 0 2 fun l46 =>
        .nth l46 0 fun v47 =>
        .asI .u32 (.sc v47) fun n48 =>
        .nth l46 1 fun v49 =>
        .asI .u16 (.sc v49) fun n50 =>
        .call 50 [(.ag [(.i .i64 n43), (.i .i64 n45)]), (.ag [(.i .u32 n48), (.i .u16 n50)])] fun v51 =>
        .asA 2 v51 fun l52 =>
        .nth l52 0 fun v53 =>
        .asI .u32 (.sc v53) fun n54 =>
        .nth l52 1 fun v55 =>
        .asI .u16 (.sc v55) fun n56 =>
        .same a0 0 [(.i .u32 n36), (.i .u16 n38)] (
        .call 49 [(.sc (.p (.some (p0_, q0_)))), (.ag [(.i .u32 n36), (.i .u16 n38)]), (.ag [(.i .u32 n54), (.i .u16 n56)])] fun v57 =>
        .asI .i64 v57 fun n58 =>
        .nn (.some (p0_, q0_)) fun a59 a60 =>
        .ld a59 (a60 + 5) 1 fun l61 =>
        .nth l61 0 fun v62 =>
        .asL (.sc v62) fun o63 =>
        .nn (.some (p0_, q0_)) fun a64 a65 =>
        .ld a64 (a65 + 3) 1 fun l66 =>
        .nth l66 0 fun v67 =>
        .asI .u64 (.sc v67) fun n68 =>
        .ixS 7 o63 n58 fun a69 a70 a71 =>
        .st a69 ((a70 + (a71 * 7)) + 6) [(.i .u64 (IntKind.wrap .u64 (n1_ + n68)))] (
        .nn (.some (p0_, q0_)) fun a72 a73 =>
        .ld a72 (a73 + 5) 1 fun l74 =>
        .nth l74 0 fun v75 =>
        .asL (.sc v75) fun o76 =>
        .ixS 7 o76 n58 fun a77 a78 a79 =>
        .ld a77 ((a78 + (a79 * 7)) + 5) 1 fun l80 =>
        .nth l80 0 fun v81 =>
        .asL (.sc v81) fun o82 =>
        .loop t26_b83 [(.sc (.p (.some (p0_, q0_)))), (.sc (.p (.some (a1, 0)))), (.sc (.p (.some (a2, 0)))), (.sc (.i .i64 n58)), (.sc (.sl o82)), (.sc (.b .false)), (.sc (.i .i64 (0 : Int)))] t26_k83)))))
theorem t26_eq (p0_ q0_ : Nat) (n1_ : Int) (n2_0 : Int) (n2_1 : Int) (n3_0 : Int) (n3_1 : Int) : bodyK T (hs 26) Try.f26 [.sc (.p (some (p0_, q0_))), .sc (.i .u64 n1_), .ag [.i .u32 n2_0, .i .u16 n2_1], .ag [.i .u32 n3_0, .i .u16 n3_1]] = t26 p0_ q0_ n1_ n2_0 n2_1 n3_0 n3_1 := by kernel_rfl
def t27_b134  : List AV → Tree := fun l135 =>
  .asP (l135.getD 0 .un) fun o136 =>
  .asL (l135.getD 1 .un) fun o137 =>
  .asI .i64 (l135.getD 2 .un) fun n138 =>
  .asP (l135.getD 3 .un) fun o139 =>
  .nn o139 fun a140 a141 =>
  .asI .i64 (l135.getD 4 .un) fun n142 =>
  .ld a140 (a141 + 5) 1 fun l143 =>
  .nth l143 0 fun v144 =>
  .asL (.sc v144) fun o145 =>
  cond (decide (n142 < (slLen o145)))
    (.ixS 7 o137 n138 fun a146 a147 a148 =>
    .ld a146 ((a147 + (a148 * 7)) + 5) 1 fun l149 =>
    .nth l149 0 fun v150 =>
    .asL (.sc v150) fun o151 =>
    .ixS 2 o151 n142 fun a152 a153 a154 =>
    .ld a152 (a153 + (a154 * 2)) 2 fun l155 =>
    .nth l155 0 fun v156 =>
    .asI .u32 (.sc v156) fun n157 =>
    .nth l155 1 fun v158 =>
    .asI .u16 (.sc v158) fun n159 =>
    .ld a140 (a141 + 5) 1 fun l160 =>
    .nth l160 0 fun v161 =>
    .asL (.sc v161) fun o162 =>
    .ixS 2 o162 n142 fun a163 a164 a165 =>
    .ld a163 (a164 + (a165 * 2)) 2 fun l166 =>
    .nth l166 0 fun v167 =>
    .asI .u32 (.sc v167) fun n168 =>
    .nth l166 1 fun v169 =>
    .asI .u16 (.sc v169) fun n170 =>
    .call 23 [(.ag [(.i .u32 n157), (.i .u16 n159)])] fun v171 =>
    .asA 2 v171 fun l172 =>
    .nth l172 0 fun v173 =>
    .asI .u32 (.sc v173) fun n174 =>
    .nth l172 1 fun v175 =>
    .asI .u16 (.sc v175) fun n176 =>
    .same a163 (a164 + (a165 * 2)) [(.i .u32 n168), (.i .u16 n170)] (
    .same a140 (a141 + 5) [(.sl o162)] (
    cond (!((n174 == n168) && ((n176 == n170) && .true)))
      (.ret 1 [(.sc (.b .false))])
      (.ret 0 [(.sc (.p o136)), (.sc (.sl o137)), (.sc (.i .i64 n138)), (.sc (.p (.some (a140, a141)))), (.sc (.i .i64 (IntKind.wrap .i64 (n142 + (1 : Int)))))]))))
    (.ret 6 [(.sc (.p o136)), (.sc (.sl o137)), (.sc (.i .i64 n138))])
def t27_k134  : Nat → List AV → Tree := fun a177 l178 =>
  .tg a177 6
    (.asP (l178.getD 0 .un) fun o179 =>
    .asL (l178.getD 1 .un) fun o180 =>
    .asI .i64 (l178.getD 2 .un) fun n181 =>
    .ret 0 [(.sc (.p o179)), (.sc (.sl o180)), (.sc (.i .i64 (IntKind.wrap .i64 (n181 + (1 : Int)))))])
    (.tg a177 1
      (.asB (l178.getD 0 .un) fun b182 =>
      .ret 1 [(.sc (.b b182))])
      (.fail))
def t27_b40  : List AV → Tree := fun l41 =>
  .asP (l41.getD 0 .un) fun o42 =>
  .asL (l41.getD 1 .un) fun o43 =>
  .asI .i64 (l41.getD 2 .un) fun n44 =>
  cond (decide (n44 < (slLen o43)))
    (.nn o42 fun a45 a46 =>
    .ld a45 (a46 + 5) 1 fun l47 =>
    .nth l47 0 fun v48 =>
    .asL (.sc v48) fun o49 =>
    .ixS 7 o49 n44 fun a50 a51 a52 =>
    .ld a50 (a51 + (a52 * 7)) 7 fun l53 =>
    .nth l53 0 fun v54 =>
    .asI .u32 (.sc v54) fun n55 =>
    .nth l53 1 fun v56 =>
    .asI .u16 (.sc v56) fun n57 =>
    .nth l53 2 fun v58 =>
    .asI .u32 (.sc v58) fun n59 =>
    .nth l53 3 fun v60 =>
    .asI .u16 (.sc v60) fun n61 =>
    .nth l53 4 fun v62 =>
    .asI .u16 (.sc v62) fun n63 =>
    .nth l53 5 fun v64 =>
    .asL (.sc v64) fun o65 =>
    .nth l53 6 fun v66 =>
    .asI .u64 (.sc v66) fun n67 =>
    .al [(.i .u32 (0 : Int)), (.i .u16 (0 : Int)), (.i .u32 (0 : Int)), (.i .u16 (0 : Int)), (.i .u16 (0 : Int)), (.sl .none), (.i .u64 (0 : Int))] fun a68 =>
    .st a68 0 [(.i .u32 n55), (.i .u16 n57), (.i .u32 n59), (.i .u16 n61), (.i .u16 n63), (.sl o65), (.i .u64 n67)] (
    .ixS 7 o43 n44 fun a69 a70 a71 =>
    .ld a69 ((a70 + (a71 * 7)) + 0) 2 fun l72 =>
    .nth l72 0 fun v73 =>
    .asI .u32 (.sc v73) fun n74 =>
    .nth l72 1 fun v75 =>
    .asI .u16 (.sc v75) fun n76 =>
    .ld a68 (0 + 0) 2 fun l77 =>
    .nth l77 0 fun v78 =>
    .asI .u32 (.sc v78) fun n79 =>
    .nth l77 1 fun v80 =>
    .asI .u16 (.sc v80) fun n81 =>
    .call 23 [(.ag [(.i .u32 n74), (.i .u16 n76)])] fun v82 =>
    .asA 2 v82 fun l83 =>
    .nth l83 0 fun v84 =>
    .asI .u32 (.sc v84) fun n85 =>
    .nth l83 1 fun v86 =>
    .asI .u16 (.sc v86) fun n87 =>
    .same a68 (0 + 0) [(.i .u32 n79), (.i .u16 n81)] (
    cond (!((n85 == n79) && ((n87 == n81) && .true)))
      (.ret 1 [(.sc (.b .false))])
      (.ixS 7 o43 n44 fun a88 a89 a90 =>
      .ld a88 ((a89 + (a90 * 7)) + 2) 2 fun l91 =>
      .nth l91 0 fun v92 =>
      .asI .u32 (.sc v92) fun n93 =>
      .nth l91 1 fun v94 =>
      .asI .u16 (.sc v94) fun n95 =>
      .ld a68 (0 + 2) 2 fun l96 =>
      .nth l96 0 fun v97 =>
      .asI .u32 (.sc v97) fun n98 =>
      .nth l96 1 fun v99 =>
      .asI .u16 (.sc v99) fun n100 =>
      .call 23 [(.ag [(.i .u32 n93), (.i .u16 n95)])] fun v101 =>
      .asA 2 v101 fun l102 =>
      .nth l102 0 fun v103 =>
      .asI .u32 (.sc v103) fun n104 =>
      .nth l102 1 fun v105 =>
      .asI .u16 (.sc v105) fun n106 =>
      .same a68 (0 + 2) [(.i .u32 n98), (.i .u16 n100)] (
      cond (!((n104 == n98) && ((n106 == n100) && .true)))
        (.ret 1 [(.sc (.b .false))])
        (.ixS 7 o43 n44 fun a107 a108 a109 =>
        .ld a107 ((a108 + (a109 * 7)) + 4) 1 fun l110 =>
        .nth l110 0 fun v111 =>
        .asI .u16 (.sc v111) fun n112 =>
        .ld a68 (0 + 4) 1 fun l113 =>
        .nth l113 0 fun v114 =>
        .asI .u16 (.sc v114) fun n115 =>
        cond (n112 != n115)
          (.ret 1 [(.sc (.b .false))])
          (.ixS 7 o43 n44 fun a116 a117 a118 =>
          .ld a116 ((a117 + (a118 * 7)) + 6) 1 fun l119 =>
          .nth l119 0 fun v120 =>
          .asI .u64 (.sc v120) fun n121 =>
          .ld a68 (0 + 6) 1 fun l122 =>
          .nth l122 0 fun v123 =>
          .asI .u64 (.sc v123) fun n124 =>
          cond (n121 != n124)
            (.ret 1 [(.sc (.b .false))])
            (.ixS 7 o43 n44 fun a125 a126 a127 =>
            .ld a125 ((a126 + (a127 * 7)) + 5) 1 fun l128 =>
            .nth l128 0 fun v129 =>
            .asL (.sc v129) fun o130 =>
            .ld a68 (0 + 5) 1 fun l131 =>
            .nth l131 0 fun v132 =>
            .asL (.sc v132) fun o133 =>
            cond ((slLen o130) != (slLen o133))
              (.ret 1 [(.sc (.b .false))])
              (.loop t27_b134 [(.sc (.p o42)), (.sc (.sl o43)), (.sc (.i .i64 n44)), (.sc (.p (.some (a68, 0)))), (.sc (.i .i64 (0 : Int)))] t27_k134)))))))))
    (.ret 2 [])
def t27_k40  : Nat → List AV → Tree := fun a183 l184 =>
  .tg a183 2
    (.ret 0 [(.sc (.b .true))])
    (.tg a183 1
      (.asB (l184.getD 0 .un) fun b185 =>
      .ret 0 [(.sc (.b b185))])
      (.fail))
/-- scuttlebutt/scuttlebuttlaw08.same -/
def t27 (p0_ q0_ : Nat) (p1_ q1_ : Nat) : Tree :=
  .call 16 [(.sc (.p (.some (p0_, q0_))))] fun v0 =>
  .asL v0 fun o1 =>
  .nn (.some (p1_, q1_)) fun a2 a3 =>
  .ld a2 (a3 + 5) 1 fun l4 =>
  .nth l4 0 fun v5 =>
  .asL (.sc v5) fun o6 =>
  cond ((slLen o1) != (slLen o6))
    (.ret 0 [(.sc (.b .false))])
    (.nn (.some (p1_, q1_)) fun a7 a8 =>
    .ld a7 (a8 + 2) 1 fun l9 =>
    .nth l9 0 fun v10 =>
    .asI .u32 (.sc v10) fun n11 =>
    .call 20 [(.sc (.p (.some (p0_, q0_))))] fun v12 =>
    .asI .u32 v12 fun n13 =>
    .same a7 (a8 + 2) [(.i .u32 n11)] (
    cond (n13 != n11)
      (.ret 0 [(.sc (.b .false))])
      (.nn (.some (p1_, q1_)) fun a14 a15 =>
      .ld a14 ((a15 + 0) + 0) 1 fun l16 =>
      .nth l16 0 fun v17 =>
      .asI .i64 (.sc v17) fun n18 =>
      .call 51 [(.sc (.p (.some (p0_, q0_))))] fun v19 =>
      .asA 2 v19 fun l20 =>
      .nth l20 0 fun v21 =>
      .asI .i64 (.sc v21) fun n22 =>
      .nth l20 1 fun v23 =>
      .asI .i64 (.sc v23) fun n24 =>
      .same a14 ((a15 + 0) + 0) [(.i .i64 n18)] (
      .nth [(.i .i64 n22), (.i .i64 n24)] 0 fun v25 =>
      .asI .i64 (.sc v25) fun n26 =>
      cond (n26 != n18)
        (.ret 0 [(.sc (.b .false))])
        (.nn (.some (p1_, q1_)) fun a27 a28 =>
        .ld a27 ((a28 + 0) + 1) 1 fun l29 =>
        .nth l29 0 fun v30 =>
        .asI .i64 (.sc v30) fun n31 =>
        .call 51 [(.sc (.p (.some (p0_, q0_))))] fun v32 =>
        .asA 2 v32 fun l33 =>
        .nth l33 0 fun v34 =>
        .asI .i64 (.sc v34) fun n35 =>
        .nth l33 1 fun v36 =>
        .asI .i64 (.sc v36) fun n37 =>
        .same a27 ((a28 + 0) + 1) [(.i .i64 n31)] (
        .nth [(.i .i64 n35), (.i .i64 n37)] 1 fun v38 =>
        .asI .i64 (.sc v38) fun n39 =>
        cond (n39 != n31)
          (.ret 0 [(.sc (.b .false))])
          (.loop t27_b40 [(.sc (.p (.some (p1_, q1_)))), (.sc (.sl o1)), (.sc (.i .i64 (0 : Int)))] t27_k40)))))))
theorem t27_eq (p0_ q0_ : Nat) (p1_ q1_ : Nat) : bodyK T (hs 27) Try.f27 [.sc (.p (some (p0_, q0_))), .sc (.p (some (p1_, q1_)))] = t27 p0_ q0_ p1_ q1_ := by kernel_rfl
/-- scuttlebutt/scuttlebuttref07.Right -/
def t46 (n0_0 : Int) (n0_1 : Int) : Tree :=
  .al [(.i .i64 n0_0), (.i .i64 n0_1)] fun a0 =>
  .ld a0 (0 + 0) 1 fun l1 =>
  .nth l1 0 fun v2 =>
  .asI .i64 (.sc v2) fun n3 =>
  cond (decide (n3 ≥ (0 : Int)))
    (.ld a0 (0 + 0) 1 fun l4 =>
    .nth l4 0 fun v5 =>
    .asI .i64 (.sc v5) fun n6 =>
    cond (decide (n6 ≤ (2 : Int)))
      (.ld a0 (0 + 1) 1 fun l7 =>
      .nth l7 0 fun v8 =>
      .asI .i64 (.sc v8) fun n9 =>
      cond (decide (n9 ≥ (0 : Int)))
        (.ld a0 (0 + 1) 1 fun l10 =>
        .nth l10 0 fun v11 =>
        .asI .i64 (.sc v11) fun n12 =>
        .ret 0 [(.sc (.b (decide (n12 ≤ (2 : Int)))))])
        (.ret 0 [(.sc (.b .false))]))
      (.ret 0 [(.sc (.b .false))]))
    (.ret 0 [(.sc (.b .false))])
theorem t46_eq (n0_0 : Int) (n0_1 : Int) : bodyK T (hs 46) Try.f46 [.ag [.i .i64 n0_0, .i .i64 n0_1]] = t46 n0_0 n0_1 := by kernel_rfl
/-- (scuttlebutt/scuttlebuttref03.Addr).None -/
def t47 (n0_0 : Int) (n0_1 : Int) : Tree :=
  .al [(.i .u32 n0_0), (.i .u16 n0_1)] fun a0 =>
  .ld a0 (0 + 0) 1 fun l1 =>
  .nth l1 0 fun v2 =>
  .asI .u32 (.sc v2) fun n3 =>
  cond (n3 == (0 : Int))
    (.ret 0 [(.sc (.b .true))])
    (.ld a0 (0 + 1) 1 fun l4 =>
    .nth l4 0 fun v5 =>
    .asI .u16 (.sc v5) fun n6 =>
    .ret 0 [(.sc (.b (n6 == (0 : Int))))])
theorem t47_eq (n0_0 : Int) (n0_1 : Int) : bodyK T (hs 47) Try.f47 [.ag [.i .u32 n0_0, .i .u16 n0_1]] = t47 n0_0 n0_1 := by kernel_rfl
def t48_b5  : List AV → Tree := fun l6 =>
  .asL (l6.getD 0 .un) fun o7 =>
  .asP (l6.getD 1 .un) fun o8 =>
  .nn o8 fun a9 a10 =>
  .asP (l6.getD 2 .un) fun o11 =>
  .nn o11 fun a12 a13 =>
  .asI .i64 (l6.getD 3 .un) fun n14 =>
  cond (decide (n14 < (slLen o7)))
    (.ld a9 (a10 + 1) 1 fun l15 =>
    .nth l15 0 fun v16 =>
    .asI .i64 (.sc v16) fun n17 =>
    cond (n17 == (1 : Int))
      (.ixS 2 o7 n14 fun a18 a19 a20 =>
      .ld a18 ((a19 + (a20 * 2)) + 0) 1 fun l21 =>
      .nth l21 0 fun v22 =>
      .asI .u32 (.sc v22) fun n23 =>
      .ld a12 (a13 + 0) 1 fun l24 =>
      .nth l24 0 fun v25 =>
      .asI .u32 (.sc v25) fun n26 =>
      cond (n23 == n26)
        (.ret 1 [(.sc (.b .true))])
        (.ld a9 (a10 + 1) 1 fun l27 =>
        .nth l27 0 fun v28 =>
        .asI .i64 (.sc v28) fun n29 =>
        cond (n29 == (2 : Int))
          (.ixS 2 o7 n14 fun a30 a31 a32 =>
          .ld a30 (a31 + (a32 * 2)) 2 fun l33 =>
          .nth l33 0 fun v34 =>
          .asI .u32 (.sc v34) fun n35 =>
          .nth l33 1 fun v36 =>
          .asI .u16 (.sc v36) fun n37 =>
          .ld a12 a13 2 fun l38 =>
          .nth l38 0 fun v39 =>
          .asI .u32 (.sc v39) fun n40 =>
          .nth l38 1 fun v41 =>
          .asI .u16 (.sc v41) fun n42 =>
          cond ((n35 == n40) && ((n37 == n42) && .true))
            (.ret 1 [(.sc (.b .true))])
            (.ret 0 [(.sc (.sl o7)), (.sc (.p (.some (a9, a10)))), (.sc (.p (.some (a12, a13)))), (.sc (.i .i64 (IntKind.wrap .i64 (n14 + (1 : Int)))))]))
          (.ret 0 [(.sc (.sl o7)), (.sc (.p (.some (a9, a10)))), (.sc (.p (.some (a12, a13)))), (.sc (.i .i64 (IntKind.wrap .i64 (n14 + (1 : Int)))))])))
      (.ld a9 (a10 + 1) 1 fun l43 =>
      .nth l43 0 fun v44 =>
      .asI .i64 (.sc v44) fun n45 =>
      cond (n45 == (2 : Int))
        (.ixS 2 o7 n14 fun a46 a47 a48 =>
        .ld a46 (a47 + (a48 * 2)) 2 fun l49 =>
        .nth l49 0 fun v50 =>
        .asI .u32 (.sc v50) fun n51 =>
        .nth l49 1 fun v52 =>
        .asI .u16 (.sc v52) fun n53 =>
        .ld a12 a13 2 fun l54 =>
        .nth l54 0 fun v55 =>
        .asI .u32 (.sc v55) fun n56 =>
        .nth l54 1 fun v57 =>
        .asI .u16 (.sc v57) fun n58 =>
        cond ((n51 == n56) && ((n53 == n58) && .true))
          (.ret 1 [(.sc (.b .true))])
          (.ret 0 [(.sc (.sl o7)), (.sc (.p (.some (a9, a10)))), (.sc (.p (.some (a12, a13)))), (.sc (.i .i64 (IntKind.wrap .i64 (n14 + (1 : Int)))))]))
        (.ret 0 [(.sc (.sl o7)), (.sc (.p (.some (a9, a10)))), (.sc (.p (.some (a12, a13)))), (.sc (.i .i64 (IntKind.wrap .i64 (n14 + (1 : Int)))))])))
    (.ret 2 [])
def t48_k5  : Nat → List AV → Tree := fun a59 l60 =>
  .tg a59 2
    (.ret 0 [(.sc (.b .false))])
    (.tg a59 1
      (.asB (l60.getD 0 .un) fun b61 =>
      .ret 0 [(.sc (.b b61))])
      (.fail))
/-- scuttlebutt/scuttlebuttref07.Passes -/
def t48 (n0_0 : Int) (n0_1 : Int) (s1_ : Option SlD) (n2_0 : Int) (n2_1 : Int) : Tree :=
  .al [(.i .i64 n0_0), (.i .i64 n0_1)] fun a0 =>
  .al [(.i .u32 n2_0), (.i .u16 n2_1)] fun a1 =>
  .ld a0 (0 + 1) 1 fun l2 =>
  .nth l2 0 fun v3 =>
  .asI .i64 (.sc v3) fun n4 =>
  cond (n4 == (0 : Int))
    (.ret 0 [(.sc (.b .true))])
    (.loop t48_b5 [(.sc (.sl s1_)), (.sc (.p (.some (a0, 0)))), (.sc (.p (.some (a1, 0)))), (.sc (.i .i64 (0 : Int)))] t48_k5)
theorem t48_eq (n0_0 : Int) (n0_1 : Int) (s1_ : Option SlD) (n2_0 : Int) (n2_1 : Int) : bodyK T (hs 48) Try.f48 [.ag [.i .i64 n0_0, .i .i64 n0_1], .sc (.sl s1_), .ag [.i .u32 n2_0, .i .u16 n2_1]] = t48 n0_0 n0_1 s1_ n2_0 n2_1 := by kernel_rfl
def t49_b73  : List AV → Tree := fun l74 =>
  .asP (l74.getD 0 .un) fun o75 =>
  .asP (l74.getD 1 .un) fun o76 =>
  .nn o76 fun a77 a78 =>
  .asP (l74.getD 2 .un) fun o79 =>
  .nn o79 fun a80 a81 =>
  .asI .i64 (l74.getD 3 .un) fun n82 =>
  .asI .i64 (l74.getD 4 .un) fun n83 =>
  .nn o75 fun a84 a85 =>
  .ld a84 (a85 + 5) 1 fun l86 =>
  .nth l86 0 fun v87 =>
  .asL (.sc v87) fun o88 =>
  cond (decide (n83 < (slLen o88)))
    (.nn o75 fun a89 a90 =>
    .ld a89 (a90 + 5) 1 fun l91 =>
    .nth l91 0 fun v92 =>
    .asL (.sc v92) fun o93 =>
    .ixS 7 o93 n83 fun a94 a95 a96 =>
    .ld a94 ((a95 + (a96 * 7)) + 6) 1 fun l97 =>
    .nth l97 0 fun v98 =>
    .asI .u64 (.sc v98) fun n99 =>
    .nn o75 fun a100 a101 =>
    .ld a100 (a101 + 5) 1 fun l102 =>
    .nth l102 0 fun v103 =>
    .asL (.sc v103) fun o104 =>
    .ixS 7 o104 n82 fun a105 a106 a107 =>
    .ld a105 ((a106 + (a107 * 7)) + 6) 1 fun l108 =>
    .nth l108 0 fun v109 =>
    .asI .u64 (.sc v109) fun n110 =>
    cond (decide (n99 < n110))
      (.ret 0 [(.sc (.p o75)), (.sc (.p (.some (a77, a78)))), (.sc (.p (.some (a80, a81)))), (.sc (.i .i64 n83)), (.sc (.i .i64 (IntKind.wrap .i64 (n83 + (1 : Int)))))])
      (.ret 0 [(.sc (.p o75)), (.sc (.p (.some (a77, a78)))), (.sc (.p (.some (a80, a81)))), (.sc (.i .i64 n82)), (.sc (.i .i64 (IntKind.wrap .i64 (n83 + (1 : Int)))))]))
    (.ret 6 [(.sc (.p o75)), (.sc (.p (.some (a77, a78)))), (.sc (.p (.some (a80, a81)))), (.sc (.i .i64 n82))])
def t49_k73  : Nat → List AV → Tree := fun a111 l112 =>
  .tg a111 6
    (.asP (l112.getD 0 .un) fun o113 =>
    .asP (l112.getD 1 .un) fun o114 =>
    .nn o114 fun a115 a116 =>
    .asP (l112.getD 2 .un) fun o117 =>
    .nn o117 fun a118 a119 =>
    .asI .i64 (l112.getD 3 .un) fun n120 =>
    .call 67 [(.sc (.p o113)), (.sc (.i .i64 n120))] fun v121 =>
    .ret 0 [(.sc (.p o113)), (.sc (.p (.some (a115, a116)))), (.sc (.p (.some (a118, a119))))])
    (.fail)
def t49_b131  : List AV → Tree := fun l132 =>
  .asP (l132.getD 0 .un) fun o133 =>
  .asP (l132.getD 1 .un) fun o134 =>
  .nn o134 fun a135 a136 =>
  .asP (l132.getD 2 .un) fun o137 =>
  .nn o137 fun a138 a139 =>
  .asI .i64 (l132.getD 3 .un) fun n140 =>
  .nn o133 fun a141 a142 =>
  .ld a141 (a142 + 5) 1 fun l143 =>
  .nth l143 0 fun v144 =>
  .asL (.sc v144) fun o145 =>
  cond (decide (n140 < (slLen o145)))
    (.nn o133 fun a146 a147 =>
    .ld a146 (a147 + 5) 1 fun l148 =>
    .nth l148 0 fun v149 =>
    .asL (.sc v149) fun o150 =>
    .ixS 7 o150 n140 fun a151 a152 a153 =>
    .ld a151 ((a152 + (a153 * 7)) + 4) 1 fun l154 =>
    .nth l154 0 fun v155 =>
    .asI .u16 (.sc v155) fun n156 =>
    cond ((IntKind.wrap .i64 n156) == (IntKind.wrap .i64 ((20000 : Int) + n140)))
      (.ret 0 [(.sc (.p o133)), (.sc (.p (.some (a135, a136)))), (.sc (.p (.some (a138, a139)))), (.sc (.i .i64 (IntKind.wrap .i64 (n140 + (1 : Int)))))])
      (.ret 10 [(.sc (.p o133)), (.sc (.p (.some (a135, a136)))), (.sc (.p (.some (a138, a139)))), (.sc (.i .i64 n140))]))
    (.ret 10 [(.sc (.p o133)), (.sc (.p (.some (a135, a136)))), (.sc (.p (.some (a138, a139)))), (.sc (.i .i64 n140))])
def t49_k131  : Nat → List AV → Tree := fun a157 l158 =>
  .tg a157 10
    (.asP (l158.getD 0 .un) fun o159 =>
    .asP (l158.getD 1 .un) fun o160 =>
    .nn o160 fun a161 a162 =>
    .asP (l158.getD 2 .un) fun o163 =>
    .nn o163 fun a164 a165 =>
    .asI .i64 (l158.getD 3 .un) fun n166 =>
    .nn o159 fun a167 a168 =>
    .ld a167 (a168 + 5) 1 fun l169 =>
    .nth l169 0 fun v170 =>
    .asL (.sc v170) fun o171 =>
    .slc 7 o171 .none (.some n166) .none fun o172 =>
    .lds 7 o172 (slN o172) fun l173 =>
    .app 7 56 .none l173 (slN o172) fun o174 =>
    .ld a161 a162 2 fun l175 =>
    .nth l175 0 fun v176 =>
    .asI .u32 (.sc v176) fun n177 =>
    .nth l175 1 fun v178 =>
    .asI .u16 (.sc v178) fun n179 =>
    .ld a164 a165 2 fun l180 =>
    .nth l180 0 fun v181 =>
    .asI .u32 (.sc v181) fun n182 =>
    .nth l180 1 fun v183 =>
    .asI .u16 (.sc v183) fun n184 =>
    .al [(.i .u32 n177), (.i .u16 n179), (.i .u32 n182), (.i .u16 n184), (.i .u16 (IntKind.wrap .u16 (IntKind.wrap .i64 ((20000 : Int) + n166)))), (.sl .none), (.i .u64 (0 : Int))] fun a185 =>
    .lds 7 (.some (.mk a185 0 1 1 7)) (slN (.some (.mk a185 0 1 1 7))) fun l186 =>
    .app 7 56 o174 l186 (slN (.some (.mk a185 0 1 1 7))) fun o187 =>
    .nn o159 fun a188 a189 =>
    .ld a188 (a189 + 5) 1 fun l190 =>
    .nth l190 0 fun v191 =>
    .asL (.sc v191) fun o192 =>
    .slc 7 o192 (.some n166) .none .none fun o193 =>
    .lds 7 o193 (slN o193) fun l194 =>
    .app 7 56 o187 l194 (slN o193) fun o195 =>
    .nn o159 fun a196 a197 =>
    .st a196 (a197 + 5) [(.sl o195)] (
    .ret 0 [(.sc (.i .i64 n166))]))
    (.fail)
def t49_k72  : Nat → List AV → Tree := fun a122 l123 =>
  .tg a122 0
    (.asP (l123.getD 0 .un) fun o124 =>
    .asP (l123.getD 1 .un) fun o125 =>
    .nn o125 fun a126 a127 =>
    .asP (l123.getD 2 .un) fun o128 =>
    .nn o128 fun a129 a130 =>
    .loop t49_b131 [(.sc (.p o124)), (.sc (.p (.some (a126, a127)))), (.sc (.p (.some (a129, a130)))), (.sc (.i .i64 (0 : Int)))] t49_k131)
    (.fail)
def t49_b2  : List AV → Tree := fun l3 =>
  .asP (l3.getD 0 .un) fun o4 =>
  .asP (l3.getD 1 .un) fun o5 =>
  .nn o5 fun a6 a7 =>
  .asP (l3.getD 2 .un) fun o8 =>
  .nn o8 fun a9 a10 =>
  .asI .i64 (l3.getD 3 .un) fun n11 =>
  .nn o4 fun a12 a13 =>
  .ld a12 (a13 + 5) 1 fun l14 =>
  .nth l14 0 fun v15 =>
  .asL (.sc v15) fun o16 =>
  cond (decide (n11 < (slLen o16)))
    (.nn o4 fun a17 a18 =>
    .ld a17 (a18 + 5) 1 fun l19 =>
    .nth l19 0 fun v20 =>
    .asL (.sc v20) fun o21 =>
    .ixS 7 o21 n11 fun a22 a23 a24 =>
    .ld a22 ((a23 + (a24 * 7)) + 0) 2 fun l25 =>
    .nth l25 0 fun v26 =>
    .asI .u32 (.sc v26) fun n27 =>
    .nth l25 1 fun v28 =>
    .asI .u16 (.sc v28) fun n29 =>
    .ld a6 a7 2 fun l30 =>
    .nth l30 0 fun v31 =>
    .asI .u32 (.sc v31) fun n32 =>
    .nth l30 1 fun v33 =>
    .asI .u16 (.sc v33) fun n34 =>
    cond ((n27 == n32) && ((n29 == n34) && .true))
      (.nn o4 fun a35 a36 =>
      .ld a35 (a36 + 5) 1 fun l37 =>
      .nth l37 0 fun v38 =>
      .asL (.sc v38) fun o39 =>
      .ixS 7 o39 n11 fun a40 a41 a42 =>
      .ld a40 ((a41 + (a42 * 7)) + 2) 2 fun l43 =>
      .nth l43 0 fun v44 =>
      .asI .u32 (.sc v44) fun n45 =>
      .nth l43 1 fun v46 =>
      .asI .u16 (.sc v46) fun n47 =>
      .ld a9 a10 2 fun l48 =>
      .nth l48 0 fun v49 =>
      .asI .u32 (.sc v49) fun n50 =>
      .nth l48 1 fun v51 =>
      .asI .u16 (.sc v51) fun n52 =>
      cond ((n45 == n50) && ((n47 == n52) && .true))
        (.ret 1 [(.sc (.i .i64 n11))])
        (.ret 0 [(.sc (.p o4)), (.sc (.p (.some (a6, a7)))), (.sc (.p (.some (a9, a10)))), (.sc (.i .i64 (IntKind.wrap .i64 (n11 + (1 : Int)))))]))
      (.ret 0 [(.sc (.p o4)), (.sc (.p (.some (a6, a7)))), (.sc (.p (.some (a9, a10)))), (.sc (.i .i64 (IntKind.wrap .i64 (n11 + (1 : Int)))))]))
    (.ret 2 [(.sc (.p o4)), (.sc (.p (.some (a6, a7)))), (.sc (.p (.some (a9, a10))))])
def t49_k2  : Nat → List AV → Tree := fun a53 l54 =>
  .tg a53 2
    (.asP (l54.getD 0 .un) fun o55 =>
    .asP (l54.getD 1 .un) fun o56 =>
    .nn o56 fun a57 a58 =>
    .asP (l54.getD 2 .un) fun o59 =>
    .nn o59 fun a60 a61 =>
    .nn o55 fun a62 a63 =>
    .ld a62 (a63 + 5) 1 fun l64 =>
    .nth l64 0 fun v65 =>
    .asL (.sc v65) fun o66 =>
    .nn o55 fun a67 a68 =>
    .ld a67 (a68 + 4) 1 fun l69 =>
    .nth l69 0 fun v70 =>
    .asI .i64 (.sc v70) fun n71 =>
    .join (
      cond (decide ((slLen o66) ≥ n71))
        (.loop t49_b73 [(.sc (.p o55)), (.sc (.p (.some (a57, a58)))), (.sc (.p (.some (a60, a61)))), (.sc (.i .i64 (0 : Int))), (.sc (.i .i64 (0 : Int)))] t49_k73)
        (.ret 0 [(.sc (.p o55)), (.sc (.p (.some (a57, a58)))), (.sc (.p (.some (a60, a61))))])) t49_k72)
    (.tg a53 1
      (.asI .i64 (l54.getD 0 .un) fun n198 =>
      .ret 0 [(.sc (.i .i64 n198))])
      (.fail))
/-- (*scuttlebutt/scuttlebuttref08.Box).at -/
def t49 (p0_ q0_ : Nat) (n1_0 : Int) (n1_1 : Int) (n2_0 : Int) (n2_1 : Int) : Tree :=
  .al [(.i .u32 n1_0), (.i .u16 n1_1)] fun a0 =>
  .al [(.i .u32 n2_0), (.i .u16 n2_1)] fun a1 =>
  .loop t49_b2 [(.sc (.p (.some (p0_, q0_)))), (.sc (.p (.some (a0, 0)))), (.sc (.p (.some (a1, 0)))), (.sc (.i .i64 (0 : Int)))] t49_k2
theorem t49_eq (p0_ q0_ : Nat) (n1_0 : Int) (n1_1 : Int) (n2_0 : Int) (n2_1 : Int) : bodyK T (hs 49) Try.f49 [.sc (.p (some (p0_, q0_))), .ag [.i .u32 n1_0, .i .u16 n1_1], .ag [.i .u32 n2_0, .i .u16 n2_1]] = t49 p0_ q0_ n1_0 n1_1 n2_0 n2_1 := by kernel_rfl
/-- scuttlebutt/scuttlebuttref07.Key -/
def t50 (n0_0 : Int) (n0_1 : Int) (n1_0 : Int) (n1_1 : Int) : Tree :=
  .al [(.i .i64 n0_0), (.i .i64 n0_1)] fun a0 =>
  .al [(.i .u32 n1_0), (.i .u16 n1_1)] fun a1 =>
  .al [(.i .u32 (0 : Int)), (.i .u16 (0 : Int))] fun a2 =>
  .ld a0 (0 + 0) 1 fun l3 =>
  .nth l3 0 fun v4 =>
  .asI .i64 (.sc v4) fun n5 =>
  cond (n5 == (1 : Int))
    (.ld a1 (0 + 0) 1 fun l6 =>
    .nth l6 0 fun v7 =>
    .asI .u32 (.sc v7) fun n8 =>
    .st a2 0 [(.i .u32 n8), (.i .u16 (0 : Int))] (
    .ld a2 0 2 fun l9 =>
    .nth l9 0 fun v10 =>
    .asI .u32 (.sc v10) fun n11 =>
    .nth l9 1 fun v12 =>
    .asI .u16 (.sc v12) fun n13 =>
    .ret 0 [(.ag [(.i .u32 n11), (.i .u16 n13)])]))
    (.ld a0 (0 + 0) 1 fun l14 =>
    .nth l14 0 fun v15 =>
    .asI .i64 (.sc v15) fun n16 =>
    cond (n16 == (2 : Int))
      (.ld a1 0 2 fun l17 =>
      .nth l17 0 fun v18 =>
      .asI .u32 (.sc v18) fun n19 =>
      .nth l17 1 fun v20 =>
      .asI .u16 (.sc v20) fun n21 =>
      .st a2 0 [(.i .u32 n19), (.i .u16 n21)] (
      .ld a2 0 2 fun l22 =>
      .nth l22 0 fun v23 =>
      .asI .u32 (.sc v23) fun n24 =>
      .nth l22 1 fun v25 =>
      .asI .u16 (.sc v25) fun n26 =>
      .ret 0 [(.ag [(.i .u32 n24), (.i .u16 n26)])]))
      (.st a2 0 [(.i .u32 (0 : Int)), (.i .u16 (0 : Int))] (
      .ld a2 0 2 fun l27 =>
      .nth l27 0 fun v28 =>
      .asI .u32 (.sc v28) fun n29 =>
      .nth l27 1 fun v30 =>
      .asI .u16 (.sc v30) fun n31 =>
      .ret 0 [(.ag [(.i .u32 n29), (.i .u16 n31)])])))
theorem t50_eq (n0_0 : Int) (n0_1 : Int) (n1_0 : Int) (n1_1 : Int) : bodyK T (hs 50) Try.f50 [.ag [.i .i64 n0_0, .i .i64 n0_1], .ag [.i .u32 n1_0, .i .u16 n1_1]] = t50 n0_0 n0_1 n1_0 n1_1 := by kernel_rfl
/-- (*scuttlebutt/scuttlebuttref08.Box).cut -/
def t67 (p0_ q0_ : Nat) (n1_ : Int) : Tree :=
  .nn (.some (p0_, q0_)) fun a0 a1 =>
  .ld a0 (a1 + 5) 1 fun l2 =>
  .nth l2 0 fun v3 =>
  .asL (.sc v3) fun o4 =>
  .slc 7 o4 .none (.some n1_) .none fun o5 =>
  .lds 7 o5 (slN o5) fun l6 =>
  .app 7 56 .none l6 (slN o5) fun o7 =>
  .nn (.some (p0_, q0_)) fun a8 a9 =>
  .ld a8 (a9 + 5) 1 fun l10 =>
  .nth l10 0 fun v11 =>
  .asL (.sc v11) fun o12 =>
  .slc 7 o12 (.some (IntKind.wrap .i64 (n1_ + (1 : Int)))) .none .none fun o13 =>
  .lds 7 o13 (slN o13) fun l14 =>
  .app 7 56 o7 l14 (slN o13) fun o15 =>
  .nn (.some (p0_, q0_)) fun a16 a17 =>
  .st a16 (a17 + 5) [(.sl o15)] (
  .ret 0 [(.tu [])])
theorem t67_eq (p0_ q0_ : Nat) (n1_ : Int) : bodyK T (hs 67) Try.f67 [.sc (.p (some (p0_, q0_))), .sc (.i .i64 n1_)] = t67 p0_ q0_ n1_ := by kernel_rfl
end Go.Proofs.Ytloiifcocgpnbaa
