/- Trees of functions, printed by a program of mine; each is proved to be the function's. -/
import Derived.Test.YtbgmnnfajohmaaaGen
namespace Go.Proofs.Ytbgmnnfajohmaaa
open Go Go.Proofs.Ytbgmnnfajohmaaa.Fw
set_option linter.unusedVariables false
/-- scuttlebutt/scuttlebuttref16.New -/
def t19 (n0_ : Int) (n1_ : Int) : Tree :=
  cond (decide (n0_ < (1 : Int)))
    (.ret 0 [(.sc (.p .none))])
    (cond (decide (n0_ > (8 : Int)))
      (.ret 0 [(.sc (.p .none))])
      (cond (n1_ == (0 : Int))
        (.ret 0 [(.sc (.p .none))])
        (cond (decide (n1_ > (1000000 : Int)))
          (.ret 0 [(.sc (.p .none))])
          (.al [(.i .i64 n0_), (.i .u64 n1_), (.sl .none), (.sl .none), (.b .false), (.i .u32 (0 : Int)), (.b .false)] fun a0 =>
          .ret 0 [(.sc (.p (.some (a0, 0))))]))))
theorem t19_eq (n0_ : Int) (n1_ : Int) : bodyK T (hs 19) Try.f19 [.sc (.i .i64 n0_), .sc (.i .u64 n1_)] = t19 n0_ n1_ := by kernel_rfl
/-- (*scuttlebutt/scuttlebuttref16.Reach).Round -/
def t20 (p0_ q0_ : Nat) (n1_ : Int) (n2_ : Int) : Tree :=
  cond (decide (n2_ > (4611686018427387904 : Int)))
    (.ret 0 [(.sc (.i .i64 (1 : Int)))])
    (.nn (.some (p0_, q0_)) fun a0 a1 =>
    .ld a0 (a1 + 4) 1 fun l2 =>
    .nth l2 0 fun v3 =>
    .asB (.sc v3) fun b4 =>
    cond b4
      (.ret 0 [(.sc (.i .i64 (4 : Int)))])
      (.nn (.some (p0_, q0_)) fun a5 a6 =>
      .st a5 (a6 + 4) [(.b .true)] (
      .nn (.some (p0_, q0_)) fun a7 a8 =>
      .st a7 (a8 + 5) [(.i .u32 n1_)] (
      .nn (.some (p0_, q0_)) fun a9 a10 =>
      .st a9 (a10 + 6) [(.b .false)] (
      .ret 0 [(.sc (.i .i64 (0 : Int)))])))))
theorem t20_eq (p0_ q0_ : Nat) (n1_ : Int) (n2_ : Int) : bodyK T (hs 20) Try.f20 [.sc (.p (some (p0_, q0_))), .sc (.i .u32 n1_), .sc (.i .u64 n2_)] = t20 p0_ q0_ n1_ n2_ := by kernel_rfl
/-- (*scuttlebutt/scuttlebuttref16.Reach).Heard -/
def t21 (p0_ q0_ : Nat) (n1_ : Int) : Tree :=
  .nn (.some (p0_, q0_)) fun a0 a1 =>
  .ld a0 (a1 + 4) 1 fun l2 =>
  .nth l2 0 fun v3 =>
  .asB (.sc v3) fun b4 =>
  cond (!b4)
    (.ret 0 [(.sc (.b .false))])
    (.nn (.some (p0_, q0_)) fun a5 a6 =>
    .ld a5 (a6 + 5) 1 fun l7 =>
    .nth l7 0 fun v8 =>
    .asI .u32 (.sc v8) fun n9 =>
    cond (n9 != n1_)
      (.ret 0 [(.sc (.b .false))])
      (.nn (.some (p0_, q0_)) fun a10 a11 =>
      .st a10 (a11 + 6) [(.b .true)] (
      .ret 0 [(.sc (.b .true))])))
theorem t21_eq (p0_ q0_ : Nat) (n1_ : Int) : bodyK T (hs 21) Try.f21 [.sc (.p (some (p0_, q0_))), .sc (.i .u32 n1_)] = t21 p0_ q0_ n1_ := by kernel_rfl
/-- (*scuttlebutt/scuttlebuttref16.Reach).End -/
def t22 (p0_ q0_ : Nat) : Tree :=
  .nn (.some (p0_, q0_)) fun a0 a1 =>
  .ld a0 (a1 + 4) 1 fun l2 =>
  .nth l2 0 fun v3 =>
  .asB (.sc v3) fun b4 =>
  cond (!b4)
    (.ret 0 [(.sc (.b .false))])
    (.nn (.some (p0_, q0_)) fun a5 a6 =>
    .st a5 (a6 + 4) [(.b .false)] (
    .nn (.some (p0_, q0_)) fun a7 a8 =>
    .ld a7 (a8 + 3) 1 fun l9 =>
    .nth l9 0 fun v10 =>
    .asL (.sc v10) fun o11 =>
    .nn (.some (p0_, q0_)) fun a12 a13 =>
    .ld a12 (a13 + 6) 1 fun l14 =>
    .nth l14 0 fun v15 =>
    .asB (.sc v15) fun b16 =>
    .al [(.b b16)] fun a17 =>
    .lds 1 o11 (slN o11) fun l18 =>
    .app 1 1 .none l18 (slN o11) fun o19 =>
    .same a12 (a13 + 6) [(.b b16)] (
    .lds 1 (.some (.mk a17 0 1 1 1)) (slN (.some (.mk a17 0 1 1 1))) fun l20 =>
    .app 1 1 o19 l20 (slN (.some (.mk a17 0 1 1 1))) fun o21 =>
    .nn (.some (p0_, q0_)) fun a22 a23 =>
    .st a22 (a23 + 3) [(.sl o21)] (
    .nn (.some (p0_, q0_)) fun a24 a25 =>
    .ld a24 (a25 + 3) 1 fun l26 =>
    .nth l26 0 fun v27 =>
    .asL (.sc v27) fun o28 =>
    .nn (.some (p0_, q0_)) fun a29 a30 =>
    .ld a29 (a30 + 3) 1 fun l31 =>
    .nth l31 0 fun v32 =>
    .asL (.sc v32) fun o33 =>
    .nn (.some (p0_, q0_)) fun a34 a35 =>
    .ld a34 (a35 + 0) 1 fun l36 =>
    .nth l36 0 fun v37 =>
    .asI .i64 (.sc v37) fun n38 =>
    .slc 1 o28 (.some (maxI (IntKind.wrap .i64 ((slLen o33) - n38)) (0 : Int))) .none .none fun o39 =>
    .nn (.some (p0_, q0_)) fun a40 a41 =>
    .st a40 (a41 + 3) [(.sl o39)] (
    .ret 0 [(.sc (.b .true))])))))
theorem t22_eq (p0_ q0_ : Nat) : bodyK T (hs 22) Try.f22 [.sc (.p (some (p0_, q0_)))] = t22 p0_ q0_ := by kernel_rfl
/-- (*scuttlebutt/scuttlebuttref16.Reach).Reset -/
def t24 (p0_ q0_ : Nat) : Tree :=
  .nn (.some (p0_, q0_)) fun a0 a1 =>
  .st a0 (a1 + 2) [(.sl .none)] (
  .nn (.some (p0_, q0_)) fun a2 a3 =>
  .st a2 (a3 + 3) [(.sl .none)] (
  .nn (.some (p0_, q0_)) fun a4 a5 =>
  .st a4 (a5 + 4) [(.b .false)] (
  .ret 0 [(.tu [])])))
theorem t24_eq (p0_ q0_ : Nat) : bodyK T (hs 24) Try.f24 [.sc (.p (some (p0_, q0_)))] = t24 p0_ q0_ := by kernel_rfl
def t25_k74  : Nat → List AV → Tree := fun a75 l76 =>
  .tg a75 0
    (.asP (l76.getD 0 .un) fun o77 =>
    .asI .i64 (l76.getD 1 .un) fun n78 =>
    .asL (l76.getD 2 .un) fun o79 =>
    .nn o77 fun a80 a81 =>
    .ld a80 (a81 + 2) 1 fun l82 =>
    .nth l82 0 fun v83 =>
    .asL (.sc v83) fun o84 =>
    .slc 4 o84 (.some n78) .none .none fun o85 =>
    .lds 4 o85 (slN o85) fun l86 =>
    .app 4 24 o79 l86 (slN o85) fun o87 =>
    .nn o77 fun a88 a89 =>
    .st a88 (a89 + 2) [(.sl o87)] (
    .ret 0 [(.sc (.i .i64 (0 : Int)))]))
    (.fail)
def t25_k90  : Nat → List AV → Tree := fun a91 l92 =>
  .tg a91 0
    (.asP (l92.getD 0 .un) fun o93 =>
    .asI .i64 (l92.getD 1 .un) fun n94 =>
    .asL (l92.getD 2 .un) fun o95 =>
    .nn o93 fun a96 a97 =>
    .ld a96 (a97 + 2) 1 fun l98 =>
    .nth l98 0 fun v99 =>
    .asL (.sc v99) fun o100 =>
    .slc 4 o100 (.some n94) .none .none fun o101 =>
    .lds 4 o101 (slN o101) fun l102 =>
    .app 4 24 o95 l102 (slN o101) fun o103 =>
    .nn o93 fun a104 a105 =>
    .st a104 (a105 + 2) [(.sl o103)] (
    .ret 0 [(.sc (.i .i64 (0 : Int)))]))
    (.fail)
def t25_b8  : List AV → Tree := fun l9 =>
  .asP (l9.getD 0 .un) fun o10 =>
  .asI .i64 (l9.getD 1 .un) fun n11 =>
  .asI .u64 (l9.getD 2 .un) fun n12 =>
  .asP (l9.getD 3 .un) fun o13 =>
  .nn o13 fun a14 a15 =>
  .asI .i64 (l9.getD 4 .un) fun n16 =>
  .nn o10 fun a17 a18 =>
  .ld a17 (a18 + 2) 1 fun l19 =>
  .nth l19 0 fun v20 =>
  .asL (.sc v20) fun o21 =>
  cond (decide (n16 < (slLen o21)))
    (.nn o10 fun a22 a23 =>
    .ld a22 (a23 + 2) 1 fun l24 =>
    .nth l24 0 fun v25 =>
    .asL (.sc v25) fun o26 =>
    .ixS 4 o26 n16 fun a27 a28 a29 =>
    .ld a27 ((a28 + (a29 * 4)) + 0) 1 fun l30 =>
    .nth l30 0 fun v31 =>
    .asI .i64 (.sc v31) fun n32 =>
    cond (decide (n32 < n11))
      (.ret 0 [(.sc (.p o10)), (.sc (.i .i64 n11)), (.sc (.i .u64 n12)), (.sc (.p (.some (a14, a15)))), (.sc (.i .i64 (IntKind.wrap .i64 (n16 + (1 : Int)))))])
      (.ret 2 [(.sc (.p o10)), (.sc (.i .i64 n11)), (.sc (.i .u64 n12)), (.sc (.p (.some (a14, a15)))), (.sc (.i .i64 n16))]))
    (.ret 2 [(.sc (.p o10)), (.sc (.i .i64 n11)), (.sc (.i .u64 n12)), (.sc (.p (.some (a14, a15)))), (.sc (.i .i64 n16))])
def t25_k8  : Nat → List AV → Tree := fun a33 l34 =>
  .tg a33 2
    (.asP (l34.getD 0 .un) fun o35 =>
    .asI .i64 (l34.getD 1 .un) fun n36 =>
    .asI .u64 (l34.getD 2 .un) fun n37 =>
    .asP (l34.getD 3 .un) fun o38 =>
    .nn o38 fun a39 a40 =>
    .asI .i64 (l34.getD 4 .un) fun n41 =>
    .nn o35 fun a42 a43 =>
    .ld a42 (a43 + 2) 1 fun l44 =>
    .nth l44 0 fun v45 =>
    .asL (.sc v45) fun o46 =>
    .slc 4 o46 .none (.some n41) .none fun o47 =>
    .lds 4 o47 (slN o47) fun l48 =>
    .app 4 24 .none l48 (slN o47) fun o49 =>
    .ld a39 a40 2 fun l50 =>
    .nth l50 0 fun v51 =>
    .asI .u32 (.sc v51) fun n52 =>
    .nth l50 1 fun v53 =>
    .asI .u16 (.sc v53) fun n54 =>
    .al [(.i .i64 n36), (.i .u32 n52), (.i .u16 n54), (.i .u64 n37)] fun a55 =>
    .lds 4 (.some (.mk a55 0 1 1 4)) (slN (.some (.mk a55 0 1 1 4))) fun l56 =>
    .app 4 24 o49 l56 (slN (.some (.mk a55 0 1 1 4))) fun o57 =>
    .nn o35 fun a58 a59 =>
    .ld a58 (a59 + 2) 1 fun l60 =>
    .nth l60 0 fun v61 =>
    .asL (.sc v61) fun o62 =>
    cond (decide (n41 < (slLen o62)))
      (.nn o35 fun a63 a64 =>
      .ld a63 (a64 + 2) 1 fun l65 =>
      .nth l65 0 fun v66 =>
      .asL (.sc v66) fun o67 =>
      .ixS 4 o67 n41 fun a68 a69 a70 =>
      .ld a68 ((a69 + (a70 * 4)) + 0) 1 fun l71 =>
      .nth l71 0 fun v72 =>
      .asI .i64 (.sc v72) fun n73 =>
      .join (
        cond (n73 == n36)
          (.ret 0 [(.sc (.p o35)), (.sc (.i .i64 (IntKind.wrap .i64 (n41 + (1 : Int))))), (.sc (.sl o57))])
          (.ret 0 [(.sc (.p o35)), (.sc (.i .i64 n41)), (.sc (.sl o57))])) t25_k74)
      (.join (
        .ret 0 [(.sc (.p o35)), (.sc (.i .i64 n41)), (.sc (.sl o57))]) t25_k90))
    (.fail)
/-- (*scuttlebutt/scuttlebuttref16.Reach).See -/
def t25 (p0_ q0_ : Nat) (n1_ : Int) (n2_0 : Int) (n2_1 : Int) (n3_ : Int) : Tree :=
  .al [(.i .u32 n2_0), (.i .u16 n2_1)] fun a0 =>
  .ld a0 0 2 fun l1 =>
  .nth l1 0 fun v2 =>
  .asI .u32 (.sc v2) fun n3 =>
  .nth l1 1 fun v4 =>
  .asI .u16 (.sc v4) fun n5 =>
  .call 38 [(.ag [(.i .u32 n3), (.i .u16 n5)])] fun v6 =>
  .asB v6 fun b7 =>
  cond (decide (n1_ < (1 : Int)))
    (.ret 0 [(.sc (.i .i64 (1 : Int)))])
    (cond (decide (n1_ > (32 : Int)))
      (.ret 0 [(.sc (.i .i64 (1 : Int)))])
      (cond b7
        (.ret 0 [(.sc (.i .i64 (1 : Int)))])
        (cond (decide (n3_ > (4611686018427387904 : Int)))
          (.ret 0 [(.sc (.i .i64 (1 : Int)))])
          (.loop t25_b8 [(.sc (.p (.some (p0_, q0_)))), (.sc (.i .i64 n1_)), (.sc (.i .u64 n3_)), (.sc (.p (.some (a0, 0)))), (.sc (.i .i64 (0 : Int)))] t25_k8))))
theorem t25_eq (p0_ q0_ : Nat) (n1_ : Int) (n2_0 : Int) (n2_1 : Int) (n3_ : Int) : bodyK T (hs 25) Try.f25 [.sc (.p (some (p0_, q0_))), .sc (.i .i64 n1_), .ag [.i .u32 n2_0, .i .u16 n2_1], .sc (.i .u64 n3_)] = t25 p0_ q0_ n1_ n2_0 n2_1 n3_ := by kernel_rfl
def t27_b35  : List AV → Tree := fun l36 =>
  .asP (l36.getD 0 .un) fun o37 =>
  .asI .u64 (l36.getD 1 .un) fun n38 =>
  .asP (l36.getD 2 .un) fun o39 =>
  .nn o39 fun a40 a41 =>
  .asP (l36.getD 3 .un) fun o42 =>
  .nn o42 fun a43 a44 =>
  .asI .i64 (l36.getD 4 .un) fun n45 =>
  .asI .i64 (l36.getD 5 .un) fun n46 =>
  .asI .i64 (l36.getD 6 .un) fun n47 =>
  .asI .i64 (l36.getD 7 .un) fun n48 =>
  .nn o37 fun a49 a50 =>
  .ld a49 (a50 + 2) 1 fun l51 =>
  .nth l51 0 fun v52 =>
  .asL (.sc v52) fun o53 =>
  cond (decide (n48 < (slLen o53)))
    (.nn o37 fun a54 a55 =>
    .ld a54 (a55 + 2) 1 fun l56 =>
    .nth l56 0 fun v57 =>
    .asL (.sc v57) fun o58 =>
    .ixS 4 o58 n48 fun a59 a60 a61 =>
    .ld a59 ((a60 + (a61 * 4)) + 1) 2 fun l62 =>
    .nth l62 0 fun v63 =>
    .asI .u32 (.sc v63) fun n64 =>
    .nth l62 1 fun v65 =>
    .asI .u16 (.sc v65) fun n66 =>
    .nn o37 fun a67 a68 =>
    .ld a67 (a68 + 2) 1 fun l69 =>
    .nth l69 0 fun v70 =>
    .asL (.sc v70) fun o71 =>
    .ixS 4 o71 n46 fun a72 a73 a74 =>
    .ld a72 ((a73 + (a74 * 4)) + 1) 2 fun l75 =>
    .nth l75 0 fun v76 =>
    .asI .u32 (.sc v76) fun n77 =>
    .nth l75 1 fun v78 =>
    .asI .u16 (.sc v78) fun n79 =>
    cond ((n64 == n77) && ((n66 == n79) && .true))
      (.nn o37 fun a80 a81 =>
      .ld a80 (a81 + 2) 1 fun l82 =>
      .nth l82 0 fun v83 =>
      .asL (.sc v83) fun o84 =>
      .ixS 4 o84 n48 fun a85 a86 a87 =>
      .ld a85 ((a86 + (a87 * 4)) + 3) 1 fun l88 =>
      .nth l88 0 fun v89 =>
      .asI .u64 (.sc v89) fun n90 =>
      .nn o37 fun a91 a92 =>
      .ld a91 (a92 + 1) 1 fun l93 =>
      .nth l93 0 fun v94 =>
      .asI .u64 (.sc v94) fun n95 =>
      cond (decide ((IntKind.wrap .u64 (n90 + n95)) > n38))
        (.ret 0 [(.sc (.p o37)), (.sc (.i .u64 n38)), (.sc (.p (.some (a40, a41)))), (.sc (.p (.some (a43, a44)))), (.sc (.i .i64 n45)), (.sc (.i .i64 n46)), (.sc (.i .i64 (IntKind.wrap .i64 (n47 + (1 : Int))))), (.sc (.i .i64 (IntKind.wrap .i64 (n48 + (1 : Int)))))])
        (.ret 0 [(.sc (.p o37)), (.sc (.i .u64 n38)), (.sc (.p (.some (a40, a41)))), (.sc (.p (.some (a43, a44)))), (.sc (.i .i64 n45)), (.sc (.i .i64 n46)), (.sc (.i .i64 n47)), (.sc (.i .i64 (IntKind.wrap .i64 (n48 + (1 : Int)))))]))
      (.ret 0 [(.sc (.p o37)), (.sc (.i .u64 n38)), (.sc (.p (.some (a40, a41)))), (.sc (.p (.some (a43, a44)))), (.sc (.i .i64 n45)), (.sc (.i .i64 n46)), (.sc (.i .i64 n47)), (.sc (.i .i64 (IntKind.wrap .i64 (n48 + (1 : Int)))))]))
    (.ret 6 [(.sc (.p o37)), (.sc (.i .u64 n38)), (.sc (.p (.some (a40, a41)))), (.sc (.p (.some (a43, a44)))), (.sc (.i .i64 n45)), (.sc (.i .i64 n46)), (.sc (.i .i64 n47))])
def t27_k35  : Nat → List AV → Tree := fun a96 l97 =>
  .tg a96 6
    (.asP (l97.getD 0 .un) fun o98 =>
    .asI .u64 (l97.getD 1 .un) fun n99 =>
    .asP (l97.getD 2 .un) fun o100 =>
    .nn o100 fun a101 a102 =>
    .asP (l97.getD 3 .un) fun o103 =>
    .nn o103 fun a104 a105 =>
    .asI .i64 (l97.getD 4 .un) fun n106 =>
    .asI .i64 (l97.getD 5 .un) fun n107 =>
    .asI .i64 (l97.getD 6 .un) fun n108 =>
    .nn o98 fun a109 a110 =>
    .ld a109 (a110 + 2) 1 fun l111 =>
    .nth l111 0 fun v112 =>
    .asL (.sc v112) fun o113 =>
    .ixS 4 o113 n107 fun a114 a115 a116 =>
    .ld a114 ((a115 + (a116 * 4)) + 1) 2 fun l117 =>
    .nth l117 0 fun v118 =>
    .asI .u32 (.sc v118) fun n119 =>
    .nth l117 1 fun v120 =>
    .asI .u16 (.sc v120) fun n121 =>
    .ld a104 a105 2 fun l122 =>
    .nth l122 0 fun v123 =>
    .asI .u32 (.sc v123) fun n124 =>
    .nth l122 1 fun v125 =>
    .asI .u16 (.sc v125) fun n126 =>
    .call 39 [(.ag [(.i .u32 n119), (.i .u16 n121)]), (.ag [(.i .u32 n124), (.i .u16 n126)])] fun v127 =>
    .asI .i64 v127 fun n128 =>
    cond (decide (n108 > n106))
      (.nn o98 fun a129 a130 =>
      .ld a129 (a130 + 2) 1 fun l131 =>
      .nth l131 0 fun v132 =>
      .asL (.sc v132) fun o133 =>
      .ixS 4 o133 n107 fun a134 a135 a136 =>
      .ld a134 ((a135 + (a136 * 4)) + 1) 2 fun l137 =>
      .nth l137 0 fun v138 =>
      .asI .u32 (.sc v138) fun n139 =>
      .nth l137 1 fun v140 =>
      .asI .u16 (.sc v140) fun n141 =>
      .st a104 a105 [(.i .u32 n139), (.i .u16 n141)] (
      .ret 0 [(.sc (.p o98)), (.sc (.i .u64 n99)), (.sc (.p (.some (a101, a102)))), (.sc (.p (.some (a104, a105)))), (.sc (.i .i64 n108)), (.sc (.i .i64 (IntKind.wrap .i64 (n107 + (1 : Int)))))]))
      (cond (n108 == n106)
        (cond (decide (n128 < (0 : Int)))
          (.nn o98 fun a142 a143 =>
          .ld a142 (a143 + 2) 1 fun l144 =>
          .nth l144 0 fun v145 =>
          .asL (.sc v145) fun o146 =>
          .ixS 4 o146 n107 fun a147 a148 a149 =>
          .ld a147 ((a148 + (a149 * 4)) + 1) 2 fun l150 =>
          .nth l150 0 fun v151 =>
          .asI .u32 (.sc v151) fun n152 =>
          .nth l150 1 fun v153 =>
          .asI .u16 (.sc v153) fun n154 =>
          .st a104 a105 [(.i .u32 n152), (.i .u16 n154)] (
          .ret 0 [(.sc (.p o98)), (.sc (.i .u64 n99)), (.sc (.p (.some (a101, a102)))), (.sc (.p (.some (a104, a105)))), (.sc (.i .i64 n108)), (.sc (.i .i64 (IntKind.wrap .i64 (n107 + (1 : Int)))))]))
          (.ret 0 [(.sc (.p o98)), (.sc (.i .u64 n99)), (.sc (.p (.some (a101, a102)))), (.sc (.p (.some (a104, a105)))), (.sc (.i .i64 n106)), (.sc (.i .i64 (IntKind.wrap .i64 (n107 + (1 : Int)))))]))
        (.ret 0 [(.sc (.p o98)), (.sc (.i .u64 n99)), (.sc (.p (.some (a101, a102)))), (.sc (.p (.some (a104, a105)))), (.sc (.i .i64 n106)), (.sc (.i .i64 (IntKind.wrap .i64 (n107 + (1 : Int)))))])))
    (.fail)
def t27_b2  : List AV → Tree := fun l3 =>
  .asP (l3.getD 0 .un) fun o4 =>
  .asI .u64 (l3.getD 1 .un) fun n5 =>
  .asP (l3.getD 2 .un) fun o6 =>
  .nn o6 fun a7 a8 =>
  .asP (l3.getD 3 .un) fun o9 =>
  .nn o9 fun a10 a11 =>
  .asI .i64 (l3.getD 4 .un) fun n12 =>
  .asI .i64 (l3.getD 5 .un) fun n13 =>
  .nn o4 fun a14 a15 =>
  .ld a14 (a15 + 2) 1 fun l16 =>
  .nth l16 0 fun v17 =>
  .asL (.sc v17) fun o18 =>
  cond (decide (n13 < (slLen o18)))
    (.nn o4 fun a19 a20 =>
    .ld a19 (a20 + 2) 1 fun l21 =>
    .nth l21 0 fun v22 =>
    .asL (.sc v22) fun o23 =>
    .ixS 4 o23 n13 fun a24 a25 a26 =>
    .ld a24 ((a25 + (a26 * 4)) + 3) 1 fun l27 =>
    .nth l27 0 fun v28 =>
    .asI .u64 (.sc v28) fun n29 =>
    .nn o4 fun a30 a31 =>
    .ld a30 (a31 + 1) 1 fun l32 =>
    .nth l32 0 fun v33 =>
    .asI .u64 (.sc v33) fun n34 =>
    cond (decide ((IntKind.wrap .u64 (n29 + n34)) ≤ n5))
      (.ret 0 [(.sc (.p o4)), (.sc (.i .u64 n5)), (.sc (.p (.some (a7, a8)))), (.sc (.p (.some (a10, a11)))), (.sc (.i .i64 n12)), (.sc (.i .i64 (IntKind.wrap .i64 (n13 + (1 : Int)))))])
      (.loop t27_b35 [(.sc (.p o4)), (.sc (.i .u64 n5)), (.sc (.p (.some (a7, a8)))), (.sc (.p (.some (a10, a11)))), (.sc (.i .i64 n12)), (.sc (.i .i64 n13)), (.sc (.i .i64 (0 : Int))), (.sc (.i .i64 (0 : Int)))] t27_k35))
    (.ret 2 [(.sc (.p (.some (a7, a8)))), (.sc (.p (.some (a10, a11)))), (.sc (.i .i64 n12))])
def t27_k2  : Nat → List AV → Tree := fun a155 l156 =>
  .tg a155 2
    (.asP (l156.getD 0 .un) fun o157 =>
    .nn o157 fun a158 a159 =>
    .asP (l156.getD 1 .un) fun o160 =>
    .nn o160 fun a161 a162 =>
    .asI .i64 (l156.getD 2 .un) fun n163 =>
    .ld a161 a162 2 fun l164 =>
    .nth l164 0 fun v165 =>
    .asI .u32 (.sc v165) fun n166 =>
    .nth l164 1 fun v167 =>
    .asI .u16 (.sc v167) fun n168 =>
    .st a158 a159 [(.i .u32 n166), (.i .u16 n168)] (
    .ld a158 a159 2 fun l169 =>
    .nth l169 0 fun v170 =>
    .asI .u32 (.sc v170) fun n171 =>
    .nth l169 1 fun v172 =>
    .asI .u16 (.sc v172) fun n173 =>
    .ret 0 [(.tu [(.ag [(.i .u32 n171), (.i .u16 n173)]), (.sc (.b (decide (n163 > (0 : Int)))))])]))
    (.fail)
/-- (*scuttlebutt/scuttlebuttref16.Reach).Addr -/
def t27 (p0_ q0_ : Nat) (n1_ : Int) : Tree :=
  .al [(.i .u32 (0 : Int)), (.i .u16 (0 : Int))] fun a0 =>
  .al [(.i .u32 (0 : Int)), (.i .u16 (0 : Int))] fun a1 =>
  .st a1 0 [(.i .u32 (0 : Int)), (.i .u16 (0 : Int))] (
  .loop t27_b2 [(.sc (.p (.some (p0_, q0_)))), (.sc (.i .u64 n1_)), (.sc (.p (.some (a0, 0)))), (.sc (.p (.some (a1, 0)))), (.sc (.i .i64 (0 : Int))), (.sc (.i .i64 (0 : Int)))] t27_k2)
theorem t27_eq (p0_ q0_ : Nat) (n1_ : Int) : bodyK T (hs 27) Try.f27 [.sc (.p (some (p0_, q0_))), .sc (.i .u64 n1_)] = t27 p0_ q0_ n1_ := by kernel_rfl
def t28_b10  : List AV → Tree := fun l11 =>
  .asP (l11.getD 0 .un) fun o12 =>
  .asI .i64 (l11.getD 1 .un) fun n13 =>
  .nn o12 fun a14 a15 =>
  .ld a14 (a15 + 3) 1 fun l16 =>
  .nth l16 0 fun v17 =>
  .asL (.sc v17) fun o18 =>
  cond (decide (n13 < (slLen o18)))
    (.nn o12 fun a19 a20 =>
    .ld a19 (a20 + 3) 1 fun l21 =>
    .nth l21 0 fun v22 =>
    .asL (.sc v22) fun o23 =>
    .ixS 1 o23 n13 fun a24 a25 a26 =>
    .ld a24 (a25 + (a26 * 1)) 1 fun l27 =>
    .nth l27 0 fun v28 =>
    .asB (.sc v28) fun b29 =>
    cond b29
      (.ret 1 [(.sc (.i .i64 (1 : Int)))])
      (.ret 0 [(.sc (.p o12)), (.sc (.i .i64 (IntKind.wrap .i64 (n13 + (1 : Int)))))]))
    (.ret 2 [])
def t28_k10  : Nat → List AV → Tree := fun a30 l31 =>
  .tg a30 2
    (.ret 0 [(.sc (.i .i64 (2 : Int)))])
    (.tg a30 1
      (.asI .i64 (l31.getD 0 .un) fun n32 =>
      .ret 0 [(.sc (.i .i64 n32))])
      (.fail))
/-- (*scuttlebutt/scuttlebuttref16.Reach).Class -/
def t28 (p0_ q0_ : Nat) : Tree :=
  .nn (.some (p0_, q0_)) fun a0 a1 =>
  .ld a0 (a1 + 3) 1 fun l2 =>
  .nth l2 0 fun v3 =>
  .asL (.sc v3) fun o4 =>
  .nn (.some (p0_, q0_)) fun a5 a6 =>
  .ld a5 (a6 + 0) 1 fun l7 =>
  .nth l7 0 fun v8 =>
  .asI .i64 (.sc v8) fun n9 =>
  cond (decide ((slLen o4) < n9))
    (.ret 0 [(.sc (.i .i64 (0 : Int)))])
    (.loop t28_b10 [(.sc (.p (.some (p0_, q0_)))), (.sc (.i .i64 (0 : Int)))] t28_k10)
theorem t28_eq (p0_ q0_ : Nat) : bodyK T (hs 28) Try.f28 [.sc (.p (some (p0_, q0_)))] = t28 p0_ q0_ := by kernel_rfl
/-- (scuttlebutt/scuttlebuttref03.Addr).None -/
def t38 (n0_0 : Int) (n0_1 : Int) : Tree :=
  .al [(.i .u32 n0_0), (.i .u16 n0_1)] fun a0 =>
  .ld a0 (0 + 0) 1 fun l1 =>
  .nth l1 0 fun v2 =>
  .asI .u32 (.sc v2) fun n3 =>
  cond (n3 == (0 : Int))
    (.ret 0 [(.sc (.b .true))])
    (.ld a0 (0 + 1) 1 fun l4 =>
    .nth l4 0 fun v5 =>
    .asI .u16 (.sc v5) fun n6 =>
    .ret 0 [(.sc (.b (n6 == (0 : Int))))])
theorem t38_eq (n0_0 : Int) (n0_1 : Int) : bodyK T (hs 38) Try.f38 [.ag [.i .u32 n0_0, .i .u16 n0_1]] = t38 n0_0 n0_1 := by kernel_rfl
/-- scuttlebutt/scuttlebuttref03.Order -/
def t39 (n0_0 : Int) (n0_1 : Int) (n1_0 : Int) (n1_1 : Int) : Tree :=
  .al [(.i .u32 n0_0), (.i .u16 n0_1)] fun a0 =>
  .al [(.i .u32 n1_0), (.i .u16 n1_1)] fun a1 =>
  .ld a0 (0 + 0) 1 fun l2 =>
  .nth l2 0 fun v3 =>
  .asI .u32 (.sc v3) fun n4 =>
  .ld a1 (0 + 0) 1 fun l5 =>
  .nth l5 0 fun v6 =>
  .asI .u32 (.sc v6) fun n7 =>
  cond (decide (n4 < n7))
    (.ret 0 [(.sc (.i .i64 (-1 : Int)))])
    (.ld a0 (0 + 0) 1 fun l8 =>
    .nth l8 0 fun v9 =>
    .asI .u32 (.sc v9) fun n10 =>
    .ld a1 (0 + 0) 1 fun l11 =>
    .nth l11 0 fun v12 =>
    .asI .u32 (.sc v12) fun n13 =>
    cond (n10 == n13)
      (.ld a0 (0 + 1) 1 fun l14 =>
      .nth l14 0 fun v15 =>
      .asI .u16 (.sc v15) fun n16 =>
      .ld a1 (0 + 1) 1 fun l17 =>
      .nth l17 0 fun v18 =>
      .asI .u16 (.sc v18) fun n19 =>
      cond (decide (n16 < n19))
        (.ret 0 [(.sc (.i .i64 (-1 : Int)))])
        (.ld a0 0 2 fun l20 =>
        .nth l20 0 fun v21 =>
        .asI .u32 (.sc v21) fun n22 =>
        .nth l20 1 fun v23 =>
        .asI .u16 (.sc v23) fun n24 =>
        .ld a1 0 2 fun l25 =>
        .nth l25 0 fun v26 =>
        .asI .u32 (.sc v26) fun n27 =>
        .nth l25 1 fun v28 =>
        .asI .u16 (.sc v28) fun n29 =>
        cond ((n22 == n27) && ((n24 == n29) && .true))
          (.ret 0 [(.sc (.i .i64 (0 : Int)))])
          (.ret 0 [(.sc (.i .i64 (1 : Int)))])))
      (.ld a0 0 2 fun l30 =>
      .nth l30 0 fun v31 =>
      .asI .u32 (.sc v31) fun n32 =>
      .nth l30 1 fun v33 =>
      .asI .u16 (.sc v33) fun n34 =>
      .ld a1 0 2 fun l35 =>
      .nth l35 0 fun v36 =>
      .asI .u32 (.sc v36) fun n37 =>
      .nth l35 1 fun v38 =>
      .asI .u16 (.sc v38) fun n39 =>
      cond ((n32 == n37) && ((n34 == n39) && .true))
        (.ret 0 [(.sc (.i .i64 (0 : Int)))])
        (.ret 0 [(.sc (.i .i64 (1 : Int)))])))
theorem t39_eq (n0_0 : Int) (n0_1 : Int) (n1_0 : Int) (n1_1 : Int) : bodyK T (hs 39) Try.f39 [.ag [.i .u32 n0_0, .i .u16 n0_1], .ag [.i .u32 n1_0, .i .u16 n1_1]] = t39 n0_0 n0_1 n1_0 n1_1 := by kernel_rfl
end Go.Proofs.Ytbgmnnfajohmaaa
