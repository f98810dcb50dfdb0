/- Trees of functions, printed by a program of mine; each is proved to be the function's. -/
import Derived.Test.YtphhflkpdejodaaGen
namespace Go.Proofs.Ytphhflkpdejodaa
open Go Go.Proofs.Ytphhflkpdejodaa.Fw
set_option linter.unusedVariables false
/-- scuttlebutt/scuttlebuttref12.New -/
def t11 (n0_ : Int) : Tree :=
  cond (decide (n0_ < (1 : Int)))
    (.ret 0 [(.sc (.p .none))])
    (cond (decide (n0_ > (64 : Int)))
      (.ret 0 [(.sc (.p .none))])
      (.al [(.sl .none), (.i .i64 n0_)] fun a0 =>
      .ret 0 [(.sc (.p (.some (a0, 0))))]))
theorem t11_eq (n0_ : Int) : bodyK T (hs 11) Try.f11 [.sc (.i .i64 n0_)] = t11 n0_ := by kernel_rfl
def t13_b0  : List AV → Tree := fun l1 =>
  .asI .i64 (l1.getD 0 .un) fun n2 =>
  .asI .i64 (l1.getD 1 .un) fun n3 =>
  cond (decide (n2 > (1 : Int)))
    (.br .true
      (.ret 0 [(.sc (.i .i64 (IntKind.wrap .i64 (Int.tdiv n2 (2 : Int))))), (.sc (.i .i64 (IntKind.wrap .i64 (n3 + (1 : Int)))))])
      (.fail))
    (.ret 2 [(.sc (.i .i64 n3))])
def t13_k0  : Nat → List AV → Tree := fun a4 l5 =>
  .tg a4 2
    (.asI .i64 (l5.getD 0 .un) fun n6 =>
    .ret 0 [(.sc (.i .i64 (IntKind.wrap .i64 ((3 : Int) * n6))))])
    (.fail)
/-- scuttlebutt/scuttlebuttref12.Times -/
def t13 (n0_ : Int) : Tree :=
  .loop t13_b0 [(.sc (.i .i64 n0_)), (.sc (.i .i64 (1 : Int)))] t13_k0
theorem t13_eq (n0_ : Int) : bodyK T (hs 13) Try.f13 [.sc (.i .i64 n0_)] = t13 n0_ := by kernel_rfl
/-- (scuttlebutt/scuttlebuttlaw12.Thing).thing -/
def t14 (n0_0 : Int) (n0_1 : Int) (n0_2 : Int) (n0_3 : Int) (n0_4 : Int) (b0_5 : Bool) : Tree :=
  .al [(.i .i64 n0_0), (.i .i64 n0_1), (.i .u32 n0_2), (.i .u32 n0_3), (.i .u16 n0_4), (.b b0_5)] fun a0 =>
  .al [(.i .i64 (0 : Int)), (.i .i64 (0 : Int)), (.i .u32 (0 : Int)), (.i .u32 (0 : Int)), (.i .u16 (0 : Int))] fun a1 =>
  .ld a0 (0 + 5) 1 fun l2 =>
  .nth l2 0 fun v3 =>
  .asB (.sc v3) fun b4 =>
  cond (!b4)
    (.ld a0 (0 + 0) 5 fun l5 =>
    .nth l5 0 fun v6 =>
    .asI .i64 (.sc v6) fun n7 =>
    .nth l5 1 fun v8 =>
    .asI .i64 (.sc v8) fun n9 =>
    .nth l5 2 fun v10 =>
    .asI .u32 (.sc v10) fun n11 =>
    .nth l5 3 fun v12 =>
    .asI .u32 (.sc v12) fun n13 =>
    .nth l5 4 fun v14 =>
    .asI .u16 (.sc v14) fun n15 =>
    .st a1 0 [(.i .i64 n7), (.i .i64 n9), (.i .u32 n11), (.i .u32 n13), (.i .u16 n15)] (
    .ld a1 0 5 fun l16 =>
    .nth l16 0 fun v17 =>
    .asI .i64 (.sc v17) fun n18 =>
    .nth l16 1 fun v19 =>
    .asI .i64 (.sc v19) fun n20 =>
    .nth l16 2 fun v21 =>
    .asI .u32 (.sc v21) fun n22 =>
    .nth l16 3 fun v23 =>
    .asI .u32 (.sc v23) fun n24 =>
    .nth l16 4 fun v25 =>
    .asI .u16 (.sc v25) fun n26 =>
    .ret 0 [(.ag [(.i .i64 n18), (.i .i64 n20), (.i .u32 n22), (.i .u32 n24), (.i .u16 n26)])]))
    (.ld a0 ((0 + 0) + 0) 1 fun l27 =>
    .nth l27 0 fun v28 =>
    .asI .i64 (.sc v28) fun n29 =>
    .br .true
      (.ld a0 ((0 + 0) + 1) 1 fun l30 =>
      .nth l30 0 fun v31 =>
      .asI .i64 (.sc v31) fun n32 =>
      .br .true
        (.ld a0 ((0 + 0) + 2) 1 fun l33 =>
        .nth l33 0 fun v34 =>
        .asI .u32 (.sc v34) fun n35 =>
        .br .true
          (.ld a0 (((0 + 0) + 3) + 0) 1 fun l36 =>
          .nth l36 0 fun v37 =>
          .asI .u32 (.sc v37) fun n38 =>
          .br .true
            (.st a1 0 [(.i .i64 (IntKind.wrap .i64 ((1 : Int) + (IntKind.wrap .i64 (Int.tmod (IntKind.wrap .u64 n29) (6 : Int)))))), (.i .i64 (IntKind.wrap .i64 (Int.tmod (IntKind.wrap .u64 n32) (4 : Int)))), (.i .u32 (Int.tmod n35 (5 : Int))), (.i .u32 (IntKind.wrap .u32 ((1 : Int) + (Int.tmod n38 (3 : Int))))), (.i .u16 (7 : Int))] (
            .ld a1 0 5 fun l39 =>
            .nth l39 0 fun v40 =>
            .asI .i64 (.sc v40) fun n41 =>
            .nth l39 1 fun v42 =>
            .asI .i64 (.sc v42) fun n43 =>
            .nth l39 2 fun v44 =>
            .asI .u32 (.sc v44) fun n45 =>
            .nth l39 3 fun v46 =>
            .asI .u32 (.sc v46) fun n47 =>
            .nth l39 4 fun v48 =>
            .asI .u16 (.sc v48) fun n49 =>
            .ret 0 [(.ag [(.i .i64 n41), (.i .i64 n43), (.i .u32 n45), (.i .u32 n47), (.i .u16 n49)])]))
            (.fail))
          (.fail))
        (.fail))
      (.fail))
theorem t14_eq (n0_0 : Int) (n0_1 : Int) (n0_2 : Int) (n0_3 : Int) (n0_4 : Int) (b0_5 : Bool) : bodyK T (hs 14) Try.f14 [.ag [.i .i64 n0_0, .i .i64 n0_1, .i .u32 n0_2, .i .u32 n0_3, .i .u16 n0_4, .b b0_5]] = t14 n0_0 n0_1 n0_2 n0_3 n0_4 b0_5 := by kernel_rfl
def t15_b0  : List AV → Tree := fun l1 =>
  .asL (l1.getD 0 .un) fun o2 =>
  .asL (l1.getD 1 .un) fun o3 =>
  .asI .i64 (l1.getD 2 .un) fun n4 =>
  cond (decide (n4 < (slLen o2)))
    (.ixS 5 o2 n4 fun a5 a6 a7 =>
    .ld a5 (a6 + (a7 * 5)) 5 fun l8 =>
    .nth l8 0 fun v9 =>
    .asI .i64 (.sc v9) fun n10 =>
    .nth l8 1 fun v11 =>
    .asI .i64 (.sc v11) fun n12 =>
    .nth l8 2 fun v13 =>
    .asI .u32 (.sc v13) fun n14 =>
    .nth l8 3 fun v15 =>
    .asI .u32 (.sc v15) fun n16 =>
    .nth l8 4 fun v17 =>
    .asI .u16 (.sc v17) fun n18 =>
    .ixS 5 o3 n4 fun a19 a20 a21 =>
    .ld a19 (a20 + (a21 * 5)) 5 fun l22 =>
    .nth l22 0 fun v23 =>
    .asI .i64 (.sc v23) fun n24 =>
    .nth l22 1 fun v25 =>
    .asI .i64 (.sc v25) fun n26 =>
    .nth l22 2 fun v27 =>
    .asI .u32 (.sc v27) fun n28 =>
    .nth l22 3 fun v29 =>
    .asI .u32 (.sc v29) fun n30 =>
    .nth l22 4 fun v31 =>
    .asI .u16 (.sc v31) fun n32 =>
    .call 20 [(.ag [(.i .i64 n10), (.i .i64 n12), (.i .u32 n14), (.i .u32 n16), (.i .u16 n18)])] fun v33 =>
    .asA 5 v33 fun l34 =>
    .nth l34 0 fun v35 =>
    .asI .i64 (.sc v35) fun n36 =>
    .nth l34 1 fun v37 =>
    .asI .i64 (.sc v37) fun n38 =>
    .nth l34 2 fun v39 =>
    .asI .u32 (.sc v39) fun n40 =>
    .nth l34 3 fun v41 =>
    .asI .u32 (.sc v41) fun n42 =>
    .nth l34 4 fun v43 =>
    .asI .u16 (.sc v43) fun n44 =>
    .same a19 (a20 + (a21 * 5)) [(.i .i64 n24), (.i .i64 n26), (.i .u32 n28), (.i .u32 n30), (.i .u16 n32)] (
    cond (!((n36 == n24) && ((n38 == n26) && ((n40 == n28) && (((n42 == n30) && ((n44 == n32) && .true)) && .true)))))
      (.ret 1 [(.sc (.b .false))])
      (.ret 0 [(.sc (.sl o2)), (.sc (.sl o3)), (.sc (.i .i64 (IntKind.wrap .i64 (n4 + (1 : Int)))))])))
    (.ret 2 [])
def t15_k0  : Nat → List AV → Tree := fun a45 l46 =>
  .tg a45 2
    (.ret 0 [(.sc (.b .true))])
    (.tg a45 1
      (.asB (l46.getD 0 .un) fun b47 =>
      .ret 0 [(.sc (.b b47))])
      (.fail))
/-- scuttlebutt/scuttlebuttlaw12.alike -/
def t15 (s0_ : Option SlD) (s1_ : Option SlD) : Tree :=
  cond ((slLen s0_) != (slLen s1_))
    (.ret 0 [(.sc (.b .false))])
    (.loop t15_b0 [(.sc (.sl s0_)), (.sc (.sl s1_)), (.sc (.i .i64 (0 : Int)))] t15_k0)
theorem t15_eq (s0_ : Option SlD) (s1_ : Option SlD) : bodyK T (hs 15) Try.f15 [.sc (.sl s0_), .sc (.sl s1_)] = t15 s0_ s1_ := by kernel_rfl
def t17_b15  : List AV → Tree := fun l16 =>
  .asP (l16.getD 0 .un) fun o17 =>
  .asI .i64 (l16.getD 1 .un) fun n18 =>
  .asL (l16.getD 2 .un) fun o19 =>
  .asL (l16.getD 3 .un) fun o20 =>
  .asI .i64 (l16.getD 4 .un) fun n21 =>
  cond (decide (n21 < n18))
    (.ixS 6 o19 n21 fun a22 a23 a24 =>
    .ld a22 ((a23 + (a24 * 6)) + 0) 5 fun l25 =>
    .nth l25 0 fun v26 =>
    .asI .i64 (.sc v26) fun n27 =>
    .nth l25 1 fun v28 =>
    .asI .i64 (.sc v28) fun n29 =>
    .nth l25 2 fun v30 =>
    .asI .u32 (.sc v30) fun n31 =>
    .nth l25 3 fun v32 =>
    .asI .u32 (.sc v32) fun n33 =>
    .nth l25 4 fun v34 =>
    .asI .u16 (.sc v34) fun n35 =>
    .al [(.i .i64 n27), (.i .i64 n29), (.i .u32 n31), (.i .u32 n33), (.i .u16 n35)] fun a36 =>
    .lds 5 (.some (.mk a36 0 1 1 5)) (slN (.some (.mk a36 0 1 1 5))) fun l37 =>
    .app 5 32 o20 l37 (slN (.some (.mk a36 0 1 1 5))) fun o38 =>
    .ixS 6 o19 n21 fun a39 a40 a41 =>
    .ld a39 ((a40 + (a41 * 6)) + 5) 1 fun l42 =>
    .nth l42 0 fun v43 =>
    .asI .i64 (.sc v43) fun n44 =>
    cond (decide (n44 > (1 : Int)))
      (.ixS 6 o19 n21 fun a45 a46 a47 =>
      .ld a45 ((a46 + (a47 * 6)) + 0) 5 fun l48 =>
      .nth l48 0 fun v49 =>
      .asI .i64 (.sc v49) fun n50 =>
      .nth l48 1 fun v51 =>
      .asI .i64 (.sc v51) fun n52 =>
      .nth l48 2 fun v53 =>
      .asI .u32 (.sc v53) fun n54 =>
      .nth l48 3 fun v55 =>
      .asI .u32 (.sc v55) fun n56 =>
      .nth l48 4 fun v57 =>
      .asI .u16 (.sc v57) fun n58 =>
      .ixS 6 o19 n21 fun a59 a60 a61 =>
      .ld a59 ((a60 + (a61 * 6)) + 5) 1 fun l62 =>
      .nth l62 0 fun v63 =>
      .asI .i64 (.sc v63) fun n64 =>
      .call 28 [(.sc (.p o17)), (.ag [(.i .i64 n50), (.i .i64 n52), (.i .u32 n54), (.i .u32 n56), (.i .u16 n58), (.i .i64 (IntKind.wrap .i64 (n64 - (1 : Int))))])] fun v65 =>
      .ret 0 [(.sc (.p o17)), (.sc (.i .i64 n18)), (.sc (.sl o19)), (.sc (.sl o38)), (.sc (.i .i64 (IntKind.wrap .i64 (n21 + (1 : Int)))))])
      (.ret 0 [(.sc (.p o17)), (.sc (.i .i64 n18)), (.sc (.sl o19)), (.sc (.sl o38)), (.sc (.i .i64 (IntKind.wrap .i64 (n21 + (1 : Int)))))]))
    (.ret 2 [(.sc (.sl o20))])
def t17_k15  : Nat → List AV → Tree := fun a66 l67 =>
  .tg a66 2
    (.asL (l67.getD 0 .un) fun o68 =>
    .ret 0 [(.sc (.sl o68))])
    (.fail)
/-- (*scuttlebutt/scuttlebuttref12.Queue).Some -/
def t17 (p0_ q0_ : Nat) (n1_ : Int) : Tree :=
  .nn (.some (p0_, q0_)) fun a0 a1 =>
  .ld a0 (a1 + 0) 1 fun l2 =>
  .nth l2 0 fun v3 =>
  .asL (.sc v3) fun o4 =>
  .nn (.some (p0_, q0_)) fun a5 a6 =>
  .ld a5 (a6 + 0) 1 fun l7 =>
  .nth l7 0 fun v8 =>
  .asL (.sc v8) fun o9 =>
  .slc 6 o9 (.some (maxI (minI n1_ (slLen o4)) (0 : Int))) .none .none fun o10 =>
  .lds 6 o10 (slN o10) fun l11 =>
  .app 6 40 .none l11 (slN o10) fun o12 =>
  .nn (.some (p0_, q0_)) fun a13 a14 =>
  .st a13 (a14 + 0) [(.sl o12)] (
  .loop t17_b15 [(.sc (.p (.some (p0_, q0_)))), (.sc (.i .i64 (maxI (minI n1_ (slLen o4)) (0 : Int)))), (.sc (.sl o9)), (.sc (.sl .none)), (.sc (.i .i64 (0 : Int)))] t17_k15)
theorem t17_eq (p0_ q0_ : Nat) (n1_ : Int) : bodyK T (hs 17) Try.f17 [.sc (.p (some (p0_, q0_))), .sc (.i .i64 n1_)] = t17 p0_ q0_ n1_ := by kernel_rfl
def t19_b14  : List AV → Tree := fun l15 =>
  .asP (l15.getD 0 .un) fun o16 =>
  .asI .i64 (l15.getD 1 .un) fun n17 =>
  .asP (l15.getD 2 .un) fun o18 =>
  .nn o18 fun a19 a20 =>
  .asL (l15.getD 3 .un) fun o21 =>
  .asI .i64 (l15.getD 4 .un) fun n22 =>
  .nn o16 fun a23 a24 =>
  .ld a23 (a24 + 0) 1 fun l25 =>
  .nth l25 0 fun v26 =>
  .asL (.sc v26) fun o27 =>
  cond (decide (n22 < (slLen o27)))
    (.nn o16 fun a28 a29 =>
    .ld a28 (a29 + 0) 1 fun l30 =>
    .nth l30 0 fun v31 =>
    .asL (.sc v31) fun o32 =>
    .ixS 6 o32 n22 fun a33 a34 a35 =>
    .ld a33 (((a34 + (a35 * 6)) + 0) + 0) 1 fun l36 =>
    .nth l36 0 fun v37 =>
    .asI .i64 (.sc v37) fun n38 =>
    .ld a19 (a20 + 0) 1 fun l39 =>
    .nth l39 0 fun v40 =>
    .asI .i64 (.sc v40) fun n41 =>
    cond (n38 != n41)
      (.nn o16 fun a42 a43 =>
      .ld a42 (a43 + 0) 1 fun l44 =>
      .nth l44 0 fun v45 =>
      .asL (.sc v45) fun o46 =>
      .ixS 6 o46 n22 fun a47 a48 a49 =>
      .ld a47 (a48 + (a49 * 6)) 6 fun l50 =>
      .nth l50 0 fun v51 =>
      .asI .i64 (.sc v51) fun n52 =>
      .nth l50 1 fun v53 =>
      .asI .i64 (.sc v53) fun n54 =>
      .nth l50 2 fun v55 =>
      .asI .u32 (.sc v55) fun n56 =>
      .nth l50 3 fun v57 =>
      .asI .u32 (.sc v57) fun n58 =>
      .nth l50 4 fun v59 =>
      .asI .u16 (.sc v59) fun n60 =>
      .nth l50 5 fun v61 =>
      .asI .i64 (.sc v61) fun n62 =>
      .al [(.i .i64 n52), (.i .i64 n54), (.i .u32 n56), (.i .u32 n58), (.i .u16 n60), (.i .i64 n62)] fun a63 =>
      .lds 6 (.some (.mk a63 0 1 1 6)) (slN (.some (.mk a63 0 1 1 6))) fun l64 =>
      .app 6 40 o21 l64 (slN (.some (.mk a63 0 1 1 6))) fun o65 =>
      .ret 0 [(.sc (.p o16)), (.sc (.i .i64 n17)), (.sc (.p (.some (a19, a20)))), (.sc (.sl o65)), (.sc (.i .i64 (IntKind.wrap .i64 (n22 + (1 : Int)))))])
      (.ld a19 a20 5 fun l66 =>
      .nth l66 0 fun v67 =>
      .asI .i64 (.sc v67) fun n68 =>
      .nth l66 1 fun v69 =>
      .asI .i64 (.sc v69) fun n70 =>
      .nth l66 2 fun v71 =>
      .asI .u32 (.sc v71) fun n72 =>
      .nth l66 3 fun v73 =>
      .asI .u32 (.sc v73) fun n74 =>
      .nth l66 4 fun v75 =>
      .asI .u16 (.sc v75) fun n76 =>
      .nn o16 fun a77 a78 =>
      .ld a77 (a78 + 0) 1 fun l79 =>
      .nth l79 0 fun v80 =>
      .asL (.sc v80) fun o81 =>
      .ixS 6 o81 n22 fun a82 a83 a84 =>
      .ld a82 ((a83 + (a84 * 6)) + 0) 5 fun l85 =>
      .nth l85 0 fun v86 =>
      .asI .i64 (.sc v86) fun n87 =>
      .nth l85 1 fun v88 =>
      .asI .i64 (.sc v88) fun n89 =>
      .nth l85 2 fun v90 =>
      .asI .u32 (.sc v90) fun n91 =>
      .nth l85 3 fun v92 =>
      .asI .u32 (.sc v92) fun n93 =>
      .nth l85 4 fun v94 =>
      .asI .u16 (.sc v94) fun n95 =>
      .call 31 [(.ag [(.i .i64 n68), (.i .i64 n70), (.i .u32 n72), (.i .u32 n74), (.i .u16 n76)]), (.ag [(.i .i64 n87), (.i .i64 n89), (.i .u32 n91), (.i .u32 n93), (.i .u16 n95)])] fun v96 =>
      .asB v96 fun b97 =>
      cond (!b97)
        (.ret 1 [(.sc (.i .i64 (6 : Int)))])
        (.ret 0 [(.sc (.p o16)), (.sc (.i .i64 n17)), (.sc (.p (.some (a19, a20)))), (.sc (.sl o21)), (.sc (.i .i64 (IntKind.wrap .i64 (n22 + (1 : Int)))))])))
    (.ret 2 [(.sc (.p o16)), (.sc (.i .i64 n17)), (.sc (.p (.some (a19, a20)))), (.sc (.sl o21))])
def t19_k14  : Nat → List AV → Tree := fun a98 l99 =>
  .tg a98 2
    (.asP (l99.getD 0 .un) fun o100 =>
    .asI .i64 (l99.getD 1 .un) fun n101 =>
    .asP (l99.getD 2 .un) fun o102 =>
    .nn o102 fun a103 a104 =>
    .asL (l99.getD 3 .un) fun o105 =>
    .nn o100 fun a106 a107 =>
    .st a106 (a107 + 0) [(.sl o105)] (
    .ld a103 a104 5 fun l108 =>
    .nth l108 0 fun v109 =>
    .asI .i64 (.sc v109) fun n110 =>
    .nth l108 1 fun v111 =>
    .asI .i64 (.sc v111) fun n112 =>
    .nth l108 2 fun v113 =>
    .asI .u32 (.sc v113) fun n114 =>
    .nth l108 3 fun v115 =>
    .asI .u32 (.sc v115) fun n116 =>
    .nth l108 4 fun v117 =>
    .asI .u16 (.sc v117) fun n118 =>
    .call 28 [(.sc (.p o100)), (.ag [(.i .i64 n110), (.i .i64 n112), (.i .u32 n114), (.i .u32 n116), (.i .u16 n118), (.i .i64 n101)])] fun v119 =>
    .nn o100 fun a120 a121 =>
    .ld a120 (a121 + 0) 1 fun l122 =>
    .nth l122 0 fun v123 =>
    .asL (.sc v123) fun o124 =>
    .nn o100 fun a125 a126 =>
    .ld a125 (a126 + 0) 1 fun l127 =>
    .nth l127 0 fun v128 =>
    .asL (.sc v128) fun o129 =>
    .nn o100 fun a130 a131 =>
    .ld a130 (a131 + 1) 1 fun l132 =>
    .nth l132 0 fun v133 =>
    .asI .i64 (.sc v133) fun n134 =>
    .slc 6 o124 .none (.some (minI (slLen o129) n134)) .none fun o135 =>
    .nn o100 fun a136 a137 =>
    .st a136 (a137 + 0) [(.sl o135)] (
    .ret 0 [(.sc (.i .i64 (0 : Int)))])))
    (.tg a98 1
      (.asI .i64 (l99.getD 0 .un) fun n138 =>
      .ret 0 [(.sc (.i .i64 n138))])
      (.fail))
/-- (*scuttlebutt/scuttlebuttref12.Queue).Add -/
def t19 (p0_ q0_ : Nat) (n1_0 : Int) (n1_1 : Int) (n1_2 : Int) (n1_3 : Int) (n1_4 : Int) (n2_ : Int) : Tree :=
  .al [(.i .i64 n1_0), (.i .i64 n1_1), (.i .u32 n1_2), (.i .u32 n1_3), (.i .u16 n1_4)] fun a0 =>
  .ld a0 0 5 fun l1 =>
  .nth l1 0 fun v2 =>
  .asI .i64 (.sc v2) fun n3 =>
  .nth l1 1 fun v4 =>
  .asI .i64 (.sc v4) fun n5 =>
  .nth l1 2 fun v6 =>
  .asI .u32 (.sc v6) fun n7 =>
  .nth l1 3 fun v8 =>
  .asI .u32 (.sc v8) fun n9 =>
  .nth l1 4 fun v10 =>
  .asI .u16 (.sc v10) fun n11 =>
  .call 30 [(.ag [(.i .i64 n3), (.i .i64 n5), (.i .u32 n7), (.i .u32 n9), (.i .u16 n11)])] fun v12 =>
  .asB v12 fun b13 =>
  cond (!b13)
    (.ret 0 [(.sc (.i .i64 (1 : Int)))])
    (cond (decide (n2_ < (1 : Int)))
      (.ret 0 [(.sc (.i .i64 (1 : Int)))])
      (cond (decide (n2_ > (100 : Int)))
        (.ret 0 [(.sc (.i .i64 (1 : Int)))])
        (.loop t19_b14 [(.sc (.p (.some (p0_, q0_)))), (.sc (.i .i64 n2_)), (.sc (.p (.some (a0, 0)))), (.sc (.sl .none)), (.sc (.i .i64 (0 : Int)))] t19_k14)))
theorem t19_eq (p0_ q0_ : Nat) (n1_0 : Int) (n1_1 : Int) (n1_2 : Int) (n1_3 : Int) (n1_4 : Int) (n2_ : Int) : bodyK T (hs 19) Try.f19 [.sc (.p (some (p0_, q0_))), .ag [.i .i64 n1_0, .i .i64 n1_1, .i .u32 n1_2, .i .u32 n1_3, .i .u16 n1_4], .sc (.i .i64 n2_)] = t19 p0_ q0_ n1_0 n1_1 n1_2 n1_3 n1_4 n2_ := by kernel_rfl
/-- scuttlebutt/scuttlebuttlaw12.refRecord -/
def t20 (n0_0 : Int) (n0_1 : Int) (n0_2 : Int) (n0_3 : Int) (n0_4 : Int) : Tree :=
  .al [(.i .i64 n0_0), (.i .i64 n0_1), (.i .u32 n0_2), (.i .u32 n0_3), (.i .u16 n0_4)] fun a0 =>
  .al [(.i .i64 (0 : Int)), (.i .i64 (0 : Int)), (.i .u32 (0 : Int)), (.i .u32 (0 : Int)), (.i .u16 (0 : Int))] fun a1 =>
  .ld a0 (0 + 0) 1 fun l2 =>
  .nth l2 0 fun v3 =>
  .asI .i64 (.sc v3) fun n4 =>
  .ld a0 (0 + 1) 1 fun l5 =>
  .nth l5 0 fun v6 =>
  .asI .i64 (.sc v6) fun n7 =>
  .ld a0 (0 + 2) 1 fun l8 =>
  .nth l8 0 fun v9 =>
  .asI .u32 (.sc v9) fun n10 =>
  .ld a0 ((0 + 3) + 0) 1 fun l11 =>
  .nth l11 0 fun v12 =>
  .asI .u32 (.sc v12) fun n13 =>
  .ld a0 ((0 + 3) + 1) 1 fun l14 =>
  .nth l14 0 fun v15 =>
  .asI .u16 (.sc v15) fun n16 =>
  .st a1 0 [(.i .i64 n4), (.i .i64 n7), (.i .u32 n10), (.i .u32 n13), (.i .u16 n16)] (
  .ld a1 0 5 fun l17 =>
  .nth l17 0 fun v18 =>
  .asI .i64 (.sc v18) fun n19 =>
  .nth l17 1 fun v20 =>
  .asI .i64 (.sc v20) fun n21 =>
  .nth l17 2 fun v22 =>
  .asI .u32 (.sc v22) fun n23 =>
  .nth l17 3 fun v24 =>
  .asI .u32 (.sc v24) fun n25 =>
  .nth l17 4 fun v26 =>
  .asI .u16 (.sc v26) fun n27 =>
  .ret 0 [(.ag [(.i .i64 n19), (.i .i64 n21), (.i .u32 n23), (.i .u32 n25), (.i .u16 n27)])])
theorem t20_eq (n0_0 : Int) (n0_1 : Int) (n0_2 : Int) (n0_3 : Int) (n0_4 : Int) : bodyK T (hs 20) Try.f20 [.ag [.i .i64 n0_0, .i .i64 n0_1, .i .u32 n0_2, .i .u32 n0_3, .i .u16 n0_4]] = t20 n0_0 n0_1 n0_2 n0_3 n0_4 := by kernel_rfl
def t28_b1  : List AV → Tree := fun l2 =>
  .asP (l2.getD 0 .un) fun o3 =>
  .asP (l2.getD 1 .un) fun o4 =>
  .nn o4 fun a5 a6 =>
  .asI .i64 (l2.getD 2 .un) fun n7 =>
  .nn o3 fun a8 a9 =>
  .ld a8 (a9 + 0) 1 fun l10 =>
  .nth l10 0 fun v11 =>
  .asL (.sc v11) fun o12 =>
  cond (decide (n7 < (slLen o12)))
    (.nn o3 fun a13 a14 =>
    .ld a13 (a14 + 0) 1 fun l15 =>
    .nth l15 0 fun v16 =>
    .asL (.sc v16) fun o17 =>
    .ixS 6 o17 n7 fun a18 a19 a20 =>
    .ld a18 ((a19 + (a20 * 6)) + 5) 1 fun l21 =>
    .nth l21 0 fun v22 =>
    .asI .i64 (.sc v22) fun n23 =>
    .ld a5 (a6 + 5) 1 fun l24 =>
    .nth l24 0 fun v25 =>
    .asI .i64 (.sc v25) fun n26 =>
    cond (decide (n23 > n26))
      (.ret 0 [(.sc (.p o3)), (.sc (.p (.some (a5, a6)))), (.sc (.i .i64 (IntKind.wrap .i64 (n7 + (1 : Int)))))])
      (.nn o3 fun a27 a28 =>
      .ld a27 (a28 + 0) 1 fun l29 =>
      .nth l29 0 fun v30 =>
      .asL (.sc v30) fun o31 =>
      .ixS 6 o31 n7 fun a32 a33 a34 =>
      .ld a32 ((a33 + (a34 * 6)) + 5) 1 fun l35 =>
      .nth l35 0 fun v36 =>
      .asI .i64 (.sc v36) fun n37 =>
      .ld a5 (a6 + 5) 1 fun l38 =>
      .nth l38 0 fun v39 =>
      .asI .i64 (.sc v39) fun n40 =>
      cond (n37 == n40)
        (.nn o3 fun a41 a42 =>
        .ld a41 (a42 + 0) 1 fun l43 =>
        .nth l43 0 fun v44 =>
        .asL (.sc v44) fun o45 =>
        .ixS 6 o45 n7 fun a46 a47 a48 =>
        .ld a46 (((a47 + (a48 * 6)) + 0) + 0) 1 fun l49 =>
        .nth l49 0 fun v50 =>
        .asI .i64 (.sc v50) fun n51 =>
        .ld a5 ((a6 + 0) + 0) 1 fun l52 =>
        .nth l52 0 fun v53 =>
        .asI .i64 (.sc v53) fun n54 =>
        cond (decide (n51 < n54))
          (.ret 0 [(.sc (.p o3)), (.sc (.p (.some (a5, a6)))), (.sc (.i .i64 (IntKind.wrap .i64 (n7 + (1 : Int)))))])
          (.ret 2 [(.sc (.p o3)), (.sc (.p (.some (a5, a6)))), (.sc (.i .i64 n7))]))
        (.ret 2 [(.sc (.p o3)), (.sc (.p (.some (a5, a6)))), (.sc (.i .i64 n7))])))
    (.ret 2 [(.sc (.p o3)), (.sc (.p (.some (a5, a6)))), (.sc (.i .i64 n7))])
def t28_k1  : Nat → List AV → Tree := fun a55 l56 =>
  .tg a55 2
    (.asP (l56.getD 0 .un) fun o57 =>
    .asP (l56.getD 1 .un) fun o58 =>
    .nn o58 fun a59 a60 =>
    .asI .i64 (l56.getD 2 .un) fun n61 =>
    .nn o57 fun a62 a63 =>
    .ld a62 (a63 + 0) 1 fun l64 =>
    .nth l64 0 fun v65 =>
    .asL (.sc v65) fun o66 =>
    .slc 6 o66 .none (.some n61) .none fun o67 =>
    .lds 6 o67 (slN o67) fun l68 =>
    .app 6 40 .none l68 (slN o67) fun o69 =>
    .ld a59 a60 6 fun l70 =>
    .nth l70 0 fun v71 =>
    .asI .i64 (.sc v71) fun n72 =>
    .nth l70 1 fun v73 =>
    .asI .i64 (.sc v73) fun n74 =>
    .nth l70 2 fun v75 =>
    .asI .u32 (.sc v75) fun n76 =>
    .nth l70 3 fun v77 =>
    .asI .u32 (.sc v77) fun n78 =>
    .nth l70 4 fun v79 =>
    .asI .u16 (.sc v79) fun n80 =>
    .nth l70 5 fun v81 =>
    .asI .i64 (.sc v81) fun n82 =>
    .al [(.i .i64 n72), (.i .i64 n74), (.i .u32 n76), (.i .u32 n78), (.i .u16 n80), (.i .i64 n82)] fun a83 =>
    .lds 6 (.some (.mk a83 0 1 1 6)) (slN (.some (.mk a83 0 1 1 6))) fun l84 =>
    .app 6 40 o69 l84 (slN (.some (.mk a83 0 1 1 6))) fun o85 =>
    .nn o57 fun a86 a87 =>
    .ld a86 (a87 + 0) 1 fun l88 =>
    .nth l88 0 fun v89 =>
    .asL (.sc v89) fun o90 =>
    .slc 6 o90 (.some n61) .none .none fun o91 =>
    .lds 6 o91 (slN o91) fun l92 =>
    .app 6 40 o85 l92 (slN o91) fun o93 =>
    .nn o57 fun a94 a95 =>
    .st a94 (a95 + 0) [(.sl o93)] (
    .ret 0 [(.tu [])]))
    (.fail)
/-- (*scuttlebutt/scuttlebuttref12.Queue).put -/
def t28 (p0_ q0_ : Nat) (n1_0 : Int) (n1_1 : Int) (n1_2 : Int) (n1_3 : Int) (n1_4 : Int) (n1_5 : Int) : Tree :=
  .al [(.i .i64 n1_0), (.i .i64 n1_1), (.i .u32 n1_2), (.i .u32 n1_3), (.i .u16 n1_4), (.i .i64 n1_5)] fun a0 =>
  .loop t28_b1 [(.sc (.p (.some (p0_, q0_)))), (.sc (.p (.some (a0, 0)))), (.sc (.i .i64 (0 : Int)))] t28_k1
theorem t28_eq (p0_ q0_ : Nat) (n1_0 : Int) (n1_1 : Int) (n1_2 : Int) (n1_3 : Int) (n1_4 : Int) (n1_5 : Int) : bodyK T (hs 28) Try.f28 [.sc (.p (some (p0_, q0_))), .ag [.i .i64 n1_0, .i .i64 n1_1, .i .u32 n1_2, .i .u32 n1_3, .i .u16 n1_4, .i .i64 n1_5]] = t28 p0_ q0_ n1_0 n1_1 n1_2 n1_3 n1_4 n1_5 := by kernel_rfl
/-- scuttlebutt/scuttlebuttref04.Right -/
def t30 (n0_0 : Int) (n0_1 : Int) (n0_2 : Int) (n0_3 : Int) (n0_4 : Int) : Tree :=
  .al [(.i .i64 n0_0), (.i .i64 n0_1), (.i .u32 n0_2), (.i .u32 n0_3), (.i .u16 n0_4)] fun a0 =>
  .ld a0 (0 + 3) 2 fun l1 =>
  .nth l1 0 fun v2 =>
  .asI .u32 (.sc v2) fun n3 =>
  .nth l1 1 fun v4 =>
  .asI .u16 (.sc v4) fun n5 =>
  .call 42 [(.ag [(.i .u32 n3), (.i .u16 n5)])] fun v6 =>
  .asB v6 fun b7 =>
  .ld a0 (0 + 0) 1 fun l8 =>
  .nth l8 0 fun v9 =>
  .asI .i64 (.sc v9) fun n10 =>
  cond (decide (n10 ≥ (1 : Int)))
    (.ld a0 (0 + 0) 1 fun l11 =>
    .nth l11 0 fun v12 =>
    .asI .i64 (.sc v12) fun n13 =>
    cond (decide (n13 ≤ (32 : Int)))
      (.ld a0 (0 + 1) 1 fun l14 =>
      .nth l14 0 fun v15 =>
      .asI .i64 (.sc v15) fun n16 =>
      cond (decide (n16 ≥ (0 : Int)))
        (.ld a0 (0 + 1) 1 fun l17 =>
        .nth l17 0 fun v18 =>
        .asI .i64 (.sc v18) fun n19 =>
        cond (decide (n19 ≤ (3 : Int)))
          (.ret 0 [(.sc (.b (!b7)))])
          (.ret 0 [(.sc (.b .false))]))
        (.ret 0 [(.sc (.b .false))]))
      (.ret 0 [(.sc (.b .false))]))
    (.ret 0 [(.sc (.b .false))])
theorem t30_eq (n0_0 : Int) (n0_1 : Int) (n0_2 : Int) (n0_3 : Int) (n0_4 : Int) : bodyK T (hs 30) Try.f30 [.ag [.i .i64 n0_0, .i .i64 n0_1, .i .u32 n0_2, .i .u32 n0_3, .i .u16 n0_4]] = t30 n0_0 n0_1 n0_2 n0_3 n0_4 := by kernel_rfl
/-- scuttlebutt/scuttlebuttref04.Over -/
def t31 (n0_0 : Int) (n0_1 : Int) (n0_2 : Int) (n0_3 : Int) (n0_4 : Int) (n1_0 : Int) (n1_1 : Int) (n1_2 : Int) (n1_3 : Int) (n1_4 : Int) : Tree :=
  .al [(.i .i64 n0_0), (.i .i64 n0_1), (.i .u32 n0_2), (.i .u32 n0_3), (.i .u16 n0_4)] fun a0 =>
  .al [(.i .i64 n1_0), (.i .i64 n1_1), (.i .u32 n1_2), (.i .u32 n1_3), (.i .u16 n1_4)] fun a1 =>
  .ld a0 0 5 fun l2 =>
  .nth l2 0 fun v3 =>
  .asI .i64 (.sc v3) fun n4 =>
  .nth l2 1 fun v5 =>
  .asI .i64 (.sc v5) fun n6 =>
  .nth l2 2 fun v7 =>
  .asI .u32 (.sc v7) fun n8 =>
  .nth l2 3 fun v9 =>
  .asI .u32 (.sc v9) fun n10 =>
  .nth l2 4 fun v11 =>
  .asI .u16 (.sc v11) fun n12 =>
  .ld a1 0 5 fun l13 =>
  .nth l13 0 fun v14 =>
  .asI .i64 (.sc v14) fun n15 =>
  .nth l13 1 fun v16 =>
  .asI .i64 (.sc v16) fun n17 =>
  .nth l13 2 fun v18 =>
  .asI .u32 (.sc v18) fun n19 =>
  .nth l13 3 fun v20 =>
  .asI .u32 (.sc v20) fun n21 =>
  .nth l13 4 fun v22 =>
  .asI .u16 (.sc v22) fun n23 =>
  .call 43 [(.ag [(.i .i64 n4), (.i .i64 n6), (.i .u32 n8), (.i .u32 n10), (.i .u16 n12)]), (.ag [(.i .i64 n15), (.i .i64 n17), (.i .u32 n19), (.i .u32 n21), (.i .u16 n23)])] fun v24 =>
  .asI .i64 v24 fun n25 =>
  .ret 0 [(.sc (.b (decide (n25 > (0 : Int)))))]
theorem t31_eq (n0_0 : Int) (n0_1 : Int) (n0_2 : Int) (n0_3 : Int) (n0_4 : Int) (n1_0 : Int) (n1_1 : Int) (n1_2 : Int) (n1_3 : Int) (n1_4 : Int) : bodyK T (hs 31) Try.f31 [.ag [.i .i64 n0_0, .i .i64 n0_1, .i .u32 n0_2, .i .u32 n0_3, .i .u16 n0_4], .ag [.i .i64 n1_0, .i .i64 n1_1, .i .u32 n1_2, .i .u32 n1_3, .i .u16 n1_4]] = t31 n0_0 n0_1 n0_2 n0_3 n0_4 n1_0 n1_1 n1_2 n1_3 n1_4 := by kernel_rfl
/-- (scuttlebutt/scuttlebuttref03.Addr).None -/
def t42 (n0_0 : Int) (n0_1 : Int) : Tree :=
  .al [(.i .u32 n0_0), (.i .u16 n0_1)] fun a0 =>
  .ld a0 (0 + 0) 1 fun l1 =>
  .nth l1 0 fun v2 =>
  .asI .u32 (.sc v2) fun n3 =>
  cond (n3 == (0 : Int))
    (.ret 0 [(.sc (.b .true))])
    (.ld a0 (0 + 1) 1 fun l4 =>
    .nth l4 0 fun v5 =>
    .asI .u16 (.sc v5) fun n6 =>
    .ret 0 [(.sc (.b (n6 == (0 : Int))))])
theorem t42_eq (n0_0 : Int) (n0_1 : Int) : bodyK T (hs 42) Try.f42 [.ag [.i .u32 n0_0, .i .u16 n0_1]] = t42 n0_0 n0_1 := by kernel_rfl
/-- scuttlebutt/scuttlebuttref04.Order -/
def t43 (n0_0 : Int) (n0_1 : Int) (n0_2 : Int) (n0_3 : Int) (n0_4 : Int) (n1_0 : Int) (n1_1 : Int) (n1_2 : Int) (n1_3 : Int) (n1_4 : Int) : Tree :=
  .al [(.i .i64 n0_0), (.i .i64 n0_1), (.i .u32 n0_2), (.i .u32 n0_3), (.i .u16 n0_4)] fun a0 =>
  .al [(.i .i64 n1_0), (.i .i64 n1_1), (.i .u32 n1_2), (.i .u32 n1_3), (.i .u16 n1_4)] fun a1 =>
  .ld a0 (0 + 2) 1 fun l2 =>
  .nth l2 0 fun v3 =>
  .asI .u32 (.sc v3) fun n4 =>
  .ld a1 (0 + 2) 1 fun l5 =>
  .nth l5 0 fun v6 =>
  .asI .u32 (.sc v6) fun n7 =>
  cond (n4 != n7)
    (.ld a0 (0 + 2) 1 fun l8 =>
    .nth l8 0 fun v9 =>
    .asI .u32 (.sc v9) fun n10 =>
    .ld a1 (0 + 2) 1 fun l11 =>
    .nth l11 0 fun v12 =>
    .asI .u32 (.sc v12) fun n13 =>
    cond (decide (n10 < n13))
      (.ret 0 [(.sc (.i .i64 (-1 : Int)))])
      (.ret 0 [(.sc (.i .i64 (1 : Int)))]))
    (.ld a0 (0 + 1) 1 fun l14 =>
    .nth l14 0 fun v15 =>
    .asI .i64 (.sc v15) fun n16 =>
    .ld a1 (0 + 1) 1 fun l17 =>
    .nth l17 0 fun v18 =>
    .asI .i64 (.sc v18) fun n19 =>
    cond (n16 != n19)
      (.ld a0 (0 + 1) 1 fun l20 =>
      .nth l20 0 fun v21 =>
      .asI .i64 (.sc v21) fun n22 =>
      .ld a1 (0 + 1) 1 fun l23 =>
      .nth l23 0 fun v24 =>
      .asI .i64 (.sc v24) fun n25 =>
      cond (decide (n22 < n25))
        (.ret 0 [(.sc (.i .i64 (-1 : Int)))])
        (.ret 0 [(.sc (.i .i64 (1 : Int)))]))
      (.ld a0 (0 + 3) 2 fun l26 =>
      .nth l26 0 fun v27 =>
      .asI .u32 (.sc v27) fun n28 =>
      .nth l26 1 fun v29 =>
      .asI .u16 (.sc v29) fun n30 =>
      .ld a1 (0 + 3) 2 fun l31 =>
      .nth l31 0 fun v32 =>
      .asI .u32 (.sc v32) fun n33 =>
      .nth l31 1 fun v34 =>
      .asI .u16 (.sc v34) fun n35 =>
      .call 48 [(.ag [(.i .u32 n28), (.i .u16 n30)]), (.ag [(.i .u32 n33), (.i .u16 n35)])] fun v36 =>
      .asI .i64 v36 fun n37 =>
      .ret 0 [(.sc (.i .i64 n37))]))
theorem t43_eq (n0_0 : Int) (n0_1 : Int) (n0_2 : Int) (n0_3 : Int) (n0_4 : Int) (n1_0 : Int) (n1_1 : Int) (n1_2 : Int) (n1_3 : Int) (n1_4 : Int) : bodyK T (hs 43) Try.f43 [.ag [.i .i64 n0_0, .i .i64 n0_1, .i .u32 n0_2, .i .u32 n0_3, .i .u16 n0_4], .ag [.i .i64 n1_0, .i .i64 n1_1, .i .u32 n1_2, .i .u32 n1_3, .i .u16 n1_4]] = t43 n0_0 n0_1 n0_2 n0_3 n0_4 n1_0 n1_1 n1_2 n1_3 n1_4 := by kernel_rfl
/-- scuttlebutt/scuttlebuttref03.Order -/
def t48 (n0_0 : Int) (n0_1 : Int) (n1_0 : Int) (n1_1 : Int) : Tree :=
  .al [(.i .u32 n0_0), (.i .u16 n0_1)] fun a0 =>
  .al [(.i .u32 n1_0), (.i .u16 n1_1)] fun a1 =>
  .ld a0 (0 + 0) 1 fun l2 =>
  .nth l2 0 fun v3 =>
  .asI .u32 (.sc v3) fun n4 =>
  .ld a1 (0 + 0) 1 fun l5 =>
  .nth l5 0 fun v6 =>
  .asI .u32 (.sc v6) fun n7 =>
  cond (decide (n4 < n7))
    (.ret 0 [(.sc (.i .i64 (-1 : Int)))])
    (.ld a0 (0 + 0) 1 fun l8 =>
    .nth l8 0 fun v9 =>
    .asI .u32 (.sc v9) fun n10 =>
    .ld a1 (0 + 0) 1 fun l11 =>
    .nth l11 0 fun v12 =>
    .asI .u32 (.sc v12) fun n13 =>
    cond (n10 == n13)
      (.ld a0 (0 + 1) 1 fun l14 =>
      .nth l14 0 fun v15 =>
      .asI .u16 (.sc v15) fun n16 =>
      .ld a1 (0 + 1) 1 fun l17 =>
      .nth l17 0 fun v18 =>
      .asI .u16 (.sc v18) fun n19 =>
      cond (decide (n16 < n19))
        (.ret 0 [(.sc (.i .i64 (-1 : Int)))])
        (.ld a0 0 2 fun l20 =>
        .nth l20 0 fun v21 =>
        .asI .u32 (.sc v21) fun n22 =>
        .nth l20 1 fun v23 =>
        .asI .u16 (.sc v23) fun n24 =>
        .ld a1 0 2 fun l25 =>
        .nth l25 0 fun v26 =>
        .asI .u32 (.sc v26) fun n27 =>
        .nth l25 1 fun v28 =>
        .asI .u16 (.sc v28) fun n29 =>
        cond ((n22 == n27) && ((n24 == n29) && .true))
          (.ret 0 [(.sc (.i .i64 (0 : Int)))])
          (.ret 0 [(.sc (.i .i64 (1 : Int)))])))
      (.ld a0 0 2 fun l30 =>
      .nth l30 0 fun v31 =>
      .asI .u32 (.sc v31) fun n32 =>
      .nth l30 1 fun v33 =>
      .asI .u16 (.sc v33) fun n34 =>
      .ld a1 0 2 fun l35 =>
      .nth l35 0 fun v36 =>
      .asI .u32 (.sc v36) fun n37 =>
      .nth l35 1 fun v38 =>
      .asI .u16 (.sc v38) fun n39 =>
      cond ((n32 == n37) && ((n34 == n39) && .true))
        (.ret 0 [(.sc (.i .i64 (0 : Int)))])
        (.ret 0 [(.sc (.i .i64 (1 : Int)))])))
theorem t48_eq (n0_0 : Int) (n0_1 : Int) (n1_0 : Int) (n1_1 : Int) : bodyK T (hs 48) Try.f48 [.ag [.i .u32 n0_0, .i .u16 n0_1], .ag [.i .u32 n1_0, .i .u16 n1_1]] = t48 n0_0 n0_1 n1_0 n1_1 := by kernel_rfl
end Go.Proofs.Ytphhflkpdejodaa
