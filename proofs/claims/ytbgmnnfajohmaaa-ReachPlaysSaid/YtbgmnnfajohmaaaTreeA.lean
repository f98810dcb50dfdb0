/- Trees of functions, printed by a program of mine; each is proved to be the function's. -/
import Derived.Test.YtbgmnnfajohmaaaGen
namespace Go.Proofs.Ytbgmnnfajohmaaa
open Go Go.Proofs.Ytbgmnnfajohmaaa.Fw
set_option linter.unusedVariables false
/-- scuttlebutt/reach.New -/
def t10 (n0_ : Int) (n1_ : Int) : Tree :=
  cond (decide (n0_ < (1 : Int)))
    (.ret 0 [(.tu [(.sc (.p .none)), (.sc (.i .i64 (1 : Int)))])])
    (cond (decide (n0_ > (8 : Int)))
      (.ret 0 [(.tu [(.sc (.p .none)), (.sc (.i .i64 (1 : Int)))])])
      (cond (n1_ == (0 : Int))
        (.ret 0 [(.tu [(.sc (.p .none)), (.sc (.i .i64 (1 : Int)))])])
        (cond (decide (n1_ > (1000000 : Int)))
          (.ret 0 [(.tu [(.sc (.p .none)), (.sc (.i .i64 (1 : Int)))])])
          (.al [(.i .i64 n0_), (.i .u64 n1_), (.i .i64 (0 : Int)), (.i .u32 (0 : Int)), (.i .u16 (0 : Int)), (.i .u64 (0 : Int)), (.i .i64 (0 : Int)), (.i .u32 (0 : Int)), (.i .u16 (0 : Int)), (.i .u64 (0 : Int)), (.i .i64 (0 : Int)), (.i .u32 (0 : Int)), (.i .u16 (0 : Int)), (.i .u64 (0 : Int)), (.i .i64 (0 : Int)), (.i .u32 (0 : Int)), (.i .u16 (0 : Int)), (.i .u64 (0 : Int)), (.i .i64 (0 : Int)), (.i .u32 (0 : Int)), (.i .u16 (0 : Int)), (.i .u64 (0 : Int)), (.i .i64 (0 : Int)), (.i .u32 (0 : Int)), (.i .u16 (0 : Int)), (.i .u64 (0 : Int)), (.i .i64 (0 : Int)), (.i .u32 (0 : Int)), (.i .u16 (0 : Int)), (.i .u64 (0 : Int)), (.i .i64 (0 : Int)), (.i .u32 (0 : Int)), (.i .u16 (0 : Int)), (.i .u64 (0 : Int)), (.i .i64 (0 : Int)), (.i .u32 (0 : Int)), (.i .u16 (0 : Int)), (.i .u64 (0 : Int)), (.i .i64 (0 : Int)), (.i .u32 (0 : Int)), (.i .u16 (0 : Int)), (.i .u64 (0 : Int)), (.i .i64 (0 : Int)), (.i .u32 (0 : Int)), (.i .u16 (0 : Int)), (.i .u64 (0 : Int)), (.i .i64 (0 : Int)), (.i .u32 (0 : Int)), (.i .u16 (0 : Int)), (.i .u64 (0 : Int)), (.i .i64 (0 : Int)), (.i .u32 (0 : Int)), (.i .u16 (0 : Int)), (.i .u64 (0 : Int)), (.i .i64 (0 : Int)), (.i .u32 (0 : Int)), (.i .u16 (0 : Int)), (.i .u64 (0 : Int)), (.i .i64 (0 : Int)), (.i .u32 (0 : Int)), (.i .u16 (0 : Int)), (.i .u64 (0 : Int)), (.i .i64 (0 : Int)), (.i .u32 (0 : Int)), (.i .u16 (0 : Int)), (.i .u64 (0 : Int)), (.i .i64 (0 : Int)), (.i .u32 (0 : Int)), (.i .u16 (0 : Int)), (.i .u64 (0 : Int)), (.i .i64 (0 : Int)), (.i .u32 (0 : Int)), (.i .u16 (0 : Int)), (.i .u64 (0 : Int)), (.i .i64 (0 : Int)), (.i .u32 (0 : Int)), (.i .u16 (0 : Int)), (.i .u64 (0 : Int)), (.i .i64 (0 : Int)), (.i .u32 (0 : Int)), (.i .u16 (0 : Int)), (.i .u64 (0 : Int)), (.i .i64 (0 : Int)), (.i .u32 (0 : Int)), (.i .u16 (0 : Int)), (.i .u64 (0 : Int)), (.i .i64 (0 : Int)), (.i .u32 (0 : Int)), (.i .u16 (0 : Int)), (.i .u64 (0 : Int)), (.i .i64 (0 : Int)), (.i .u32 (0 : Int)), (.i .u16 (0 : Int)), (.i .u64 (0 : Int)), (.i .i64 (0 : Int)), (.i .u32 (0 : Int)), (.i .u16 (0 : Int)), (.i .u64 (0 : Int)), (.i .i64 (0 : Int)), (.i .u32 (0 : Int)), (.i .u16 (0 : Int)), (.i .u64 (0 : Int)), (.i .i64 (0 : Int)), (.i .u32 (0 : Int)), (.i .u16 (0 : Int)), (.i .u64 (0 : Int)), (.i .i64 (0 : Int)), (.i .u32 (0 : Int)), (.i .u16 (0 : Int)), (.i .u64 (0 : Int)), (.i .i64 (0 : Int)), (.i .u32 (0 : Int)), (.i .u16 (0 : Int)), (.i .u64 (0 : Int)), (.i .i64 (0 : Int)), (.i .u32 (0 : Int)), (.i .u16 (0 : Int)), (.i .u64 (0 : Int)), (.i .i64 (0 : Int)), (.i .u32 (0 : Int)), (.i .u16 (0 : Int)), (.i .u64 (0 : Int)), (.i .i64 (0 : Int)), (.i .u32 (0 : Int)), (.i .u16 (0 : Int)), (.i .u64 (0 : Int)), (.i .i64 (0 : Int)), (.i .u32 (0 : Int)), (.i .u16 (0 : Int)), (.i .u64 (0 : Int)), (.i .i64 (0 : Int)), (.i .u32 (0 : Int)), (.i .u16 (0 : Int)), (.i .u64 (0 : Int)), (.sl .none), (.b .false), (.i .u32 (0 : Int)), (.b .false)] fun a0 =>
          .ret 0 [(.tu [(.sc (.p (.some (a0, 0)))), (.sc (.i .i64 (0 : Int)))])]))))
theorem t10_eq (n0_ : Int) (n1_ : Int) : bodyK T (hs 10) Try.f10 [.sc (.i .i64 n0_), .sc (.i .u64 n1_)] = t10 n0_ n1_ := by kernel_rfl
/-- (*scuttlebutt/reach.Reach).Round -/
def t11 (p0_ q0_ : Nat) (n1_ : Int) (n2_ : Int) : Tree :=
  cond (decide (n2_ > (4611686018427387904 : Int)))
    (.ret 0 [(.sc (.i .i64 (1 : Int)))])
    (.nn (.some (p0_, q0_)) fun a0 a1 =>
    .ld a0 (a1 + 135) 1 fun l2 =>
    .nth l2 0 fun v3 =>
    .asB (.sc v3) fun b4 =>
    cond b4
      (.ret 0 [(.sc (.i .i64 (4 : Int)))])
      (.nn (.some (p0_, q0_)) fun a5 a6 =>
      .st a5 (a6 + 135) [(.b .true)] (
      .nn (.some (p0_, q0_)) fun a7 a8 =>
      .st a7 (a8 + 136) [(.i .u32 n1_)] (
      .nn (.some (p0_, q0_)) fun a9 a10 =>
      .st a9 (a10 + 137) [(.b .false)] (
      .ret 0 [(.sc (.i .i64 (0 : Int)))])))))
theorem t11_eq (p0_ q0_ : Nat) (n1_ : Int) (n2_ : Int) : bodyK T (hs 11) Try.f11 [.sc (.p (some (p0_, q0_))), .sc (.i .u32 n1_), .sc (.i .u64 n2_)] = t11 p0_ q0_ n1_ n2_ := by kernel_rfl
/-- (*scuttlebutt/reach.Reach).Heard -/
def t12 (p0_ q0_ : Nat) (n1_ : Int) : Tree :=
  .nn (.some (p0_, q0_)) fun a0 a1 =>
  .ld a0 (a1 + 135) 1 fun l2 =>
  .nth l2 0 fun v3 =>
  .asB (.sc v3) fun b4 =>
  cond b4
    (.nn (.some (p0_, q0_)) fun a5 a6 =>
    .ld a5 (a6 + 136) 1 fun l7 =>
    .nth l7 0 fun v8 =>
    .asI .u32 (.sc v8) fun n9 =>
    .nn (.some (p0_, q0_)) fun a10 a11 =>
    .ld a10 (a11 + 137) 1 fun l12 =>
    .nth l12 0 fun v13 =>
    .asB (.sc v13) fun b14 =>
    cond b14
      (.nn (.some (p0_, q0_)) fun a15 a16 =>
      .st a15 (a16 + 137) [(.b .true)] (
      .ret 0 [(.sc (.b (n9 == n1_)))]))
      (.nn (.some (p0_, q0_)) fun a17 a18 =>
      .st a17 (a18 + 137) [(.b (n9 == n1_))] (
      .ret 0 [(.sc (.b (n9 == n1_)))])))
    (.nn (.some (p0_, q0_)) fun a19 a20 =>
    .ld a19 (a20 + 137) 1 fun l21 =>
    .nth l21 0 fun v22 =>
    .asB (.sc v22) fun b23 =>
    cond b23
      (.nn (.some (p0_, q0_)) fun a24 a25 =>
      .st a24 (a25 + 137) [(.b .true)] (
      .ret 0 [(.sc (.b .false))]))
      (.nn (.some (p0_, q0_)) fun a26 a27 =>
      .st a26 (a27 + 137) [(.b .false)] (
      .ret 0 [(.sc (.b .false))])))
theorem t12_eq (p0_ q0_ : Nat) (n1_ : Int) : bodyK T (hs 12) Try.f12 [.sc (.p (some (p0_, q0_))), .sc (.i .u32 n1_)] = t12 p0_ q0_ n1_ := by kernel_rfl
/-- (*scuttlebutt/reach.Reach).End -/
def t13 (p0_ q0_ : Nat) : Tree :=
  .nn (.some (p0_, q0_)) fun a0 a1 =>
  .ld a0 (a1 + 135) 1 fun l2 =>
  .nth l2 0 fun v3 =>
  .asB (.sc v3) fun b4 =>
  cond (!b4)
    (.ret 0 [(.sc (.b .false))])
    (.nn (.some (p0_, q0_)) fun a5 a6 =>
    .st a5 (a6 + 135) [(.b .false)] (
    .nn (.some (p0_, q0_)) fun a7 a8 =>
    .ld a7 (a8 + 134) 1 fun l9 =>
    .nth l9 0 fun v10 =>
    .asL (.sc v10) fun o11 =>
    .nn (.some (p0_, q0_)) fun a12 a13 =>
    .ld a12 (a13 + 137) 1 fun l14 =>
    .nth l14 0 fun v15 =>
    .asB (.sc v15) fun b16 =>
    .al [(.b b16)] fun a17 =>
    .lds 1 (.some (.mk a17 0 1 1 1)) (slN (.some (.mk a17 0 1 1 1))) fun l18 =>
    .app 1 1 o11 l18 (slN (.some (.mk a17 0 1 1 1))) fun o19 =>
    .nn (.some (p0_, q0_)) fun a20 a21 =>
    .st a20 (a21 + 134) [(.sl o19)] (
    .nn (.some (p0_, q0_)) fun a22 a23 =>
    .ld a22 (a23 + 134) 1 fun l24 =>
    .nth l24 0 fun v25 =>
    .asL (.sc v25) fun o26 =>
    .nn (.some (p0_, q0_)) fun a27 a28 =>
    .ld a27 (a28 + 134) 1 fun l29 =>
    .nth l29 0 fun v30 =>
    .asL (.sc v30) fun o31 =>
    .nn (.some (p0_, q0_)) fun a32 a33 =>
    .ld a32 (a33 + 0) 1 fun l34 =>
    .nth l34 0 fun v35 =>
    .asI .i64 (.sc v35) fun n36 =>
    .slc 1 o26 (.some (maxI (IntKind.wrap .i64 ((slLen o31) - n36)) (0 : Int))) .none .none fun o37 =>
    .call 29 [(.sc (.sl o37))] fun v38 =>
    .asL v38 fun o39 =>
    .nn (.some (p0_, q0_)) fun a40 a41 =>
    .st a40 (a41 + 134) [(.sl o39)] (
    .ret 0 [(.sc (.b .true))]))))
theorem t13_eq (p0_ q0_ : Nat) : bodyK T (hs 13) Try.f13 [.sc (.p (some (p0_, q0_)))] = t13 p0_ q0_ := by kernel_rfl
/-- (*scuttlebutt/reach.Reach).Class -/
def t14 (p0_ q0_ : Nat) : Tree :=
  .nn (.some (p0_, q0_)) fun a0 a1 =>
  .ld a0 (a1 + 134) 1 fun l2 =>
  .nth l2 0 fun v3 =>
  .asL (.sc v3) fun o4 =>
  .nn (.some (p0_, q0_)) fun a5 a6 =>
  .ld a5 (a6 + 0) 1 fun l7 =>
  .nth l7 0 fun v8 =>
  .asI .i64 (.sc v8) fun n9 =>
  cond (decide ((slLen o4) < n9))
    (.ret 0 [(.sc (.i .i64 (0 : Int)))])
    (.nn (.some (p0_, q0_)) fun a10 a11 =>
    .ld a10 (a11 + 134) 1 fun l12 =>
    .nth l12 0 fun v13 =>
    .asL (.sc v13) fun o14 =>
    .call 30 [(.sc (.sl o14)), (.sc (.b .true))] fun v15 =>
    .asB v15 fun b16 =>
    cond b16
      (.ret 0 [(.sc (.i .i64 (1 : Int)))])
      (.ret 0 [(.sc (.i .i64 (2 : Int)))]))
theorem t14_eq (p0_ q0_ : Nat) : bodyK T (hs 14) Try.f14 [.sc (.p (some (p0_, q0_)))] = t14 p0_ q0_ := by kernel_rfl
/-- (*scuttlebutt/reach.Reach).See -/
def t15 (p0_ q0_ : Nat) (n1_ : Int) (n2_0 : Int) (n2_1 : Int) (n3_ : Int) : Tree :=
  .al [(.i .u32 n2_0), (.i .u16 n2_1)] fun a0 =>
  cond (decide (n1_ < (1 : Int)))
    (.ret 0 [(.sc (.i .i64 (1 : Int)))])
    (cond (decide (n1_ > (32 : Int)))
      (.ret 0 [(.sc (.i .i64 (1 : Int)))])
      (.ld a0 0 2 fun l1 =>
      .nth l1 0 fun v2 =>
      .asI .u32 (.sc v2) fun n3 =>
      .nth l1 1 fun v4 =>
      .asI .u16 (.sc v4) fun n5 =>
      .call 17 [(.ag [(.i .u32 n3), (.i .u16 n5)])] fun v6 =>
      .asB v6 fun b7 =>
      cond b7
        (.ret 0 [(.sc (.i .i64 (1 : Int)))])
        (cond (decide (n3_ > (4611686018427387904 : Int)))
          (.ret 0 [(.sc (.i .i64 (1 : Int)))])
          (.ld a0 0 2 fun l8 =>
          .nth l8 0 fun v9 =>
          .asI .u32 (.sc v9) fun n10 =>
          .nth l8 1 fun v11 =>
          .asI .u16 (.sc v11) fun n12 =>
          .nn (.some (p0_, q0_)) fun a13 a14 =>
          .br ((decide ((0 : Int) ≤ n1_)) && (decide (n1_ < (33 : Int))))
            (.st a13 ((a14 + 2) + ((Int.toNat n1_) * 4)) [(.i .i64 n1_), (.i .u32 n10), (.i .u16 n12), (.i .u64 n3_)] (
            .ret 0 [(.sc (.i .i64 (0 : Int)))]))
            (.fail)))))
theorem t15_eq (p0_ q0_ : Nat) (n1_ : Int) (n2_0 : Int) (n2_1 : Int) (n3_ : Int) : bodyK T (hs 15) Try.f15 [.sc (.p (some (p0_, q0_))), .sc (.i .i64 n1_), .ag [.i .u32 n2_0, .i .u16 n2_1], .sc (.i .u64 n3_)] = t15 p0_ q0_ n1_ n2_0 n2_1 n3_ := by kernel_rfl
def t16_k29  : Nat → List AV → Tree := fun a30 l31 =>
  .tg a30 0
    (.asP (l31.getD 0 .un) fun o32 =>
    .nn o32 fun a33 a34 =>
    .asL (l31.getD 1 .un) fun o35 =>
    .asI .i64 (l31.getD 2 .un) fun n36 =>
    .asI .i64 (l31.getD 3 .un) fun n37 =>
    .asI .i64 (l31.getD 4 .un) fun n38 =>
    cond (decide ((IntKind.wrap .i64 (n37 + (1 : Int))) > n36))
      (.ixS 4 o35 n38 fun a39 a40 a41 =>
      .ld a39 ((a40 + (a41 * 4)) + 1) 2 fun l42 =>
      .nth l42 0 fun v43 =>
      .asI .u32 (.sc v43) fun n44 =>
      .nth l42 1 fun v45 =>
      .asI .u16 (.sc v45) fun n46 =>
      .st a33 a34 [(.i .u32 n44), (.i .u16 n46)] (
      .ret 0 [(.sc (.i .i64 (0 : Int))), (.sc (.p (.some (a33, a34)))), (.sc (.sl o35)), (.sc (.i .i64 (IntKind.wrap .i64 (n37 + (1 : Int))))), (.sc (.i .i64 (IntKind.wrap .i64 (n37 + (1 : Int))))), (.sc (.i .i64 (IntKind.wrap .i64 (n38 + (1 : Int)))))]))
      (.ret 0 [(.sc (.i .i64 (0 : Int))), (.sc (.p (.some (a33, a34)))), (.sc (.sl o35)), (.sc (.i .i64 n36)), (.sc (.i .i64 (IntKind.wrap .i64 (n37 + (1 : Int))))), (.sc (.i .i64 (IntKind.wrap .i64 (n38 + (1 : Int)))))]))
    (.fail)
def t16_k63  : Nat → List AV → Tree := fun a64 l65 =>
  .tg a64 0
    (.asP (l65.getD 0 .un) fun o66 =>
    .nn o66 fun a67 a68 =>
    .asL (l65.getD 1 .un) fun o69 =>
    .asI .i64 (l65.getD 2 .un) fun n70 =>
    .asI .i64 (l65.getD 3 .un) fun n71 =>
    .asI .i64 (l65.getD 4 .un) fun n72 =>
    cond (decide ((IntKind.wrap .i64 (n71 + (1 : Int))) > n70))
      (.ixS 4 o69 n72 fun a73 a74 a75 =>
      .ld a73 ((a74 + (a75 * 4)) + 1) 2 fun l76 =>
      .nth l76 0 fun v77 =>
      .asI .u32 (.sc v77) fun n78 =>
      .nth l76 1 fun v79 =>
      .asI .u16 (.sc v79) fun n80 =>
      .st a67 a68 [(.i .u32 n78), (.i .u16 n80)] (
      .ret 0 [(.sc (.i .i64 (0 : Int))), (.sc (.p (.some (a67, a68)))), (.sc (.sl o69)), (.sc (.i .i64 (IntKind.wrap .i64 (n71 + (1 : Int))))), (.sc (.i .i64 (IntKind.wrap .i64 (n71 + (1 : Int))))), (.sc (.i .i64 (IntKind.wrap .i64 (n72 + (1 : Int)))))]))
      (.ret 0 [(.sc (.i .i64 (0 : Int))), (.sc (.p (.some (a67, a68)))), (.sc (.sl o69)), (.sc (.i .i64 n70)), (.sc (.i .i64 (IntKind.wrap .i64 (n71 + (1 : Int))))), (.sc (.i .i64 (IntKind.wrap .i64 (n72 + (1 : Int)))))]))
    (.fail)
def t16_b14  : List AV → Tree := fun l15 =>
  .asI .i64 (l15.getD 0 .un) fun n16 =>
  .br (n16 == (0 : Int))
    (.asP (l15.getD 1 .un) fun o17 =>
    .nn o17 fun a18 a19 =>
    .asL (l15.getD 2 .un) fun o20 =>
    .asI .i64 (l15.getD 3 .un) fun n21 =>
    .asI .i64 (l15.getD 4 .un) fun n22 =>
    .asI .i64 (l15.getD 5 .un) fun n23 =>
    cond (n23 == (slLen o20))
      (.ld a18 a19 2 fun l24 =>
      .nth l24 0 fun v25 =>
      .asI .u32 (.sc v25) fun n26 =>
      .nth l24 1 fun v27 =>
      .asI .u16 (.sc v27) fun n28 =>
      .st a18 a19 [(.i .u32 n26), (.i .u16 n28)] (
      .ret 2 [(.sc (.p (.some (a18, a19)))), (.sc (.b (decide (n21 > (0 : Int)))))]))
      (cond (n23 == (0 : Int))
        (.join (
          .ret 0 [(.sc (.p (.some (a18, a19)))), (.sc (.sl o20)), (.sc (.i .i64 n21)), (.sc (.i .i64 (0 : Int))), (.sc (.i .i64 n23))]) t16_k29)
        (.ixS 4 o20 n23 fun a47 a48 a49 =>
        .ld a47 ((a48 + (a49 * 4)) + 1) 2 fun l50 =>
        .nth l50 0 fun v51 =>
        .asI .u32 (.sc v51) fun n52 =>
        .nth l50 1 fun v53 =>
        .asI .u16 (.sc v53) fun n54 =>
        .ixS 4 o20 (IntKind.wrap .i64 (n23 - (1 : Int))) fun a55 a56 a57 =>
        .ld a55 ((a56 + (a57 * 4)) + 1) 2 fun l58 =>
        .nth l58 0 fun v59 =>
        .asI .u32 (.sc v59) fun n60 =>
        .nth l58 1 fun v61 =>
        .asI .u16 (.sc v61) fun n62 =>
        .join (
          cond (!((n52 == n60) && ((n54 == n62) && .true)))
            (.ret 0 [(.sc (.p (.some (a18, a19)))), (.sc (.sl o20)), (.sc (.i .i64 n21)), (.sc (.i .i64 (0 : Int))), (.sc (.i .i64 n23))])
            (.ret 0 [(.sc (.p (.some (a18, a19)))), (.sc (.sl o20)), (.sc (.i .i64 n21)), (.sc (.i .i64 n22)), (.sc (.i .i64 n23))])) t16_k63)))
    (.fail)
def t16_k14  : Nat → List AV → Tree := fun a81 l82 =>
  .tg a81 2
    (.asP (l82.getD 0 .un) fun o83 =>
    .nn o83 fun a84 a85 =>
    .asB (l82.getD 1 .un) fun b86 =>
    .ld a84 a85 2 fun l87 =>
    .nth l87 0 fun v88 =>
    .asI .u32 (.sc v88) fun n89 =>
    .nth l87 1 fun v90 =>
    .asI .u16 (.sc v90) fun n91 =>
    .ret 0 [(.tu [(.ag [(.i .u32 n89), (.i .u16 n91)]), (.sc (.b b86))])])
    (.fail)
def t16_k3  : Nat → List AV → Tree := fun a12 l13 =>
  .tg a12 3
    (.loop t16_b14 ((.sc (.i .i64 (0 : Int))) :: l13) t16_k14)
    (.tg a12 1
      (.asP (l13.getD 0 .un) fun o92 =>
      .nn o92 fun a93 a94 =>
      .asB (l13.getD 1 .un) fun b95 =>
      .ld a93 a94 2 fun l96 =>
      .nth l96 0 fun v97 =>
      .asI .u32 (.sc v97) fun n98 =>
      .nth l96 1 fun v99 =>
      .asI .u16 (.sc v99) fun n100 =>
      .ret 0 [(.tu [(.ag [(.i .u32 n98), (.i .u16 n100)]), (.sc (.b b95))])])
      (.fail))
/-- (*scuttlebutt/reach.Reach).Addr -/
def t16 (p0_ q0_ : Nat) (n1_ : Int) : Tree :=
  .al [(.p (.some (p0_, q0_)))] fun a0 =>
  .al [(.i .u64 n1_)] fun a1 =>
  .al [(.i .u32 (0 : Int)), (.i .u16 (0 : Int))] fun a2 =>
  .join (
    .ld a0 0 1 fun l4 =>
    .nth l4 0 fun v5 =>
    .asP (.sc v5) fun o6 =>
    .call 18 [(.sc (.p o6))] fun v7 =>
    .asL v7 fun o8 =>
    .call 31 [(.sc (.sl o8)), (.sc (.fn 32 [] [(a0, 0), (a1, 0)]))] fun v9 =>
    .asL v9 fun o10 =>
    .call 33 [(.sc (.sl o10)), (.sc (.fn 34 [] []))] fun v11 =>
    .ret 3 [(.sc (.p (.some (a2, 0)))), (.sc (.sl o10)), (.sc (.i .i64 (0 : Int))), (.sc (.i .i64 (0 : Int))), (.sc (.i .i64 (0 : Int)))]) t16_k3
theorem t16_eq (p0_ q0_ : Nat) (n1_ : Int) : bodyK T (hs 16) Try.f16 [.sc (.p (some (p0_, q0_))), .sc (.i .u64 n1_)] = t16 p0_ q0_ n1_ := by kernel_rfl
/-- (scuttlebutt/addr.Addr).None -/
def t17 (n0_0 : Int) (n0_1 : Int) : Tree :=
  .al [(.i .u32 n0_0), (.i .u16 n0_1)] fun a0 =>
  .ld a0 (0 + 0) 1 fun l1 =>
  .nth l1 0 fun v2 =>
  .asI .u32 (.sc v2) fun n3 =>
  cond (n3 == (0 : Int))
    (.ret 0 [(.sc (.b .true))])
    (.ld a0 (0 + 1) 1 fun l4 =>
    .nth l4 0 fun v5 =>
    .asI .u16 (.sc v5) fun n6 =>
    .ret 0 [(.sc (.b (n6 == (0 : Int))))])
theorem t17_eq (n0_0 : Int) (n0_1 : Int) : bodyK T (hs 17) Try.f17 [.ag [.i .u32 n0_0, .i .u16 n0_1]] = t17 n0_0 n0_1 := by kernel_rfl
/-- (*scuttlebutt/reach.Reach).Votes -/
def t18 (p0_ q0_ : Nat) : Tree :=
  .nn (.some (p0_, q0_)) fun a0 a1 =>
  .slc 4 (.some (.mk a0 (a1 + 2) 33 33 4)) (.some (1 : Int)) .none .none fun o2 =>
  .call 36 [(.sc (.sl o2))] fun v3 =>
  .asL v3 fun o4 =>
  .call 31 [(.sc (.sl o4)), (.sc (.fn 37 [] []))] fun v5 =>
  .asL v5 fun o6 =>
  .ret 0 [(.sc (.sl o6))]
theorem t18_eq (p0_ q0_ : Nat) : bodyK T (hs 18) Try.f18 [.sc (.p (some (p0_, q0_)))] = t18 p0_ q0_ := by kernel_rfl
/-- (*scuttlebutt/reach.Reach).Reset -/
def t23 (p0_ q0_ : Nat) : Tree :=
  .nn (.some (p0_, q0_)) fun a0 a1 =>
  .ld a0 (a1 + 0) 1 fun l2 =>
  .nth l2 0 fun v3 =>
  .asI .i64 (.sc v3) fun n4 =>
  .nn (.some (p0_, q0_)) fun a5 a6 =>
  .ld a5 (a6 + 1) 1 fun l7 =>
  .nth l7 0 fun v8 =>
  .asI .u64 (.sc v8) fun n9 =>
  .nn (.some (p0_, q0_)) fun a10 a11 =>
  .st a10 a11 [(.i .i64 n4), (.i .u64 n9), (.i .i64 (0 : Int)), (.i .u32 (0 : Int)), (.i .u16 (0 : Int)), (.i .u64 (0 : Int)), (.i .i64 (0 : Int)), (.i .u32 (0 : Int)), (.i .u16 (0 : Int)), (.i .u64 (0 : Int)), (.i .i64 (0 : Int)), (.i .u32 (0 : Int)), (.i .u16 (0 : Int)), (.i .u64 (0 : Int)), (.i .i64 (0 : Int)), (.i .u32 (0 : Int)), (.i .u16 (0 : Int)), (.i .u64 (0 : Int)), (.i .i64 (0 : Int)), (.i .u32 (0 : Int)), (.i .u16 (0 : Int)), (.i .u64 (0 : Int)), (.i .i64 (0 : Int)), (.i .u32 (0 : Int)), (.i .u16 (0 : Int)), (.i .u64 (0 : Int)), (.i .i64 (0 : Int)), (.i .u32 (0 : Int)), (.i .u16 (0 : Int)), (.i .u64 (0 : Int)), (.i .i64 (0 : Int)), (.i .u32 (0 : Int)), (.i .u16 (0 : Int)), (.i .u64 (0 : Int)), (.i .i64 (0 : Int)), (.i .u32 (0 : Int)), (.i .u16 (0 : Int)), (.i .u64 (0 : Int)), (.i .i64 (0 : Int)), (.i .u32 (0 : Int)), (.i .u16 (0 : Int)), (.i .u64 (0 : Int)), (.i .i64 (0 : Int)), (.i .u32 (0 : Int)), (.i .u16 (0 : Int)), (.i .u64 (0 : Int)), (.i .i64 (0 : Int)), (.i .u32 (0 : Int)), (.i .u16 (0 : Int)), (.i .u64 (0 : Int)), (.i .i64 (0 : Int)), (.i .u32 (0 : Int)), (.i .u16 (0 : Int)), (.i .u64 (0 : Int)), (.i .i64 (0 : Int)), (.i .u32 (0 : Int)), (.i .u16 (0 : Int)), (.i .u64 (0 : Int)), (.i .i64 (0 : Int)), (.i .u32 (0 : Int)), (.i .u16 (0 : Int)), (.i .u64 (0 : Int)), (.i .i64 (0 : Int)), (.i .u32 (0 : Int)), (.i .u16 (0 : Int)), (.i .u64 (0 : Int)), (.i .i64 (0 : Int)), (.i .u32 (0 : Int)), (.i .u16 (0 : Int)), (.i .u64 (0 : Int)), (.i .i64 (0 : Int)), (.i .u32 (0 : Int)), (.i .u16 (0 : Int)), (.i .u64 (0 : Int)), (.i .i64 (0 : Int)), (.i .u32 (0 : Int)), (.i .u16 (0 : Int)), (.i .u64 (0 : Int)), (.i .i64 (0 : Int)), (.i .u32 (0 : Int)), (.i .u16 (0 : Int)), (.i .u64 (0 : Int)), (.i .i64 (0 : Int)), (.i .u32 (0 : Int)), (.i .u16 (0 : Int)), (.i .u64 (0 : Int)), (.i .i64 (0 : Int)), (.i .u32 (0 : Int)), (.i .u16 (0 : Int)), (.i .u64 (0 : Int)), (.i .i64 (0 : Int)), (.i .u32 (0 : Int)), (.i .u16 (0 : Int)), (.i .u64 (0 : Int)), (.i .i64 (0 : Int)), (.i .u32 (0 : Int)), (.i .u16 (0 : Int)), (.i .u64 (0 : Int)), (.i .i64 (0 : Int)), (.i .u32 (0 : Int)), (.i .u16 (0 : Int)), (.i .u64 (0 : Int)), (.i .i64 (0 : Int)), (.i .u32 (0 : Int)), (.i .u16 (0 : Int)), (.i .u64 (0 : Int)), (.i .i64 (0 : Int)), (.i .u32 (0 : Int)), (.i .u16 (0 : Int)), (.i .u64 (0 : Int)), (.i .i64 (0 : Int)), (.i .u32 (0 : Int)), (.i .u16 (0 : Int)), (.i .u64 (0 : Int)), (.i .i64 (0 : Int)), (.i .u32 (0 : Int)), (.i .u16 (0 : Int)), (.i .u64 (0 : Int)), (.i .i64 (0 : Int)), (.i .u32 (0 : Int)), (.i .u16 (0 : Int)), (.i .u64 (0 : Int)), (.i .i64 (0 : Int)), (.i .u32 (0 : Int)), (.i .u16 (0 : Int)), (.i .u64 (0 : Int)), (.i .i64 (0 : Int)), (.i .u32 (0 : Int)), (.i .u16 (0 : Int)), (.i .u64 (0 : Int)), (.i .i64 (0 : Int)), (.i .u32 (0 : Int)), (.i .u16 (0 : Int)), (.i .u64 (0 : Int)), (.sl .none), (.b .false), (.i .u32 (0 : Int)), (.b .false)] (
  .ret 0 [(.tu [])])
theorem t23_eq (p0_ q0_ : Nat) : bodyK T (hs 23) Try.f23 [.sc (.p (some (p0_, q0_)))] = t23 p0_ q0_ := by kernel_rfl
/-- scuttlebutt/scuttlebuttlaw16.ref -/
def t26 (n0_0 : Int) (n0_1 : Int) : Tree :=
  .al [(.i .u32 n0_0), (.i .u16 n0_1)] fun a0 =>
  .al [(.i .u32 (0 : Int)), (.i .u16 (0 : Int))] fun a1 =>
  .ld a0 (0 + 0) 1 fun l2 =>
  .nth l2 0 fun v3 =>
  .asI .u32 (.sc v3) fun n4 =>
  .ld a0 (0 + 1) 1 fun l5 =>
  .nth l5 0 fun v6 =>
  .asI .u16 (.sc v6) fun n7 =>
  .st a1 0 [(.i .u32 n4), (.i .u16 n7)] (
  .ld a1 0 2 fun l8 =>
  .nth l8 0 fun v9 =>
  .asI .u32 (.sc v9) fun n10 =>
  .nth l8 1 fun v11 =>
  .asI .u16 (.sc v11) fun n12 =>
  .ret 0 [(.ag [(.i .u32 n10), (.i .u16 n12)])])
theorem t26_eq (n0_0 : Int) (n0_1 : Int) : bodyK T (hs 26) Try.f26 [.ag [.i .u32 n0_0, .i .u16 n0_1]] = t26 n0_0 n0_1 := by kernel_rfl
/-- slices.Clone[[]bool,bool] -/
def t29 (s0_ : Option SlD) : Tree :=
  cond (Option.isNone s0_)
    (.ret 0 [(.sc (.sl .none))])
    (.al (zeros [(.b .false)] 0) fun a0 =>
    .lds 1 s0_ (slN s0_) fun l1 =>
    .app 1 1 (.some (.mk a0 0 0 0 1)) l1 (slN s0_) fun o2 =>
    .ret 0 [(.sc (.sl o2))])
theorem t29_eq (s0_ : Option SlD) : bodyK T (hs 29) Try.f29 [.sc (.sl s0_)] = t29 s0_ := by kernel_rfl
/-- slices.Contains[[]bool,bool] -/
def t30 (s0_ : Option SlD) (b1_ : Bool) : Tree :=
  .call 40 [(.sc (.sl s0_)), (.sc (.b b1_))] fun v0 =>
  .asI .i64 v0 fun n1 =>
  .ret 0 [(.sc (.b (decide (n1 ≥ (0 : Int)))))]
theorem t30_eq (s0_ : Option SlD) (b1_ : Bool) : bodyK T (hs 30) Try.f30 [.sc (.sl s0_), .sc (.b b1_)] = t30 s0_ b1_ := by kernel_rfl
/-- (*scuttlebutt/reach.Reach).Addr$1 -/
def t32 (n0_0 : Int) (n0_1 : Int) (n0_2 : Int) (n0_3 : Int) (p1_ q1_ : Nat) (p2_ q2_ : Nat) : Tree :=
  .al [(.i .i64 n0_0), (.i .u32 n0_1), (.i .u16 n0_2), (.i .u64 n0_3)] fun a0 =>
  .ld a0 (0 + 3) 1 fun l1 =>
  .nth l1 0 fun v2 =>
  .asI .u64 (.sc v2) fun n3 =>
  .ld p1_ q1_ 1 fun l4 =>
  .nth l4 0 fun v5 =>
  .asP (.sc v5) fun o6 =>
  .nn o6 fun a7 a8 =>
  .ld a7 (a8 + 1) 1 fun l9 =>
  .nth l9 0 fun v10 =>
  .asI .u64 (.sc v10) fun n11 =>
  .ld p2_ q2_ 1 fun l12 =>
  .nth l12 0 fun v13 =>
  .asI .u64 (.sc v13) fun n14 =>
  .ret 0 [(.sc (.b (decide ((IntKind.wrap .u64 (n3 + n11)) ≤ n14))))]
theorem t32_eq (n0_0 : Int) (n0_1 : Int) (n0_2 : Int) (n0_3 : Int) (p1_ q1_ : Nat) (p2_ q2_ : Nat) : bodyK T (hs 32) Try.f32 [.ag [.i .i64 n0_0, .i .u32 n0_1, .i .u16 n0_2, .i .u64 n0_3], .sc (.p (some (p1_, q1_))), .sc (.p (some (p2_, q2_)))] = t32 n0_0 n0_1 n0_2 n0_3 p1_ q1_ p2_ q2_ := by kernel_rfl
/-- (*scuttlebutt/reach.Reach).Addr$2 -/
def t34 (n0_0 : Int) (n0_1 : Int) (n0_2 : Int) (n0_3 : Int) (n1_0 : Int) (n1_1 : Int) (n1_2 : Int) (n1_3 : Int) : Tree :=
  .al [(.i .i64 n0_0), (.i .u32 n0_1), (.i .u16 n0_2), (.i .u64 n0_3)] fun a0 =>
  .al [(.i .i64 n1_0), (.i .u32 n1_1), (.i .u16 n1_2), (.i .u64 n1_3)] fun a1 =>
  .ld a0 (0 + 1) 2 fun l2 =>
  .nth l2 0 fun v3 =>
  .asI .u32 (.sc v3) fun n4 =>
  .nth l2 1 fun v5 =>
  .asI .u16 (.sc v5) fun n6 =>
  .ld a1 (0 + 1) 2 fun l7 =>
  .nth l7 0 fun v8 =>
  .asI .u32 (.sc v8) fun n9 =>
  .nth l7 1 fun v10 =>
  .asI .u16 (.sc v10) fun n11 =>
  .call 35 [(.ag [(.i .u32 n4), (.i .u16 n6)]), (.ag [(.i .u32 n9), (.i .u16 n11)])] fun v12 =>
  .asI .i64 v12 fun n13 =>
  .ret 0 [(.sc (.i .i64 n13))]
theorem t34_eq (n0_0 : Int) (n0_1 : Int) (n0_2 : Int) (n0_3 : Int) (n1_0 : Int) (n1_1 : Int) (n1_2 : Int) (n1_3 : Int) : bodyK T (hs 34) Try.f34 [.ag [.i .i64 n0_0, .i .u32 n0_1, .i .u16 n0_2, .i .u64 n0_3], .ag [.i .i64 n1_0, .i .u32 n1_1, .i .u16 n1_2, .i .u64 n1_3]] = t34 n0_0 n0_1 n0_2 n0_3 n1_0 n1_1 n1_2 n1_3 := by kernel_rfl
/-- scuttlebutt/addr.Order -/
def t35 (n0_0 : Int) (n0_1 : Int) (n1_0 : Int) (n1_1 : Int) : Tree :=
  .al [(.i .u32 n0_0), (.i .u16 n0_1)] fun a0 =>
  .al [(.i .u32 n1_0), (.i .u16 n1_1)] fun a1 =>
  .ld a0 (0 + 0) 1 fun l2 =>
  .nth l2 0 fun v3 =>
  .asI .u32 (.sc v3) fun n4 =>
  .ld a1 (0 + 0) 1 fun l5 =>
  .nth l5 0 fun v6 =>
  .asI .u32 (.sc v6) fun n7 =>
  .ld a0 (0 + 1) 1 fun l8 =>
  .nth l8 0 fun v9 =>
  .asI .u16 (.sc v9) fun n10 =>
  .ld a1 (0 + 1) 1 fun l11 =>
  .nth l11 0 fun v12 =>
  .asI .u16 (.sc v12) fun n13 =>
  .call 45 [(.sc (.i .u32 n4)), (.sc (.i .u32 n7))] fun v14 =>
  .asI .i64 v14 fun n15 =>
  .same a1 (0 + 1) [(.i .u16 n13)] (
  .same a0 (0 + 1) [(.i .u16 n10)] (
  .call 46 [(.sc (.i .u16 n10)), (.sc (.i .u16 n13))] fun v16 =>
  .asI .i64 v16 fun n17 =>
  .al [(.i .i64 n15), (.i .i64 n17)] fun a18 =>
  .call 44 [(.sc (.sl (.some (.mk a18 0 2 2 1))))] fun v19 =>
  .asI .i64 v19 fun n20 =>
  .ret 0 [(.sc (.i .i64 n20))]))
theorem t35_eq (n0_0 : Int) (n0_1 : Int) (n1_0 : Int) (n1_1 : Int) : bodyK T (hs 35) Try.f35 [.ag [.i .u32 n0_0, .i .u16 n0_1], .ag [.i .u32 n1_0, .i .u16 n1_1]] = t35 n0_0 n0_1 n1_0 n1_1 := by kernel_rfl
/-- slices.Clone[[]scuttlebutt/reach.Vote,scuttlebutt/reach.Vote] -/
def t36 (s0_ : Option SlD) : Tree :=
  cond (Option.isNone s0_)
    (.ret 0 [(.sc (.sl .none))])
    (.al (zeros [(.i .i64 (0 : Int)), (.i .u32 (0 : Int)), (.i .u16 (0 : Int)), (.i .u64 (0 : Int))] 0) fun a0 =>
    .lds 4 s0_ (slN s0_) fun l1 =>
    .app 4 24 (.some (.mk a0 0 0 0 4)) l1 (slN s0_) fun o2 =>
    .ret 0 [(.sc (.sl o2))])
theorem t36_eq (s0_ : Option SlD) : bodyK T (hs 36) Try.f36 [.sc (.sl s0_)] = t36 s0_ := by kernel_rfl
/-- (*scuttlebutt/reach.Reach).Votes$1 -/
def t37 (n0_0 : Int) (n0_1 : Int) (n0_2 : Int) (n0_3 : Int) : Tree :=
  .al [(.i .i64 n0_0), (.i .u32 n0_1), (.i .u16 n0_2), (.i .u64 n0_3)] fun a0 =>
  .ld a0 (0 + 0) 1 fun l1 =>
  .nth l1 0 fun v2 =>
  .asI .i64 (.sc v2) fun n3 =>
  .ret 0 [(.sc (.b (n3 == (0 : Int))))]
theorem t37_eq (n0_0 : Int) (n0_1 : Int) (n0_2 : Int) (n0_3 : Int) : bodyK T (hs 37) Try.f37 [.ag [.i .i64 n0_0, .i .u32 n0_1, .i .u16 n0_2, .i .u64 n0_3]] = t37 n0_0 n0_1 n0_2 n0_3 := by kernel_rfl
def t40_b0  : List AV → Tree := fun l1 =>
  .asL (l1.getD 0 .un) fun o2 =>
  .asB (l1.getD 1 .un) fun b3 =>
  .asI .i64 (l1.getD 2 .un) fun n4 =>
  .asI .i64 (l1.getD 3 .un) fun n5 =>
  cond (decide (n5 < n4))
    (.ixS 1 o2 n5 fun a6 a7 a8 =>
    .ld a6 (a7 + (a8 * 1)) 1 fun l9 =>
    .nth l9 0 fun v10 =>
    .asB (.sc v10) fun b11 =>
    cond (b3 == b11)
      (.ret 1 [(.sc (.i .i64 n5))])
      (.ret 0 [(.sc (.sl o2)), (.sc (.b b3)), (.sc (.i .i64 n4)), (.sc (.i .i64 (IntKind.wrap .i64 (n5 + (1 : Int)))))]))
    (.ret 2 [])
def t40_k0  : Nat → List AV → Tree := fun a12 l13 =>
  .tg a12 2
    (.ret 0 [(.sc (.i .i64 (-1 : Int)))])
    (.tg a12 1
      (.asI .i64 (l13.getD 0 .un) fun n14 =>
      .ret 0 [(.sc (.i .i64 n14))])
      (.fail))
/-- slices.Index[[]bool,bool] -/
def t40 (s0_ : Option SlD) (b1_ : Bool) : Tree :=
  .loop t40_b0 [(.sc (.sl s0_)), (.sc (.b b1_)), (.sc (.i .i64 (slLen s0_))), (.sc (.i .i64 (0 : Int)))] t40_k0
theorem t40_eq (s0_ : Option SlD) (b1_ : Bool) : bodyK T (hs 40) Try.f40 [.sc (.sl s0_), .sc (.b b1_)] = t40 s0_ b1_ := by kernel_rfl
/-- cmp.Compare[uint32] -/
def t45 (n0_ : Int) (n1_ : Int) : Tree :=
  .call 57 [(.sc (.i .u32 n0_))] fun v0 =>
  .asB v0 fun b1 =>
  .call 57 [(.sc (.i .u32 n1_))] fun v2 =>
  .asB v2 fun b3 =>
  cond b1
    (cond b3
      (.ret 0 [(.sc (.i .i64 (0 : Int)))])
      (.ret 0 [(.sc (.i .i64 (-1 : Int)))]))
    (cond b3
      (.ret 0 [(.sc (.i .i64 (1 : Int)))])
      (cond (decide (n0_ < n1_))
        (.ret 0 [(.sc (.i .i64 (-1 : Int)))])
        (cond (decide (n0_ > n1_))
          (.ret 0 [(.sc (.i .i64 (1 : Int)))])
          (.ret 0 [(.sc (.i .i64 (0 : Int)))]))))
theorem t45_eq (n0_ : Int) (n1_ : Int) : bodyK T (hs 45) Try.f45 [.sc (.i .u32 n0_), .sc (.i .u32 n1_)] = t45 n0_ n1_ := by kernel_rfl
/-- cmp.Compare[uint16] -/
def t46 (n0_ : Int) (n1_ : Int) : Tree :=
  .call 58 [(.sc (.i .u16 n0_))] fun v0 =>
  .asB v0 fun b1 =>
  .call 58 [(.sc (.i .u16 n1_))] fun v2 =>
  .asB v2 fun b3 =>
  cond b1
    (cond b3
      (.ret 0 [(.sc (.i .i64 (0 : Int)))])
      (.ret 0 [(.sc (.i .i64 (-1 : Int)))]))
    (cond b3
      (.ret 0 [(.sc (.i .i64 (1 : Int)))])
      (cond (decide (n0_ < n1_))
        (.ret 0 [(.sc (.i .i64 (-1 : Int)))])
        (cond (decide (n0_ > n1_))
          (.ret 0 [(.sc (.i .i64 (1 : Int)))])
          (.ret 0 [(.sc (.i .i64 (0 : Int)))]))))
theorem t46_eq (n0_ : Int) (n1_ : Int) : bodyK T (hs 46) Try.f46 [.sc (.i .u16 n0_), .sc (.i .u16 n1_)] = t46 n0_ n1_ := by kernel_rfl
/-- cmp.isNaN[uint32] -/
def t57 (n0_ : Int) : Tree :=
  .ret 0 [(.sc (.b (n0_ != n0_)))]
theorem t57_eq (n0_ : Int) : bodyK T (hs 57) Try.f57 [.sc (.i .u32 n0_)] = t57 n0_ := by kernel_rfl
/-- cmp.isNaN[uint16] -/
def t58 (n0_ : Int) : Tree :=
  .ret 0 [(.sc (.b (n0_ != n0_)))]
theorem t58_eq (n0_ : Int) : bodyK T (hs 58) Try.f58 [.sc (.i .u16 n0_)] = t58 n0_ := by kernel_rfl
end Go.Proofs.Ytbgmnnfajohmaaa
