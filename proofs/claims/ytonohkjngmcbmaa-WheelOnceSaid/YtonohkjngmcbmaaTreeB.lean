/- Trees of functions, printed by a program of mine; each is proved to be the function's. -/
import Derived.Test.YtonohkjngmcbmaaGen
namespace Go.Proofs.Ytonohkjngmcbmaa
open Go Go.Proofs.Ytonohkjngmcbmaa.Fw
set_option linter.unusedVariables false
/-- (*scuttlebutt/scuttlebuttref10.Wheel).Stop -/
def t11 (p0_ q0_ : Nat) (n1_ : Int) (n2_ : Int) : Tree :=
  .call 23 [(.sc (.p (.some (p0_, q0_)))), (.sc (.i .i64 n1_)), (.sc (.i .i64 n2_))] fun v0 =>
  .asI .i64 v0 fun n1 =>
  cond (decide (n1 < (0 : Int)))
    (.ret 0 [(.sc (.b .false))])
    (.nn (.some (p0_, q0_)) fun a2 a3 =>
    .ld a2 (a3 + 0) 1 fun l4 =>
    .nth l4 0 fun v5 =>
    .asL (.sc v5) fun o6 =>
    .slc 3 o6 .none (.some n1) .none fun o7 =>
    .lds 3 o7 (slN o7) fun l8 =>
    .app 3 24 .none l8 (slN o7) fun o9 =>
    .nn (.some (p0_, q0_)) fun a10 a11 =>
    .ld a10 (a11 + 0) 1 fun l12 =>
    .nth l12 0 fun v13 =>
    .asL (.sc v13) fun o14 =>
    .slc 3 o14 (.some (IntKind.wrap .i64 (n1 + (1 : Int)))) .none .none fun o15 =>
    .lds 3 o15 (slN o15) fun l16 =>
    .app 3 24 o9 l16 (slN o15) fun o17 =>
    .nn (.some (p0_, q0_)) fun a18 a19 =>
    .st a18 (a19 + 0) [(.sl o17)] (
    .ret 0 [(.sc (.b .true))]))
theorem t11_eq (p0_ q0_ : Nat) (n1_ : Int) (n2_ : Int) : bodyK T (hs 11) Try.f11 [.sc (.p (some (p0_, q0_))), .sc (.i .i64 n1_), .sc (.i .i64 n2_)] = t11 p0_ q0_ n1_ n2_ := by kernel_rfl
/-- (*scuttlebutt/scuttlebuttref10.Wheel).Due -/
def t13 (p0_ q0_ : Nat) (n1_ : Int) : Tree :=
  .call 19 [(.sc (.p (.some (p0_, q0_))))] fun v0 =>
  .asL v0 fun o1 =>
  .loop (fun l2 =>
    .asP (l2.getD 0 .un) fun o3 =>
    .asI .u64 (l2.getD 1 .un) fun n4 =>
    .asL (l2.getD 2 .un) fun o5 =>
    .asI .i64 (l2.getD 3 .un) fun n6 =>
    cond (decide (n6 < (slLen o5)))
      (.ixS 3 o5 n6 fun a7 a8 a9 =>
      .ld a7 ((a8 + (a9 * 3)) + 2) 1 fun l10 =>
      .nth l10 0 fun v11 =>
      .asI .u64 (.sc v11) fun n12 =>
      cond (decide (n12 ≤ n4))
        (.ixS 3 o5 n6 fun a13 a14 a15 =>
        .ld a13 ((a14 + (a15 * 3)) + 0) 1 fun l16 =>
        .nth l16 0 fun v17 =>
        .asI .i64 (.sc v17) fun n18 =>
        .ixS 3 o5 n6 fun a19 a20 a21 =>
        .ld a19 ((a20 + (a21 * 3)) + 1) 1 fun l22 =>
        .nth l22 0 fun v23 =>
        .asI .i64 (.sc v23) fun n24 =>
        .call 11 [(.sc (.p o3)), (.sc (.i .i64 n18)), (.sc (.i .i64 n24))] fun v25 =>
        .asB v25 fun b26 =>
        .ret 0 [(.sc (.p o3)), (.sc (.i .u64 n4)), (.sc (.sl o5)), (.sc (.i .i64 (IntKind.wrap .i64 (n6 + (1 : Int)))))])
        (.ret 2 [(.sc (.sl o5)), (.sc (.i .i64 n6))]))
      (.ret 2 [(.sc (.sl o5)), (.sc (.i .i64 n6))])) [(.sc (.p (.some (p0_, q0_)))), (.sc (.i .u64 n1_)), (.sc (.sl o1)), (.sc (.i .i64 (0 : Int)))] fun a27 l28 =>
  .tg a27 2
    (.asL (l28.getD 0 .un) fun o29 =>
    .asI .i64 (l28.getD 1 .un) fun n30 =>
    .slc 3 o29 .none (.some n30) .none fun o31 =>
    .ret 0 [(.sc (.sl o31))])
    (.fail)
theorem t13_eq (p0_ q0_ : Nat) (n1_ : Int) : bodyK T (hs 13) Try.f13 [.sc (.p (some (p0_, q0_))), .sc (.i .u64 n1_)] = t13 p0_ q0_ n1_ := by kernel_rfl
/-- (*scuttlebutt/scuttlebuttref10.Wheel).At -/
def t15 (p0_ q0_ : Nat) (n1_ : Int) (n2_ : Int) : Tree :=
  .call 23 [(.sc (.p (.some (p0_, q0_)))), (.sc (.i .i64 n1_)), (.sc (.i .i64 n2_))] fun v0 =>
  .asI .i64 v0 fun n1 =>
  cond (decide (n1 < (0 : Int)))
    (.ret 0 [(.tu [(.sc (.i .u64 (0 : Int))), (.sc (.b .false))])])
    (.nn (.some (p0_, q0_)) fun a2 a3 =>
    .ld a2 (a3 + 0) 1 fun l4 =>
    .nth l4 0 fun v5 =>
    .asL (.sc v5) fun o6 =>
    .ixS 3 o6 n1 fun a7 a8 a9 =>
    .ld a7 ((a8 + (a9 * 3)) + 2) 1 fun l10 =>
    .nth l10 0 fun v11 =>
    .asI .u64 (.sc v11) fun n12 =>
    .ret 0 [(.tu [(.sc (.i .u64 n12)), (.sc (.b .true))])])
theorem t15_eq (p0_ q0_ : Nat) (n1_ : Int) (n2_ : Int) : bodyK T (hs 15) Try.f15 [.sc (.p (some (p0_, q0_))), .sc (.i .i64 n1_), .sc (.i .i64 n2_)] = t15 p0_ q0_ n1_ n2_ := by kernel_rfl
/-- (*scuttlebutt/scuttlebuttref10.Wheel).Set -/
def t17 (p0_ q0_ : Nat) (n1_ : Int) (n2_ : Int) (n3_ : Int) : Tree :=
  cond (decide (n1_ < (0 : Int)))
    (.ret 0 [(.sc (.i .i64 (1 : Int)))])
    (cond (decide (n1_ > (15 : Int)))
      (.ret 0 [(.sc (.i .i64 (1 : Int)))])
      (cond (decide (n2_ < (0 : Int)))
        (.ret 0 [(.sc (.i .i64 (1 : Int)))])
        (cond (decide (n2_ > (1023 : Int)))
          (.ret 0 [(.sc (.i .i64 (1 : Int)))])
          (.call 23 [(.sc (.p (.some (p0_, q0_)))), (.sc (.i .i64 n1_)), (.sc (.i .i64 n2_))] fun v0 =>
          .asI .i64 v0 fun n1 =>
          cond (decide (n1 < (0 : Int)))
            (.nn (.some (p0_, q0_)) fun a2 a3 =>
            .ld a2 (a3 + 0) 1 fun l4 =>
            .nth l4 0 fun v5 =>
            .asL (.sc v5) fun o6 =>
            cond (decide ((slLen o6) ≥ (256 : Int)))
              (.ret 0 [(.sc (.i .i64 (4 : Int)))])
              (.call 11 [(.sc (.p (.some (p0_, q0_)))), (.sc (.i .i64 n1_)), (.sc (.i .i64 n2_))] fun v7 =>
              .asB v7 fun b8 =>
              .nn (.some (p0_, q0_)) fun a9 a10 =>
              .ld a9 (a10 + 0) 1 fun l11 =>
              .nth l11 0 fun v12 =>
              .asL (.sc v12) fun o13 =>
              .al [(.i .i64 n1_), (.i .i64 n2_), (.i .u64 n3_)] fun a14 =>
              .lds 3 (.some (.mk a14 0 1 1 3)) (slN (.some (.mk a14 0 1 1 3))) fun l15 =>
              .app 3 24 o13 l15 (slN (.some (.mk a14 0 1 1 3))) fun o16 =>
              .nn (.some (p0_, q0_)) fun a17 a18 =>
              .st a17 (a18 + 0) [(.sl o16)] (
              .ret 0 [(.sc (.i .i64 (0 : Int)))])))
            (.call 11 [(.sc (.p (.some (p0_, q0_)))), (.sc (.i .i64 n1_)), (.sc (.i .i64 n2_))] fun v19 =>
            .asB v19 fun b20 =>
            .nn (.some (p0_, q0_)) fun a21 a22 =>
            .ld a21 (a22 + 0) 1 fun l23 =>
            .nth l23 0 fun v24 =>
            .asL (.sc v24) fun o25 =>
            .al [(.i .i64 n1_), (.i .i64 n2_), (.i .u64 n3_)] fun a26 =>
            .lds 3 (.some (.mk a26 0 1 1 3)) (slN (.some (.mk a26 0 1 1 3))) fun l27 =>
            .app 3 24 o25 l27 (slN (.some (.mk a26 0 1 1 3))) fun o28 =>
            .nn (.some (p0_, q0_)) fun a29 a30 =>
            .st a29 (a30 + 0) [(.sl o28)] (
            .ret 0 [(.sc (.i .i64 (0 : Int)))]))))))
theorem t17_eq (p0_ q0_ : Nat) (n1_ : Int) (n2_ : Int) (n3_ : Int) : bodyK T (hs 17) Try.f17 [.sc (.p (some (p0_, q0_))), .sc (.i .i64 n1_), .sc (.i .i64 n2_), .sc (.i .u64 n3_)] = t17 p0_ q0_ n1_ n2_ n3_ := by kernel_rfl
/-- (*scuttlebutt/scuttlebuttref10.Wheel).All -/
def t19 (p0_ q0_ : Nat) : Tree :=
  .loop (fun l0 =>
    .asP (l0.getD 0 .un) fun o1 =>
    .asL (l0.getD 1 .un) fun o2 =>
    .asI .i64 (l0.getD 2 .un) fun n3 =>
    .nn o1 fun a4 a5 =>
    .ld a4 (a5 + 0) 1 fun l6 =>
    .nth l6 0 fun v7 =>
    .asL (.sc v7) fun o8 =>
    cond (decide (n3 < (slLen o8)))
      (.loop (fun l9 =>
        .asP (l9.getD 0 .un) fun o10 =>
        .asL (l9.getD 1 .un) fun o11 =>
        .asI .i64 (l9.getD 2 .un) fun n12 =>
        .asI .i64 (l9.getD 3 .un) fun n13 =>
        cond (decide (n13 > (0 : Int)))
          (.ixS 3 o11 (IntKind.wrap .i64 (n13 - (1 : Int))) fun a14 a15 a16 =>
          .ld a14 ((a15 + (a16 * 3)) + 2) 1 fun l17 =>
          .nth l17 0 fun v18 =>
          .asI .u64 (.sc v18) fun n19 =>
          .nn o10 fun a20 a21 =>
          .ld a20 (a21 + 0) 1 fun l22 =>
          .nth l22 0 fun v23 =>
          .asL (.sc v23) fun o24 =>
          .ixS 3 o24 n12 fun a25 a26 a27 =>
          .ld a25 ((a26 + (a27 * 3)) + 2) 1 fun l28 =>
          .nth l28 0 fun v29 =>
          .asI .u64 (.sc v29) fun n30 =>
          cond (decide (n19 > n30))
            (.ret 0 [(.sc (.p o10)), (.sc (.sl o11)), (.sc (.i .i64 n12)), (.sc (.i .i64 (IntKind.wrap .i64 (n13 - (1 : Int)))))])
            (.ret 6 [(.sc (.p o10)), (.sc (.sl o11)), (.sc (.i .i64 n12)), (.sc (.i .i64 n13))]))
          (.ret 6 [(.sc (.p o10)), (.sc (.sl o11)), (.sc (.i .i64 n12)), (.sc (.i .i64 n13))])) [(.sc (.p o1)), (.sc (.sl o2)), (.sc (.i .i64 n3)), (.sc (.i .i64 (slLen o2)))] fun a31 l32 =>
      .tg a31 6
        (.asP (l32.getD 0 .un) fun o33 =>
        .asL (l32.getD 1 .un) fun o34 =>
        .asI .i64 (l32.getD 2 .un) fun n35 =>
        .asI .i64 (l32.getD 3 .un) fun n36 =>
        .slc 3 o34 .none (.some n36) .none fun o37 =>
        .lds 3 o37 (slN o37) fun l38 =>
        .app 3 24 .none l38 (slN o37) fun o39 =>
        .nn o33 fun a40 a41 =>
        .ld a40 (a41 + 0) 1 fun l42 =>
        .nth l42 0 fun v43 =>
        .asL (.sc v43) fun o44 =>
        .ixS 3 o44 n35 fun a45 a46 a47 =>
        .ld a45 (a46 + (a47 * 3)) 3 fun l48 =>
        .nth l48 0 fun v49 =>
        .asI .i64 (.sc v49) fun n50 =>
        .nth l48 1 fun v51 =>
        .asI .i64 (.sc v51) fun n52 =>
        .nth l48 2 fun v53 =>
        .asI .u64 (.sc v53) fun n54 =>
        .al [(.i .i64 n50), (.i .i64 n52), (.i .u64 n54)] fun a55 =>
        .lds 3 (.some (.mk a55 0 1 1 3)) (slN (.some (.mk a55 0 1 1 3))) fun l56 =>
        .app 3 24 o39 l56 (slN (.some (.mk a55 0 1 1 3))) fun o57 =>
        .slc 3 o34 (.some n36) .none .none fun o58 =>
        .lds 3 o58 (slN o58) fun l59 =>
        .app 3 24 o57 l59 (slN o58) fun o60 =>
        .ret 0 [(.sc (.p o33)), (.sc (.sl o60)), (.sc (.i .i64 (IntKind.wrap .i64 (n35 + (1 : Int)))))])
        (.fail))
      (.ret 2 [(.sc (.sl o2))])) [(.sc (.p (.some (p0_, q0_)))), (.sc (.sl .none)), (.sc (.i .i64 (0 : Int)))] fun a61 l62 =>
  .tg a61 2
    (.asL (l62.getD 0 .un) fun o63 =>
    .ret 0 [(.sc (.sl o63))])
    (.fail)
theorem t19_eq (p0_ q0_ : Nat) : bodyK T (hs 19) Try.f19 [.sc (.p (some (p0_, q0_)))] = t19 p0_ q0_ := by kernel_rfl
/-- (*scuttlebutt/scuttlebuttref10.Wheel).find -/
def t23 (p0_ q0_ : Nat) (n1_ : Int) (n2_ : Int) : Tree :=
  .loop (fun l0 =>
    .asP (l0.getD 0 .un) fun o1 =>
    .asI .i64 (l0.getD 1 .un) fun n2 =>
    .asI .i64 (l0.getD 2 .un) fun n3 =>
    .asI .i64 (l0.getD 3 .un) fun n4 =>
    .nn o1 fun a5 a6 =>
    .ld a5 (a6 + 0) 1 fun l7 =>
    .nth l7 0 fun v8 =>
    .asL (.sc v8) fun o9 =>
    cond (decide (n4 < (slLen o9)))
      (.nn o1 fun a10 a11 =>
      .ld a10 (a11 + 0) 1 fun l12 =>
      .nth l12 0 fun v13 =>
      .asL (.sc v13) fun o14 =>
      .ixS 3 o14 n4 fun a15 a16 a17 =>
      .ld a15 ((a16 + (a17 * 3)) + 0) 1 fun l18 =>
      .nth l18 0 fun v19 =>
      .asI .i64 (.sc v19) fun n20 =>
      cond (n20 == n2)
        (.nn o1 fun a21 a22 =>
        .ld a21 (a22 + 0) 1 fun l23 =>
        .nth l23 0 fun v24 =>
        .asL (.sc v24) fun o25 =>
        .ixS 3 o25 n4 fun a26 a27 a28 =>
        .ld a26 ((a27 + (a28 * 3)) + 1) 1 fun l29 =>
        .nth l29 0 fun v30 =>
        .asI .i64 (.sc v30) fun n31 =>
        cond (n31 == n3)
          (.ret 1 [(.sc (.i .i64 n4))])
          (.ret 0 [(.sc (.p o1)), (.sc (.i .i64 n2)), (.sc (.i .i64 n3)), (.sc (.i .i64 (IntKind.wrap .i64 (n4 + (1 : Int)))))]))
        (.ret 0 [(.sc (.p o1)), (.sc (.i .i64 n2)), (.sc (.i .i64 n3)), (.sc (.i .i64 (IntKind.wrap .i64 (n4 + (1 : Int)))))]))
      (.ret 2 [])) [(.sc (.p (.some (p0_, q0_)))), (.sc (.i .i64 n1_)), (.sc (.i .i64 n2_)), (.sc (.i .i64 (0 : Int)))] fun a32 l33 =>
  .tg a32 2
    (.ret 0 [(.sc (.i .i64 (-1 : Int)))])
    (.tg a32 1
      (.asI .i64 (l33.getD 0 .un) fun n34 =>
      .ret 0 [(.sc (.i .i64 n34))])
      (.fail))
theorem t23_eq (p0_ q0_ : Nat) (n1_ : Int) (n2_ : Int) : bodyK T (hs 23) Try.f23 [.sc (.p (some (p0_, q0_))), .sc (.i .i64 n1_), .sc (.i .i64 n2_)] = t23 p0_ q0_ n1_ n2_ := by kernel_rfl
/-- cmp.Compare[uint64] -/
def t30 (n0_ : Int) (n1_ : Int) : Tree :=
  .call 33 [(.sc (.i .u64 n0_))] fun v0 =>
  .asB v0 fun b1 =>
  .call 33 [(.sc (.i .u64 n1_))] fun v2 =>
  .asB v2 fun b3 =>
  cond b1
    (cond b3
      (.ret 0 [(.sc (.i .i64 (0 : Int)))])
      (.ret 0 [(.sc (.i .i64 (-1 : Int)))]))
    (cond b3
      (.ret 0 [(.sc (.i .i64 (1 : Int)))])
      (cond (decide (n0_ < n1_))
        (.ret 0 [(.sc (.i .i64 (-1 : Int)))])
        (cond (decide (n0_ > n1_))
          (.ret 0 [(.sc (.i .i64 (1 : Int)))])
          (.ret 0 [(.sc (.i .i64 (0 : Int)))]))))
theorem t30_eq (n0_ : Int) (n1_ : Int) : bodyK T (hs 30) Try.f30 [.sc (.i .u64 n0_), .sc (.i .u64 n1_)] = t30 n0_ n1_ := by kernel_rfl
/-- cmp.isNaN[uint64] -/
def t33 (n0_ : Int) : Tree :=
  .ret 0 [(.sc (.b (n0_ != n0_)))]
theorem t33_eq (n0_ : Int) : bodyK T (hs 33) Try.f33 [.sc (.i .u64 n0_)] = t33 n0_ := by kernel_rfl
end Go.Proofs.Ytonohkjngmcbmaa
