/- Trees of functions, printed by a program of mine; each is proved to be the function's. -/
import Derived.Test.YtmbnikcnmjpheaaGen
namespace Go.Proofs.Ytmbnikcnmjpheaa
open Go Go.Proofs.Ytmbnikcnmjpheaa.Fw
set_option linter.unusedVariables false
set_option maxRecDepth 20000
/-- scuttlebutt/lease.NewTable -/
def t7 (n0_ : Int) (n1_ : Int) : Tree :=
  cond (decide (n0_ < (1 : Int)))
    (.ret 0 [(.tu [(.sc (.p .none)), (.sc (.i .i64 (1 : Int)))])])
    (cond (decide (n0_ > (8 : Int)))
      (.ret 0 [(.tu [(.sc (.p .none)), (.sc (.i .i64 (1 : Int)))])])
      (cond (n1_ == (0 : Int))
        (.ret 0 [(.tu [(.sc (.p .none)), (.sc (.i .i64 (1 : Int)))])])
        (cond (decide (n1_ > (1000000 : Int)))
          (.ret 0 [(.tu [(.sc (.p .none)), (.sc (.i .i64 (1 : Int)))])])
          (.al [(.i .i64 n0_), (.i .u64 n1_), (.i .i64 (0 : Int)), (.i .u32 (0 : Int)), (.i .u16 (0 : Int)), (.i .u64 (0 : Int)), (.i .i64 (0 : Int)), (.i .u32 (0 : Int)), (.i .u16 (0 : Int)), (.i .u64 (0 : Int)), (.i .i64 (0 : Int)), (.i .u32 (0 : Int)), (.i .u16 (0 : Int)), (.i .u64 (0 : Int)), (.i .i64 (0 : Int)), (.i .u32 (0 : Int)), (.i .u16 (0 : Int)), (.i .u64 (0 : Int)), (.i .i64 (0 : Int)), (.i .u32 (0 : Int)), (.i .u16 (0 : Int)), (.i .u64 (0 : Int)), (.i .i64 (0 : Int)), (.i .u32 (0 : Int)), (.i .u16 (0 : Int)), (.i .u64 (0 : Int)), (.i .i64 (0 : Int)), (.i .u32 (0 : Int)), (.i .u16 (0 : Int)), (.i .u64 (0 : Int)), (.i .i64 (0 : Int)), (.i .u32 (0 : Int)), (.i .u16 (0 : Int)), (.i .u64 (0 : Int)), (.i .i64 (0 : Int)), (.i .u32 (0 : Int)), (.i .u16 (0 : Int)), (.i .u64 (0 : Int)), (.i .i64 (0 : Int)), (.i .u32 (0 : Int)), (.i .u16 (0 : Int)), (.i .u64 (0 : Int)), (.i .i64 (0 : Int)), (.i .u32 (0 : Int)), (.i .u16 (0 : Int)), (.i .u64 (0 : Int)), (.i .i64 (0 : Int)), (.i .u32 (0 : Int)), (.i .u16 (0 : Int)), (.i .u64 (0 : Int)), (.i .i64 (0 : Int)), (.i .u32 (0 : Int)), (.i .u16 (0 : Int)), (.i .u64 (0 : Int)), (.i .i64 (0 : Int)), (.i .u32 (0 : Int)), (.i .u16 (0 : Int)), (.i .u64 (0 : Int)), (.i .i64 (0 : Int)), (.i .u32 (0 : Int)), (.i .u16 (0 : Int)), (.i .u64 (0 : Int)), (.i .i64 (0 : Int)), (.i .u32 (0 : Int)), (.i .u16 (0 : Int)), (.i .u64 (0 : Int)), (.i .i64 (0 : Int)), (.i .u32 (0 : Int)), (.i .u16 (0 : Int)), (.i .u64 (0 : Int)), (.i .i64 (0 : Int)), (.i .u32 (0 : Int)), (.i .u16 (0 : Int)), (.i .u64 (0 : Int)), (.i .i64 (0 : Int)), (.i .u32 (0 : Int)), (.i .u16 (0 : Int)), (.i .u64 (0 : Int)), (.i .i64 (0 : Int)), (.i .u32 (0 : Int)), (.i .u16 (0 : Int)), (.i .u64 (0 : Int)), (.i .i64 (0 : Int)), (.i .u32 (0 : Int)), (.i .u16 (0 : Int)), (.i .u64 (0 : Int)), (.i .i64 (0 : Int)), (.i .u32 (0 : Int)), (.i .u16 (0 : Int)), (.i .u64 (0 : Int)), (.i .i64 (0 : Int)), (.i .u32 (0 : Int)), (.i .u16 (0 : Int)), (.i .u64 (0 : Int)), (.i .i64 (0 : Int)), (.i .u32 (0 : Int)), (.i .u16 (0 : Int)), (.i .u64 (0 : Int)), (.i .i64 (0 : Int)), (.i .u32 (0 : Int)), (.i .u16 (0 : Int)), (.i .u64 (0 : Int)), (.i .i64 (0 : Int)), (.i .u32 (0 : Int)), (.i .u16 (0 : Int)), (.i .u64 (0 : Int)), (.i .i64 (0 : Int)), (.i .u32 (0 : Int)), (.i .u16 (0 : Int)), (.i .u64 (0 : Int)), (.i .i64 (0 : Int)), (.i .u32 (0 : Int)), (.i .u16 (0 : Int)), (.i .u64 (0 : Int)), (.i .i64 (0 : Int)), (.i .u32 (0 : Int)), (.i .u16 (0 : Int)), (.i .u64 (0 : Int)), (.i .i64 (0 : Int)), (.i .u32 (0 : Int)), (.i .u16 (0 : Int)), (.i .u64 (0 : Int)), (.i .i64 (0 : Int)), (.i .u32 (0 : Int)), (.i .u16 (0 : Int)), (.i .u64 (0 : Int)), (.i .i64 (0 : Int)), (.i .u32 (0 : Int)), (.i .u16 (0 : Int)), (.i .u64 (0 : Int)), (.i .i64 (0 : Int)), (.i .u32 (0 : Int)), (.i .u16 (0 : Int)), (.i .u64 (0 : Int))] fun a0 =>
          .ret 0 [(.tu [(.sc (.p (.some (a0, 0)))), (.sc (.i .i64 (0 : Int)))])]))))
theorem t7_eq (n0_ : Int) (n1_ : Int) : bodyK T (hs 7) Try.f7 [.sc (.i .i64 n0_), .sc (.i .u64 n1_)] = t7 n0_ n1_ := by kernel_rfl
/-- (*scuttlebutt/lease.Table).Of -/
def t8 (p0_ q0_ : Nat) (n1_ : Int) (n2_ : Int) : Tree :=
  .al [(.i .u32 (0 : Int)), (.i .u16 (0 : Int))] fun a0 =>
  .call 19 [(.sc (.i .i64 n1_))] fun v1 =>
  .asB v1 fun b2 =>
  cond (!b2)
    (.st a0 0 [(.i .u32 (0 : Int)), (.i .u16 (0 : Int))] (
    .ld a0 0 2 fun l3 =>
    .nth l3 0 fun v4 =>
    .asI .u32 (.sc v4) fun n5 =>
    .nth l3 1 fun v6 =>
    .asI .u16 (.sc v6) fun n7 =>
    .ret 0 [(.tu [(.ag [(.i .u32 n5), (.i .u16 n7)]), (.sc (.b .false))])]))
    (.nn (.some (p0_, q0_)) fun a8 a9 =>
    .br ((decide ((0 : Int) ≤ n1_)) && (decide (n1_ < (33 : Int))))
      (.ld a8 (((a9 + 2) + ((Int.toNat n1_) * 4)) + 0) 1 fun l10 =>
      .nth l10 0 fun v11 =>
      .asI .i64 (.sc v11) fun n12 =>
      cond (n12 == (0 : Int))
        (.st a0 0 [(.i .u32 (0 : Int)), (.i .u16 (0 : Int))] (
        .ld a0 0 2 fun l13 =>
        .nth l13 0 fun v14 =>
        .asI .u32 (.sc v14) fun n15 =>
        .nth l13 1 fun v16 =>
        .asI .u16 (.sc v16) fun n17 =>
        .ret 0 [(.tu [(.ag [(.i .u32 n15), (.i .u16 n17)]), (.sc (.b .false))])]))
        (.nn (.some (p0_, q0_)) fun a18 a19 =>
        .br ((decide ((0 : Int) ≤ n1_)) && (decide (n1_ < (33 : Int))))
          (.ld a18 (((a19 + 2) + ((Int.toNat n1_) * 4)) + 3) 1 fun l20 =>
          .nth l20 0 fun v21 =>
          .asI .u64 (.sc v21) fun n22 =>
          cond (decide (n22 ≤ n2_))
            (.st a0 0 [(.i .u32 (0 : Int)), (.i .u16 (0 : Int))] (
            .ld a0 0 2 fun l23 =>
            .nth l23 0 fun v24 =>
            .asI .u32 (.sc v24) fun n25 =>
            .nth l23 1 fun v26 =>
            .asI .u16 (.sc v26) fun n27 =>
            .ret 0 [(.tu [(.ag [(.i .u32 n25), (.i .u16 n27)]), (.sc (.b .false))])]))
            (.nn (.some (p0_, q0_)) fun a28 a29 =>
            .br ((decide ((0 : Int) ≤ n1_)) && (decide (n1_ < (33 : Int))))
              (.ld a28 (((a29 + 2) + ((Int.toNat n1_) * 4)) + 1) 2 fun l30 =>
              .nth l30 0 fun v31 =>
              .asI .u32 (.sc v31) fun n32 =>
              .nth l30 1 fun v33 =>
              .asI .u16 (.sc v33) fun n34 =>
              .st a0 0 [(.i .u32 n32), (.i .u16 n34)] (
              .ld a0 0 2 fun l35 =>
              .nth l35 0 fun v36 =>
              .asI .u32 (.sc v36) fun n37 =>
              .nth l35 1 fun v38 =>
              .asI .u16 (.sc v38) fun n39 =>
              .ret 0 [(.tu [(.ag [(.i .u32 n37), (.i .u16 n39)]), (.sc (.b .true))])]))
              (.fail)))
          (.fail)))
      (.fail))
theorem t8_eq (p0_ q0_ : Nat) (n1_ : Int) (n2_ : Int) : bodyK T (hs 8) Try.f8 [.sc (.p (some (p0_, q0_))), .sc (.i .i64 n1_), .sc (.i .u64 n2_)] = t8 p0_ q0_ n1_ n2_ := by kernel_rfl
def t9_b2  : List AV → Tree := fun l3 =>
  .asP (l3.getD 0 .un) fun o4 =>
  .asI .u64 (l3.getD 1 .un) fun n5 =>
  .asL (l3.getD 2 .un) fun o6 =>
  .asL (l3.getD 3 .un) fun o7 =>
  .asI .i64 (l3.getD 4 .un) fun n8 =>
  .asI .i64 (l3.getD 5 .un) fun n9 =>
  cond (decide (n9 < n8))
    (.ixS 4 o7 n9 fun a10 a11 a12 =>
    .ld a10 (a11 + (a12 * 4)) 4 fun l13 =>
    .nth l13 0 fun v14 =>
    .asI .i64 (.sc v14) fun n15 =>
    .nth l13 1 fun v16 =>
    .asI .u32 (.sc v16) fun n17 =>
    .nth l13 2 fun v18 =>
    .asI .u16 (.sc v18) fun n19 =>
    .nth l13 3 fun v20 =>
    .asI .u64 (.sc v20) fun n21 =>
    .al [(.i .i64 (0 : Int)), (.i .u32 (0 : Int)), (.i .u16 (0 : Int)), (.i .u64 (0 : Int))] fun a22 =>
    .st a22 0 [(.i .i64 n15), (.i .u32 n17), (.i .u16 n19), (.i .u64 n21)] (
    .ld a22 (0 + 3) 1 fun l23 =>
    .nth l23 0 fun v24 =>
    .asI .u64 (.sc v24) fun n25 =>
    cond (decide (n25 ≤ n5))
      (.ld a22 (0 + 0) 1 fun l26 =>
      .nth l26 0 fun v27 =>
      .asI .i64 (.sc v27) fun n28 =>
      .call 12 [(.sc (.p o4)), (.sc (.i .i64 n28))] fun v29 =>
      .asB v29 fun b30 =>
      .ld a22 (0 + 0) 1 fun l31 =>
      .nth l31 0 fun v32 =>
      .asI .i64 (.sc v32) fun n33 =>
      .al [(.i .i64 n33)] fun a34 =>
      .lds 1 (.some (.mk a34 0 1 1 1)) (slN (.some (.mk a34 0 1 1 1))) fun l35 =>
      .app 1 8 o6 l35 (slN (.some (.mk a34 0 1 1 1))) fun o36 =>
      .ret 0 [(.sc (.p o4)), (.sc (.i .u64 n5)), (.sc (.sl o36)), (.sc (.sl o7)), (.sc (.i .i64 n8)), (.sc (.i .i64 (IntKind.wrap .i64 (n9 + (1 : Int)))))])
      (.ret 0 [(.sc (.p o4)), (.sc (.i .u64 n5)), (.sc (.sl o6)), (.sc (.sl o7)), (.sc (.i .i64 n8)), (.sc (.i .i64 (IntKind.wrap .i64 (n9 + (1 : Int)))))])))
    (.ret 2 [(.sc (.sl o6))])
def t9_k2  : Nat → List AV → Tree := fun a37 l38 =>
  .tg a37 2
    (.asL (l38.getD 0 .un) fun o39 =>
    .ret 0 [(.sc (.sl o39))])
    (.fail)
/-- (*scuttlebutt/lease.Table).Sweep -/
def t9 (p0_ q0_ : Nat) (n1_ : Int) : Tree :=
  .call 10 [(.sc (.p (.some (p0_, q0_))))] fun v0 =>
  .asL v0 fun o1 =>
  .loop t9_b2 [(.sc (.p (.some (p0_, q0_)))), (.sc (.i .u64 n1_)), (.sc (.sl .none)), (.sc (.sl o1)), (.sc (.i .i64 (slLen o1))), (.sc (.i .i64 (0 : Int)))] t9_k2
theorem t9_eq (p0_ q0_ : Nat) (n1_ : Int) : bodyK T (hs 9) Try.f9 [.sc (.p (some (p0_, q0_))), .sc (.i .u64 n1_)] = t9 p0_ q0_ n1_ := by kernel_rfl
/-- (*scuttlebutt/lease.Table).Clients -/
def t10 (p0_ q0_ : Nat) : Tree :=
  .nn (.some (p0_, q0_)) fun a0 a1 =>
  .slc 4 (.some (.mk a0 (a1 + 2) 33 33 4)) .none .none .none fun o2 =>
  .call 21 [(.sc (.sl o2))] fun v3 =>
  .asL v3 fun o4 =>
  .call 20 [(.sc (.sl o4)), (.sc (.fn 22 [] []))] fun v5 =>
  .asL v5 fun o6 =>
  .ret 0 [(.sc (.sl o6))]
theorem t10_eq (p0_ q0_ : Nat) : bodyK T (hs 10) Try.f10 [.sc (.p (some (p0_, q0_)))] = t10 p0_ q0_ := by kernel_rfl
/-- (*scuttlebutt/lease.Table).Grant -/
def t11 (p0_ q0_ : Nat) (n1_ : Int) (n2_0 : Int) (n2_1 : Int) (n3_ : Int) : Tree :=
  .al [(.i .u32 n2_0), (.i .u16 n2_1)] fun a0 =>
  .call 19 [(.sc (.i .i64 n1_))] fun v1 =>
  .asB v1 fun b2 =>
  cond (!b2)
    (.ret 0 [(.tu [(.sc (.i .u64 (0 : Int))), (.sc (.i .i64 (1 : Int)))])])
    (.ld a0 0 2 fun l3 =>
    .nth l3 0 fun v4 =>
    .asI .u32 (.sc v4) fun n5 =>
    .nth l3 1 fun v6 =>
    .asI .u16 (.sc v6) fun n7 =>
    .call 23 [(.ag [(.i .u32 n5), (.i .u16 n7)])] fun v8 =>
    .asB v8 fun b9 =>
    cond b9
      (.ret 0 [(.tu [(.sc (.i .u64 (0 : Int))), (.sc (.i .i64 (1 : Int)))])])
      (cond (decide (n3_ > (4611686018427387904 : Int)))
        (.ret 0 [(.tu [(.sc (.i .u64 (0 : Int))), (.sc (.i .i64 (1 : Int)))])])
        (.call 9 [(.sc (.p (.some (p0_, q0_)))), (.sc (.i .u64 n3_))] fun v10 =>
        .asL v10 fun o11 =>
        .nn (.some (p0_, q0_)) fun a12 a13 =>
        .br ((decide ((0 : Int) ≤ n1_)) && (decide (n1_ < (33 : Int))))
          (.ld a12 (((a13 + 2) + ((Int.toNat n1_) * 4)) + 0) 1 fun l14 =>
          .nth l14 0 fun v15 =>
          .asI .i64 (.sc v15) fun n16 =>
          cond (n16 == (0 : Int))
            (.nn (.some (p0_, q0_)) fun a17 a18 =>
            .ld a17 (a18 + 0) 1 fun l19 =>
            .nth l19 0 fun v20 =>
            .asI .i64 (.sc v20) fun n21 =>
            .call 10 [(.sc (.p (.some (p0_, q0_))))] fun v22 =>
            .asL v22 fun o23 =>
            .same a17 (a18 + 0) [(.i .i64 n21)] (
            cond (decide ((slLen o23) ≥ n21))
              (.ret 0 [(.tu [(.sc (.i .u64 (0 : Int))), (.sc (.i .i64 (4 : Int)))])])
              (.ld a0 0 2 fun l24 =>
              .nth l24 0 fun v25 =>
              .asI .u32 (.sc v25) fun n26 =>
              .nth l24 1 fun v27 =>
              .asI .u16 (.sc v27) fun n28 =>
              .nn (.some (p0_, q0_)) fun a29 a30 =>
              .ld a29 (a30 + 1) 1 fun l31 =>
              .nth l31 0 fun v32 =>
              .asI .u64 (.sc v32) fun n33 =>
              .nn (.some (p0_, q0_)) fun a34 a35 =>
              .br ((decide ((0 : Int) ≤ n1_)) && (decide (n1_ < (33 : Int))))
                (.st a34 ((a35 + 2) + ((Int.toNat n1_) * 4)) [(.i .i64 n1_), (.i .u32 n26), (.i .u16 n28), (.i .u64 (IntKind.wrap .u64 (n3_ + n33)))] (
                .nn (.some (p0_, q0_)) fun a36 a37 =>
                .br ((decide ((0 : Int) ≤ n1_)) && (decide (n1_ < (33 : Int))))
                  (.ld a36 (((a37 + 2) + ((Int.toNat n1_) * 4)) + 3) 1 fun l38 =>
                  .nth l38 0 fun v39 =>
                  .asI .u64 (.sc v39) fun n40 =>
                  .ret 0 [(.tu [(.sc (.i .u64 n40)), (.sc (.i .i64 (0 : Int)))])])
                  (.fail)))
                (.fail))))
            (.ld a0 0 2 fun l41 =>
            .nth l41 0 fun v42 =>
            .asI .u32 (.sc v42) fun n43 =>
            .nth l41 1 fun v44 =>
            .asI .u16 (.sc v44) fun n45 =>
            .nn (.some (p0_, q0_)) fun a46 a47 =>
            .ld a46 (a47 + 1) 1 fun l48 =>
            .nth l48 0 fun v49 =>
            .asI .u64 (.sc v49) fun n50 =>
            .nn (.some (p0_, q0_)) fun a51 a52 =>
            .br ((decide ((0 : Int) ≤ n1_)) && (decide (n1_ < (33 : Int))))
              (.st a51 ((a52 + 2) + ((Int.toNat n1_) * 4)) [(.i .i64 n1_), (.i .u32 n43), (.i .u16 n45), (.i .u64 (IntKind.wrap .u64 (n3_ + n50)))] (
              .nn (.some (p0_, q0_)) fun a53 a54 =>
              .br ((decide ((0 : Int) ≤ n1_)) && (decide (n1_ < (33 : Int))))
                (.ld a53 (((a54 + 2) + ((Int.toNat n1_) * 4)) + 3) 1 fun l55 =>
                .nth l55 0 fun v56 =>
                .asI .u64 (.sc v56) fun n57 =>
                .ret 0 [(.tu [(.sc (.i .u64 n57)), (.sc (.i .i64 (0 : Int)))])])
                (.fail)))
              (.fail)))
          (.fail))))
theorem t11_eq (p0_ q0_ : Nat) (n1_ : Int) (n2_0 : Int) (n2_1 : Int) (n3_ : Int) : bodyK T (hs 11) Try.f11 [.sc (.p (some (p0_, q0_))), .sc (.i .i64 n1_), .ag [.i .u32 n2_0, .i .u16 n2_1], .sc (.i .u64 n3_)] = t11 p0_ q0_ n1_ n2_0 n2_1 n3_ := by kernel_rfl
/-- (*scuttlebutt/lease.Table).Release -/
def t12 (p0_ q0_ : Nat) (n1_ : Int) : Tree :=
  .call 19 [(.sc (.i .i64 n1_))] fun v0 =>
  .asB v0 fun b1 =>
  cond (!b1)
    (.ret 0 [(.sc (.b .false))])
    (.nn (.some (p0_, q0_)) fun a2 a3 =>
    .br ((decide ((0 : Int) ≤ n1_)) && (decide (n1_ < (33 : Int))))
      (.ld a2 (((a3 + 2) + ((Int.toNat n1_) * 4)) + 0) 1 fun l4 =>
      .nth l4 0 fun v5 =>
      .asI .i64 (.sc v5) fun n6 =>
      cond (n6 == (0 : Int))
        (.ret 0 [(.sc (.b .false))])
        (.nn (.some (p0_, q0_)) fun a7 a8 =>
        .br ((decide ((0 : Int) ≤ n1_)) && (decide (n1_ < (33 : Int))))
          (.st a7 ((a8 + 2) + ((Int.toNat n1_) * 4)) [(.i .i64 (0 : Int)), (.i .u32 (0 : Int)), (.i .u16 (0 : Int)), (.i .u64 (0 : Int))] (
          .ret 0 [(.sc (.b .true))]))
          (.fail)))
      (.fail))
theorem t12_eq (p0_ q0_ : Nat) (n1_ : Int) : bodyK T (hs 12) Try.f12 [.sc (.p (some (p0_, q0_))), .sc (.i .i64 n1_)] = t12 p0_ q0_ n1_ := by kernel_rfl
def t20_b2  : List AV → Tree := fun l3 =>
  .asL (l3.getD 0 .un) fun o4 =>
  .asX (l3.getD 1 .un) fun v5 =>
  .asI .i64 (l3.getD 2 .un) fun n6 =>
  .asI .i64 (l3.getD 3 .un) fun n7 =>
  cond (decide (n7 < (slLen o4)))
    (.ixS 4 o4 n7 fun a8 a9 a10 =>
    .ld a8 (a9 + (a10 * 4)) 4 fun l11 =>
    .nth l11 0 fun v12 =>
    .asI .i64 (.sc v12) fun n13 =>
    .nth l11 1 fun v14 =>
    .asI .u32 (.sc v14) fun n15 =>
    .nth l11 2 fun v16 =>
    .asI .u16 (.sc v16) fun n17 =>
    .nth l11 3 fun v18 =>
    .asI .u64 (.sc v18) fun n19 =>
    .al [(.i .i64 (0 : Int)), (.i .u32 (0 : Int)), (.i .u16 (0 : Int)), (.i .u64 (0 : Int))] fun a20 =>
    .st a20 0 [(.i .i64 n13), (.i .u32 n15), (.i .u16 n17), (.i .u64 n19)] (
    .ld a20 0 4 fun l21 =>
    .nth l21 0 fun v22 =>
    .asI .i64 (.sc v22) fun n23 =>
    .nth l21 1 fun v24 =>
    .asI .u32 (.sc v24) fun n25 =>
    .nth l21 2 fun v26 =>
    .asI .u16 (.sc v26) fun n27 =>
    .nth l21 3 fun v28 =>
    .asI .u64 (.sc v28) fun n29 =>
    .callv (.sc v5) [(.ag [(.i .i64 n23), (.i .u32 n25), (.i .u16 n27), (.i .u64 n29)])] fun v30 =>
    .asB v30 fun b31 =>
    cond (!b31)
      (.ld a20 0 4 fun l32 =>
      .nth l32 0 fun v33 =>
      .asI .i64 (.sc v33) fun n34 =>
      .nth l32 1 fun v35 =>
      .asI .u32 (.sc v35) fun n36 =>
      .nth l32 2 fun v37 =>
      .asI .u16 (.sc v37) fun n38 =>
      .nth l32 3 fun v39 =>
      .asI .u64 (.sc v39) fun n40 =>
      .ixS 4 o4 n6 fun a41 a42 a43 =>
      .st a41 (a42 + (a43 * 4)) [(.i .i64 n34), (.i .u32 n36), (.i .u16 n38), (.i .u64 n40)] (
      .ret 0 [(.sc (.sl o4)), (.sc v5), (.sc (.i .i64 (IntKind.wrap .i64 (n6 + (1 : Int))))), (.sc (.i .i64 (IntKind.wrap .i64 (n7 + (1 : Int)))))]))
      (.ret 0 [(.sc (.sl o4)), (.sc v5), (.sc (.i .i64 n6)), (.sc (.i .i64 (IntKind.wrap .i64 (n7 + (1 : Int)))))])))
    (.ret 2 [(.sc (.sl o4)), (.sc (.i .i64 n6))])
def t20_k2  : Nat → List AV → Tree := fun a44 l45 =>
  .tg a44 2
    (.asL (l45.getD 0 .un) fun o46 =>
    .asI .i64 (l45.getD 1 .un) fun n47 =>
    .slc 4 o46 (.some n47) .none .none fun o48 =>
    .sts 4 o48 (zeros [(.i .i64 (0 : Int)), (.i .u32 (0 : Int)), (.i .u16 (0 : Int)), (.i .u64 (0 : Int))] (slN o48)) (
    .slc 4 o46 .none (.some n47) .none fun o49 =>
    .ret 0 [(.sc (.sl o49))]))
    (.fail)
/-- slices.DeleteFunc[[]scuttlebutt/lease.Client,scuttlebutt/lease.Client] -/
def t20 (s0_ : Option SlD) (g1_ : FuncId) (f1_ c1_ : List (Nat × Nat)) : Tree :=
  .call 26 [(.sc (.sl s0_)), (.sc (.fn g1_ f1_ c1_))] fun v0 =>
  .asI .i64 v0 fun n1 =>
  cond (n1 == (-1 : Int))
    (.ret 0 [(.sc (.sl s0_))])
    (.loop t20_b2 [(.sc (.sl s0_)), (.sc (.fn g1_ f1_ c1_)), (.sc (.i .i64 n1)), (.sc (.i .i64 (IntKind.wrap .i64 (n1 + (1 : Int)))))] t20_k2)
theorem t20_eq (s0_ : Option SlD) (g1_ : FuncId) (f1_ c1_ : List (Nat × Nat)) : bodyK T (hs 20) Try.f20 [.sc (.sl s0_), .sc (.fn g1_ f1_ c1_)] = t20 s0_ g1_ f1_ c1_ := by kernel_rfl
/-- slices.Clone[[]scuttlebutt/lease.Client,scuttlebutt/lease.Client] -/
def t21 (s0_ : Option SlD) : Tree :=
  cond (Option.isNone s0_)
    (.ret 0 [(.sc (.sl .none))])
    (.al (zeros [(.i .i64 (0 : Int)), (.i .u32 (0 : Int)), (.i .u16 (0 : Int)), (.i .u64 (0 : Int))] 0) fun a0 =>
    .lds 4 s0_ (slN s0_) fun l1 =>
    .app 4 24 (.some (.mk a0 0 0 0 4)) l1 (slN s0_) fun o2 =>
    .ret 0 [(.sc (.sl o2))])
theorem t21_eq (s0_ : Option SlD) : bodyK T (hs 21) Try.f21 [.sc (.sl s0_)] = t21 s0_ := by kernel_rfl
/-- (*scuttlebutt/lease.Table).Clients$1 -/
def t22 (n0_0 : Int) (n0_1 : Int) (n0_2 : Int) (n0_3 : Int) : Tree :=
  .al [(.i .i64 n0_0), (.i .u32 n0_1), (.i .u16 n0_2), (.i .u64 n0_3)] fun a0 =>
  .ld a0 (0 + 0) 1 fun l1 =>
  .nth l1 0 fun v2 =>
  .asI .i64 (.sc v2) fun n3 =>
  .ret 0 [(.sc (.b (n3 == (0 : Int))))]
theorem t22_eq (n0_0 : Int) (n0_1 : Int) (n0_2 : Int) (n0_3 : Int) : bodyK T (hs 22) Try.f22 [.ag [.i .i64 n0_0, .i .u32 n0_1, .i .u16 n0_2, .i .u64 n0_3]] = t22 n0_0 n0_1 n0_2 n0_3 := by kernel_rfl
/-- (scuttlebutt/addr.Addr).None -/
def t23 (n0_0 : Int) (n0_1 : Int) : Tree :=
  .al [(.i .u32 n0_0), (.i .u16 n0_1)] fun a0 =>
  .ld a0 (0 + 0) 1 fun l1 =>
  .nth l1 0 fun v2 =>
  .asI .u32 (.sc v2) fun n3 =>
  cond (n3 == (0 : Int))
    (.ret 0 [(.sc (.b .true))])
    (.ld a0 (0 + 1) 1 fun l4 =>
    .nth l4 0 fun v5 =>
    .asI .u16 (.sc v5) fun n6 =>
    .ret 0 [(.sc (.b (n6 == (0 : Int))))])
theorem t23_eq (n0_0 : Int) (n0_1 : Int) : bodyK T (hs 23) Try.f23 [.ag [.i .u32 n0_0, .i .u16 n0_1]] = t23 n0_0 n0_1 := by kernel_rfl
def t26_b0  : List AV → Tree := fun l1 =>
  .asL (l1.getD 0 .un) fun o2 =>
  .asX (l1.getD 1 .un) fun v3 =>
  .asI .i64 (l1.getD 2 .un) fun n4 =>
  .asI .i64 (l1.getD 3 .un) fun n5 =>
  cond (decide (n5 < n4))
    (.ixS 4 o2 n5 fun a6 a7 a8 =>
    .ld a6 (a7 + (a8 * 4)) 4 fun l9 =>
    .nth l9 0 fun v10 =>
    .asI .i64 (.sc v10) fun n11 =>
    .nth l9 1 fun v12 =>
    .asI .u32 (.sc v12) fun n13 =>
    .nth l9 2 fun v14 =>
    .asI .u16 (.sc v14) fun n15 =>
    .nth l9 3 fun v16 =>
    .asI .u64 (.sc v16) fun n17 =>
    .callv (.sc v3) [(.ag [(.i .i64 n11), (.i .u32 n13), (.i .u16 n15), (.i .u64 n17)])] fun v18 =>
    .asB v18 fun b19 =>
    cond b19
      (.ret 1 [(.sc (.i .i64 n5))])
      (.ret 0 [(.sc (.sl o2)), (.sc v3), (.sc (.i .i64 n4)), (.sc (.i .i64 (IntKind.wrap .i64 (n5 + (1 : Int)))))]))
    (.ret 2 [])
def t26_k0  : Nat → List AV → Tree := fun a20 l21 =>
  .tg a20 2
    (.ret 0 [(.sc (.i .i64 (-1 : Int)))])
    (.tg a20 1
      (.asI .i64 (l21.getD 0 .un) fun n22 =>
      .ret 0 [(.sc (.i .i64 n22))])
      (.fail))
/-- slices.IndexFunc[[]scuttlebutt/lease.Client,scuttlebutt/lease.Client] -/
def t26 (s0_ : Option SlD) (g1_ : FuncId) (f1_ c1_ : List (Nat × Nat)) : Tree :=
  .loop t26_b0 [(.sc (.sl s0_)), (.sc (.fn g1_ f1_ c1_)), (.sc (.i .i64 (slLen s0_))), (.sc (.i .i64 (0 : Int)))] t26_k0
theorem t26_eq (s0_ : Option SlD) (g1_ : FuncId) (f1_ c1_ : List (Nat × Nat)) : bodyK T (hs 26) Try.f26 [.sc (.sl s0_), .sc (.fn g1_ f1_ c1_)] = t26 s0_ g1_ f1_ c1_ := by kernel_rfl
end Go.Proofs.Ytmbnikcnmjpheaa
