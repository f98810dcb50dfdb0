/- Trees of functions, printed by a program of mine; each is proved to be the function's. -/
import Derived.Test.YtkhooppaenfkdaaGen
namespace Go.Proofs.Ytkhooppaenfkdaa
open Go Go.Proofs.Ytkhooppaenfkdaa.Fw
set_option linter.unusedVariables false
set_option maxRecDepth 20000
/-- scuttlebutt/wire.Has -/
def t8 (n0_ : Int) : Tree :=
  .al [(.s (.mk (.mk []))), (.s (.mk (.mk []))), (.s (.mk (.mk []))), (.s (.mk (.mk []))), (.s (.mk (.mk []))), (.s (.mk (.mk []))), (.s (.mk (.mk []))), (.s (.mk (.mk []))), (.s (.mk (.mk []))), (.s (.mk (.mk []))), (.s (.mk (.mk []))), (.s (.mk (.mk []))), (.s (.mk (.mk []))), (.s (.mk (.mk []))), (.s (.mk (.mk []))), (.s (.mk (.mk []))), (.s (.mk (.mk [])))] fun a0 =>
  .st a0 0 [(.s (.mk (.mk []))), (.s (.mk (.mk [110, 114]))), (.s (.mk (.mk [112, 114]))), (.s (.mk (.mk [110, 97, 114]))), (.s (.mk (.mk [110]))), (.s (.mk (.mk [110, 98]))), (.s (.mk (.mk [97, 102]))), (.s (.mk (.mk [97, 102]))), (.s (.mk (.mk [110]))), (.s (.mk (.mk [110]))), (.s (.mk (.mk [102]))), (.s (.mk (.mk [102]))), (.s (.mk (.mk []))), (.s (.mk (.mk [112, 114]))), (.s (.mk (.mk [114]))), (.s (.mk (.mk [102, 114]))), (.s (.mk (.mk [110, 97])))] (
  cond (decide (n0_ < (1 : Int)))
    (.ret 0 [(.tu [(.sc (.s (.mk (.mk [])))), (.sc (.b .false))])])
    (cond (decide (n0_ ≥ (17 : Int)))
      (.ret 0 [(.tu [(.sc (.s (.mk (.mk [])))), (.sc (.b .false))])])
      (.br ((decide ((0 : Int) ≤ n0_)) && (decide (n0_ < (17 : Int))))
        (.ld a0 (0 + ((Int.toNat n0_) * 1)) 1 fun l1 =>
        .nth l1 0 fun v2 =>
        .asS (.sc v2) fun x3 =>
        .ret 0 [(.tu [(.sc (.s x3)), (.sc (.b .true))])])
        (.fail))))
theorem t8_eq (n0_ : Int) : bodyK T (hs 8) Try.f8 [.sc (.i .i64 n0_)] = t8 n0_ := by kernel_rfl
def t11_b1  : List AV → Tree := fun l2 =>
  .asI .u64 (l2.getD 0 .un) fun n3 =>
  .asI .i64 (l2.getD 1 .un) fun n4 =>
  .asP (l2.getD 2 .un) fun o5 =>
  .nn o5 fun a6 a7 =>
  .asI .i64 (l2.getD 3 .un) fun n8 =>
  .asI .i64 (l2.getD 4 .un) fun n9 =>
  cond (decide (n9 < n8))
    (.br (decide ((0 : Int) ≤ (IntKind.wrap .i64 ((8 : Int) * (IntKind.wrap .i64 ((IntKind.wrap .i64 (n4 - (1 : Int))) - n9))))))
      (.br ((decide ((0 : Int) ≤ n9)) && (decide (n9 < (8 : Int))))
        (.st a6 (a7 + ((Int.toNat n9) * 1)) [(.i .u8 (IntKind.wrap .u8 (Int.fdiv n3 ((2 : Int) ^ (min (Int.toNat (IntKind.wrap .i64 ((8 : Int) * (IntKind.wrap .i64 ((IntKind.wrap .i64 (n4 - (1 : Int))) - n9))))) 64)))))] (
        .ret 0 [(.sc (.i .u64 n3)), (.sc (.i .i64 n4)), (.sc (.p (.some (a6, a7)))), (.sc (.i .i64 n8)), (.sc (.i .i64 (IntKind.wrap .i64 (n9 + (1 : Int)))))]))
        (.fail))
      (.fail))
    (.ret 2 [(.sc (.i .i64 n4)), (.sc (.p (.some (a6, a7))))])
def t11_k1  : Nat → List AV → Tree := fun a10 l11 =>
  .tg a10 2
    (.asI .i64 (l11.getD 0 .un) fun n12 =>
    .asP (l11.getD 1 .un) fun o13 =>
    .nn o13 fun a14 a15 =>
    .slc 1 (.some (.mk a14 a15 8 8 1)) .none (.some n12) .none fun o16 =>
    .lds 1 o16 (slN o16) fun l17 =>
    .asBy l17 fun x18 =>
    .ret 0 [(.sc (.s x18))])
    (.fail)
/-- scuttlebutt/pack.Number -/
def t11 (n0_ : Int) (n1_ : Int) : Tree :=
  cond (decide (n1_ < (1 : Int)))
    (.ret 0 [(.sc (.s (.mk (.mk []))))])
    (cond (decide (n1_ > (8 : Int)))
      (.ret 0 [(.sc (.s (.mk (.mk []))))])
      (.al [(.i .u8 (0 : Int)), (.i .u8 (0 : Int)), (.i .u8 (0 : Int)), (.i .u8 (0 : Int)), (.i .u8 (0 : Int)), (.i .u8 (0 : Int)), (.i .u8 (0 : Int)), (.i .u8 (0 : Int))] fun a0 =>
      .loop t11_b1 [(.sc (.i .u64 n0_)), (.sc (.i .i64 n1_)), (.sc (.p (.some (a0, 0)))), (.sc (.i .i64 n1_)), (.sc (.i .i64 (0 : Int)))] t11_k1))
theorem t11_eq (n0_ : Int) (n1_ : Int) : bodyK T (hs 11) Try.f11 [.sc (.i .u64 n0_), .sc (.i .i64 n1_)] = t11 n0_ n1_ := by kernel_rfl
/-- (scuttlebutt/addr.Addr).Put -/
def t12 (n0_0 : Int) (n0_1 : Int) : Tree :=
  .al [(.i .u32 n0_0), (.i .u16 n0_1)] fun a0 =>
  .ld a0 (0 + 0) 1 fun l1 =>
  .nth l1 0 fun v2 =>
  .asI .u32 (.sc v2) fun n3 =>
  .ld a0 (0 + 1) 1 fun l4 =>
  .nth l4 0 fun v5 =>
  .asI .u16 (.sc v5) fun n6 =>
  .call 11 [(.sc (.i .u64 (IntKind.wrap .u64 n3))), (.sc (.i .i64 (4 : Int)))] fun v7 =>
  .asS v7 fun x8 =>
  .same a0 (0 + 1) [(.i .u16 n6)] (
  .call 11 [(.sc (.i .u64 (IntKind.wrap .u64 n6))), (.sc (.i .i64 (2 : Int)))] fun v9 =>
  .asS v9 fun x10 =>
  .br (decide (((((ByteArray.size x8) + (ByteArray.size x10)) : Nat) : Int) ≤ (9223372036854775807 : Int)))
    (.ret 0 [(.sc (.s (x8 ++ x10)))])
    (.fail))
theorem t12_eq (n0_0 : Int) (n0_1 : Int) : bodyK T (hs 12) Try.f12 [.ag [.i .u32 n0_0, .i .u16 n0_1]] = t12 n0_0 n0_1 := by kernel_rfl
/-- (scuttlebutt/record.Record).Put -/
def t14 (n0_0 : Int) (n0_1 : Int) (n0_2 : Int) (n0_3 : Int) (n0_4 : Int) : Tree :=
  .al [(.i .i64 n0_0), (.i .i64 n0_1), (.i .u32 n0_2), (.i .u32 n0_3), (.i .u16 n0_4)] fun a0 =>
  .ld a0 0 5 fun l1 =>
  .nth l1 0 fun v2 =>
  .asI .i64 (.sc v2) fun n3 =>
  .nth l1 1 fun v4 =>
  .asI .i64 (.sc v4) fun n5 =>
  .nth l1 2 fun v6 =>
  .asI .u32 (.sc v6) fun n7 =>
  .nth l1 3 fun v8 =>
  .asI .u32 (.sc v8) fun n9 =>
  .nth l1 4 fun v10 =>
  .asI .u16 (.sc v10) fun n11 =>
  .call 23 [(.ag [(.i .i64 n3), (.i .i64 n5), (.i .u32 n7), (.i .u32 n9), (.i .u16 n11)])] fun v12 =>
  .asB v12 fun b13 =>
  cond (!b13)
    (.ret 0 [(.tu [(.sc (.s (.mk (.mk [])))), (.sc (.b .false))])])
    (.ld a0 (0 + 0) 1 fun l14 =>
    .nth l14 0 fun v15 =>
    .asI .i64 (.sc v15) fun n16 =>
    .ld a0 (0 + 1) 1 fun l17 =>
    .nth l17 0 fun v18 =>
    .asI .i64 (.sc v18) fun n19 =>
    .ld a0 (0 + 2) 1 fun l20 =>
    .nth l20 0 fun v21 =>
    .asI .u32 (.sc v21) fun n22 =>
    .ld a0 (0 + 3) 2 fun l23 =>
    .nth l23 0 fun v24 =>
    .asI .u32 (.sc v24) fun n25 =>
    .nth l23 1 fun v26 =>
    .asI .u16 (.sc v26) fun n27 =>
    .call 11 [(.sc (.i .u64 (IntKind.wrap .u64 n16))), (.sc (.i .i64 (1 : Int)))] fun v28 =>
    .asS v28 fun x29 =>
    .same a0 (0 + 3) [(.i .u32 n25), (.i .u16 n27)] (
    .same a0 (0 + 2) [(.i .u32 n22)] (
    .same a0 (0 + 1) [(.i .i64 n19)] (
    .call 11 [(.sc (.i .u64 (IntKind.wrap .u64 n19))), (.sc (.i .i64 (1 : Int)))] fun v30 =>
    .asS v30 fun x31 =>
    .same a0 (0 + 3) [(.i .u32 n25), (.i .u16 n27)] (
    .same a0 (0 + 2) [(.i .u32 n22)] (
    .br (decide (((((ByteArray.size x29) + (ByteArray.size x31)) : Nat) : Int) ≤ (9223372036854775807 : Int)))
      (.call 11 [(.sc (.i .u64 (IntKind.wrap .u64 n22))), (.sc (.i .i64 (4 : Int)))] fun v32 =>
      .asS v32 fun x33 =>
      .same a0 (0 + 3) [(.i .u32 n25), (.i .u16 n27)] (
      .br (decide (((((ByteArray.size (x29 ++ x31)) + (ByteArray.size x33)) : Nat) : Int) ≤ (9223372036854775807 : Int)))
        (.call 12 [(.ag [(.i .u32 n25), (.i .u16 n27)])] fun v34 =>
        .asS v34 fun x35 =>
        .br (decide (((((ByteArray.size ((x29 ++ x31) ++ x33)) + (ByteArray.size x35)) : Nat) : Int) ≤ (9223372036854775807 : Int)))
          (.ret 0 [(.tu [(.sc (.s (((x29 ++ x31) ++ x33) ++ x35))), (.sc (.b .true))])])
          (.fail))
        (.fail)))
      (.fail)))))))
theorem t14_eq (n0_0 : Int) (n0_1 : Int) (n0_2 : Int) (n0_3 : Int) (n0_4 : Int) : bodyK T (hs 14) Try.f14 [.ag [.i .i64 n0_0, .i .i64 n0_1, .i .u32 n0_2, .i .u32 n0_3, .i .u16 n0_4]] = t14 n0_0 n0_1 n0_2 n0_3 n0_4 := by kernel_rfl
/-- scuttlebutt/pack.Read -/
def t15 (x0_ : ByteArray) : Tree :=
  .al [(.s (.mk (.mk []))), (.b .false)] fun a0 =>
  .st a0 0 [(.s x0_), (.b .false)] (
  .ld a0 0 2 fun l1 =>
  .nth l1 0 fun v2 =>
  .asS (.sc v2) fun x3 =>
  .nth l1 1 fun v4 =>
  .asB (.sc v4) fun b5 =>
  .ret 0 [(.ag [(.s x3), (.b b5)])])
theorem t15_eq (x0_ : ByteArray) : bodyK T (hs 15) Try.f15 [.sc (.s x0_)] = t15 x0_ := by kernel_rfl
/-- (*scuttlebutt/wire.reader).number -/
def t16 (p0_ q0_ : Nat) (n1_ : Int) : Tree :=
  .nn (.some (p0_, q0_)) fun a0 a1 =>
  .ld a0 (a1 + 0) 2 fun l2 =>
  .nth l2 0 fun v3 =>
  .asS (.sc v3) fun x4 =>
  .nth l2 1 fun v5 =>
  .asB (.sc v5) fun b6 =>
  .call 29 [(.ag [(.s x4), (.b b6)]), (.sc (.i .i64 n1_))] fun v7 =>
  .asT 2 v7 fun l8 =>
  .nthC l8 0 fun v9 =>
  .asI .u64 (v9.av) fun n10 =>
  .nthC l8 1 fun v11 =>
  .asA 2 (v11.av) fun l12 =>
  .nth l12 0 fun v13 =>
  .asS (.sc v13) fun x14 =>
  .nth l12 1 fun v15 =>
  .asB (.sc v15) fun b16 =>
  .al [(.s (.mk (.mk []))), (.b .false)] fun a17 =>
  .st a17 0 [(.s x14), (.b b16)] (
  .ld a17 0 2 fun l18 =>
  .nth l18 0 fun v19 =>
  .asS (.sc v19) fun x20 =>
  .nth l18 1 fun v21 =>
  .asB (.sc v21) fun b22 =>
  .nn (.some (p0_, q0_)) fun a23 a24 =>
  .st a23 (a24 + 0) [(.s x20), (.b b22)] (
  .ret 0 [(.sc (.i .i64 (IntKind.wrap .i64 n10)))]))
theorem t16_eq (p0_ q0_ : Nat) (n1_ : Int) : bodyK T (hs 16) Try.f16 [.sc (.p (some (p0_, q0_))), .sc (.i .i64 n1_)] = t16 p0_ q0_ n1_ := by kernel_rfl
/-- scuttlebutt/wire.node -/
def t20 (n0_ : Int) : Tree :=
  cond (decide (n0_ ≥ (1 : Int)))
    (.ret 0 [(.sc (.b (decide (n0_ ≤ (32 : Int)))))])
    (.ret 0 [(.sc (.b .false))])
theorem t20_eq (n0_ : Int) : bodyK T (hs 20) Try.f20 [.sc (.i .i64 n0_)] = t20 n0_ := by kernel_rfl
/-- scuttlebutt/wire.Right$1 -/
def t22 (n0_0 : Int) (n0_1 : Int) (n0_2 : Int) (n0_3 : Int) (n0_4 : Int) : Tree :=
  .al [(.i .i64 n0_0), (.i .i64 n0_1), (.i .u32 n0_2), (.i .u32 n0_3), (.i .u16 n0_4)] fun a0 =>
  .ld a0 0 5 fun l1 =>
  .nth l1 0 fun v2 =>
  .asI .i64 (.sc v2) fun n3 =>
  .nth l1 1 fun v4 =>
  .asI .i64 (.sc v4) fun n5 =>
  .nth l1 2 fun v6 =>
  .asI .u32 (.sc v6) fun n7 =>
  .nth l1 3 fun v8 =>
  .asI .u32 (.sc v8) fun n9 =>
  .nth l1 4 fun v10 =>
  .asI .u16 (.sc v10) fun n11 =>
  .call 23 [(.ag [(.i .i64 n3), (.i .i64 n5), (.i .u32 n7), (.i .u32 n9), (.i .u16 n11)])] fun v12 =>
  .asB v12 fun b13 =>
  .ret 0 [(.sc (.b (!b13)))]
theorem t22_eq (n0_0 : Int) (n0_1 : Int) (n0_2 : Int) (n0_3 : Int) (n0_4 : Int) : bodyK T (hs 22) Try.f22 [.ag [.i .i64 n0_0, .i .i64 n0_1, .i .u32 n0_2, .i .u32 n0_3, .i .u16 n0_4]] = t22 n0_0 n0_1 n0_2 n0_3 n0_4 := by kernel_rfl
/-- scuttlebutt/record.Right -/
def t23 (n0_0 : Int) (n0_1 : Int) (n0_2 : Int) (n0_3 : Int) (n0_4 : Int) : Tree :=
  .al [(.i .i64 n0_0), (.i .i64 n0_1), (.i .u32 n0_2), (.i .u32 n0_3), (.i .u16 n0_4)] fun a0 =>
  .ld a0 (0 + 0) 1 fun l1 =>
  .nth l1 0 fun v2 =>
  .asI .i64 (.sc v2) fun n3 =>
  cond (decide (n3 ≥ (1 : Int)))
    (.ld a0 (0 + 0) 1 fun l4 =>
    .nth l4 0 fun v5 =>
    .asI .i64 (.sc v5) fun n6 =>
    cond (decide (n6 ≤ (32 : Int)))
      (.ld a0 (0 + 1) 1 fun l7 =>
      .nth l7 0 fun v8 =>
      .asI .i64 (.sc v8) fun n9 =>
      cond (decide (n9 ≥ (0 : Int)))
        (.ld a0 (0 + 1) 1 fun l10 =>
        .nth l10 0 fun v11 =>
        .asI .i64 (.sc v11) fun n12 =>
        cond (decide (n12 < (4 : Int)))
          (.ld a0 (0 + 3) 2 fun l13 =>
          .nth l13 0 fun v14 =>
          .asI .u32 (.sc v14) fun n15 =>
          .nth l13 1 fun v16 =>
          .asI .u16 (.sc v16) fun n17 =>
          .call 24 [(.ag [(.i .u32 n15), (.i .u16 n17)])] fun v18 =>
          .asB v18 fun b19 =>
          .ret 0 [(.sc (.b (!b19)))])
          (.ret 0 [(.sc (.b .false))]))
        (.ret 0 [(.sc (.b .false))]))
      (.ret 0 [(.sc (.b .false))]))
    (.ret 0 [(.sc (.b .false))])
theorem t23_eq (n0_0 : Int) (n0_1 : Int) (n0_2 : Int) (n0_3 : Int) (n0_4 : Int) : bodyK T (hs 23) Try.f23 [.ag [.i .i64 n0_0, .i .i64 n0_1, .i .u32 n0_2, .i .u32 n0_3, .i .u16 n0_4]] = t23 n0_0 n0_1 n0_2 n0_3 n0_4 := by kernel_rfl
/-- (scuttlebutt/addr.Addr).None -/
def t24 (n0_0 : Int) (n0_1 : Int) : Tree :=
  .al [(.i .u32 n0_0), (.i .u16 n0_1)] fun a0 =>
  .ld a0 (0 + 0) 1 fun l1 =>
  .nth l1 0 fun v2 =>
  .asI .u32 (.sc v2) fun n3 =>
  cond (n3 == (0 : Int))
    (.ret 0 [(.sc (.b .true))])
    (.ld a0 (0 + 1) 1 fun l4 =>
    .nth l4 0 fun v5 =>
    .asI .u16 (.sc v5) fun n6 =>
    .ret 0 [(.sc (.b (n6 == (0 : Int))))])
theorem t24_eq (n0_0 : Int) (n0_1 : Int) : bodyK T (hs 24) Try.f24 [.ag [.i .u32 n0_0, .i .u16 n0_1]] = t24 n0_0 n0_1 := by kernel_rfl
/-- scuttlebutt/wire.news -/
def t26 (n0_ : Int) : Tree :=
  cond (n0_ == (13 : Int))
    (.ret 0 [(.sc (.i .i64 (32 : Int)))])
    (cond (n0_ == (15 : Int))
      (.ret 0 [(.sc (.i .i64 (32 : Int)))])
      (.ret 0 [(.sc (.i .i64 (8 : Int)))]))
theorem t26_eq (n0_ : Int) : bodyK T (hs 26) Try.f26 [.sc (.i .i64 n0_)] = t26 n0_ := by kernel_rfl
/-- slices.ContainsFunc[[]scuttlebutt/record.Record,scuttlebutt/record.Record] -/
def t27 (s0_ : Option SlD) (g1_ : FuncId) (f1_ c1_ : List (Nat × Nat)) : Tree :=
  .call 37 [(.sc (.sl s0_)), (.sc (.fn g1_ f1_ c1_))] fun v0 =>
  .asI .i64 v0 fun n1 =>
  .ret 0 [(.sc (.b (decide (n1 ≥ (0 : Int)))))]
theorem t27_eq (s0_ : Option SlD) (g1_ : FuncId) (f1_ c1_ : List (Nat × Nat)) : bodyK T (hs 27) Try.f27 [.sc (.sl s0_), .sc (.fn g1_ f1_ c1_)] = t27 s0_ g1_ f1_ c1_ := by kernel_rfl
/-- strings.Contains -/
def t28 (x0_ : ByteArray) (x1_ : ByteArray) : Tree :=
  .call 38 [(.sc (.s x0_)), (.sc (.s x1_))] fun v0 =>
  .asI .i64 v0 fun n1 =>
  .ret 0 [(.sc (.b (decide (n1 ≥ (0 : Int)))))]
theorem t28_eq (x0_ : ByteArray) (x1_ : ByteArray) : bodyK T (hs 28) Try.f28 [.sc (.s x0_), .sc (.s x1_)] = t28 x0_ x1_ := by kernel_rfl
def t29_b18  : List AV → Tree := fun l19 =>
  .asI .u64 (l19.getD 0 .un) fun n20 =>
  .asP (l19.getD 1 .un) fun o21 =>
  .nn o21 fun a22 a23 =>
  .asS (l19.getD 2 .un) fun x24 =>
  .asI .i64 (l19.getD 3 .un) fun n25 =>
  .asI .i64 (l19.getD 4 .un) fun n26 =>
  cond (decide (n26 < n25))
    (.br (decide ((0 : Int) ≤ (8 : Int)))
      (.br ((decide ((0 : Int) ≤ n26)) && (decide (n26 < (((ByteArray.size x24) : Nat) : Int))))
        (.ret 0 [(.sc (.i .u64 (IntKind.wrap .u64 (((BitVec.toNat ((BitVec.ofInt 64 (IntKind.wrap .u64 (n20 * (256 : Int)))) ||| (BitVec.ofInt 64 (IntKind.wrap .u64 (strAt x24 (Int.toNat n26)))))) : Nat) : Int)))), (.sc (.p (.some (a22, a23)))), (.sc (.s x24)), (.sc (.i .i64 n25)), (.sc (.i .i64 (IntKind.wrap .i64 (n26 + (1 : Int)))))])
        (.fail))
      (.fail))
    (.ret 2 [(.sc (.i .u64 n20)), (.sc (.p (.some (a22, a23))))])
def t29_k18  : Nat → List AV → Tree := fun a27 l28 =>
  .tg a27 2
    (.asI .u64 (l28.getD 0 .un) fun n29 =>
    .asP (l28.getD 1 .un) fun o30 =>
    .nn o30 fun a31 a32 =>
    .ld a31 a32 2 fun l33 =>
    .nth l33 0 fun v34 =>
    .asS (.sc v34) fun x35 =>
    .nth l33 1 fun v36 =>
    .asB (.sc v36) fun b37 =>
    .st a31 a32 [(.s x35), (.b b37)] (
    .ret 1 [(.sc (.i .u64 n29)), (.sc (.p (.some (a31, a32))))]))
    (.fail)
def t29_b40  : List AV → Tree := fun l41 =>
  .asI .i64 (l41.getD 0 .un) fun n42 =>
  .br (n42 == (0 : Int))
    (.asP (l41.getD 1 .un) fun o43 =>
    .nn o43 fun a44 a45 =>
    .st a44 a45 [(.s (.mk (.mk []))), (.b .true)] (
    .ret 2 [(.sc (.i .u64 (0 : Int))), (.sc (.p (.some (a44, a45))))]))
    (.fail)
def t29_k40  : Nat → List AV → Tree := fun a46 l47 =>
  .tg a46 2
    (.asI .u64 (l47.getD 0 .un) fun n48 =>
    .asP (l47.getD 1 .un) fun o49 =>
    .nn o49 fun a50 a51 =>
    .ld a50 a51 2 fun l52 =>
    .nth l52 0 fun v53 =>
    .asS (.sc v53) fun x54 =>
    .nth l52 1 fun v55 =>
    .asB (.sc v55) fun b56 =>
    .ret 0 [(.tu [(.sc (.i .u64 n48)), (.ag [(.s x54), (.b b56)])])])
    (.fail)
def t29_k2  : Nat → List AV → Tree := fun a38 l39 =>
  .tg a38 3
    (.loop t29_b40 ((.sc (.i .i64 (0 : Int))) :: l39) t29_k40)
    (.tg a38 1
      (.asI .u64 (l39.getD 0 .un) fun n57 =>
      .asP (l39.getD 1 .un) fun o58 =>
      .nn o58 fun a59 a60 =>
      .ld a59 a60 2 fun l61 =>
      .nth l61 0 fun v62 =>
      .asS (.sc v62) fun x63 =>
      .nth l61 1 fun v64 =>
      .asB (.sc v64) fun b65 =>
      .ret 0 [(.tu [(.sc (.i .u64 n57)), (.ag [(.s x63), (.b b65)])])])
      (.fail))
/-- (scuttlebutt/pack.Reader).Number -/
def t29 (x0_0 : ByteArray) (b0_1 : Bool) (n1_ : Int) : Tree :=
  .al [(.s x0_0), (.b b0_1)] fun a0 =>
  .al [(.s (.mk (.mk []))), (.b .false)] fun a1 =>
  .join (
    cond (decide (n1_ < (1 : Int)))
      (.ret 3 [(.sc (.p (.some (a1, 0))))])
      (cond (decide (n1_ > (8 : Int)))
        (.ret 3 [(.sc (.p (.some (a1, 0))))])
        (.ld a0 0 2 fun l3 =>
        .nth l3 0 fun v4 =>
        .asS (.sc v4) fun x5 =>
        .nth l3 1 fun v6 =>
        .asB (.sc v6) fun b7 =>
        .call 39 [(.ag [(.s x5), (.b b7)]), (.sc (.i .i64 n1_))] fun v8 =>
        .asT 2 v8 fun l9 =>
        .nthC l9 0 fun v10 =>
        .asS (v10.av) fun x11 =>
        .nthC l9 1 fun v12 =>
        .asA 2 (v12.av) fun l13 =>
        .nth l13 0 fun v14 =>
        .asS (.sc v14) fun x15 =>
        .nth l13 1 fun v16 =>
        .asB (.sc v16) fun b17 =>
        .st a1 0 [(.s x15), (.b b17)] (
        .loop t29_b18 [(.sc (.i .u64 (0 : Int))), (.sc (.p (.some (a1, 0)))), (.sc (.s x11)), (.sc (.i .i64 (((ByteArray.size x11) : Nat) : Int))), (.sc (.i .i64 (0 : Int)))] t29_k18)))) t29_k2
theorem t29_eq (x0_0 : ByteArray) (b0_1 : Bool) (n1_ : Int) : bodyK T (hs 29) Try.f29 [.ag [.s x0_0, .b b0_1], .sc (.i .i64 n1_)] = t29 x0_0 b0_1 n1_ := by kernel_rfl
def t37_b0  : List AV → Tree := fun l1 =>
  .asL (l1.getD 0 .un) fun o2 =>
  .asX (l1.getD 1 .un) fun v3 =>
  .asI .i64 (l1.getD 2 .un) fun n4 =>
  .asI .i64 (l1.getD 3 .un) fun n5 =>
  cond (decide (n5 < n4))
    (.ixS 5 o2 n5 fun a6 a7 a8 =>
    .ld a6 (a7 + (a8 * 5)) 5 fun l9 =>
    .nth l9 0 fun v10 =>
    .asI .i64 (.sc v10) fun n11 =>
    .nth l9 1 fun v12 =>
    .asI .i64 (.sc v12) fun n13 =>
    .nth l9 2 fun v14 =>
    .asI .u32 (.sc v14) fun n15 =>
    .nth l9 3 fun v16 =>
    .asI .u32 (.sc v16) fun n17 =>
    .nth l9 4 fun v18 =>
    .asI .u16 (.sc v18) fun n19 =>
    .callv (.sc v3) [(.ag [(.i .i64 n11), (.i .i64 n13), (.i .u32 n15), (.i .u32 n17), (.i .u16 n19)])] fun v20 =>
    .asB v20 fun b21 =>
    cond b21
      (.ret 1 [(.sc (.i .i64 n5))])
      (.ret 0 [(.sc (.sl o2)), (.sc v3), (.sc (.i .i64 n4)), (.sc (.i .i64 (IntKind.wrap .i64 (n5 + (1 : Int)))))]))
    (.ret 2 [])
def t37_k0  : Nat → List AV → Tree := fun a22 l23 =>
  .tg a22 2
    (.ret 0 [(.sc (.i .i64 (-1 : Int)))])
    (.tg a22 1
      (.asI .i64 (l23.getD 0 .un) fun n24 =>
      .ret 0 [(.sc (.i .i64 n24))])
      (.fail))
/-- slices.IndexFunc[[]scuttlebutt/record.Record,scuttlebutt/record.Record] -/
def t37 (s0_ : Option SlD) (g1_ : FuncId) (f1_ c1_ : List (Nat × Nat)) : Tree :=
  .loop t37_b0 [(.sc (.sl s0_)), (.sc (.fn g1_ f1_ c1_)), (.sc (.i .i64 (slLen s0_))), (.sc (.i .i64 (0 : Int)))] t37_k0
theorem t37_eq (s0_ : Option SlD) (g1_ : FuncId) (f1_ c1_ : List (Nat × Nat)) : bodyK T (hs 37) Try.f37 [.sc (.sl s0_), .sc (.fn g1_ f1_ c1_)] = t37 s0_ g1_ f1_ c1_ := by kernel_rfl
/-- strings.Index -/
def t38 (x0_ : ByteArray) (x1_ : ByteArray) : Tree :=
  .call 42 [(.sc (.s x0_)), (.sc (.s x1_))] fun v0 =>
  .asI .i64 v0 fun n1 =>
  .ret 0 [(.sc (.i .i64 n1))]
theorem t38_eq (x0_ : ByteArray) (x1_ : ByteArray) : bodyK T (hs 38) Try.f38 [.sc (.s x0_), .sc (.s x1_)] = t38 x0_ x1_ := by kernel_rfl
def t39_b17  : List AV → Tree := fun l18 =>
  .asI .i64 (l18.getD 0 .un) fun n19 =>
  .br (n19 == (0 : Int))
    (.asP (l18.getD 1 .un) fun o20 =>
    .nn o20 fun a21 a22 =>
    .st a21 a22 [(.s (.mk (.mk []))), (.b .true)] (
    .ret 2 [(.sc (.s (.mk (.mk [])))), (.sc (.p (.some (a21, a22))))]))
    (.fail)
def t39_k17  : Nat → List AV → Tree := fun a23 l24 =>
  .tg a23 2
    (.asS (l24.getD 0 .un) fun x25 =>
    .asP (l24.getD 1 .un) fun o26 =>
    .nn o26 fun a27 a28 =>
    .ld a27 a28 2 fun l29 =>
    .nth l29 0 fun v30 =>
    .asS (.sc v30) fun x31 =>
    .nth l29 1 fun v32 =>
    .asB (.sc v32) fun b33 =>
    .ret 0 [(.tu [(.sc (.s x25)), (.ag [(.s x31), (.b b33)])])])
    (.fail)
def t39_k2  : Nat → List AV → Tree := fun a15 l16 =>
  .tg a15 3
    (.loop t39_b17 ((.sc (.i .i64 (0 : Int))) :: l16) t39_k17)
    (.tg a15 1
      (.asS (l16.getD 0 .un) fun x34 =>
      .asP (l16.getD 1 .un) fun o35 =>
      .nn o35 fun a36 a37 =>
      .ld a36 a37 2 fun l38 =>
      .nth l38 0 fun v39 =>
      .asS (.sc v39) fun x40 =>
      .nth l38 1 fun v41 =>
      .asB (.sc v41) fun b42 =>
      .ret 0 [(.tu [(.sc (.s x34)), (.ag [(.s x40), (.b b42)])])])
      (.fail))
/-- (scuttlebutt/pack.Reader).bytes -/
def t39 (x0_0 : ByteArray) (b0_1 : Bool) (n1_ : Int) : Tree :=
  .al [(.s x0_0), (.b b0_1)] fun a0 =>
  .al [(.s (.mk (.mk []))), (.b .false)] fun a1 =>
  .join (
    .ld a0 (0 + 1) 1 fun l3 =>
    .nth l3 0 fun v4 =>
    .asB (.sc v4) fun b5 =>
    cond b5
      (.ret 3 [(.sc (.p (.some (a1, 0))))])
      (.ld a0 (0 + 0) 1 fun l6 =>
      .nth l6 0 fun v7 =>
      .asS (.sc v7) fun x8 =>
      cond (decide (n1_ > (((ByteArray.size x8) : Nat) : Int)))
        (.ret 3 [(.sc (.p (.some (a1, 0))))])
        (.ld a0 (0 + 0) 1 fun l9 =>
        .nth l9 0 fun v10 =>
        .asS (.sc v10) fun x11 =>
        .br (((decide ((0 : Int) ≤ (0 : Int))) && (decide ((0 : Int) ≤ n1_))) && (decide (n1_ ≤ (((ByteArray.size x11) : Nat) : Int))))
          (.ld a0 (0 + 0) 1 fun l12 =>
          .nth l12 0 fun v13 =>
          .asS (.sc v13) fun x14 =>
          .br (((decide ((0 : Int) ≤ n1_)) && (decide (n1_ ≤ (Int.ofNat (ByteArray.size x14))))) && (decide ((Int.ofNat (ByteArray.size x14)) ≤ (((ByteArray.size x14) : Nat) : Int))))
            (.st a1 0 [(.s (ByteArray.extract x14 (Int.toNat n1_) (Int.toNat (Int.ofNat (ByteArray.size x14))))), (.b .false)] (
            .ret 1 [(.sc (.s (ByteArray.extract x11 (Int.toNat (0 : Int)) (Int.toNat n1_)))), (.sc (.p (.some (a1, 0))))]))
            (.fail))
          (.fail)))) t39_k2
theorem t39_eq (x0_0 : ByteArray) (b0_1 : Bool) (n1_ : Int) : bodyK T (hs 39) Try.f39 [.ag [.s x0_0, .b b0_1], .sc (.i .i64 n1_)] = t39 x0_0 b0_1 n1_ := by kernel_rfl
/-- internal/stringslite.IndexByte -/
def t45 (x0_ : ByteArray) (n1_ : Int) : Tree :=
  .call 52 [(.sc (.s x0_)), (.sc (.i .u8 n1_))] fun v0 =>
  .asI .i64 v0 fun n1 =>
  .ret 0 [(.sc (.i .i64 n1))]
theorem t45_eq (x0_ : ByteArray) (n1_ : Int) : bodyK T (hs 45) Try.f45 [.sc (.s x0_), .sc (.i .u8 n1_)] = t45 x0_ n1_ := by kernel_rfl
end Go.Proofs.Ytkhooppaenfkdaa
