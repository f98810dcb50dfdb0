/- Trees of functions, printed by a program of mine; each is proved to be the function's. -/
import Derived.Test.YtonohkjngmcbmaaGen
namespace Go.Proofs.Ytonohkjngmcbmaa
open Go Go.Proofs.Ytonohkjngmcbmaa.Fw
set_option linter.unusedVariables false
/-- slices.stableCmpFunc[scuttlebutt/wheel.Timer] -/
def t32 (s0_ : Option SlD) (n1_ : Int) (g2_ : FuncId) (f2_ c2_ : List (Nat × Nat)) : Tree :=
  .loop (fun l0 =>
    .asL (l0.getD 0 .un) fun o1 =>
    .asI .i64 (l0.getD 1 .un) fun n2 =>
    .asX (l0.getD 2 .un) fun v3 =>
    .asI .i64 (l0.getD 3 .un) fun n4 =>
    .asI .i64 (l0.getD 4 .un) fun n5 =>
    .asI .i64 (l0.getD 5 .un) fun n6 =>
    cond (decide (n6 ≤ n2))
      (.call 34 [(.sc (.sl o1)), (.sc (.i .i64 n5)), (.sc (.i .i64 n6)), (.sc v3)] fun v7 =>
      .ret 0 [(.sc (.sl o1)), (.sc (.i .i64 n2)), (.sc v3), (.sc (.i .i64 n4)), (.sc (.i .i64 n6)), (.sc (.i .i64 (IntKind.wrap .i64 (n6 + n4))))])
      (.ret 2 [(.sc (.sl o1)), (.sc (.i .i64 n2)), (.sc v3), (.sc (.i .i64 n4)), (.sc (.i .i64 n5))])) [(.sc (.sl s0_)), (.sc (.i .i64 n1_)), (.sc (.fn g2_ f2_ c2_)), (.sc (.i .i64 (20 : Int))), (.sc (.i .i64 (0 : Int))), (.sc (.i .i64 (20 : Int)))] fun a8 l9 =>
  .tg a8 2
    (.asL (l9.getD 0 .un) fun o10 =>
    .asI .i64 (l9.getD 1 .un) fun n11 =>
    .asX (l9.getD 2 .un) fun v12 =>
    .asI .i64 (l9.getD 3 .un) fun n13 =>
    .asI .i64 (l9.getD 4 .un) fun n14 =>
    .call 34 [(.sc (.sl o10)), (.sc (.i .i64 n14)), (.sc (.i .i64 n11)), (.sc v12)] fun v15 =>
    .loop (fun l16 =>
      .asL (l16.getD 0 .un) fun o17 =>
      .asI .i64 (l16.getD 1 .un) fun n18 =>
      .asX (l16.getD 2 .un) fun v19 =>
      .asI .i64 (l16.getD 3 .un) fun n20 =>
      cond (decide (n20 < n18))
        (.loop (fun l21 =>
          .asL (l21.getD 0 .un) fun o22 =>
          .asI .i64 (l21.getD 1 .un) fun n23 =>
          .asX (l21.getD 2 .un) fun v24 =>
          .asI .i64 (l21.getD 3 .un) fun n25 =>
          .asI .i64 (l21.getD 4 .un) fun n26 =>
          .asI .i64 (l21.getD 5 .un) fun n27 =>
          cond (decide (n27 ≤ n23))
            (.call 35 [(.sc (.sl o22)), (.sc (.i .i64 n26)), (.sc (.i .i64 (IntKind.wrap .i64 (n26 + n25)))), (.sc (.i .i64 n27)), (.sc v24)] fun v28 =>
            .ret 0 [(.sc (.sl o22)), (.sc (.i .i64 n23)), (.sc v24), (.sc (.i .i64 n25)), (.sc (.i .i64 n27)), (.sc (.i .i64 (IntKind.wrap .i64 (n27 + (IntKind.wrap .i64 ((2 : Int) * n25))))))])
            (.ret 10 [(.sc (.sl o22)), (.sc (.i .i64 n23)), (.sc v24), (.sc (.i .i64 n25)), (.sc (.i .i64 n26))])) [(.sc (.sl o17)), (.sc (.i .i64 n18)), (.sc v19), (.sc (.i .i64 n20)), (.sc (.i .i64 (0 : Int))), (.sc (.i .i64 (IntKind.wrap .i64 ((2 : Int) * n20))))] fun a29 l30 =>
        .tg a29 10
          (.asL (l30.getD 0 .un) fun o31 =>
          .asI .i64 (l30.getD 1 .un) fun n32 =>
          .asX (l30.getD 2 .un) fun v33 =>
          .asI .i64 (l30.getD 3 .un) fun n34 =>
          .asI .i64 (l30.getD 4 .un) fun n35 =>
          cond (decide ((IntKind.wrap .i64 (n35 + n34)) < n32))
            (.call 35 [(.sc (.sl o31)), (.sc (.i .i64 n35)), (.sc (.i .i64 (IntKind.wrap .i64 (n35 + n34)))), (.sc (.i .i64 n32)), (.sc v33)] fun v36 =>
            .ret 0 [(.sc (.sl o31)), (.sc (.i .i64 n32)), (.sc v33), (.sc (.i .i64 (IntKind.wrap .i64 (n34 * (2 : Int)))))])
            (.ret 0 [(.sc (.sl o31)), (.sc (.i .i64 n32)), (.sc v33), (.sc (.i .i64 (IntKind.wrap .i64 (n34 * (2 : Int)))))]))
          (.fail))
        (.ret 6 [])) [(.sc (.sl o10)), (.sc (.i .i64 n11)), (.sc v12), (.sc (.i .i64 n13))] fun a37 l38 =>
    .tg a37 6
      (.ret 0 [(.tu [])])
      (.fail))
    (.fail)
theorem t32_eq (s0_ : Option SlD) (n1_ : Int) (g2_ : FuncId) (f2_ c2_ : List (Nat × Nat)) : bodyK T (hs 32) Try.f32 [.sc (.sl s0_), .sc (.i .i64 n1_), .sc (.fn g2_ f2_ c2_)] = t32 s0_ n1_ g2_ f2_ c2_ := by kernel_rfl
/-- slices.insertionSortCmpFunc[scuttlebutt/wheel.Timer] -/
def t34 (s0_ : Option SlD) (n1_ : Int) (n2_ : Int) (g3_ : FuncId) (f3_ c3_ : List (Nat × Nat)) : Tree :=
  .loop (fun l0 =>
    .asL (l0.getD 0 .un) fun o1 =>
    .asI .i64 (l0.getD 1 .un) fun n2 =>
    .asI .i64 (l0.getD 2 .un) fun n3 =>
    .asX (l0.getD 3 .un) fun v4 =>
    .asI .i64 (l0.getD 4 .un) fun n5 =>
    cond (decide (n5 < n3))
      (.loop (fun l6 =>
        .asL (l6.getD 0 .un) fun o7 =>
        .asI .i64 (l6.getD 1 .un) fun n8 =>
        .asI .i64 (l6.getD 2 .un) fun n9 =>
        .asX (l6.getD 3 .un) fun v10 =>
        .asI .i64 (l6.getD 4 .un) fun n11 =>
        .asI .i64 (l6.getD 5 .un) fun n12 =>
        cond (decide (n12 > n8))
          (.ixS 3 o7 n12 fun a13 a14 a15 =>
          .ld a13 (a14 + (a15 * 3)) 3 fun l16 =>
          .nth l16 0 fun v17 =>
          .asI .i64 (.sc v17) fun n18 =>
          .nth l16 1 fun v19 =>
          .asI .i64 (.sc v19) fun n20 =>
          .nth l16 2 fun v21 =>
          .asI .u64 (.sc v21) fun n22 =>
          .ixS 3 o7 (IntKind.wrap .i64 (n12 - (1 : Int))) fun a23 a24 a25 =>
          .ld a23 (a24 + (a25 * 3)) 3 fun l26 =>
          .nth l26 0 fun v27 =>
          .asI .i64 (.sc v27) fun n28 =>
          .nth l26 1 fun v29 =>
          .asI .i64 (.sc v29) fun n30 =>
          .nth l26 2 fun v31 =>
          .asI .u64 (.sc v31) fun n32 =>
          .callv (.sc v10) [(.ag [(.i .i64 n18), (.i .i64 n20), (.i .u64 n22)]), (.ag [(.i .i64 n28), (.i .i64 n30), (.i .u64 n32)])] fun v33 =>
          .asI .i64 v33 fun n34 =>
          cond (decide (n34 < (0 : Int)))
            (.ixS 3 o7 (IntKind.wrap .i64 (n12 - (1 : Int))) fun a35 a36 a37 =>
            .ld a35 (a36 + (a37 * 3)) 3 fun l38 =>
            .nth l38 0 fun v39 =>
            .asI .i64 (.sc v39) fun n40 =>
            .nth l38 1 fun v41 =>
            .asI .i64 (.sc v41) fun n42 =>
            .nth l38 2 fun v43 =>
            .asI .u64 (.sc v43) fun n44 =>
            .ixS 3 o7 n12 fun a45 a46 a47 =>
            .ld a45 (a46 + (a47 * 3)) 3 fun l48 =>
            .nth l48 0 fun v49 =>
            .asI .i64 (.sc v49) fun n50 =>
            .nth l48 1 fun v51 =>
            .asI .i64 (.sc v51) fun n52 =>
            .nth l48 2 fun v53 =>
            .asI .u64 (.sc v53) fun n54 =>
            .ixS 3 o7 n12 fun a55 a56 a57 =>
            .st a55 (a56 + (a57 * 3)) [(.i .i64 n40), (.i .i64 n42), (.i .u64 n44)] (
            .ixS 3 o7 (IntKind.wrap .i64 (n12 - (1 : Int))) fun a58 a59 a60 =>
            .st a58 (a59 + (a60 * 3)) [(.i .i64 n50), (.i .i64 n52), (.i .u64 n54)] (
            .ret 0 [(.sc (.sl o7)), (.sc (.i .i64 n8)), (.sc (.i .i64 n9)), (.sc v10), (.sc (.i .i64 n11)), (.sc (.i .i64 (IntKind.wrap .i64 (n12 - (1 : Int)))))])))
            (.ret 6 [(.sc (.sl o7)), (.sc (.i .i64 n8)), (.sc (.i .i64 n9)), (.sc v10), (.sc (.i .i64 n11))]))
          (.ret 6 [(.sc (.sl o7)), (.sc (.i .i64 n8)), (.sc (.i .i64 n9)), (.sc v10), (.sc (.i .i64 n11))])) [(.sc (.sl o1)), (.sc (.i .i64 n2)), (.sc (.i .i64 n3)), (.sc v4), (.sc (.i .i64 n5)), (.sc (.i .i64 n5))] fun a61 l62 =>
      .tg a61 6
        (.asL (l62.getD 0 .un) fun o63 =>
        .asI .i64 (l62.getD 1 .un) fun n64 =>
        .asI .i64 (l62.getD 2 .un) fun n65 =>
        .asX (l62.getD 3 .un) fun v66 =>
        .asI .i64 (l62.getD 4 .un) fun n67 =>
        .ret 0 [(.sc (.sl o63)), (.sc (.i .i64 n64)), (.sc (.i .i64 n65)), (.sc v66), (.sc (.i .i64 (IntKind.wrap .i64 (n67 + (1 : Int)))))])
        (.fail))
      (.ret 2 [])) [(.sc (.sl s0_)), (.sc (.i .i64 n1_)), (.sc (.i .i64 n2_)), (.sc (.fn g3_ f3_ c3_)), (.sc (.i .i64 (IntKind.wrap .i64 (n1_ + (1 : Int)))))] fun a68 l69 =>
  .tg a68 2
    (.ret 0 [(.tu [])])
    (.fail)
theorem t34_eq (s0_ : Option SlD) (n1_ : Int) (n2_ : Int) (g3_ : FuncId) (f3_ c3_ : List (Nat × Nat)) : bodyK T (hs 34) Try.f34 [.sc (.sl s0_), .sc (.i .i64 n1_), .sc (.i .i64 n2_), .sc (.fn g3_ f3_ c3_)] = t34 s0_ n1_ n2_ g3_ f3_ c3_ := by kernel_rfl
/-- slices.symMergeCmpFunc[scuttlebutt/wheel.Timer] -/
def t35 (s0_ : Option SlD) (n1_ : Int) (n2_ : Int) (n3_ : Int) (g4_ : FuncId) (f4_ c4_ : List (Nat × Nat)) : Tree :=
  cond ((IntKind.wrap .i64 (n2_ - n1_)) == (1 : Int))
    (.loop (fun l0 =>
      .asL (l0.getD 0 .un) fun o1 =>
      .asI .i64 (l0.getD 1 .un) fun n2 =>
      .asX (l0.getD 2 .un) fun v3 =>
      .asI .i64 (l0.getD 3 .un) fun n4 =>
      .asI .i64 (l0.getD 4 .un) fun n5 =>
      cond (decide (n4 < n5))
        (.br (decide ((0 : Int) ≤ (1 : Int)))
          (.ixS 3 o1 (IntKind.wrap .i64 (Int.fdiv (IntKind.wrap .u64 (IntKind.wrap .i64 (n4 + n5))) (2 : Int))) fun a6 a7 a8 =>
          .ld a6 (a7 + (a8 * 3)) 3 fun l9 =>
          .nth l9 0 fun v10 =>
          .asI .i64 (.sc v10) fun n11 =>
          .nth l9 1 fun v12 =>
          .asI .i64 (.sc v12) fun n13 =>
          .nth l9 2 fun v14 =>
          .asI .u64 (.sc v14) fun n15 =>
          .ixS 3 o1 n2 fun a16 a17 a18 =>
          .ld a16 (a17 + (a18 * 3)) 3 fun l19 =>
          .nth l19 0 fun v20 =>
          .asI .i64 (.sc v20) fun n21 =>
          .nth l19 1 fun v22 =>
          .asI .i64 (.sc v22) fun n23 =>
          .nth l19 2 fun v24 =>
          .asI .u64 (.sc v24) fun n25 =>
          .callv (.sc v3) [(.ag [(.i .i64 n11), (.i .i64 n13), (.i .u64 n15)]), (.ag [(.i .i64 n21), (.i .i64 n23), (.i .u64 n25)])] fun v26 =>
          .asI .i64 v26 fun n27 =>
          cond (decide (n27 < (0 : Int)))
            (.ret 0 [(.sc (.sl o1)), (.sc (.i .i64 n2)), (.sc v3), (.sc (.i .i64 (IntKind.wrap .i64 ((IntKind.wrap .i64 (Int.fdiv (IntKind.wrap .u64 (IntKind.wrap .i64 (n4 + n5))) (2 : Int))) + (1 : Int))))), (.sc (.i .i64 n5))])
            (.ret 0 [(.sc (.sl o1)), (.sc (.i .i64 n2)), (.sc v3), (.sc (.i .i64 n4)), (.sc (.i .i64 (IntKind.wrap .i64 (Int.fdiv (IntKind.wrap .u64 (IntKind.wrap .i64 (n4 + n5))) (2 : Int)))))]))
          (.fail))
        (.ret 2 [(.sc (.sl o1)), (.sc (.i .i64 n2)), (.sc (.i .i64 n4))])) [(.sc (.sl s0_)), (.sc (.i .i64 n1_)), (.sc (.fn g4_ f4_ c4_)), (.sc (.i .i64 n2_)), (.sc (.i .i64 n3_))] fun a28 l29 =>
    .tg a28 2
      (.asL (l29.getD 0 .un) fun o30 =>
      .asI .i64 (l29.getD 1 .un) fun n31 =>
      .asI .i64 (l29.getD 2 .un) fun n32 =>
      .loop (fun l33 =>
        .asL (l33.getD 0 .un) fun o34 =>
        .asI .i64 (l33.getD 1 .un) fun n35 =>
        .asI .i64 (l33.getD 2 .un) fun n36 =>
        cond (decide (n36 < (IntKind.wrap .i64 (n35 - (1 : Int)))))
          (.ixS 3 o34 (IntKind.wrap .i64 (n36 + (1 : Int))) fun a37 a38 a39 =>
          .ld a37 (a38 + (a39 * 3)) 3 fun l40 =>
          .nth l40 0 fun v41 =>
          .asI .i64 (.sc v41) fun n42 =>
          .nth l40 1 fun v43 =>
          .asI .i64 (.sc v43) fun n44 =>
          .nth l40 2 fun v45 =>
          .asI .u64 (.sc v45) fun n46 =>
          .ixS 3 o34 n36 fun a47 a48 a49 =>
          .ld a47 (a48 + (a49 * 3)) 3 fun l50 =>
          .nth l50 0 fun v51 =>
          .asI .i64 (.sc v51) fun n52 =>
          .nth l50 1 fun v53 =>
          .asI .i64 (.sc v53) fun n54 =>
          .nth l50 2 fun v55 =>
          .asI .u64 (.sc v55) fun n56 =>
          .ixS 3 o34 n36 fun a57 a58 a59 =>
          .st a57 (a58 + (a59 * 3)) [(.i .i64 n42), (.i .i64 n44), (.i .u64 n46)] (
          .ixS 3 o34 (IntKind.wrap .i64 (n36 + (1 : Int))) fun a60 a61 a62 =>
          .st a60 (a61 + (a62 * 3)) [(.i .i64 n52), (.i .i64 n54), (.i .u64 n56)] (
          .ret 0 [(.sc (.sl o34)), (.sc (.i .i64 n35)), (.sc (.i .i64 (IntKind.wrap .i64 (n36 + (1 : Int)))))])))
          (.ret 6 [])) [(.sc (.sl o30)), (.sc (.i .i64 n32)), (.sc (.i .i64 n31))] fun a63 l64 =>
      .tg a63 6
        (.ret 0 [(.tu [])])
        (.fail))
      (.fail))
    (cond ((IntKind.wrap .i64 (n3_ - n2_)) == (1 : Int))
      (.loop (fun l65 =>
        .asL (l65.getD 0 .un) fun o66 =>
        .asI .i64 (l65.getD 1 .un) fun n67 =>
        .asX (l65.getD 2 .un) fun v68 =>
        .asI .i64 (l65.getD 3 .un) fun n69 =>
        .asI .i64 (l65.getD 4 .un) fun n70 =>
        cond (decide (n69 < n70))
          (.br (decide ((0 : Int) ≤ (1 : Int)))
            (.ixS 3 o66 n67 fun a71 a72 a73 =>
            .ld a71 (a72 + (a73 * 3)) 3 fun l74 =>
            .nth l74 0 fun v75 =>
            .asI .i64 (.sc v75) fun n76 =>
            .nth l74 1 fun v77 =>
            .asI .i64 (.sc v77) fun n78 =>
            .nth l74 2 fun v79 =>
            .asI .u64 (.sc v79) fun n80 =>
            .ixS 3 o66 (IntKind.wrap .i64 (Int.fdiv (IntKind.wrap .u64 (IntKind.wrap .i64 (n69 + n70))) (2 : Int))) fun a81 a82 a83 =>
            .ld a81 (a82 + (a83 * 3)) 3 fun l84 =>
            .nth l84 0 fun v85 =>
            .asI .i64 (.sc v85) fun n86 =>
            .nth l84 1 fun v87 =>
            .asI .i64 (.sc v87) fun n88 =>
            .nth l84 2 fun v89 =>
            .asI .u64 (.sc v89) fun n90 =>
            .callv (.sc v68) [(.ag [(.i .i64 n76), (.i .i64 n78), (.i .u64 n80)]), (.ag [(.i .i64 n86), (.i .i64 n88), (.i .u64 n90)])] fun v91 =>
            .asI .i64 v91 fun n92 =>
            cond (!(decide (n92 < (0 : Int))))
              (.ret 0 [(.sc (.sl o66)), (.sc (.i .i64 n67)), (.sc v68), (.sc (.i .i64 (IntKind.wrap .i64 ((IntKind.wrap .i64 (Int.fdiv (IntKind.wrap .u64 (IntKind.wrap .i64 (n69 + n70))) (2 : Int))) + (1 : Int))))), (.sc (.i .i64 n70))])
              (.ret 0 [(.sc (.sl o66)), (.sc (.i .i64 n67)), (.sc v68), (.sc (.i .i64 n69)), (.sc (.i .i64 (IntKind.wrap .i64 (Int.fdiv (IntKind.wrap .u64 (IntKind.wrap .i64 (n69 + n70))) (2 : Int)))))]))
            (.fail))
          (.ret 10 [(.sc (.sl o66)), (.sc (.i .i64 n67)), (.sc (.i .i64 n69))])) [(.sc (.sl s0_)), (.sc (.i .i64 n2_)), (.sc (.fn g4_ f4_ c4_)), (.sc (.i .i64 n1_)), (.sc (.i .i64 n2_))] fun a93 l94 =>
      .tg a93 10
        (.asL (l94.getD 0 .un) fun o95 =>
        .asI .i64 (l94.getD 1 .un) fun n96 =>
        .asI .i64 (l94.getD 2 .un) fun n97 =>
        .loop (fun l98 =>
          .asL (l98.getD 0 .un) fun o99 =>
          .asI .i64 (l98.getD 1 .un) fun n100 =>
          .asI .i64 (l98.getD 2 .un) fun n101 =>
          cond (decide (n101 > n100))
            (.ixS 3 o99 (IntKind.wrap .i64 (n101 - (1 : Int))) fun a102 a103 a104 =>
            .ld a102 (a103 + (a104 * 3)) 3 fun l105 =>
            .nth l105 0 fun v106 =>
            .asI .i64 (.sc v106) fun n107 =>
            .nth l105 1 fun v108 =>
            .asI .i64 (.sc v108) fun n109 =>
            .nth l105 2 fun v110 =>
            .asI .u64 (.sc v110) fun n111 =>
            .ixS 3 o99 n101 fun a112 a113 a114 =>
            .ld a112 (a113 + (a114 * 3)) 3 fun l115 =>
            .nth l115 0 fun v116 =>
            .asI .i64 (.sc v116) fun n117 =>
            .nth l115 1 fun v118 =>
            .asI .i64 (.sc v118) fun n119 =>
            .nth l115 2 fun v120 =>
            .asI .u64 (.sc v120) fun n121 =>
            .ixS 3 o99 n101 fun a122 a123 a124 =>
            .st a122 (a123 + (a124 * 3)) [(.i .i64 n107), (.i .i64 n109), (.i .u64 n111)] (
            .ixS 3 o99 (IntKind.wrap .i64 (n101 - (1 : Int))) fun a125 a126 a127 =>
            .st a125 (a126 + (a127 * 3)) [(.i .i64 n117), (.i .i64 n119), (.i .u64 n121)] (
            .ret 0 [(.sc (.sl o99)), (.sc (.i .i64 n100)), (.sc (.i .i64 (IntKind.wrap .i64 (n101 - (1 : Int)))))])))
            (.ret 14 [])) [(.sc (.sl o95)), (.sc (.i .i64 n97)), (.sc (.i .i64 n96))] fun a128 l129 =>
        .tg a128 14
          (.ret 0 [(.tu [])])
          (.fail))
        (.fail))
      (.br (decide ((0 : Int) ≤ (1 : Int)))
        (.join (
          cond (decide (n2_ > (IntKind.wrap .i64 (Int.fdiv (IntKind.wrap .u64 (IntKind.wrap .i64 (n1_ + n3_))) (2 : Int)))))
            (.ret 0 [(.sc (.sl s0_)), (.sc (.i .i64 n1_)), (.sc (.i .i64 n2_)), (.sc (.i .i64 n3_)), (.sc (.fn g4_ f4_ c4_)), (.sc (.i .i64 (IntKind.wrap .i64 (Int.fdiv (IntKind.wrap .u64 (IntKind.wrap .i64 (n1_ + n3_))) (2 : Int))))), (.sc (.i .i64 (IntKind.wrap .i64 ((IntKind.wrap .i64 (Int.fdiv (IntKind.wrap .u64 (IntKind.wrap .i64 (n1_ + n3_))) (2 : Int))) + n2_)))), (.sc (.i .i64 (IntKind.wrap .i64 ((IntKind.wrap .i64 ((IntKind.wrap .i64 (Int.fdiv (IntKind.wrap .u64 (IntKind.wrap .i64 (n1_ + n3_))) (2 : Int))) + n2_)) - n3_)))), (.sc (.i .i64 (IntKind.wrap .i64 (Int.fdiv (IntKind.wrap .u64 (IntKind.wrap .i64 (n1_ + n3_))) (2 : Int)))))])
            (.ret 0 [(.sc (.sl s0_)), (.sc (.i .i64 n1_)), (.sc (.i .i64 n2_)), (.sc (.i .i64 n3_)), (.sc (.fn g4_ f4_ c4_)), (.sc (.i .i64 (IntKind.wrap .i64 (Int.fdiv (IntKind.wrap .u64 (IntKind.wrap .i64 (n1_ + n3_))) (2 : Int))))), (.sc (.i .i64 (IntKind.wrap .i64 ((IntKind.wrap .i64 (Int.fdiv (IntKind.wrap .u64 (IntKind.wrap .i64 (n1_ + n3_))) (2 : Int))) + n2_)))), (.sc (.i .i64 n1_)), (.sc (.i .i64 n2_))])) fun a130 l131 =>
        .tg a130 0
          (.asL (l131.getD 0 .un) fun o132 =>
          .asI .i64 (l131.getD 1 .un) fun n133 =>
          .asI .i64 (l131.getD 2 .un) fun n134 =>
          .asI .i64 (l131.getD 3 .un) fun n135 =>
          .asX (l131.getD 4 .un) fun v136 =>
          .asI .i64 (l131.getD 5 .un) fun n137 =>
          .asI .i64 (l131.getD 6 .un) fun n138 =>
          .asI .i64 (l131.getD 7 .un) fun n139 =>
          .asI .i64 (l131.getD 8 .un) fun n140 =>
          .loop (fun l141 =>
            .asL (l141.getD 0 .un) fun o142 =>
            .asI .i64 (l141.getD 1 .un) fun n143 =>
            .asI .i64 (l141.getD 2 .un) fun n144 =>
            .asI .i64 (l141.getD 3 .un) fun n145 =>
            .asX (l141.getD 4 .un) fun v146 =>
            .asI .i64 (l141.getD 5 .un) fun n147 =>
            .asI .i64 (l141.getD 6 .un) fun n148 =>
            .asI .i64 (l141.getD 7 .un) fun n149 =>
            .asI .i64 (l141.getD 8 .un) fun n150 =>
            .asI .i64 (l141.getD 9 .un) fun n151 =>
            cond (decide (n149 < n150))
              (.br (decide ((0 : Int) ≤ (1 : Int)))
                (.ixS 3 o142 (IntKind.wrap .i64 (n151 - (IntKind.wrap .i64 (Int.fdiv (IntKind.wrap .u64 (IntKind.wrap .i64 (n149 + n150))) (2 : Int))))) fun a152 a153 a154 =>
                .ld a152 (a153 + (a154 * 3)) 3 fun l155 =>
                .nth l155 0 fun v156 =>
                .asI .i64 (.sc v156) fun n157 =>
                .nth l155 1 fun v158 =>
                .asI .i64 (.sc v158) fun n159 =>
                .nth l155 2 fun v160 =>
                .asI .u64 (.sc v160) fun n161 =>
                .ixS 3 o142 (IntKind.wrap .i64 (Int.fdiv (IntKind.wrap .u64 (IntKind.wrap .i64 (n149 + n150))) (2 : Int))) fun a162 a163 a164 =>
                .ld a162 (a163 + (a164 * 3)) 3 fun l165 =>
                .nth l165 0 fun v166 =>
                .asI .i64 (.sc v166) fun n167 =>
                .nth l165 1 fun v168 =>
                .asI .i64 (.sc v168) fun n169 =>
                .nth l165 2 fun v170 =>
                .asI .u64 (.sc v170) fun n171 =>
                .callv (.sc v146) [(.ag [(.i .i64 n157), (.i .i64 n159), (.i .u64 n161)]), (.ag [(.i .i64 n167), (.i .i64 n169), (.i .u64 n171)])] fun v172 =>
                .asI .i64 v172 fun n173 =>
                cond (!(decide (n173 < (0 : Int))))
                  (.ret 0 [(.sc (.sl o142)), (.sc (.i .i64 n143)), (.sc (.i .i64 n144)), (.sc (.i .i64 n145)), (.sc v146), (.sc (.i .i64 n147)), (.sc (.i .i64 n148)), (.sc (.i .i64 (IntKind.wrap .i64 ((IntKind.wrap .i64 (Int.fdiv (IntKind.wrap .u64 (IntKind.wrap .i64 (n149 + n150))) (2 : Int))) + (1 : Int))))), (.sc (.i .i64 n150)), (.sc (.i .i64 n151))])
                  (.ret 0 [(.sc (.sl o142)), (.sc (.i .i64 n143)), (.sc (.i .i64 n144)), (.sc (.i .i64 n145)), (.sc v146), (.sc (.i .i64 n147)), (.sc (.i .i64 n148)), (.sc (.i .i64 n149)), (.sc (.i .i64 (IntKind.wrap .i64 (Int.fdiv (IntKind.wrap .u64 (IntKind.wrap .i64 (n149 + n150))) (2 : Int))))), (.sc (.i .i64 n151))]))
                (.fail))
              (.ret 18 [(.sc (.sl o142)), (.sc (.i .i64 n143)), (.sc (.i .i64 n144)), (.sc (.i .i64 n145)), (.sc v146), (.sc (.i .i64 n147)), (.sc (.i .i64 n148)), (.sc (.i .i64 n149))])) [(.sc (.sl o132)), (.sc (.i .i64 n133)), (.sc (.i .i64 n134)), (.sc (.i .i64 n135)), (.sc v136), (.sc (.i .i64 n137)), (.sc (.i .i64 n138)), (.sc (.i .i64 n139)), (.sc (.i .i64 n140)), (.sc (.i .i64 (IntKind.wrap .i64 (n138 - (1 : Int)))))] fun a174 l175 =>
          .tg a174 18
            (.asL (l175.getD 0 .un) fun o176 =>
            .asI .i64 (l175.getD 1 .un) fun n177 =>
            .asI .i64 (l175.getD 2 .un) fun n178 =>
            .asI .i64 (l175.getD 3 .un) fun n179 =>
            .asX (l175.getD 4 .un) fun v180 =>
            .asI .i64 (l175.getD 5 .un) fun n181 =>
            .asI .i64 (l175.getD 6 .un) fun n182 =>
            .asI .i64 (l175.getD 7 .un) fun n183 =>
            cond (decide (n183 < n178))
              (.join (
                cond (decide (n178 < (IntKind.wrap .i64 (n182 - n183))))
                  (.call 36 [(.sc (.sl o176)), (.sc (.i .i64 n183)), (.sc (.i .i64 n178)), (.sc (.i .i64 (IntKind.wrap .i64 (n182 - n183)))), (.sc v180)] fun v184 =>
                  .ret 0 [(.sc (.sl o176)), (.sc (.i .i64 n177)), (.sc (.i .i64 n179)), (.sc v180), (.sc (.i .i64 n181)), (.sc (.i .i64 n183)), (.sc (.i .i64 (IntKind.wrap .i64 (n182 - n183))))])
                  (.ret 0 [(.sc (.sl o176)), (.sc (.i .i64 n177)), (.sc (.i .i64 n179)), (.sc v180), (.sc (.i .i64 n181)), (.sc (.i .i64 n183)), (.sc (.i .i64 (IntKind.wrap .i64 (n182 - n183))))])) fun a185 l186 =>
              .tg a185 0
                (.asL (l186.getD 0 .un) fun o187 =>
                .asI .i64 (l186.getD 1 .un) fun n188 =>
                .asI .i64 (l186.getD 2 .un) fun n189 =>
                .asX (l186.getD 3 .un) fun v190 =>
                .asI .i64 (l186.getD 4 .un) fun n191 =>
                .asI .i64 (l186.getD 5 .un) fun n192 =>
                .asI .i64 (l186.getD 6 .un) fun n193 =>
                cond (decide (n188 < n192))
                  (.join (
                    cond (decide (n192 < n191))
                      (.call 35 [(.sc (.sl o187)), (.sc (.i .i64 n188)), (.sc (.i .i64 n192)), (.sc (.i .i64 n191)), (.sc v190)] fun v194 =>
                      .ret 0 [(.sc (.sl o187)), (.sc (.i .i64 n189)), (.sc v190), (.sc (.i .i64 n191)), (.sc (.i .i64 n193))])
                      (.ret 0 [(.sc (.sl o187)), (.sc (.i .i64 n189)), (.sc v190), (.sc (.i .i64 n191)), (.sc (.i .i64 n193))])) fun a195 l196 =>
                  .tg a195 0
                    (.asL (l196.getD 0 .un) fun o197 =>
                    .asI .i64 (l196.getD 1 .un) fun n198 =>
                    .asX (l196.getD 2 .un) fun v199 =>
                    .asI .i64 (l196.getD 3 .un) fun n200 =>
                    .asI .i64 (l196.getD 4 .un) fun n201 =>
                    cond (decide (n200 < n201))
                      (cond (decide (n201 < n198))
                        (.call 35 [(.sc (.sl o197)), (.sc (.i .i64 n200)), (.sc (.i .i64 n201)), (.sc (.i .i64 n198)), (.sc v199)] fun v202 =>
                        .ret 0 [(.tu [])])
                        (.ret 0 [(.tu [])]))
                      (.ret 0 [(.tu [])]))
                    (.fail))
                  (.join (
                    .ret 0 [(.sc (.sl o187)), (.sc (.i .i64 n189)), (.sc v190), (.sc (.i .i64 n191)), (.sc (.i .i64 n193))]) fun a203 l204 =>
                  .tg a203 0
                    (.asL (l204.getD 0 .un) fun o205 =>
                    .asI .i64 (l204.getD 1 .un) fun n206 =>
                    .asX (l204.getD 2 .un) fun v207 =>
                    .asI .i64 (l204.getD 3 .un) fun n208 =>
                    .asI .i64 (l204.getD 4 .un) fun n209 =>
                    cond (decide (n208 < n209))
                      (cond (decide (n209 < n206))
                        (.call 35 [(.sc (.sl o205)), (.sc (.i .i64 n208)), (.sc (.i .i64 n209)), (.sc (.i .i64 n206)), (.sc v207)] fun v210 =>
                        .ret 0 [(.tu [])])
                        (.ret 0 [(.tu [])]))
                      (.ret 0 [(.tu [])]))
                    (.fail)))
                (.fail))
              (.join (
                .ret 0 [(.sc (.sl o176)), (.sc (.i .i64 n177)), (.sc (.i .i64 n179)), (.sc v180), (.sc (.i .i64 n181)), (.sc (.i .i64 n183)), (.sc (.i .i64 (IntKind.wrap .i64 (n182 - n183))))]) fun a211 l212 =>
              .tg a211 0
                (.asL (l212.getD 0 .un) fun o213 =>
                .asI .i64 (l212.getD 1 .un) fun n214 =>
                .asI .i64 (l212.getD 2 .un) fun n215 =>
                .asX (l212.getD 3 .un) fun v216 =>
                .asI .i64 (l212.getD 4 .un) fun n217 =>
                .asI .i64 (l212.getD 5 .un) fun n218 =>
                .asI .i64 (l212.getD 6 .un) fun n219 =>
                cond (decide (n214 < n218))
                  (.join (
                    cond (decide (n218 < n217))
                      (.call 35 [(.sc (.sl o213)), (.sc (.i .i64 n214)), (.sc (.i .i64 n218)), (.sc (.i .i64 n217)), (.sc v216)] fun v220 =>
                      .ret 0 [(.sc (.sl o213)), (.sc (.i .i64 n215)), (.sc v216), (.sc (.i .i64 n217)), (.sc (.i .i64 n219))])
                      (.ret 0 [(.sc (.sl o213)), (.sc (.i .i64 n215)), (.sc v216), (.sc (.i .i64 n217)), (.sc (.i .i64 n219))])) fun a221 l222 =>
                  .tg a221 0
                    (.asL (l222.getD 0 .un) fun o223 =>
                    .asI .i64 (l222.getD 1 .un) fun n224 =>
                    .asX (l222.getD 2 .un) fun v225 =>
                    .asI .i64 (l222.getD 3 .un) fun n226 =>
                    .asI .i64 (l222.getD 4 .un) fun n227 =>
                    cond (decide (n226 < n227))
                      (cond (decide (n227 < n224))
                        (.call 35 [(.sc (.sl o223)), (.sc (.i .i64 n226)), (.sc (.i .i64 n227)), (.sc (.i .i64 n224)), (.sc v225)] fun v228 =>
                        .ret 0 [(.tu [])])
                        (.ret 0 [(.tu [])]))
                      (.ret 0 [(.tu [])]))
                    (.fail))
                  (.join (
                    .ret 0 [(.sc (.sl o213)), (.sc (.i .i64 n215)), (.sc v216), (.sc (.i .i64 n217)), (.sc (.i .i64 n219))]) fun a229 l230 =>
                  .tg a229 0
                    (.asL (l230.getD 0 .un) fun o231 =>
                    .asI .i64 (l230.getD 1 .un) fun n232 =>
                    .asX (l230.getD 2 .un) fun v233 =>
                    .asI .i64 (l230.getD 3 .un) fun n234 =>
                    .asI .i64 (l230.getD 4 .un) fun n235 =>
                    cond (decide (n234 < n235))
                      (cond (decide (n235 < n232))
                        (.call 35 [(.sc (.sl o231)), (.sc (.i .i64 n234)), (.sc (.i .i64 n235)), (.sc (.i .i64 n232)), (.sc v233)] fun v236 =>
                        .ret 0 [(.tu [])])
                        (.ret 0 [(.tu [])]))
                      (.ret 0 [(.tu [])]))
                    (.fail)))
                (.fail)))
            (.fail))
          (.fail))
        (.fail)))
theorem t35_eq (s0_ : Option SlD) (n1_ : Int) (n2_ : Int) (n3_ : Int) (g4_ : FuncId) (f4_ c4_ : List (Nat × Nat)) : bodyK T (hs 35) Try.f35 [.sc (.sl s0_), .sc (.i .i64 n1_), .sc (.i .i64 n2_), .sc (.i .i64 n3_), .sc (.fn g4_ f4_ c4_)] = t35 s0_ n1_ n2_ n3_ g4_ f4_ c4_ := by kernel_rfl
/-- slices.rotateCmpFunc[scuttlebutt/wheel.Timer] -/
def t36 (s0_ : Option SlD) (n1_ : Int) (n2_ : Int) (n3_ : Int) (g4_ : FuncId) (f4_ c4_ : List (Nat × Nat)) : Tree :=
  .loop (fun l0 =>
    .asL (l0.getD 0 .un) fun o1 =>
    .asI .i64 (l0.getD 1 .un) fun n2 =>
    .asX (l0.getD 2 .un) fun v3 =>
    .asI .i64 (l0.getD 3 .un) fun n4 =>
    .asI .i64 (l0.getD 4 .un) fun n5 =>
    cond (n4 != n5)
      (cond (decide (n4 > n5))
        (.call 37 [(.sc (.sl o1)), (.sc (.i .i64 (IntKind.wrap .i64 (n2 - n4)))), (.sc (.i .i64 n2)), (.sc (.i .i64 n5)), (.sc v3)] fun v6 =>
        .ret 0 [(.sc (.sl o1)), (.sc (.i .i64 n2)), (.sc v3), (.sc (.i .i64 (IntKind.wrap .i64 (n4 - n5)))), (.sc (.i .i64 n5))])
        (.call 37 [(.sc (.sl o1)), (.sc (.i .i64 (IntKind.wrap .i64 (n2 - n4)))), (.sc (.i .i64 (IntKind.wrap .i64 ((IntKind.wrap .i64 (n2 + n5)) - n4)))), (.sc (.i .i64 n4)), (.sc v3)] fun v7 =>
        .ret 0 [(.sc (.sl o1)), (.sc (.i .i64 n2)), (.sc v3), (.sc (.i .i64 n4)), (.sc (.i .i64 (IntKind.wrap .i64 (n5 - n4))))]))
      (.ret 2 [(.sc (.sl o1)), (.sc (.i .i64 n2)), (.sc v3), (.sc (.i .i64 n4))])) [(.sc (.sl s0_)), (.sc (.i .i64 n2_)), (.sc (.fn g4_ f4_ c4_)), (.sc (.i .i64 (IntKind.wrap .i64 (n2_ - n1_)))), (.sc (.i .i64 (IntKind.wrap .i64 (n3_ - n2_))))] fun a8 l9 =>
  .tg a8 2
    (.asL (l9.getD 0 .un) fun o10 =>
    .asI .i64 (l9.getD 1 .un) fun n11 =>
    .asX (l9.getD 2 .un) fun v12 =>
    .asI .i64 (l9.getD 3 .un) fun n13 =>
    .call 37 [(.sc (.sl o10)), (.sc (.i .i64 (IntKind.wrap .i64 (n11 - n13)))), (.sc (.i .i64 n11)), (.sc (.i .i64 n13)), (.sc v12)] fun v14 =>
    .ret 0 [(.tu [])])
    (.fail)
theorem t36_eq (s0_ : Option SlD) (n1_ : Int) (n2_ : Int) (n3_ : Int) (g4_ : FuncId) (f4_ c4_ : List (Nat × Nat)) : bodyK T (hs 36) Try.f36 [.sc (.sl s0_), .sc (.i .i64 n1_), .sc (.i .i64 n2_), .sc (.i .i64 n3_), .sc (.fn g4_ f4_ c4_)] = t36 s0_ n1_ n2_ n3_ g4_ f4_ c4_ := by kernel_rfl
/-- slices.swapRangeCmpFunc[scuttlebutt/wheel.Timer] -/
def t37 (s0_ : Option SlD) (n1_ : Int) (n2_ : Int) (n3_ : Int) (g4_ : FuncId) (f4_ c4_ : List (Nat × Nat)) : Tree :=
  .loop (fun l0 =>
    .asL (l0.getD 0 .un) fun o1 =>
    .asI .i64 (l0.getD 1 .un) fun n2 =>
    .asI .i64 (l0.getD 2 .un) fun n3 =>
    .asI .i64 (l0.getD 3 .un) fun n4 =>
    .asI .i64 (l0.getD 4 .un) fun n5 =>
    cond (decide (n5 < n4))
      (.ixS 3 o1 (IntKind.wrap .i64 (n3 + n5)) fun a6 a7 a8 =>
      .ld a6 (a7 + (a8 * 3)) 3 fun l9 =>
      .nth l9 0 fun v10 =>
      .asI .i64 (.sc v10) fun n11 =>
      .nth l9 1 fun v12 =>
      .asI .i64 (.sc v12) fun n13 =>
      .nth l9 2 fun v14 =>
      .asI .u64 (.sc v14) fun n15 =>
      .ixS 3 o1 (IntKind.wrap .i64 (n2 + n5)) fun a16 a17 a18 =>
      .ld a16 (a17 + (a18 * 3)) 3 fun l19 =>
      .nth l19 0 fun v20 =>
      .asI .i64 (.sc v20) fun n21 =>
      .nth l19 1 fun v22 =>
      .asI .i64 (.sc v22) fun n23 =>
      .nth l19 2 fun v24 =>
      .asI .u64 (.sc v24) fun n25 =>
      .ixS 3 o1 (IntKind.wrap .i64 (n2 + n5)) fun a26 a27 a28 =>
      .st a26 (a27 + (a28 * 3)) [(.i .i64 n11), (.i .i64 n13), (.i .u64 n15)] (
      .ixS 3 o1 (IntKind.wrap .i64 (n3 + n5)) fun a29 a30 a31 =>
      .st a29 (a30 + (a31 * 3)) [(.i .i64 n21), (.i .i64 n23), (.i .u64 n25)] (
      .ret 0 [(.sc (.sl o1)), (.sc (.i .i64 n2)), (.sc (.i .i64 n3)), (.sc (.i .i64 n4)), (.sc (.i .i64 (IntKind.wrap .i64 (n5 + (1 : Int)))))])))
      (.ret 2 [])) [(.sc (.sl s0_)), (.sc (.i .i64 n1_)), (.sc (.i .i64 n2_)), (.sc (.i .i64 n3_)), (.sc (.i .i64 (0 : Int)))] fun a32 l33 =>
  .tg a32 2
    (.ret 0 [(.tu [])])
    (.fail)
theorem t37_eq (s0_ : Option SlD) (n1_ : Int) (n2_ : Int) (n3_ : Int) (g4_ : FuncId) (f4_ c4_ : List (Nat × Nat)) : bodyK T (hs 37) Try.f37 [.sc (.sl s0_), .sc (.i .i64 n1_), .sc (.i .i64 n2_), .sc (.i .i64 n3_), .sc (.fn g4_ f4_ c4_)] = t37 s0_ n1_ n2_ n3_ g4_ f4_ c4_ := by kernel_rfl
end Go.Proofs.Ytonohkjngmcbmaa
