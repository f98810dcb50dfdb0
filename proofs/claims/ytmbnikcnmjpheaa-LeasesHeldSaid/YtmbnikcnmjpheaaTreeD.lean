/- Trees of functions, printed by a program of mine; each is proved to be the function's. -/
import Derived.Test.YtmbnikcnmjpheaaGen
namespace Go.Proofs.Ytmbnikcnmjpheaa
open Go Go.Proofs.Ytmbnikcnmjpheaa.Fw
set_option linter.unusedVariables false
set_option maxRecDepth 20000
/-- scuttlebutt/scuttlebuttlaw17.examples -/
def t6  : Tree :=
  .call 7 [(.sc (.i .i64 (0 : Int))), (.sc (.i .u64 (1 : Int)))] fun v0 =>
  .asT 2 v0 fun l1 =>
  .nthC l1 0 fun v2 =>
  .asP (v2.av) fun o3 =>
  .nthC l1 1 fun v4 =>
  .asI .i64 (v4.av) fun n5 =>
  .call 7 [(.sc (.i .i64 (1 : Int))), (.sc (.i .u64 (10 : Int)))] fun v6 =>
  .asT 2 v6 fun l7 =>
  .nthC l7 0 fun v8 =>
  .asP (v8.av) fun o9 =>
  .nthC l7 1 fun v10 =>
  .asI .i64 (v10.av) fun n11 =>
  .call 13 [(.sc (.i .i64 (1 : Int))), (.sc (.i .u64 (5 : Int)))] fun v12 =>
  .asT 2 v12 fun l13 =>
  .nthC l13 0 fun v14 =>
  .asP (v14.av) fun o15 =>
  .nthC l13 1 fun v16 =>
  .asI .i64 (v16.av) fun n17 =>
  cond (Option.isNone o9)
    (.ret 0 [(.sc (.b .false))])
    (cond (Option.isNone o15)
      (.ret 0 [(.sc (.b .false))])
      (.al [(.i .u32 (0 : Int)), (.i .u16 (0 : Int))] fun a18 =>
      .st a18 0 [(.i .u32 (5 : Int)), (.i .u16 (5 : Int))] (
      .ld a18 0 2 fun l19 =>
      .nth l19 0 fun v20 =>
      .asI .u32 (.sc v20) fun n21 =>
      .nth l19 1 fun v22 =>
      .asI .u16 (.sc v22) fun n23 =>
      .call 11 [(.sc (.p o9)), (.sc (.i .i64 (3 : Int))), (.ag [(.i .u32 n21), (.i .u16 n23)]), (.sc (.i .u64 (0 : Int)))] fun v24 =>
      .asT 2 v24 fun l25 =>
      .nthC l25 0 fun v26 =>
      .asI .u64 (v26.av) fun n27 =>
      .nthC l25 1 fun v28 =>
      .asI .i64 (v28.av) fun n29 =>
      .ld a18 0 2 fun l30 =>
      .nth l30 0 fun v31 =>
      .asI .u32 (.sc v31) fun n32 =>
      .nth l30 1 fun v33 =>
      .asI .u16 (.sc v33) fun n34 =>
      .call 11 [(.sc (.p o9)), (.sc (.i .i64 (4 : Int))), (.ag [(.i .u32 n32), (.i .u16 n34)]), (.sc (.i .u64 (9 : Int)))] fun v35 =>
      .asT 2 v35 fun l36 =>
      .nthC l36 0 fun v37 =>
      .asI .u64 (v37.av) fun n38 =>
      .nthC l36 1 fun v39 =>
      .asI .i64 (v39.av) fun n40 =>
      .call 8 [(.sc (.p o9)), (.sc (.i .i64 (3 : Int))), (.sc (.i .u64 (9 : Int)))] fun v41 =>
      .asT 2 v41 fun l42 =>
      .nthC l42 0 fun v43 =>
      .asA 2 (v43.av) fun l44 =>
      .nth l44 0 fun v45 =>
      .asI .u32 (.sc v45) fun n46 =>
      .nth l44 1 fun v47 =>
      .asI .u16 (.sc v47) fun n48 =>
      .nthC l42 1 fun v49 =>
      .asB (v49.av) fun b50 =>
      .al [(.i .u32 (0 : Int)), (.i .u16 (0 : Int))] fun a51 =>
      .st a51 0 [(.i .u32 n46), (.i .u16 n48)] (
      .call 8 [(.sc (.p o9)), (.sc (.i .i64 (3 : Int))), (.sc (.i .u64 (10 : Int)))] fun v52 =>
      .asT 2 v52 fun l53 =>
      .nthC l53 0 fun v54 =>
      .asA 2 (v54.av) fun l55 =>
      .nth l55 0 fun v56 =>
      .asI .u32 (.sc v56) fun n57 =>
      .nth l55 1 fun v58 =>
      .asI .u16 (.sc v58) fun n59 =>
      .nthC l53 1 fun v60 =>
      .asB (v60.av) fun b61 =>
      .al [(.i .u32 (0 : Int)), (.i .u16 (0 : Int))] fun a62 =>
      .st a62 0 [(.i .u32 n57), (.i .u16 n59)] (
      .al [(.i .i64 (2 : Int)), (.i .i64 (3 : Int))] fun a63 =>
      .al [(.cx .f64 4621256167635550208 0), (.cx .f64 4607182418800017408 4607182418800017408)] fun a64 =>
      .call 14 [(.sc (.p o15)), (.sc (.i .u64 (0 : Int))), (.sc (.cx .f64 0 0)), (.sc (.sl (.some (.mk a63 0 2 2 1)))), (.sc (.sl (.some (.mk a64 0 2 2 1))))] fun v65 =>
      .asL v65 fun o66 =>
      .al [(.i .i64 (3 : Int))] fun a67 =>
      .al [(.cx .f64 0 0)] fun a68 =>
      .call 14 [(.sc (.p o15)), (.sc (.i .u64 (4 : Int))), (.sc (.cx .f64 0 0)), (.sc (.sl (.some (.mk a67 0 1 1 1)))), (.sc (.sl (.some (.mk a68 0 1 1 1))))] fun v69 =>
      .asL v69 fun o70 =>
      .call 15 [(.sc (.p o15)), (.sc (.i .i64 (3 : Int))), (.sc (.i .u64 (8 : Int))), (.sc (.i .u64 (0 : Int)))] fun v71 =>
      .asB v71 fun b72 =>
      .call 17 [(.sc (.p o15)), (.sc (.i .u64 (7 : Int)))] fun v73 =>
      .asL v73 fun o74 =>
      cond (n5 == (1 : Int))
        (cond (n11 == (0 : Int))
          (cond (n17 == (0 : Int))
            (cond (n27 == (10 : Int))
              (cond (n29 == (0 : Int))
                (cond (n40 == (4 : Int))
                  (.ld a51 0 2 fun l75 =>
                  .nth l75 0 fun v76 =>
                  .asI .u32 (.sc v76) fun n77 =>
                  .nth l75 1 fun v78 =>
                  .asI .u16 (.sc v78) fun n79 =>
                  .ld a18 0 2 fun l80 =>
                  .nth l80 0 fun v81 =>
                  .asI .u32 (.sc v81) fun n82 =>
                  .nth l80 1 fun v83 =>
                  .asI .u16 (.sc v83) fun n84 =>
                  cond ((n77 == n82) && ((n79 == n84) && .true))
                    (cond b50
                      (cond (!b61)
                        (cond ((slLen o66) == (1 : Int))
                          (.ixS 1 o66 (0 : Int) fun a85 a86 a87 =>
                          .ld a85 (a86 + (a87 * 1)) 1 fun l88 =>
                          .nth l88 0 fun v89 =>
                          .asI .i64 (.sc v89) fun n90 =>
                          cond (n90 == (3 : Int))
                            (cond ((slLen o70) == (0 : Int))
                              (cond b72
                                (cond ((slLen o74) == (1 : Int))
                                  (.ixS 1 o74 (0 : Int) fun a91 a92 a93 =>
                                  .ld a91 (a92 + (a93 * 1)) 1 fun l94 =>
                                  .nth l94 0 fun v95 =>
                                  .asI .i64 (.sc v95) fun n96 =>
                                  cond (n96 == (3 : Int))
                                    (.call 15 [(.sc (.p o15)), (.sc (.i .i64 (2 : Int))), (.sc (.i .u64 (8 : Int))), (.sc (.i .u64 (0 : Int)))] fun v97 =>
                                    .asB v97 fun b98 =>
                                    cond (!b98)
                                      (.call 10 [(.sc (.p o9))] fun v99 =>
                                      .asL v99 fun o100 =>
                                      cond ((slLen o100) == (1 : Int))
                                        (.call 18 [(.sc (.p o15)), (.sc (.i .u64 (8 : Int)))] fun v101 =>
                                        .asL v101 fun o102 =>
                                        .ret 0 [(.sc (.b ((slLen o102) == (1 : Int))))])
                                        (.ret 0 [(.sc (.b .false))]))
                                      (.ret 0 [(.sc (.b .false))]))
                                    (.ret 0 [(.sc (.b .false))]))
                                  (.ret 0 [(.sc (.b .false))]))
                                (.ret 0 [(.sc (.b .false))]))
                              (.ret 0 [(.sc (.b .false))]))
                            (.ret 0 [(.sc (.b .false))]))
                          (.ret 0 [(.sc (.b .false))]))
                        (.ret 0 [(.sc (.b .false))]))
                      (.ret 0 [(.sc (.b .false))]))
                    (.ret 0 [(.sc (.b .false))]))
                  (.ret 0 [(.sc (.b .false))]))
                (.ret 0 [(.sc (.b .false))]))
              (.ret 0 [(.sc (.b .false))]))
            (.ret 0 [(.sc (.b .false))]))
          (.ret 0 [(.sc (.b .false))]))
        (.ret 0 [(.sc (.b .false))]))))))
theorem t6_eq  : bodyK T (hs 6) Try.f6 [] = t6 := by kernel_rfl
def t18_b3  : List AV → Tree := fun l4 =>
  .asP (l4.getD 0 .un) fun o5 =>
  .asI .u64 (l4.getD 1 .un) fun n6 =>
  .asL (l4.getD 2 .un) fun o7 =>
  .asA 99 (l4.getD 3 .un) fun l8 =>
  .asI .i64 (l4.getD 4 .un) fun n9 =>
  cond (decide (n9 < (33 : Int)))
    (.br ((decide ((0 : Int) ≤ n9)) && (decide (n9 < (33 : Int))))
      (.nth (List.take 3 (List.drop ((Int.toNat n9) * 3) l8)) 0 fun v10 =>
      .asI .i64 (.sc v10) fun n11 =>
      .nth (List.take 3 (List.drop ((Int.toNat n9) * 3) l8)) 1 fun v12 =>
      .asI .u64 (.sc v12) fun n13 =>
      .nth (List.take 3 (List.drop ((Int.toNat n9) * 3) l8)) 2 fun v14 =>
      .asI .u64 (.sc v14) fun n15 =>
      .al [(.i .i64 (0 : Int)), (.i .u64 (0 : Int)), (.i .u64 (0 : Int))] fun a16 =>
      .st a16 0 [(.i .i64 n11), (.i .u64 n13), (.i .u64 n15)] (
      .ld a16 (0 + 1) 1 fun l17 =>
      .nth l17 0 fun v18 =>
      .asI .u64 (.sc v18) fun n19 =>
      cond (decide (n19 > (0 : Int)))
        (.ld a16 (0 + 1) 1 fun l20 =>
        .nth l20 0 fun v21 =>
        .asI .u64 (.sc v21) fun n22 =>
        cond (decide (n22 ≤ n6))
          (.ld a16 (0 + 0) 1 fun l23 =>
          .nth l23 0 fun v24 =>
          .asI .i64 (.sc v24) fun n25 =>
          .call 16 [(.sc (.p o5)), (.sc (.i .i64 n25))] fun v26 =>
          .asB v26 fun b27 =>
          cond b27
            (.ld a16 (0 + 0) 1 fun l28 =>
            .nth l28 0 fun v29 =>
            .asI .i64 (.sc v29) fun n30 =>
            .al [(.i .i64 n30)] fun a31 =>
            .lds 1 (.some (.mk a31 0 1 1 1)) (slN (.some (.mk a31 0 1 1 1))) fun l32 =>
            .app 1 8 o7 l32 (slN (.some (.mk a31 0 1 1 1))) fun o33 =>
            .ret 0 [(.sc (.p o5)), (.sc (.i .u64 n6)), (.sc (.sl o33)), (.ag l8), (.sc (.i .i64 (IntKind.wrap .i64 (n9 + (1 : Int)))))])
            (.ret 0 [(.sc (.p o5)), (.sc (.i .u64 n6)), (.sc (.sl o7)), (.ag l8), (.sc (.i .i64 (IntKind.wrap .i64 (n9 + (1 : Int)))))]))
          (.ret 0 [(.sc (.p o5)), (.sc (.i .u64 n6)), (.sc (.sl o7)), (.ag l8), (.sc (.i .i64 (IntKind.wrap .i64 (n9 + (1 : Int)))))]))
        (.ret 0 [(.sc (.p o5)), (.sc (.i .u64 n6)), (.sc (.sl o7)), (.ag l8), (.sc (.i .i64 (IntKind.wrap .i64 (n9 + (1 : Int)))))])))
      (.fail))
    (.ret 2 [(.sc (.sl o7))])
def t18_k3  : Nat → List AV → Tree := fun a34 l35 =>
  .tg a34 2
    (.asL (l35.getD 0 .un) fun o36 =>
    .ret 0 [(.sc (.sl o36))])
    (.fail)
/-- (*scuttlebutt/lease.Leases).Sweep -/
def t18 (p0_ q0_ : Nat) (n1_ : Int) : Tree :=
  .nn (.some (p0_, q0_)) fun a0 a1 =>
  .ld a0 (a1 + 2) 99 fun l2 =>
  .loop t18_b3 [(.sc (.p (.some (p0_, q0_)))), (.sc (.i .u64 n1_)), (.sc (.sl .none)), (.ag l2), (.sc (.i .i64 (0 : Int)))] t18_k3
theorem t18_eq (p0_ q0_ : Nat) (n1_ : Int) : bodyK T (hs 18) Try.f18 [.sc (.p (some (p0_, q0_))), .sc (.i .u64 n1_)] = t18 p0_ q0_ n1_ := by kernel_rfl
def t36_b26  : List AV → Tree := fun l27 =>
  .asL (l27.getD 0 .un) fun o28 =>
  .asI .i64 (l27.getD 1 .un) fun n29 =>
  .asI .i64 (l27.getD 2 .un) fun n30 =>
  cond (decide (n30 < (IntKind.wrap .i64 (n29 - (1 : Int)))))
    (.ixS 1 o28 (IntKind.wrap .i64 (n30 + (1 : Int))) fun a31 a32 a33 =>
    .ld a31 (a32 + (a33 * 1)) 1 fun l34 =>
    .nth l34 0 fun v35 =>
    .asI .i64 (.sc v35) fun n36 =>
    .ixS 1 o28 n30 fun a37 a38 a39 =>
    .ld a37 (a38 + (a39 * 1)) 1 fun l40 =>
    .nth l40 0 fun v41 =>
    .asI .i64 (.sc v41) fun n42 =>
    .ixS 1 o28 n30 fun a43 a44 a45 =>
    .st a43 (a44 + (a45 * 1)) [(.i .i64 n36)] (
    .ixS 1 o28 (IntKind.wrap .i64 (n30 + (1 : Int))) fun a46 a47 a48 =>
    .st a46 (a47 + (a48 * 1)) [(.i .i64 n42)] (
    .ret 0 [(.sc (.sl o28)), (.sc (.i .i64 n29)), (.sc (.i .i64 (IntKind.wrap .i64 (n30 + (1 : Int)))))])))
    (.ret 6 [])
def t36_k26  : Nat → List AV → Tree := fun a49 l50 =>
  .tg a49 6
    (.ret 0 [(.tu [])])
    (.fail)
def t36_b0  : List AV → Tree := fun l1 =>
  .asL (l1.getD 0 .un) fun o2 =>
  .asI .i64 (l1.getD 1 .un) fun n3 =>
  .asX (l1.getD 2 .un) fun v4 =>
  .asI .i64 (l1.getD 3 .un) fun n5 =>
  .asI .i64 (l1.getD 4 .un) fun n6 =>
  cond (decide (n5 < n6))
    (.br (decide ((0 : Int) ≤ (1 : Int)))
      (.ixS 1 o2 (IntKind.wrap .i64 (Int.fdiv (IntKind.wrap .u64 (IntKind.wrap .i64 (n5 + n6))) (2 : Int))) fun a7 a8 a9 =>
      .ld a7 (a8 + (a9 * 1)) 1 fun l10 =>
      .nth l10 0 fun v11 =>
      .asI .i64 (.sc v11) fun n12 =>
      .ixS 1 o2 n3 fun a13 a14 a15 =>
      .ld a13 (a14 + (a15 * 1)) 1 fun l16 =>
      .nth l16 0 fun v17 =>
      .asI .i64 (.sc v17) fun n18 =>
      .callv (.sc v4) [(.sc (.i .i64 n12)), (.sc (.i .i64 n18))] fun v19 =>
      .asI .i64 v19 fun n20 =>
      cond (decide (n20 < (0 : Int)))
        (.ret 0 [(.sc (.sl o2)), (.sc (.i .i64 n3)), (.sc v4), (.sc (.i .i64 (IntKind.wrap .i64 ((IntKind.wrap .i64 (Int.fdiv (IntKind.wrap .u64 (IntKind.wrap .i64 (n5 + n6))) (2 : Int))) + (1 : Int))))), (.sc (.i .i64 n6))])
        (.ret 0 [(.sc (.sl o2)), (.sc (.i .i64 n3)), (.sc v4), (.sc (.i .i64 n5)), (.sc (.i .i64 (IntKind.wrap .i64 (Int.fdiv (IntKind.wrap .u64 (IntKind.wrap .i64 (n5 + n6))) (2 : Int)))))]))
      (.fail))
    (.ret 2 [(.sc (.sl o2)), (.sc (.i .i64 n3)), (.sc (.i .i64 n5))])
def t36_k0  : Nat → List AV → Tree := fun a21 l22 =>
  .tg a21 2
    (.asL (l22.getD 0 .un) fun o23 =>
    .asI .i64 (l22.getD 1 .un) fun n24 =>
    .asI .i64 (l22.getD 2 .un) fun n25 =>
    .loop t36_b26 [(.sc (.sl o23)), (.sc (.i .i64 n25)), (.sc (.i .i64 n24))] t36_k26)
    (.fail)
def t36_b77  : List AV → Tree := fun l78 =>
  .asL (l78.getD 0 .un) fun o79 =>
  .asI .i64 (l78.getD 1 .un) fun n80 =>
  .asI .i64 (l78.getD 2 .un) fun n81 =>
  cond (decide (n81 > n80))
    (.ixS 1 o79 (IntKind.wrap .i64 (n81 - (1 : Int))) fun a82 a83 a84 =>
    .ld a82 (a83 + (a84 * 1)) 1 fun l85 =>
    .nth l85 0 fun v86 =>
    .asI .i64 (.sc v86) fun n87 =>
    .ixS 1 o79 n81 fun a88 a89 a90 =>
    .ld a88 (a89 + (a90 * 1)) 1 fun l91 =>
    .nth l91 0 fun v92 =>
    .asI .i64 (.sc v92) fun n93 =>
    .ixS 1 o79 n81 fun a94 a95 a96 =>
    .st a94 (a95 + (a96 * 1)) [(.i .i64 n87)] (
    .ixS 1 o79 (IntKind.wrap .i64 (n81 - (1 : Int))) fun a97 a98 a99 =>
    .st a97 (a98 + (a99 * 1)) [(.i .i64 n93)] (
    .ret 0 [(.sc (.sl o79)), (.sc (.i .i64 n80)), (.sc (.i .i64 (IntKind.wrap .i64 (n81 - (1 : Int)))))])))
    (.ret 14 [])
def t36_k77  : Nat → List AV → Tree := fun a100 l101 =>
  .tg a100 14
    (.ret 0 [(.tu [])])
    (.fail)
def t36_b51  : List AV → Tree := fun l52 =>
  .asL (l52.getD 0 .un) fun o53 =>
  .asI .i64 (l52.getD 1 .un) fun n54 =>
  .asX (l52.getD 2 .un) fun v55 =>
  .asI .i64 (l52.getD 3 .un) fun n56 =>
  .asI .i64 (l52.getD 4 .un) fun n57 =>
  cond (decide (n56 < n57))
    (.br (decide ((0 : Int) ≤ (1 : Int)))
      (.ixS 1 o53 n54 fun a58 a59 a60 =>
      .ld a58 (a59 + (a60 * 1)) 1 fun l61 =>
      .nth l61 0 fun v62 =>
      .asI .i64 (.sc v62) fun n63 =>
      .ixS 1 o53 (IntKind.wrap .i64 (Int.fdiv (IntKind.wrap .u64 (IntKind.wrap .i64 (n56 + n57))) (2 : Int))) fun a64 a65 a66 =>
      .ld a64 (a65 + (a66 * 1)) 1 fun l67 =>
      .nth l67 0 fun v68 =>
      .asI .i64 (.sc v68) fun n69 =>
      .callv (.sc v55) [(.sc (.i .i64 n63)), (.sc (.i .i64 n69))] fun v70 =>
      .asI .i64 v70 fun n71 =>
      cond (!(decide (n71 < (0 : Int))))
        (.ret 0 [(.sc (.sl o53)), (.sc (.i .i64 n54)), (.sc v55), (.sc (.i .i64 (IntKind.wrap .i64 ((IntKind.wrap .i64 (Int.fdiv (IntKind.wrap .u64 (IntKind.wrap .i64 (n56 + n57))) (2 : Int))) + (1 : Int))))), (.sc (.i .i64 n57))])
        (.ret 0 [(.sc (.sl o53)), (.sc (.i .i64 n54)), (.sc v55), (.sc (.i .i64 n56)), (.sc (.i .i64 (IntKind.wrap .i64 (Int.fdiv (IntKind.wrap .u64 (IntKind.wrap .i64 (n56 + n57))) (2 : Int)))))]))
      (.fail))
    (.ret 10 [(.sc (.sl o53)), (.sc (.i .i64 n54)), (.sc (.i .i64 n56))])
def t36_k51  : Nat → List AV → Tree := fun a72 l73 =>
  .tg a72 10
    (.asL (l73.getD 0 .un) fun o74 =>
    .asI .i64 (l73.getD 1 .un) fun n75 =>
    .asI .i64 (l73.getD 2 .un) fun n76 =>
    .loop t36_b77 [(.sc (.sl o74)), (.sc (.i .i64 n76)), (.sc (.i .i64 n75))] t36_k77)
    (.fail)
def t36_k161  : Nat → List AV → Tree := fun a163 l164 =>
  .tg a163 0
    (.asL (l164.getD 0 .un) fun o165 =>
    .asI .i64 (l164.getD 1 .un) fun n166 =>
    .asX (l164.getD 2 .un) fun v167 =>
    .asI .i64 (l164.getD 3 .un) fun n168 =>
    .asI .i64 (l164.getD 4 .un) fun n169 =>
    cond (decide (n168 < n169))
      (cond (decide (n169 < n166))
        (.call 36 [(.sc (.sl o165)), (.sc (.i .i64 n168)), (.sc (.i .i64 n169)), (.sc (.i .i64 n166)), (.sc v167)] fun v170 =>
        .ret 0 [(.tu [])])
        (.ret 0 [(.tu [])]))
      (.ret 0 [(.tu [])]))
    (.fail)
def t36_k171  : Nat → List AV → Tree := fun a172 l173 =>
  .tg a172 0
    (.asL (l173.getD 0 .un) fun o174 =>
    .asI .i64 (l173.getD 1 .un) fun n175 =>
    .asX (l173.getD 2 .un) fun v176 =>
    .asI .i64 (l173.getD 3 .un) fun n177 =>
    .asI .i64 (l173.getD 4 .un) fun n178 =>
    cond (decide (n177 < n178))
      (cond (decide (n178 < n175))
        (.call 36 [(.sc (.sl o174)), (.sc (.i .i64 n177)), (.sc (.i .i64 n178)), (.sc (.i .i64 n175)), (.sc v176)] fun v179 =>
        .ret 0 [(.tu [])])
        (.ret 0 [(.tu [])]))
      (.ret 0 [(.tu [])]))
    (.fail)
def t36_k150  : Nat → List AV → Tree := fun a152 l153 =>
  .tg a152 0
    (.asL (l153.getD 0 .un) fun o154 =>
    .asI .i64 (l153.getD 1 .un) fun n155 =>
    .asI .i64 (l153.getD 2 .un) fun n156 =>
    .asX (l153.getD 3 .un) fun v157 =>
    .asI .i64 (l153.getD 4 .un) fun n158 =>
    .asI .i64 (l153.getD 5 .un) fun n159 =>
    .asI .i64 (l153.getD 6 .un) fun n160 =>
    cond (decide (n155 < n159))
      (.join (
        cond (decide (n159 < n158))
          (.call 36 [(.sc (.sl o154)), (.sc (.i .i64 n155)), (.sc (.i .i64 n159)), (.sc (.i .i64 n158)), (.sc v157)] fun v162 =>
          .ret 0 [(.sc (.sl o154)), (.sc (.i .i64 n156)), (.sc v157), (.sc (.i .i64 n158)), (.sc (.i .i64 n160))])
          (.ret 0 [(.sc (.sl o154)), (.sc (.i .i64 n156)), (.sc v157), (.sc (.i .i64 n158)), (.sc (.i .i64 n160))])) t36_k161)
      (.join (
        .ret 0 [(.sc (.sl o154)), (.sc (.i .i64 n156)), (.sc v157), (.sc (.i .i64 n158)), (.sc (.i .i64 n160))]) t36_k171))
    (.fail)
def t36_k190  : Nat → List AV → Tree := fun a192 l193 =>
  .tg a192 0
    (.asL (l193.getD 0 .un) fun o194 =>
    .asI .i64 (l193.getD 1 .un) fun n195 =>
    .asX (l193.getD 2 .un) fun v196 =>
    .asI .i64 (l193.getD 3 .un) fun n197 =>
    .asI .i64 (l193.getD 4 .un) fun n198 =>
    cond (decide (n197 < n198))
      (cond (decide (n198 < n195))
        (.call 36 [(.sc (.sl o194)), (.sc (.i .i64 n197)), (.sc (.i .i64 n198)), (.sc (.i .i64 n195)), (.sc v196)] fun v199 =>
        .ret 0 [(.tu [])])
        (.ret 0 [(.tu [])]))
      (.ret 0 [(.tu [])]))
    (.fail)
def t36_k200  : Nat → List AV → Tree := fun a201 l202 =>
  .tg a201 0
    (.asL (l202.getD 0 .un) fun o203 =>
    .asI .i64 (l202.getD 1 .un) fun n204 =>
    .asX (l202.getD 2 .un) fun v205 =>
    .asI .i64 (l202.getD 3 .un) fun n206 =>
    .asI .i64 (l202.getD 4 .un) fun n207 =>
    cond (decide (n206 < n207))
      (cond (decide (n207 < n204))
        (.call 36 [(.sc (.sl o203)), (.sc (.i .i64 n206)), (.sc (.i .i64 n207)), (.sc (.i .i64 n204)), (.sc v205)] fun v208 =>
        .ret 0 [(.tu [])])
        (.ret 0 [(.tu [])]))
      (.ret 0 [(.tu [])]))
    (.fail)
def t36_k180  : Nat → List AV → Tree := fun a181 l182 =>
  .tg a181 0
    (.asL (l182.getD 0 .un) fun o183 =>
    .asI .i64 (l182.getD 1 .un) fun n184 =>
    .asI .i64 (l182.getD 2 .un) fun n185 =>
    .asX (l182.getD 3 .un) fun v186 =>
    .asI .i64 (l182.getD 4 .un) fun n187 =>
    .asI .i64 (l182.getD 5 .un) fun n188 =>
    .asI .i64 (l182.getD 6 .un) fun n189 =>
    cond (decide (n184 < n188))
      (.join (
        cond (decide (n188 < n187))
          (.call 36 [(.sc (.sl o183)), (.sc (.i .i64 n184)), (.sc (.i .i64 n188)), (.sc (.i .i64 n187)), (.sc v186)] fun v191 =>
          .ret 0 [(.sc (.sl o183)), (.sc (.i .i64 n185)), (.sc v186), (.sc (.i .i64 n187)), (.sc (.i .i64 n189))])
          (.ret 0 [(.sc (.sl o183)), (.sc (.i .i64 n185)), (.sc v186), (.sc (.i .i64 n187)), (.sc (.i .i64 n189))])) t36_k190)
      (.join (
        .ret 0 [(.sc (.sl o183)), (.sc (.i .i64 n185)), (.sc v186), (.sc (.i .i64 n187)), (.sc (.i .i64 n189))]) t36_k200))
    (.fail)
def t36_b114  : List AV → Tree := fun l115 =>
  .asL (l115.getD 0 .un) fun o116 =>
  .asI .i64 (l115.getD 1 .un) fun n117 =>
  .asI .i64 (l115.getD 2 .un) fun n118 =>
  .asI .i64 (l115.getD 3 .un) fun n119 =>
  .asX (l115.getD 4 .un) fun v120 =>
  .asI .i64 (l115.getD 5 .un) fun n121 =>
  .asI .i64 (l115.getD 6 .un) fun n122 =>
  .asI .i64 (l115.getD 7 .un) fun n123 =>
  .asI .i64 (l115.getD 8 .un) fun n124 =>
  .asI .i64 (l115.getD 9 .un) fun n125 =>
  cond (decide (n123 < n124))
    (.br (decide ((0 : Int) ≤ (1 : Int)))
      (.ixS 1 o116 (IntKind.wrap .i64 (n125 - (IntKind.wrap .i64 (Int.fdiv (IntKind.wrap .u64 (IntKind.wrap .i64 (n123 + n124))) (2 : Int))))) fun a126 a127 a128 =>
      .ld a126 (a127 + (a128 * 1)) 1 fun l129 =>
      .nth l129 0 fun v130 =>
      .asI .i64 (.sc v130) fun n131 =>
      .ixS 1 o116 (IntKind.wrap .i64 (Int.fdiv (IntKind.wrap .u64 (IntKind.wrap .i64 (n123 + n124))) (2 : Int))) fun a132 a133 a134 =>
      .ld a132 (a133 + (a134 * 1)) 1 fun l135 =>
      .nth l135 0 fun v136 =>
      .asI .i64 (.sc v136) fun n137 =>
      .callv (.sc v120) [(.sc (.i .i64 n131)), (.sc (.i .i64 n137))] fun v138 =>
      .asI .i64 v138 fun n139 =>
      cond (!(decide (n139 < (0 : Int))))
        (.ret 0 [(.sc (.sl o116)), (.sc (.i .i64 n117)), (.sc (.i .i64 n118)), (.sc (.i .i64 n119)), (.sc v120), (.sc (.i .i64 n121)), (.sc (.i .i64 n122)), (.sc (.i .i64 (IntKind.wrap .i64 ((IntKind.wrap .i64 (Int.fdiv (IntKind.wrap .u64 (IntKind.wrap .i64 (n123 + n124))) (2 : Int))) + (1 : Int))))), (.sc (.i .i64 n124)), (.sc (.i .i64 n125))])
        (.ret 0 [(.sc (.sl o116)), (.sc (.i .i64 n117)), (.sc (.i .i64 n118)), (.sc (.i .i64 n119)), (.sc v120), (.sc (.i .i64 n121)), (.sc (.i .i64 n122)), (.sc (.i .i64 n123)), (.sc (.i .i64 (IntKind.wrap .i64 (Int.fdiv (IntKind.wrap .u64 (IntKind.wrap .i64 (n123 + n124))) (2 : Int))))), (.sc (.i .i64 n125))]))
      (.fail))
    (.ret 18 [(.sc (.sl o116)), (.sc (.i .i64 n117)), (.sc (.i .i64 n118)), (.sc (.i .i64 n119)), (.sc v120), (.sc (.i .i64 n121)), (.sc (.i .i64 n122)), (.sc (.i .i64 n123))])
def t36_k114  : Nat → List AV → Tree := fun a140 l141 =>
  .tg a140 18
    (.asL (l141.getD 0 .un) fun o142 =>
    .asI .i64 (l141.getD 1 .un) fun n143 =>
    .asI .i64 (l141.getD 2 .un) fun n144 =>
    .asI .i64 (l141.getD 3 .un) fun n145 =>
    .asX (l141.getD 4 .un) fun v146 =>
    .asI .i64 (l141.getD 5 .un) fun n147 =>
    .asI .i64 (l141.getD 6 .un) fun n148 =>
    .asI .i64 (l141.getD 7 .un) fun n149 =>
    cond (decide (n149 < n144))
      (.join (
        cond (decide (n144 < (IntKind.wrap .i64 (n148 - n149))))
          (.call 38 [(.sc (.sl o142)), (.sc (.i .i64 n149)), (.sc (.i .i64 n144)), (.sc (.i .i64 (IntKind.wrap .i64 (n148 - n149)))), (.sc v146)] fun v151 =>
          .ret 0 [(.sc (.sl o142)), (.sc (.i .i64 n143)), (.sc (.i .i64 n145)), (.sc v146), (.sc (.i .i64 n147)), (.sc (.i .i64 n149)), (.sc (.i .i64 (IntKind.wrap .i64 (n148 - n149))))])
          (.ret 0 [(.sc (.sl o142)), (.sc (.i .i64 n143)), (.sc (.i .i64 n145)), (.sc v146), (.sc (.i .i64 n147)), (.sc (.i .i64 n149)), (.sc (.i .i64 (IntKind.wrap .i64 (n148 - n149))))])) t36_k150)
      (.join (
        .ret 0 [(.sc (.sl o142)), (.sc (.i .i64 n143)), (.sc (.i .i64 n145)), (.sc v146), (.sc (.i .i64 n147)), (.sc (.i .i64 n149)), (.sc (.i .i64 (IntKind.wrap .i64 (n148 - n149))))]) t36_k180))
    (.fail)
def t36_k102  : Nat → List AV → Tree := fun a103 l104 =>
  .tg a103 0
    (.asL (l104.getD 0 .un) fun o105 =>
    .asI .i64 (l104.getD 1 .un) fun n106 =>
    .asI .i64 (l104.getD 2 .un) fun n107 =>
    .asI .i64 (l104.getD 3 .un) fun n108 =>
    .asX (l104.getD 4 .un) fun v109 =>
    .asI .i64 (l104.getD 5 .un) fun n110 =>
    .asI .i64 (l104.getD 6 .un) fun n111 =>
    .asI .i64 (l104.getD 7 .un) fun n112 =>
    .asI .i64 (l104.getD 8 .un) fun n113 =>
    .loop t36_b114 [(.sc (.sl o105)), (.sc (.i .i64 n106)), (.sc (.i .i64 n107)), (.sc (.i .i64 n108)), (.sc v109), (.sc (.i .i64 n110)), (.sc (.i .i64 n111)), (.sc (.i .i64 n112)), (.sc (.i .i64 n113)), (.sc (.i .i64 (IntKind.wrap .i64 (n111 - (1 : Int)))))] t36_k114)
    (.fail)
/-- slices.symMergeCmpFunc[int] -/
def t36 (s0_ : Option SlD) (n1_ : Int) (n2_ : Int) (n3_ : Int) (g4_ : FuncId) (f4_ c4_ : List (Nat × Nat)) : Tree :=
  cond ((IntKind.wrap .i64 (n2_ - n1_)) == (1 : Int))
    (.loop t36_b0 [(.sc (.sl s0_)), (.sc (.i .i64 n1_)), (.sc (.fn g4_ f4_ c4_)), (.sc (.i .i64 n2_)), (.sc (.i .i64 n3_))] t36_k0)
    (cond ((IntKind.wrap .i64 (n3_ - n2_)) == (1 : Int))
      (.loop t36_b51 [(.sc (.sl s0_)), (.sc (.i .i64 n2_)), (.sc (.fn g4_ f4_ c4_)), (.sc (.i .i64 n1_)), (.sc (.i .i64 n2_))] t36_k51)
      (.br (decide ((0 : Int) ≤ (1 : Int)))
        (.join (
          cond (decide (n2_ > (IntKind.wrap .i64 (Int.fdiv (IntKind.wrap .u64 (IntKind.wrap .i64 (n1_ + n3_))) (2 : Int)))))
            (.ret 0 [(.sc (.sl s0_)), (.sc (.i .i64 n1_)), (.sc (.i .i64 n2_)), (.sc (.i .i64 n3_)), (.sc (.fn g4_ f4_ c4_)), (.sc (.i .i64 (IntKind.wrap .i64 (Int.fdiv (IntKind.wrap .u64 (IntKind.wrap .i64 (n1_ + n3_))) (2 : Int))))), (.sc (.i .i64 (IntKind.wrap .i64 ((IntKind.wrap .i64 (Int.fdiv (IntKind.wrap .u64 (IntKind.wrap .i64 (n1_ + n3_))) (2 : Int))) + n2_)))), (.sc (.i .i64 (IntKind.wrap .i64 ((IntKind.wrap .i64 ((IntKind.wrap .i64 (Int.fdiv (IntKind.wrap .u64 (IntKind.wrap .i64 (n1_ + n3_))) (2 : Int))) + n2_)) - n3_)))), (.sc (.i .i64 (IntKind.wrap .i64 (Int.fdiv (IntKind.wrap .u64 (IntKind.wrap .i64 (n1_ + n3_))) (2 : Int)))))])
            (.ret 0 [(.sc (.sl s0_)), (.sc (.i .i64 n1_)), (.sc (.i .i64 n2_)), (.sc (.i .i64 n3_)), (.sc (.fn g4_ f4_ c4_)), (.sc (.i .i64 (IntKind.wrap .i64 (Int.fdiv (IntKind.wrap .u64 (IntKind.wrap .i64 (n1_ + n3_))) (2 : Int))))), (.sc (.i .i64 (IntKind.wrap .i64 ((IntKind.wrap .i64 (Int.fdiv (IntKind.wrap .u64 (IntKind.wrap .i64 (n1_ + n3_))) (2 : Int))) + n2_)))), (.sc (.i .i64 n1_)), (.sc (.i .i64 n2_))])) t36_k102)
        (.fail)))
theorem t36_eq (s0_ : Option SlD) (n1_ : Int) (n2_ : Int) (n3_ : Int) (g4_ : FuncId) (f4_ c4_ : List (Nat × Nat)) : bodyK T (hs 36) Try.f36 [.sc (.sl s0_), .sc (.i .i64 n1_), .sc (.i .i64 n2_), .sc (.i .i64 n3_), .sc (.fn g4_ f4_ c4_)] = t36 s0_ n1_ n2_ n3_ g4_ f4_ c4_ := by kernel_rfl
def t38_b0  : List AV → Tree := fun l1 =>
  .asL (l1.getD 0 .un) fun o2 =>
  .asI .i64 (l1.getD 1 .un) fun n3 =>
  .asX (l1.getD 2 .un) fun v4 =>
  .asI .i64 (l1.getD 3 .un) fun n5 =>
  .asI .i64 (l1.getD 4 .un) fun n6 =>
  cond (n5 != n6)
    (cond (decide (n5 > n6))
      (.call 40 [(.sc (.sl o2)), (.sc (.i .i64 (IntKind.wrap .i64 (n3 - n5)))), (.sc (.i .i64 n3)), (.sc (.i .i64 n6)), (.sc v4)] fun v7 =>
      .ret 0 [(.sc (.sl o2)), (.sc (.i .i64 n3)), (.sc v4), (.sc (.i .i64 (IntKind.wrap .i64 (n5 - n6)))), (.sc (.i .i64 n6))])
      (.call 40 [(.sc (.sl o2)), (.sc (.i .i64 (IntKind.wrap .i64 (n3 - n5)))), (.sc (.i .i64 (IntKind.wrap .i64 ((IntKind.wrap .i64 (n3 + n6)) - n5)))), (.sc (.i .i64 n5)), (.sc v4)] fun v8 =>
      .ret 0 [(.sc (.sl o2)), (.sc (.i .i64 n3)), (.sc v4), (.sc (.i .i64 n5)), (.sc (.i .i64 (IntKind.wrap .i64 (n6 - n5))))]))
    (.ret 2 [(.sc (.sl o2)), (.sc (.i .i64 n3)), (.sc v4), (.sc (.i .i64 n5))])
def t38_k0  : Nat → List AV → Tree := fun a9 l10 =>
  .tg a9 2
    (.asL (l10.getD 0 .un) fun o11 =>
    .asI .i64 (l10.getD 1 .un) fun n12 =>
    .asX (l10.getD 2 .un) fun v13 =>
    .asI .i64 (l10.getD 3 .un) fun n14 =>
    .call 40 [(.sc (.sl o11)), (.sc (.i .i64 (IntKind.wrap .i64 (n12 - n14)))), (.sc (.i .i64 n12)), (.sc (.i .i64 n14)), (.sc v13)] fun v15 =>
    .ret 0 [(.tu [])])
    (.fail)
/-- slices.rotateCmpFunc[int] -/
def t38 (s0_ : Option SlD) (n1_ : Int) (n2_ : Int) (n3_ : Int) (g4_ : FuncId) (f4_ c4_ : List (Nat × Nat)) : Tree :=
  .loop t38_b0 [(.sc (.sl s0_)), (.sc (.i .i64 n2_)), (.sc (.fn g4_ f4_ c4_)), (.sc (.i .i64 (IntKind.wrap .i64 (n2_ - n1_)))), (.sc (.i .i64 (IntKind.wrap .i64 (n3_ - n2_))))] t38_k0
theorem t38_eq (s0_ : Option SlD) (n1_ : Int) (n2_ : Int) (n3_ : Int) (g4_ : FuncId) (f4_ c4_ : List (Nat × Nat)) : bodyK T (hs 38) Try.f38 [.sc (.sl s0_), .sc (.i .i64 n1_), .sc (.i .i64 n2_), .sc (.i .i64 n3_), .sc (.fn g4_ f4_ c4_)] = t38 s0_ n1_ n2_ n3_ g4_ f4_ c4_ := by kernel_rfl
def t40_b0  : List AV → Tree := fun l1 =>
  .asL (l1.getD 0 .un) fun o2 =>
  .asI .i64 (l1.getD 1 .un) fun n3 =>
  .asI .i64 (l1.getD 2 .un) fun n4 =>
  .asI .i64 (l1.getD 3 .un) fun n5 =>
  .asI .i64 (l1.getD 4 .un) fun n6 =>
  cond (decide (n6 < n5))
    (.ixS 1 o2 (IntKind.wrap .i64 (n4 + n6)) fun a7 a8 a9 =>
    .ld a7 (a8 + (a9 * 1)) 1 fun l10 =>
    .nth l10 0 fun v11 =>
    .asI .i64 (.sc v11) fun n12 =>
    .ixS 1 o2 (IntKind.wrap .i64 (n3 + n6)) fun a13 a14 a15 =>
    .ld a13 (a14 + (a15 * 1)) 1 fun l16 =>
    .nth l16 0 fun v17 =>
    .asI .i64 (.sc v17) fun n18 =>
    .ixS 1 o2 (IntKind.wrap .i64 (n3 + n6)) fun a19 a20 a21 =>
    .st a19 (a20 + (a21 * 1)) [(.i .i64 n12)] (
    .ixS 1 o2 (IntKind.wrap .i64 (n4 + n6)) fun a22 a23 a24 =>
    .st a22 (a23 + (a24 * 1)) [(.i .i64 n18)] (
    .ret 0 [(.sc (.sl o2)), (.sc (.i .i64 n3)), (.sc (.i .i64 n4)), (.sc (.i .i64 n5)), (.sc (.i .i64 (IntKind.wrap .i64 (n6 + (1 : Int)))))])))
    (.ret 2 [])
def t40_k0  : Nat → List AV → Tree := fun a25 l26 =>
  .tg a25 2
    (.ret 0 [(.tu [])])
    (.fail)
/-- slices.swapRangeCmpFunc[int] -/
def t40 (s0_ : Option SlD) (n1_ : Int) (n2_ : Int) (n3_ : Int) (g4_ : FuncId) (f4_ c4_ : List (Nat × Nat)) : Tree :=
  .loop t40_b0 [(.sc (.sl s0_)), (.sc (.i .i64 n1_)), (.sc (.i .i64 n2_)), (.sc (.i .i64 n3_)), (.sc (.i .i64 (0 : Int)))] t40_k0
theorem t40_eq (s0_ : Option SlD) (n1_ : Int) (n2_ : Int) (n3_ : Int) (g4_ : FuncId) (f4_ c4_ : List (Nat × Nat)) : bodyK T (hs 40) Try.f40 [.sc (.sl s0_), .sc (.i .i64 n1_), .sc (.i .i64 n2_), .sc (.i .i64 n3_), .sc (.fn g4_ f4_ c4_)] = t40 s0_ n1_ n2_ n3_ g4_ f4_ c4_ := by kernel_rfl
-- 31 scuttlebutt/place.Far: not printed
/-- scuttlebutt/place.Right -/
def t37 (n0_ m0_ : Nat) : Tree :=
  .call 39 [(.sc (.fl .f64 n0_))] fun v0 =>
  .asB v0 fun b1 =>
  cond b1
    (.call 39 [(.sc (.fl .f64 m0_))] fun v2 =>
    .asB v2 fun b3 =>
    .ret 0 [(.sc (.b b3))])
    (.ret 0 [(.sc (.b .false))])
theorem t37_eq (n0_ m0_ : Nat) : bodyK T (hs 37) Try.f37 [.sc (.cx .f64 n0_ m0_)] = t37 n0_ m0_ := by kernel_rfl
/-- math.Floor -/
def t41 (n0_ : Nat) : Tree :=
  .call 42 [(.sc (.fl .f64 n0_))] fun v0 =>
  .asF .f64 v0 fun a1 =>
  .ret 0 [(.sc (.fl .f64 a1))]
theorem t41_eq (n0_ : Nat) : bodyK T (hs 41) Try.f41 [.sc (.fl .f64 n0_)] = t41 n0_ := by kernel_rfl
end Go.Proofs.Ytmbnikcnmjpheaa
