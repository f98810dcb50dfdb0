/- Trees of functions, printed by a program of mine; each is proved to be the function's. -/
import Derived.Test.YtpbhfolaoccpkaaGreatGen
namespace Go.Proofs.YtpbhfolaoccpkaaGreat
open Go Go.Proofs.YtpbhfolaoccpkaaGreat.Fw
set_option linter.unusedVariables false
set_option maxRecDepth 20000
def t4_b94  : List AV → Tree := fun l95 =>
  .asI .u8 (l95.getD 0 .un) fun n96 =>
  .asB (l95.getD 1 .un) fun b97 =>
  .asP (l95.getD 2 .un) fun o98 =>
  .asP (l95.getD 3 .un) fun o99 =>
  .asL (l95.getD 4 .un) fun o100 =>
  .asL (l95.getD 5 .un) fun o101 =>
  .asL (l95.getD 6 .un) fun o102 =>
  .asI .i64 (l95.getD 7 .un) fun n103 =>
  cond (decide (n103 < (slLen o101)))
    (.ixS 5 o101 n103 fun a104 a105 a106 =>
    .ld a104 (a105 + (a106 * 5)) 5 fun l107 =>
    .nth l107 0 fun v108 =>
    .asI .i64 (.sc v108) fun n109 =>
    .nth l107 1 fun v110 =>
    .asI .i64 (.sc v110) fun n111 =>
    .nth l107 2 fun v112 =>
    .asI .u32 (.sc v112) fun n113 =>
    .nth l107 3 fun v114 =>
    .asI .u32 (.sc v114) fun n115 =>
    .nth l107 4 fun v116 =>
    .asI .u16 (.sc v116) fun n117 =>
    .ixS 5 o102 n103 fun a118 a119 a120 =>
    .ld a118 (a119 + (a120 * 5)) 5 fun l121 =>
    .nth l121 0 fun v122 =>
    .asI .i64 (.sc v122) fun n123 =>
    .nth l121 1 fun v124 =>
    .asI .i64 (.sc v124) fun n125 =>
    .nth l121 2 fun v126 =>
    .asI .u32 (.sc v126) fun n127 =>
    .nth l121 3 fun v128 =>
    .asI .u32 (.sc v128) fun n129 =>
    .nth l121 4 fun v130 =>
    .asI .u16 (.sc v130) fun n131 =>
    cond (!((n109 == n123) && ((n111 == n125) && ((n113 == n127) && (((n115 == n129) && ((n117 == n131) && .true)) && .true)))))
      (.ret 1 [(.sc (.b .false))])
      (.ret 0 [(.sc (.i .u8 n96)), (.sc (.b b97)), (.sc (.p o98)), (.sc (.p o99)), (.sc (.sl o100)), (.sc (.sl o101)), (.sc (.sl o102)), (.sc (.i .i64 (IntKind.wrap .i64 (n103 + (1 : Int)))))]))
    (.ret 6 [(.sc (.i .u8 n96)), (.sc (.b b97)), (.sc (.p o98)), (.sc (.p o99)), (.sc (.sl o100)), (.sc (.sl o101))])
def t4_k94  : Nat → List AV → Tree := fun a132 l133 =>
  .tg a132 6
    (.asI .u8 (l133.getD 0 .un) fun n134 =>
    .asB (l133.getD 1 .un) fun b135 =>
    .asP (l133.getD 2 .un) fun o136 =>
    .asP (l133.getD 3 .un) fun o137 =>
    .asL (l133.getD 4 .un) fun o138 =>
    .asL (l133.getD 5 .un) fun o139 =>
    cond b135
      (cond ((slLen o138) == (0 : Int))
        (.br .true
          (cond ((slLen o139) == (IntKind.wrap .i64 ((2 : Int) + (IntKind.wrap .i64 (Int.tmod n134 (6 : Int))))))
            (.ixS 5 o139 (1 : Int) fun a140 a141 a142 =>
            .ld a140 (a141 + (a142 * 5)) 5 fun l143 =>
            .nth l143 0 fun v144 =>
            .asI .i64 (.sc v144) fun n145 =>
            .nth l143 1 fun v146 =>
            .asI .i64 (.sc v146) fun n147 =>
            .nth l143 2 fun v148 =>
            .asI .u32 (.sc v148) fun n149 =>
            .nth l143 3 fun v150 =>
            .asI .u32 (.sc v150) fun n151 =>
            .nth l143 4 fun v152 =>
            .asI .u16 (.sc v152) fun n153 =>
            .call 22 [(.sc (.p o137))] fun v154 =>
            .asA 5 v154 fun l155 =>
            .nth l155 0 fun v156 =>
            .asI .i64 (.sc v156) fun n157 =>
            .nth l155 1 fun v158 =>
            .asI .i64 (.sc v158) fun n159 =>
            .nth l155 2 fun v160 =>
            .asI .u32 (.sc v160) fun n161 =>
            .nth l155 3 fun v162 =>
            .asI .u32 (.sc v162) fun n163 =>
            .nth l155 4 fun v164 =>
            .asI .u16 (.sc v164) fun n165 =>
            .same a140 (a141 + (a142 * 5)) [(.i .i64 n145), (.i .i64 n147), (.i .u32 n149), (.i .u32 n151), (.i .u16 n153)] (
            cond ((n145 == n157) && ((n147 == n159) && ((n149 == n161) && (((n151 == n163) && ((n153 == n165) && .true)) && .true))))
              (.call 11 [(.sc (.p o136)), (.sc (.i .u64 (5 : Int)))] fun v166 =>
              .asL v166 fun o167 =>
              .ret 0 [(.sc (.b ((slLen o167) == (0 : Int))))])
              (.ret 0 [(.sc (.b .false))])))
            (.ret 0 [(.sc (.b .false))]))
          (.fail))
        (.ret 0 [(.sc (.b .false))]))
      (.ret 0 [(.sc (.b .false))]))
    (.tg a132 1
      (.asB (l133.getD 0 .un) fun b168 =>
      .ret 0 [(.sc (.b b168))])
      (.fail))
def t4_b15  : List AV → Tree := fun l16 =>
  .asI .u8 (l16.getD 0 .un) fun n17 =>
  .asB (l16.getD 1 .un) fun b18 =>
  .asL (l16.getD 2 .un) fun o19 =>
  .asP (l16.getD 3 .un) fun o20 =>
  .asP (l16.getD 4 .un) fun o21 =>
  .asI .i64 (l16.getD 5 .un) fun n22 =>
  .br .true
    (cond (decide (n22 < (IntKind.wrap .i64 (Int.tmod n17 (6 : Int)))))
      (.call 19 [(.sc (.p o20))] fun v23 =>
      .asP v23 fun o24 =>
      .call 20 [(.sc (.p o24)), (.ag [(.i .i64 (IntKind.wrap .i64 ((10 : Int) + n22))), (.i .i64 (0 : Int)), (.i .u32 (0 : Int)), (.i .u32 (9 : Int)), (.i .u16 (9 : Int))])] fun v25 =>
      .asT 2 v25 fun l26 =>
      .nthC l26 0 fun v27 =>
      .asB (v27.av) fun b28 =>
      .nthC l26 1 fun v29 =>
      .asI .i64 (v29.av) fun n30 =>
      .ret 0 [(.sc (.i .u8 n17)), (.sc (.b b18)), (.sc (.sl o19)), (.sc (.p o20)), (.sc (.p o21)), (.sc (.i .i64 (IntKind.wrap .i64 (n22 + (1 : Int)))))])
      (.ret 2 [(.sc (.i .u8 n17)), (.sc (.b b18)), (.sc (.sl o19)), (.sc (.p o20)), (.sc (.p o21))]))
    (.fail)
def t4_k15  : Nat → List AV → Tree := fun a31 l32 =>
  .tg a31 2
    (.asI .u8 (l32.getD 0 .un) fun n33 =>
    .asB (l32.getD 1 .un) fun b34 =>
    .asL (l32.getD 2 .un) fun o35 =>
    .asP (l32.getD 3 .un) fun o36 =>
    .asP (l32.getD 4 .un) fun o37 =>
    .call 11 [(.sc (.p o37)), (.sc (.i .u64 (0 : Int)))] fun v38 =>
    .asL v38 fun o39 =>
    cond ((slLen o39) != (1 : Int))
      (.ret 0 [(.sc (.b .false))])
      (.ixS 3 o39 (0 : Int) fun a40 a41 a42 =>
      .ld a40 ((a41 + (a42 * 3)) + 0) 2 fun l43 =>
      .nth l43 0 fun v44 =>
      .asI .u32 (.sc v44) fun n45 =>
      .nth l43 1 fun v46 =>
      .asI .u16 (.sc v46) fun n47 =>
      .ixS 4 o35 (0 : Int) fun a48 a49 a50 =>
      .ld a48 ((a49 + (a50 * 4)) + 1) 2 fun l51 =>
      .nth l51 0 fun v52 =>
      .asI .u32 (.sc v52) fun n53 =>
      .nth l51 1 fun v54 =>
      .asI .u16 (.sc v54) fun n55 =>
      cond (!((n45 == n53) && ((n47 == n55) && .true)))
        (.ret 0 [(.sc (.b .false))])
        (.ixS 3 o39 (0 : Int) fun a56 a57 a58 =>
        .ld a56 ((a57 + (a58 * 3)) + 2) 1 fun l59 =>
        .nth l59 0 fun v60 =>
        .asS (.sc v60) fun x61 =>
        .call 15 [(.sc (.p o36)), (.sc (.i .u64 (1 : Int))), (.ag [(.i .u32 (2 : Int)), (.i .u16 (7 : Int))]), (.sc (.s x61))] fun v62 =>
        .asL v62 fun o63 =>
        cond ((slLen o63) != (1 : Int))
          (.ret 0 [(.sc (.b .false))])
          (.ixS 3 o63 (0 : Int) fun a64 a65 a66 =>
          .ld a64 (((a65 + (a66 * 3)) + 0) + 0) 1 fun l67 =>
          .nth l67 0 fun v68 =>
          .asI .u32 (.sc v68) fun n69 =>
          cond (n69 != (2 : Int))
            (.ret 0 [(.sc (.b .false))])
            (.ixS 4 o35 (0 : Int) fun a70 a71 a72 =>
            .ld a70 ((a71 + (a72 * 4)) + 1) 2 fun l73 =>
            .nth l73 0 fun v74 =>
            .asI .u32 (.sc v74) fun n75 =>
            .nth l73 1 fun v76 =>
            .asI .u16 (.sc v76) fun n77 =>
            .ixS 3 o63 (0 : Int) fun a78 a79 a80 =>
            .ld a78 ((a79 + (a80 * 3)) + 2) 1 fun l81 =>
            .nth l81 0 fun v82 =>
            .asS (.sc v82) fun x83 =>
            .call 15 [(.sc (.p o37)), (.sc (.i .u64 (2 : Int))), (.ag [(.i .u32 n75), (.i .u16 n77)]), (.sc (.s x83))] fun v84 =>
            .asL v84 fun o85 =>
            .call 19 [(.sc (.p o36))] fun v86 =>
            .asP v86 fun o87 =>
            .call 21 [(.sc (.p o87))] fun v88 =>
            .asL v88 fun o89 =>
            .call 19 [(.sc (.p o37))] fun v90 =>
            .asP v90 fun o91 =>
            .call 21 [(.sc (.p o91))] fun v92 =>
            .asL v92 fun o93 =>
            cond ((slLen o89) != (slLen o93))
              (.ret 0 [(.sc (.b .false))])
              (.loop t4_b94 [(.sc (.i .u8 n33)), (.sc (.b b34)), (.sc (.p o36)), (.sc (.p o37)), (.sc (.sl o85)), (.sc (.sl o89)), (.sc (.sl o93)), (.sc (.i .i64 (0 : Int)))] t4_k94))))))
    (.fail)
/-- scuttlebutt/scuttlebuttlaw19.NodeJoins -/
def t4 (n0_ : Int) (n1_ : Int) (n2_ : Int) : Tree :=
  .call 7 [] fun v0 =>
  .asB v0 fun b1 =>
  cond (!b1)
    (.ret 0 [(.sc (.b .false))])
    (.al [(.i .i64 (1 : Int)), (.i .u32 (1 : Int)), (.i .u16 (7 : Int)), (.cx .f64 0 0)] fun a2 =>
    .call 8 [(.ag [(.i .i64 (1 : Int)), (.i .u32 (1 : Int)), (.i .u16 (7 : Int)), (.cx .f64 0 0), (.i .u64 n0_), (.i .u32 (0 : Int)), (.sl (.some (.mk a2 0 1 1 4))), (.i .u64 (2 : Int)), (.i .u64 (9 : Int)), (.i .i64 (1 : Int))])] fun v3 =>
    .asT 2 v3 fun l4 =>
    .nthC l4 0 fun v5 =>
    .asP (v5.av) fun o6 =>
    .nthC l4 1 fun v7 =>
    .asI .i64 (v7.av) fun n8 =>
    .call 8 [(.ag [(.i .i64 (2 : Int)), (.i .u32 (2 : Int)), (.i .u16 (7 : Int)), (.cx .f64 0 0), (.i .u64 n0_), (.i .u32 n1_), (.sl (.some (.mk a2 0 1 1 4))), (.i .u64 (2 : Int)), (.i .u64 (9 : Int)), (.i .i64 (1 : Int))])] fun v9 =>
    .asT 2 v9 fun l10 =>
    .nthC l10 0 fun v11 =>
    .asP (v11.av) fun o12 =>
    .nthC l10 1 fun v13 =>
    .asI .i64 (v13.av) fun n14 =>
    cond (Option.isNone o6)
      (.ret 0 [(.sc (.b .false))])
      (cond (Option.isNone o12)
        (.ret 0 [(.sc (.b .false))])
        (cond (n8 != (0 : Int))
          (.ret 0 [(.sc (.b .false))])
          (cond (n14 != (0 : Int))
            (.ret 0 [(.sc (.b .false))])
            (.loop t4_b15 [(.sc (.i .u8 n2_)), (.sc (.b b1)), (.sc (.sl (.some (.mk a2 0 1 1 4)))), (.sc (.p o6)), (.sc (.p o12)), (.sc (.i .i64 (0 : Int)))] t4_k15)))))
theorem t4_eq (n0_ : Int) (n1_ : Int) (n2_ : Int) : bodyK T (hs 4) Tryz.f4 [.sc (.i .u64 n0_), .sc (.i .u32 n1_), .sc (.i .u8 n2_)] = t4 n0_ n1_ n2_ := by kernel_rfl
/-- cmp.Compare[uint32] -/
def t270 (n0_ : Int) (n1_ : Int) : Tree :=
  .call 315 [(.sc (.i .u32 n0_))] fun v0 =>
  .asB v0 fun b1 =>
  .call 315 [(.sc (.i .u32 n1_))] fun v2 =>
  .asB v2 fun b3 =>
  cond b1
    (cond b3
      (.ret 0 [(.sc (.i .i64 (0 : Int)))])
      (.ret 0 [(.sc (.i .i64 (-1 : Int)))]))
    (cond b3
      (.ret 0 [(.sc (.i .i64 (1 : Int)))])
      (cond (decide (n0_ < n1_))
        (.ret 0 [(.sc (.i .i64 (-1 : Int)))])
        (cond (decide (n0_ > n1_))
          (.ret 0 [(.sc (.i .i64 (1 : Int)))])
          (.ret 0 [(.sc (.i .i64 (0 : Int)))]))))
theorem t270_eq (n0_ : Int) (n1_ : Int) : bodyK T (hs 270) Tryz.f270 [.sc (.i .u32 n0_), .sc (.i .u32 n1_)] = t270 n0_ n1_ := by kernel_rfl
/-- cmp.isNaN[uint32] -/
def t315 (n0_ : Int) : Tree :=
  .ret 0 [(.sc (.b (n0_ != n0_)))]
theorem t315_eq (n0_ : Int) : bodyK T (hs 315) Tryz.f315 [.sc (.i .u32 n0_)] = t315 n0_ := by kernel_rfl
end Go.Proofs.YtpbhfolaoccpkaaGreat
namespace Go.Proofs.YtpbhfolaoccpkaaGreat
open Go Go.Proofs.YtpbhfolaoccpkaaGreat.Fw
set_option linter.unusedVariables false
set_option maxRecDepth 20000
/-- scuttlebutt/addr.Get -/
def t192 (x0_ : ByteArray) : Tree :=
  .al [(.i .u32 (0 : Int)), (.i .u16 (0 : Int))] fun a0 =>
  .call 98 [(.sc (.s x0_))] fun v1 =>
  .asA 2 v1 fun l2 =>
  .nth l2 0 fun v3 =>
  .asS (.sc v3) fun x4 =>
  .nth l2 1 fun v5 =>
  .asB (.sc v5) fun b6 =>
  .call 191 [(.ag [(.s x4), (.b b6)]), (.sc (.i .i64 (4 : Int)))] fun v7 =>
  .asT 2 v7 fun l8 =>
  .nthC l8 0 fun v9 =>
  .asI .u64 (v9.av) fun n10 =>
  .nthC l8 1 fun v11 =>
  .asA 2 (v11.av) fun l12 =>
  .nth l12 0 fun v13 =>
  .asS (.sc v13) fun x14 =>
  .nth l12 1 fun v15 =>
  .asB (.sc v15) fun b16 =>
  .al [(.s (.mk (.mk []))), (.b .false)] fun a17 =>
  .st a17 0 [(.s x14), (.b b16)] (
  .ld a17 0 2 fun l18 =>
  .nth l18 0 fun v19 =>
  .asS (.sc v19) fun x20 =>
  .nth l18 1 fun v21 =>
  .asB (.sc v21) fun b22 =>
  .call 191 [(.ag [(.s x20), (.b b22)]), (.sc (.i .i64 (2 : Int)))] fun v23 =>
  .asT 2 v23 fun l24 =>
  .nthC l24 0 fun v25 =>
  .asI .u64 (v25.av) fun n26 =>
  .nthC l24 1 fun v27 =>
  .asA 2 (v27.av) fun l28 =>
  .nth l28 0 fun v29 =>
  .asS (.sc v29) fun x30 =>
  .nth l28 1 fun v31 =>
  .asB (.sc v31) fun b32 =>
  .st a17 0 [(.s x30), (.b b32)] (
  .al [(.i .u32 (0 : Int)), (.i .u16 (0 : Int))] fun a33 =>
  .st a33 0 [(.i .u32 (IntKind.wrap .u32 n10)), (.i .u16 (IntKind.wrap .u16 n26))] (
  .ld a17 0 2 fun l34 =>
  .nth l34 0 fun v35 =>
  .asS (.sc v35) fun x36 =>
  .nth l34 1 fun v37 =>
  .asB (.sc v37) fun b38 =>
  .call 102 [(.ag [(.s x36), (.b b38)])] fun v39 =>
  .asB v39 fun b40 =>
  cond (!b40)
    (.st a0 0 [(.i .u32 (0 : Int)), (.i .u16 (0 : Int))] (
    .ld a0 0 2 fun l41 =>
    .nth l41 0 fun v42 =>
    .asI .u32 (.sc v42) fun n43 =>
    .nth l41 1 fun v44 =>
    .asI .u16 (.sc v44) fun n45 =>
    .ret 0 [(.tu [(.ag [(.i .u32 n43), (.i .u16 n45)]), (.sc (.b .false))])]))
    (.ld a33 0 2 fun l46 =>
    .nth l46 0 fun v47 =>
    .asI .u32 (.sc v47) fun n48 =>
    .nth l46 1 fun v49 =>
    .asI .u16 (.sc v49) fun n50 =>
    cond ((n48 == (0 : Int)) && ((n50 == (0 : Int)) && .true))
      (.br ((decide ((0 : Int) ≤ (0 : Int))) && (decide ((0 : Int) < (((ByteArray.size x0_) : Nat) : Int))))
        (cond ((strAt x0_ (Int.toNat (0 : Int))) != (0 : Int))
          (.st a0 0 [(.i .u32 (0 : Int)), (.i .u16 (0 : Int))] (
          .ld a0 0 2 fun l51 =>
          .nth l51 0 fun v52 =>
          .asI .u32 (.sc v52) fun n53 =>
          .nth l51 1 fun v54 =>
          .asI .u16 (.sc v54) fun n55 =>
          .ret 0 [(.tu [(.ag [(.i .u32 n53), (.i .u16 n55)]), (.sc (.b .false))])]))
          (.ld a33 0 2 fun l56 =>
          .nth l56 0 fun v57 =>
          .asI .u32 (.sc v57) fun n58 =>
          .nth l56 1 fun v59 =>
          .asI .u16 (.sc v59) fun n60 =>
          .st a0 0 [(.i .u32 n58), (.i .u16 n60)] (
          .ld a0 0 2 fun l61 =>
          .nth l61 0 fun v62 =>
          .asI .u32 (.sc v62) fun n63 =>
          .nth l61 1 fun v64 =>
          .asI .u16 (.sc v64) fun n65 =>
          .ret 0 [(.tu [(.ag [(.i .u32 n63), (.i .u16 n65)]), (.sc (.b .true))])])))
        (.fail))
      (.ld a33 0 2 fun l66 =>
      .nth l66 0 fun v67 =>
      .asI .u32 (.sc v67) fun n68 =>
      .nth l66 1 fun v69 =>
      .asI .u16 (.sc v69) fun n70 =>
      .st a0 0 [(.i .u32 n68), (.i .u16 n70)] (
      .ld a0 0 2 fun l71 =>
      .nth l71 0 fun v72 =>
      .asI .u32 (.sc v72) fun n73 =>
      .nth l71 1 fun v74 =>
      .asI .u16 (.sc v74) fun n75 =>
      .ret 0 [(.tu [(.ag [(.i .u32 n73), (.i .u16 n75)]), (.sc (.b .true))])]))))))
theorem t192_eq (x0_ : ByteArray) : bodyK T (hs 192) Tryz.f192 [.sc (.s x0_)] = t192 x0_ := by kernel_rfl
def t195_b97  : List AV → Tree := fun l98 =>
  .asI .i64 (l98.getD 0 .un) fun n99 =>
  .br (n99 == (0 : Int))
    (.asP (l98.getD 1 .un) fun o100 =>
    .nn o100 fun a101 a102 =>
    .st a101 a102 [(.i .i64 (0 : Int)), (.i .i64 (0 : Int)), (.i .u32 (0 : Int)), (.i .u32 (0 : Int)), (.i .u16 (0 : Int))] (
    .ret 2 [(.sc (.p (.some (a101, a102)))), (.sc (.s (.mk (.mk [])))), (.sc (.b .false))]))
    (.fail)
def t195_k97  : Nat → List AV → Tree := fun a103 l104 =>
  .tg a103 2
    (.asP (l104.getD 0 .un) fun o105 =>
    .nn o105 fun a106 a107 =>
    .asS (l104.getD 1 .un) fun x108 =>
    .asB (l104.getD 2 .un) fun b109 =>
    .ld a106 a107 5 fun l110 =>
    .nth l110 0 fun v111 =>
    .asI .i64 (.sc v111) fun n112 =>
    .nth l110 1 fun v113 =>
    .asI .i64 (.sc v113) fun n114 =>
    .nth l110 2 fun v115 =>
    .asI .u32 (.sc v115) fun n116 =>
    .nth l110 3 fun v117 =>
    .asI .u32 (.sc v117) fun n118 =>
    .nth l110 4 fun v119 =>
    .asI .u16 (.sc v119) fun n120 =>
    .ret 0 [(.tu [(.ag [(.i .i64 n112), (.i .i64 n114), (.i .u32 n116), (.i .u32 n118), (.i .u16 n120)]), (.sc (.s x108)), (.sc (.b b109))])])
    (.fail)
def t195_k1  : Nat → List AV → Tree := fun a95 l96 =>
  .tg a95 3
    (.loop t195_b97 ((.sc (.i .i64 (0 : Int))) :: l96) t195_k97)
    (.tg a95 1
      (.asP (l96.getD 0 .un) fun o121 =>
      .nn o121 fun a122 a123 =>
      .asS (l96.getD 1 .un) fun x124 =>
      .asB (l96.getD 2 .un) fun b125 =>
      .ld a122 a123 5 fun l126 =>
      .nth l126 0 fun v127 =>
      .asI .i64 (.sc v127) fun n128 =>
      .nth l126 1 fun v129 =>
      .asI .i64 (.sc v129) fun n130 =>
      .nth l126 2 fun v131 =>
      .asI .u32 (.sc v131) fun n132 =>
      .nth l126 3 fun v133 =>
      .asI .u32 (.sc v133) fun n134 =>
      .nth l126 4 fun v135 =>
      .asI .u16 (.sc v135) fun n136 =>
      .ret 0 [(.tu [(.ag [(.i .i64 n128), (.i .i64 n130), (.i .u32 n132), (.i .u32 n134), (.i .u16 n136)]), (.sc (.s x124)), (.sc (.b b125))])])
      (.fail))
/-- scuttlebutt/record.Get -/
def t195 (x0_ : ByteArray) : Tree :=
  .al [(.i .i64 (0 : Int)), (.i .i64 (0 : Int)), (.i .u32 (0 : Int)), (.i .u32 (0 : Int)), (.i .u16 (0 : Int))] fun a0 =>
  .join (
    .call 98 [(.sc (.s x0_))] fun v2 =>
    .asA 2 v2 fun l3 =>
    .nth l3 0 fun v4 =>
    .asS (.sc v4) fun x5 =>
    .nth l3 1 fun v6 =>
    .asB (.sc v6) fun b7 =>
    .call 191 [(.ag [(.s x5), (.b b7)]), (.sc (.i .i64 (1 : Int)))] fun v8 =>
    .asT 2 v8 fun l9 =>
    .nthC l9 0 fun v10 =>
    .asI .u64 (v10.av) fun n11 =>
    .nthC l9 1 fun v12 =>
    .asA 2 (v12.av) fun l13 =>
    .nth l13 0 fun v14 =>
    .asS (.sc v14) fun x15 =>
    .nth l13 1 fun v16 =>
    .asB (.sc v16) fun b17 =>
    .al [(.s (.mk (.mk []))), (.b .false)] fun a18 =>
    .st a18 0 [(.s x15), (.b b17)] (
    .ld a18 0 2 fun l19 =>
    .nth l19 0 fun v20 =>
    .asS (.sc v20) fun x21 =>
    .nth l19 1 fun v22 =>
    .asB (.sc v22) fun b23 =>
    .call 191 [(.ag [(.s x21), (.b b23)]), (.sc (.i .i64 (1 : Int)))] fun v24 =>
    .asT 2 v24 fun l25 =>
    .nthC l25 0 fun v26 =>
    .asI .u64 (v26.av) fun n27 =>
    .nthC l25 1 fun v28 =>
    .asA 2 (v28.av) fun l29 =>
    .nth l29 0 fun v30 =>
    .asS (.sc v30) fun x31 =>
    .nth l29 1 fun v32 =>
    .asB (.sc v32) fun b33 =>
    .st a18 0 [(.s x31), (.b b33)] (
    .ld a18 0 2 fun l34 =>
    .nth l34 0 fun v35 =>
    .asS (.sc v35) fun x36 =>
    .nth l34 1 fun v37 =>
    .asB (.sc v37) fun b38 =>
    .call 191 [(.ag [(.s x36), (.b b38)]), (.sc (.i .i64 (4 : Int)))] fun v39 =>
    .asT 2 v39 fun l40 =>
    .nthC l40 0 fun v41 =>
    .asI .u64 (v41.av) fun n42 =>
    .nthC l40 1 fun v43 =>
    .asA 2 (v43.av) fun l44 =>
    .nth l44 0 fun v45 =>
    .asS (.sc v45) fun x46 =>
    .nth l44 1 fun v47 =>
    .asB (.sc v47) fun b48 =>
    .st a18 0 [(.s x46), (.b b48)] (
    .ld a18 (0 + 1) 1 fun l49 =>
    .nth l49 0 fun v50 =>
    .asB (.sc v50) fun b51 =>
    cond b51
      (.ret 3 [(.sc (.p (.some (a0, 0))))])
      (.ld a18 (0 + 0) 1 fun l52 =>
      .nth l52 0 fun v53 =>
      .asS (.sc v53) fun x54 =>
      cond (decide ((((ByteArray.size x54) : Nat) : Int) < (6 : Int)))
        (.ret 3 [(.sc (.p (.some (a0, 0))))])
        (.ld a18 (0 + 0) 1 fun l55 =>
        .nth l55 0 fun v56 =>
        .asS (.sc v56) fun x57 =>
        .br (((decide ((0 : Int) ≤ (0 : Int))) && (decide ((0 : Int) ≤ (6 : Int)))) && (decide ((6 : Int) ≤ (((ByteArray.size x57) : Nat) : Int))))
          (.call 192 [(.sc (.s (ByteArray.extract x57 (Int.toNat (0 : Int)) (Int.toNat (6 : Int)))))] fun v58 =>
          .asT 2 v58 fun l59 =>
          .nthC l59 0 fun v60 =>
          .asA 2 (v60.av) fun l61 =>
          .nth l61 0 fun v62 =>
          .asI .u32 (.sc v62) fun n63 =>
          .nth l61 1 fun v64 =>
          .asI .u16 (.sc v64) fun n65 =>
          .nthC l59 1 fun v66 =>
          .asB (v66.av) fun b67 =>
          .st a0 (0 + 3) [(.i .u32 n63), (.i .u16 n65)] (
          .st a0 (0 + 0) [(.i .i64 (IntKind.wrap .i64 n11))] (
          .st a0 (0 + 1) [(.i .i64 (IntKind.wrap .i64 n27))] (
          .st a0 (0 + 2) [(.i .u32 (IntKind.wrap .u32 n42))] (
          cond b67
            (.ld a0 0 5 fun l68 =>
            .nth l68 0 fun v69 =>
            .asI .i64 (.sc v69) fun n70 =>
            .nth l68 1 fun v71 =>
            .asI .i64 (.sc v71) fun n72 =>
            .nth l68 2 fun v73 =>
            .asI .u32 (.sc v73) fun n74 =>
            .nth l68 3 fun v75 =>
            .asI .u32 (.sc v75) fun n76 =>
            .nth l68 4 fun v77 =>
            .asI .u16 (.sc v77) fun n78 =>
            .call 87 [(.ag [(.i .i64 n70), (.i .i64 n72), (.i .u32 n74), (.i .u32 n76), (.i .u16 n78)])] fun v79 =>
            .asB v79 fun b80 =>
            cond b80
              (.ld a0 0 5 fun l81 =>
              .nth l81 0 fun v82 =>
              .asI .i64 (.sc v82) fun n83 =>
              .nth l81 1 fun v84 =>
              .asI .i64 (.sc v84) fun n85 =>
              .nth l81 2 fun v86 =>
              .asI .u32 (.sc v86) fun n87 =>
              .nth l81 3 fun v88 =>
              .asI .u32 (.sc v88) fun n89 =>
              .nth l81 4 fun v90 =>
              .asI .u16 (.sc v90) fun n91 =>
              .ld a18 (0 + 0) 1 fun l92 =>
              .nth l92 0 fun v93 =>
              .asS (.sc v93) fun x94 =>
              .br (((decide ((0 : Int) ≤ (6 : Int))) && (decide ((6 : Int) ≤ (((ByteArray.size x94) : Nat) : Int)))) && (decide ((((ByteArray.size x94) : Nat) : Int) ≤ (((ByteArray.size x94) : Nat) : Int))))
                (.st a0 0 [(.i .i64 n83), (.i .i64 n85), (.i .u32 n87), (.i .u32 n89), (.i .u16 n91)] (
                .same a18 (0 + 0) [(.s x94)] (
                .ret 1 [(.sc (.p (.some (a0, 0)))), (.sc (.s (ByteArray.extract x94 (Int.toNat (6 : Int)) (Int.toNat (((ByteArray.size x94) : Nat) : Int))))), (.sc (.b .true))])))
                (.fail))
              (.ret 3 [(.sc (.p (.some (a0, 0))))]))
            (.ret 3 [(.sc (.p (.some (a0, 0))))]))))))
          (.fail))))))) t195_k1
theorem t195_eq (x0_ : ByteArray) : bodyK T (hs 195) Tryz.f195 [.sc (.s x0_)] = t195 x0_ := by kernel_rfl
/-- (scuttlebutt/addr.Addr).Put -/
def t198 (n0_0 : Int) (n0_1 : Int) : Tree :=
  .al [(.i .u32 n0_0), (.i .u16 n0_1)] fun a0 =>
  .ld a0 (0 + 0) 1 fun l1 =>
  .nth l1 0 fun v2 =>
  .asI .u32 (.sc v2) fun n3 =>
  .ld a0 (0 + 1) 1 fun l4 =>
  .nth l4 0 fun v5 =>
  .asI .u16 (.sc v5) fun n6 =>
  .call 197 [(.sc (.i .u64 (IntKind.wrap .u64 n3))), (.sc (.i .i64 (4 : Int)))] fun v7 =>
  .asS v7 fun x8 =>
  .same a0 (0 + 1) [(.i .u16 n6)] (
  .call 197 [(.sc (.i .u64 (IntKind.wrap .u64 n6))), (.sc (.i .i64 (2 : Int)))] fun v9 =>
  .asS v9 fun x10 =>
  .br (decide (((((ByteArray.size x8) + (ByteArray.size x10)) : Nat) : Int) ≤ (9223372036854775807 : Int)))
    (.ret 0 [(.sc (.s (x8 ++ x10)))])
    (.fail))
theorem t198_eq (n0_0 : Int) (n0_1 : Int) : bodyK T (hs 198) Tryz.f198 [.ag [.i .u32 n0_0, .i .u16 n0_1]] = t198 n0_0 n0_1 := by kernel_rfl
/-- (scuttlebutt/record.Record).Put -/
def t200 (n0_0 : Int) (n0_1 : Int) (n0_2 : Int) (n0_3 : Int) (n0_4 : Int) : Tree :=
  .al [(.i .i64 n0_0), (.i .i64 n0_1), (.i .u32 n0_2), (.i .u32 n0_3), (.i .u16 n0_4)] fun a0 =>
  .ld a0 0 5 fun l1 =>
  .nth l1 0 fun v2 =>
  .asI .i64 (.sc v2) fun n3 =>
  .nth l1 1 fun v4 =>
  .asI .i64 (.sc v4) fun n5 =>
  .nth l1 2 fun v6 =>
  .asI .u32 (.sc v6) fun n7 =>
  .nth l1 3 fun v8 =>
  .asI .u32 (.sc v8) fun n9 =>
  .nth l1 4 fun v10 =>
  .asI .u16 (.sc v10) fun n11 =>
  .call 87 [(.ag [(.i .i64 n3), (.i .i64 n5), (.i .u32 n7), (.i .u32 n9), (.i .u16 n11)])] fun v12 =>
  .asB v12 fun b13 =>
  cond (!b13)
    (.ret 0 [(.tu [(.sc (.s (.mk (.mk [])))), (.sc (.b .false))])])
    (.ld a0 (0 + 0) 1 fun l14 =>
    .nth l14 0 fun v15 =>
    .asI .i64 (.sc v15) fun n16 =>
    .ld a0 (0 + 1) 1 fun l17 =>
    .nth l17 0 fun v18 =>
    .asI .i64 (.sc v18) fun n19 =>
    .ld a0 (0 + 2) 1 fun l20 =>
    .nth l20 0 fun v21 =>
    .asI .u32 (.sc v21) fun n22 =>
    .ld a0 (0 + 3) 2 fun l23 =>
    .nth l23 0 fun v24 =>
    .asI .u32 (.sc v24) fun n25 =>
    .nth l23 1 fun v26 =>
    .asI .u16 (.sc v26) fun n27 =>
    .call 197 [(.sc (.i .u64 (IntKind.wrap .u64 n16))), (.sc (.i .i64 (1 : Int)))] fun v28 =>
    .asS v28 fun x29 =>
    .same a0 (0 + 3) [(.i .u32 n25), (.i .u16 n27)] (
    .same a0 (0 + 2) [(.i .u32 n22)] (
    .same a0 (0 + 1) [(.i .i64 n19)] (
    .call 197 [(.sc (.i .u64 (IntKind.wrap .u64 n19))), (.sc (.i .i64 (1 : Int)))] fun v30 =>
    .asS v30 fun x31 =>
    .same a0 (0 + 3) [(.i .u32 n25), (.i .u16 n27)] (
    .same a0 (0 + 2) [(.i .u32 n22)] (
    .br (decide (((((ByteArray.size x29) + (ByteArray.size x31)) : Nat) : Int) ≤ (9223372036854775807 : Int)))
      (.call 197 [(.sc (.i .u64 (IntKind.wrap .u64 n22))), (.sc (.i .i64 (4 : Int)))] fun v32 =>
      .asS v32 fun x33 =>
      .same a0 (0 + 3) [(.i .u32 n25), (.i .u16 n27)] (
      .br (decide (((((ByteArray.size (x29 ++ x31)) + (ByteArray.size x33)) : Nat) : Int) ≤ (9223372036854775807 : Int)))
        (.call 198 [(.ag [(.i .u32 n25), (.i .u16 n27)])] fun v34 =>
        .asS v34 fun x35 =>
        .br (decide (((((ByteArray.size ((x29 ++ x31) ++ x33)) + (ByteArray.size x35)) : Nat) : Int) ≤ (9223372036854775807 : Int)))
          (.ret 0 [(.tu [(.sc (.s (((x29 ++ x31) ++ x33) ++ x35))), (.sc (.b .true))])])
          (.fail))
        (.fail)))
      (.fail)))))))
theorem t200_eq (n0_0 : Int) (n0_1 : Int) (n0_2 : Int) (n0_3 : Int) (n0_4 : Int) : bodyK T (hs 200) Tryz.f200 [.ag [.i .i64 n0_0, .i .i64 n0_1, .i .u32 n0_2, .i .u32 n0_3, .i .u16 n0_4]] = t200 n0_0 n0_1 n0_2 n0_3 n0_4 := by kernel_rfl
def t21_b3  : List AV → Tree := fun l4 =>
  .asL (l4.getD 0 .un) fun o5 =>
  .asA 165 (l4.getD 1 .un) fun l6 =>
  .asI .i64 (l4.getD 2 .un) fun n7 =>
  cond (decide (n7 < (33 : Int)))
    (.br ((decide ((0 : Int) ≤ n7)) && (decide (n7 < (33 : Int))))
      (.nth (List.take 5 (List.drop ((Int.toNat n7) * 5) l6)) 0 fun v8 =>
      .asI .i64 (.sc v8) fun n9 =>
      .nth (List.take 5 (List.drop ((Int.toNat n7) * 5) l6)) 1 fun v10 =>
      .asI .i64 (.sc v10) fun n11 =>
      .nth (List.take 5 (List.drop ((Int.toNat n7) * 5) l6)) 2 fun v12 =>
      .asI .u32 (.sc v12) fun n13 =>
      .nth (List.take 5 (List.drop ((Int.toNat n7) * 5) l6)) 3 fun v14 =>
      .asI .u32 (.sc v14) fun n15 =>
      .nth (List.take 5 (List.drop ((Int.toNat n7) * 5) l6)) 4 fun v16 =>
      .asI .u16 (.sc v16) fun n17 =>
      .al [(.i .i64 (0 : Int)), (.i .i64 (0 : Int)), (.i .u32 (0 : Int)), (.i .u32 (0 : Int)), (.i .u16 (0 : Int))] fun a18 =>
      .st a18 0 [(.i .i64 n9), (.i .i64 n11), (.i .u32 n13), (.i .u32 n15), (.i .u16 n17)] (
      .ld a18 (0 + 0) 1 fun l19 =>
      .nth l19 0 fun v20 =>
      .asI .i64 (.sc v20) fun n21 =>
      cond (decide (n21 > (0 : Int)))
        (.ld a18 0 5 fun l22 =>
        .nth l22 0 fun v23 =>
        .asI .i64 (.sc v23) fun n24 =>
        .nth l22 1 fun v25 =>
        .asI .i64 (.sc v25) fun n26 =>
        .nth l22 2 fun v27 =>
        .asI .u32 (.sc v27) fun n28 =>
        .nth l22 3 fun v29 =>
        .asI .u32 (.sc v29) fun n30 =>
        .nth l22 4 fun v31 =>
        .asI .u16 (.sc v31) fun n32 =>
        .al [(.i .i64 n24), (.i .i64 n26), (.i .u32 n28), (.i .u32 n30), (.i .u16 n32)] fun a33 =>
        .lds 5 (.some (.mk a33 0 1 1 5)) (slN (.some (.mk a33 0 1 1 5))) fun l34 =>
        .app 5 32 o5 l34 (slN (.some (.mk a33 0 1 1 5))) fun o35 =>
        .ret 0 [(.sc (.sl o35)), (.ag l6), (.sc (.i .i64 (IntKind.wrap .i64 (n7 + (1 : Int)))))])
        (.ret 0 [(.sc (.sl o5)), (.ag l6), (.sc (.i .i64 (IntKind.wrap .i64 (n7 + (1 : Int)))))])))
      (.fail))
    (.ret 2 [(.sc (.sl o5))])
def t21_k3  : Nat → List AV → Tree := fun a36 l37 =>
  .tg a36 2
    (.asL (l37.getD 0 .un) fun o38 =>
    .ret 0 [(.sc (.sl o38))])
    (.fail)
/-- (*scuttlebutt/view.View).Members -/
def t21 (p0_ q0_ : Nat) : Tree :=
  .nn (.some (p0_, q0_)) fun a0 a1 =>
  .ld a0 (a1 + 0) 165 fun l2 =>
  .loop t21_b3 [(.sc (.sl .none)), (.ag l2), (.sc (.i .i64 (0 : Int)))] t21_k3
theorem t21_eq (p0_ q0_ : Nat) : bodyK T (hs 21) Tryz.f21 [.sc (.p (some (p0_, q0_)))] = t21 p0_ q0_ := by kernel_rfl
/-- (*scuttlebutt/view.View).Of -/
def t88 (p0_ q0_ : Nat) (n1_ : Int) : Tree :=
  .al [(.i .i64 (0 : Int)), (.i .i64 (0 : Int)), (.i .u32 (0 : Int)), (.i .u32 (0 : Int)), (.i .u16 (0 : Int))] fun a0 =>
  cond (decide (n1_ < (1 : Int)))
    (.st a0 0 [(.i .i64 (0 : Int)), (.i .i64 (0 : Int)), (.i .u32 (0 : Int)), (.i .u32 (0 : Int)), (.i .u16 (0 : Int))] (
    .ld a0 0 5 fun l1 =>
    .nth l1 0 fun v2 =>
    .asI .i64 (.sc v2) fun n3 =>
    .nth l1 1 fun v4 =>
    .asI .i64 (.sc v4) fun n5 =>
    .nth l1 2 fun v6 =>
    .asI .u32 (.sc v6) fun n7 =>
    .nth l1 3 fun v8 =>
    .asI .u32 (.sc v8) fun n9 =>
    .nth l1 4 fun v10 =>
    .asI .u16 (.sc v10) fun n11 =>
    .ret 0 [(.tu [(.ag [(.i .i64 n3), (.i .i64 n5), (.i .u32 n7), (.i .u32 n9), (.i .u16 n11)]), (.sc (.b .false))])]))
    (cond (decide (n1_ > (32 : Int)))
      (.st a0 0 [(.i .i64 (0 : Int)), (.i .i64 (0 : Int)), (.i .u32 (0 : Int)), (.i .u32 (0 : Int)), (.i .u16 (0 : Int))] (
      .ld a0 0 5 fun l12 =>
      .nth l12 0 fun v13 =>
      .asI .i64 (.sc v13) fun n14 =>
      .nth l12 1 fun v15 =>
      .asI .i64 (.sc v15) fun n16 =>
      .nth l12 2 fun v17 =>
      .asI .u32 (.sc v17) fun n18 =>
      .nth l12 3 fun v19 =>
      .asI .u32 (.sc v19) fun n20 =>
      .nth l12 4 fun v21 =>
      .asI .u16 (.sc v21) fun n22 =>
      .ret 0 [(.tu [(.ag [(.i .i64 n14), (.i .i64 n16), (.i .u32 n18), (.i .u32 n20), (.i .u16 n22)]), (.sc (.b .false))])]))
      (.nn (.some (p0_, q0_)) fun a23 a24 =>
      .br ((decide ((0 : Int) ≤ n1_)) && (decide (n1_ < (33 : Int))))
        (.ld a23 (((a24 + 0) + ((Int.toNat n1_) * 5)) + 0) 1 fun l25 =>
        .nth l25 0 fun v26 =>
        .asI .i64 (.sc v26) fun n27 =>
        cond (n27 == (0 : Int))
          (.st a0 0 [(.i .i64 (0 : Int)), (.i .i64 (0 : Int)), (.i .u32 (0 : Int)), (.i .u32 (0 : Int)), (.i .u16 (0 : Int))] (
          .ld a0 0 5 fun l28 =>
          .nth l28 0 fun v29 =>
          .asI .i64 (.sc v29) fun n30 =>
          .nth l28 1 fun v31 =>
          .asI .i64 (.sc v31) fun n32 =>
          .nth l28 2 fun v33 =>
          .asI .u32 (.sc v33) fun n34 =>
          .nth l28 3 fun v35 =>
          .asI .u32 (.sc v35) fun n36 =>
          .nth l28 4 fun v37 =>
          .asI .u16 (.sc v37) fun n38 =>
          .ret 0 [(.tu [(.ag [(.i .i64 n30), (.i .i64 n32), (.i .u32 n34), (.i .u32 n36), (.i .u16 n38)]), (.sc (.b .false))])]))
          (.nn (.some (p0_, q0_)) fun a39 a40 =>
          .br ((decide ((0 : Int) ≤ n1_)) && (decide (n1_ < (33 : Int))))
            (.ld a39 ((a40 + 0) + ((Int.toNat n1_) * 5)) 5 fun l41 =>
            .nth l41 0 fun v42 =>
            .asI .i64 (.sc v42) fun n43 =>
            .nth l41 1 fun v44 =>
            .asI .i64 (.sc v44) fun n45 =>
            .nth l41 2 fun v46 =>
            .asI .u32 (.sc v46) fun n47 =>
            .nth l41 3 fun v48 =>
            .asI .u32 (.sc v48) fun n49 =>
            .nth l41 4 fun v50 =>
            .asI .u16 (.sc v50) fun n51 =>
            .st a0 0 [(.i .i64 n43), (.i .i64 n45), (.i .u32 n47), (.i .u32 n49), (.i .u16 n51)] (
            .ld a0 0 5 fun l52 =>
            .nth l52 0 fun v53 =>
            .asI .i64 (.sc v53) fun n54 =>
            .nth l52 1 fun v55 =>
            .asI .i64 (.sc v55) fun n56 =>
            .nth l52 2 fun v57 =>
            .asI .u32 (.sc v57) fun n58 =>
            .nth l52 3 fun v59 =>
            .asI .u32 (.sc v59) fun n60 =>
            .nth l52 4 fun v61 =>
            .asI .u16 (.sc v61) fun n62 =>
            .ret 0 [(.tu [(.ag [(.i .i64 n54), (.i .i64 n56), (.i .u32 n58), (.i .u32 n60), (.i .u16 n62)]), (.sc (.b .true))])]))
            (.fail)))
        (.fail)))
theorem t88_eq (p0_ q0_ : Nat) (n1_ : Int) : bodyK T (hs 88) Tryz.f88 [.sc (.p (some (p0_, q0_))), .sc (.i .i64 n1_)] = t88 p0_ q0_ n1_ := by kernel_rfl
end Go.Proofs.YtpbhfolaoccpkaaGreat
namespace Go.Proofs.YtpbhfolaoccpkaaGreat
open Go Go.Proofs.YtpbhfolaoccpkaaGreat.Fw
set_option linter.unusedVariables false
set_option maxRecDepth 20000
def t11_b10  : List AV → Tree := fun l11 =>
  .asP (l11.getD 0 .un) fun o12 =>
  .asL (l11.getD 1 .un) fun o13 =>
  .asI .i64 (l11.getD 2 .un) fun n14 =>
  .asI .i64 (l11.getD 3 .un) fun n15 =>
  cond (decide (n15 < n14))
    (.ixS 4 o13 n15 fun a16 a17 a18 =>
    .ld a16 (a17 + (a18 * 4)) 4 fun l19 =>
    .nth l19 0 fun v20 =>
    .asI .i64 (.sc v20) fun n21 =>
    .nth l19 1 fun v22 =>
    .asI .u32 (.sc v22) fun n23 =>
    .nth l19 2 fun v24 =>
    .asI .u16 (.sc v24) fun n25 =>
    .nth l19 3 fun v26 =>
    .asC .f64 (.sc v26) fun a27 a28 =>
    .al [(.i .i64 (0 : Int)), (.i .u32 (0 : Int)), (.i .u16 (0 : Int)), (.cx .f64 0 0)] fun a29 =>
    .st a29 0 [(.i .i64 n21), (.i .u32 n23), (.i .u16 n25), (.cx .f64 a27 a28)] (
    .ld a29 (0 + 0) 1 fun l30 =>
    .nth l30 0 fun v31 =>
    .asI .i64 (.sc v31) fun n32 =>
    .nn o12 fun a33 a34 =>
    .ld a33 ((a34 + 0) + 0) 1 fun l35 =>
    .nth l35 0 fun v36 =>
    .asI .i64 (.sc v36) fun n37 =>
    cond (n32 != n37)
      (.ld a29 (0 + 1) 2 fun l38 =>
      .nth l38 0 fun v39 =>
      .asI .u32 (.sc v39) fun n40 =>
      .nth l38 1 fun v41 =>
      .asI .u16 (.sc v41) fun n42 =>
      .nn o12 fun a43 a44 =>
      .ld a43 ((a44 + 0) + 3) 1 fun l45 =>
      .nth l45 0 fun v46 =>
      .asC .f64 (.sc v46) fun a47 a48 =>
      .nn o12 fun a49 a50 =>
      .ld a49 (a50 + 15) 1 fun l51 =>
      .nth l51 0 fun v52 =>
      .asP (.sc v52) fun o53 =>
      .call 54 [(.sc (.cx .f64 a47 a48))] fun v54 =>
      .asC .f64 v54 fun a55 a56 =>
      .same a49 (a50 + 15) [(.p o53)] (
      .same a29 (0 + 1) [(.i .u32 n40), (.i .u16 n42)] (
      .call 21 [(.sc (.p o53))] fun v57 =>
      .asL v57 fun o58 =>
      .same a29 (0 + 1) [(.i .u32 n40), (.i .u16 n42)] (
      .call 53 [(.sc (.p o12)), (.ag [(.i .u32 n40), (.i .u16 n42)]), (.ag [(.i .i64 (13 : Int)), (.i .i64 (0 : Int)), (.i .u32 (0 : Int)), (.i .i64 (0 : Int)), (.i .u32 (0 : Int)), (.i .u16 (0 : Int)), (.cx .f64 a55 a56), (.b .false), (.s (.mk (.mk []))), (.sl o58)])] fun v59 =>
      .ret 0 [(.sc (.p o12)), (.sc (.sl o13)), (.sc (.i .i64 n14)), (.sc (.i .i64 (IntKind.wrap .i64 (n15 + (1 : Int)))))]))))
      (.ret 0 [(.sc (.p o12)), (.sc (.sl o13)), (.sc (.i .i64 n14)), (.sc (.i .i64 (IntKind.wrap .i64 (n15 + (1 : Int)))))])))
    (.ret 2 [(.sc (.p o12))])
def t11_k10  : Nat → List AV → Tree := fun a60 l61 =>
  .tg a60 2
    (.asP (l61.getD 0 .un) fun o62 =>
    .call 55 [(.sc (.p o62))] fun v63 =>
    .asL v63 fun o64 =>
    .ret 0 [(.sc (.sl o64))])
    (.fail)
/-- (*scuttlebutt/node.Node).Join -/
def t11 (p0_ q0_ : Nat) (n1_ : Int) : Tree :=
  .nn (.some (p0_, q0_)) fun a0 a1 =>
  .ld a0 (a1 + 33) 1 fun l2 =>
  .nth l2 0 fun v3 =>
  .asB (.sc v3) fun b4 =>
  cond b4
    (.ret 0 [(.sc (.sl .none))])
    (cond (decide (n1_ > (4611686018427387904 : Int)))
      (.ret 0 [(.sc (.sl .none))])
      (.nn (.some (p0_, q0_)) fun a5 a6 =>
      .ld a5 ((a6 + 0) + 6) 1 fun l7 =>
      .nth l7 0 fun v8 =>
      .asL (.sc v8) fun o9 =>
      .loop t11_b10 [(.sc (.p (.some (p0_, q0_)))), (.sc (.sl o9)), (.sc (.i .i64 (slLen o9))), (.sc (.i .i64 (0 : Int)))] t11_k10))
theorem t11_eq (p0_ q0_ : Nat) (n1_ : Int) : bodyK T (hs 11) Tryz.f11 [.sc (.p (some (p0_, q0_))), .sc (.i .u64 n1_)] = t11 p0_ q0_ n1_ := by kernel_rfl
/-- (*scuttlebutt/node.Node).Me -/
def t22 (p0_ q0_ : Nat) : Tree :=
  .al [(.i .i64 (0 : Int)), (.i .i64 (0 : Int)), (.i .u32 (0 : Int)), (.i .u32 (0 : Int)), (.i .u16 (0 : Int))] fun a0 =>
  .nn (.some (p0_, q0_)) fun a1 a2 =>
  .ld a1 (a2 + 10) 5 fun l3 =>
  .nth l3 0 fun v4 =>
  .asI .i64 (.sc v4) fun n5 =>
  .nth l3 1 fun v6 =>
  .asI .i64 (.sc v6) fun n7 =>
  .nth l3 2 fun v8 =>
  .asI .u32 (.sc v8) fun n9 =>
  .nth l3 3 fun v10 =>
  .asI .u32 (.sc v10) fun n11 =>
  .nth l3 4 fun v12 =>
  .asI .u16 (.sc v12) fun n13 =>
  .st a0 0 [(.i .i64 n5), (.i .i64 n7), (.i .u32 n9), (.i .u32 n11), (.i .u16 n13)] (
  .ld a0 0 5 fun l14 =>
  .nth l14 0 fun v15 =>
  .asI .i64 (.sc v15) fun n16 =>
  .nth l14 1 fun v17 =>
  .asI .i64 (.sc v17) fun n18 =>
  .nth l14 2 fun v19 =>
  .asI .u32 (.sc v19) fun n20 =>
  .nth l14 3 fun v21 =>
  .asI .u32 (.sc v21) fun n22 =>
  .nth l14 4 fun v23 =>
  .asI .u16 (.sc v23) fun n24 =>
  .ret 0 [(.ag [(.i .i64 n16), (.i .i64 n18), (.i .u32 n20), (.i .u32 n22), (.i .u16 n24)])])
theorem t22_eq (p0_ q0_ : Nat) : bodyK T (hs 22) Tryz.f22 [.sc (.p (some (p0_, q0_)))] = t22 p0_ q0_ := by kernel_rfl
def t128_k136  : Nat → List AV → Tree := fun a150 l151 =>
  .tg a150 0
    (.asP (l151.getD 0 .un) fun o152 =>
    .asP (l151.getD 1 .un) fun o153 =>
    .nn o153 fun a154 a155 =>
    .asB (l151.getD 2 .un) fun b156 =>
    cond (!b156)
      (.ret 0 [(.tu [])])
      (.ld a154 (a155 + 1) 1 fun l157 =>
      .nth l157 0 fun v158 =>
      .asI .i64 (.sc v158) fun n159 =>
      cond (n159 == (0 : Int))
        (.nn o152 fun a160 a161 =>
        .ld a160 (a161 + 25) 1 fun l162 =>
        .nth l162 0 fun v163 =>
        .asP (.sc v163) fun o164 =>
        .ld a154 (a155 + 0) 1 fun l165 =>
        .nth l165 0 fun v166 =>
        .asI .i64 (.sc v166) fun n167 =>
        .ld a154 (a155 + 2) 1 fun l168 =>
        .nth l168 0 fun v169 =>
        .asI .u32 (.sc v169) fun n170 =>
        .call 221 [(.sc (.p o164)), (.sc (.i .i64 n167)), (.sc (.i .u32 n170))] fun v171 =>
        .asB v171 fun b172 =>
        .ret 0 [(.tu [])])
        (.ld a154 a155 5 fun l173 =>
        .nth l173 0 fun v174 =>
        .asI .i64 (.sc v174) fun n175 =>
        .nth l173 1 fun v176 =>
        .asI .i64 (.sc v176) fun n177 =>
        .nth l173 2 fun v178 =>
        .asI .u32 (.sc v178) fun n179 =>
        .nth l173 3 fun v180 =>
        .asI .u32 (.sc v180) fun n181 =>
        .nth l173 4 fun v182 =>
        .asI .u16 (.sc v182) fun n183 =>
        .call 140 [(.ag [(.i .i64 n175), (.i .i64 n177), (.i .u32 n179), (.i .u32 n181), (.i .u16 n183)])] fun v184 =>
        .asB v184 fun b185 =>
        cond (!b185)
          (.nn o152 fun a186 a187 =>
          .ld a186 (a187 + 25) 1 fun l188 =>
          .nth l188 0 fun v189 =>
          .asP (.sc v189) fun o190 =>
          .ld a154 (a155 + 0) 1 fun l191 =>
          .nth l191 0 fun v192 =>
          .asI .i64 (.sc v192) fun n193 =>
          .ld a154 (a155 + 2) 1 fun l194 =>
          .nth l194 0 fun v195 =>
          .asI .u32 (.sc v195) fun n196 =>
          .call 221 [(.sc (.p o190)), (.sc (.i .i64 n193)), (.sc (.i .u32 (IntKind.wrap .u32 ((minI n196 (4294967294 : Int)) + (1 : Int)))))] fun v197 =>
          .asB v197 fun b198 =>
          .nn o152 fun a199 a200 =>
          .ld a199 (a200 + 29) 1 fun l201 =>
          .nth l201 0 fun v202 =>
          .asP (.sc v202) fun o203 =>
          .ld a154 (a155 + 0) 1 fun l204 =>
          .nth l204 0 fun v205 =>
          .asI .i64 (.sc v205) fun n206 =>
          .call 222 [(.sc (.p o203)), (.sc (.i .i64 n206))] fun v207 =>
          .asB v207 fun b208 =>
          .nn o152 fun a209 a210 =>
          .ld a209 (a210 + 28) 1 fun l211 =>
          .nth l211 0 fun v212 =>
          .asP (.sc v212) fun o213 =>
          .ld a154 (a155 + 0) 1 fun l214 =>
          .nth l214 0 fun v215 =>
          .asI .i64 (.sc v215) fun n216 =>
          .call 223 [(.sc (.p o213)), (.sc (.i .i64 n216))] fun v217 =>
          .asB v217 fun b218 =>
          .ret 0 [(.tu [])])
          (.ret 0 [(.tu [])]))))
    (.fail)
def t128_k219  : Nat → List AV → Tree := fun a220 l221 =>
  .tg a220 0
    (.asP (l221.getD 0 .un) fun o222 =>
    .asP (l221.getD 1 .un) fun o223 =>
    .nn o223 fun a224 a225 =>
    .asB (l221.getD 2 .un) fun b226 =>
    cond (!b226)
      (.ret 0 [(.tu [])])
      (.ld a224 (a225 + 1) 1 fun l227 =>
      .nth l227 0 fun v228 =>
      .asI .i64 (.sc v228) fun n229 =>
      cond (n229 == (0 : Int))
        (.nn o222 fun a230 a231 =>
        .ld a230 (a231 + 25) 1 fun l232 =>
        .nth l232 0 fun v233 =>
        .asP (.sc v233) fun o234 =>
        .ld a224 (a225 + 0) 1 fun l235 =>
        .nth l235 0 fun v236 =>
        .asI .i64 (.sc v236) fun n237 =>
        .ld a224 (a225 + 2) 1 fun l238 =>
        .nth l238 0 fun v239 =>
        .asI .u32 (.sc v239) fun n240 =>
        .call 221 [(.sc (.p o234)), (.sc (.i .i64 n237)), (.sc (.i .u32 n240))] fun v241 =>
        .asB v241 fun b242 =>
        .ret 0 [(.tu [])])
        (.ld a224 a225 5 fun l243 =>
        .nth l243 0 fun v244 =>
        .asI .i64 (.sc v244) fun n245 =>
        .nth l243 1 fun v246 =>
        .asI .i64 (.sc v246) fun n247 =>
        .nth l243 2 fun v248 =>
        .asI .u32 (.sc v248) fun n249 =>
        .nth l243 3 fun v250 =>
        .asI .u32 (.sc v250) fun n251 =>
        .nth l243 4 fun v252 =>
        .asI .u16 (.sc v252) fun n253 =>
        .call 140 [(.ag [(.i .i64 n245), (.i .i64 n247), (.i .u32 n249), (.i .u32 n251), (.i .u16 n253)])] fun v254 =>
        .asB v254 fun b255 =>
        cond (!b255)
          (.nn o222 fun a256 a257 =>
          .ld a256 (a257 + 25) 1 fun l258 =>
          .nth l258 0 fun v259 =>
          .asP (.sc v259) fun o260 =>
          .ld a224 (a225 + 0) 1 fun l261 =>
          .nth l261 0 fun v262 =>
          .asI .i64 (.sc v262) fun n263 =>
          .ld a224 (a225 + 2) 1 fun l264 =>
          .nth l264 0 fun v265 =>
          .asI .u32 (.sc v265) fun n266 =>
          .call 221 [(.sc (.p o260)), (.sc (.i .i64 n263)), (.sc (.i .u32 (IntKind.wrap .u32 ((minI n266 (4294967294 : Int)) + (1 : Int)))))] fun v267 =>
          .asB v267 fun b268 =>
          .nn o222 fun a269 a270 =>
          .ld a269 (a270 + 29) 1 fun l271 =>
          .nth l271 0 fun v272 =>
          .asP (.sc v272) fun o273 =>
          .ld a224 (a225 + 0) 1 fun l274 =>
          .nth l274 0 fun v275 =>
          .asI .i64 (.sc v275) fun n276 =>
          .call 222 [(.sc (.p o273)), (.sc (.i .i64 n276))] fun v277 =>
          .asB v277 fun b278 =>
          .nn o222 fun a279 a280 =>
          .ld a279 (a280 + 28) 1 fun l281 =>
          .nth l281 0 fun v282 =>
          .asP (.sc v282) fun o283 =>
          .ld a224 (a225 + 0) 1 fun l284 =>
          .nth l284 0 fun v285 =>
          .asI .i64 (.sc v285) fun n286 =>
          .call 223 [(.sc (.p o283)), (.sc (.i .i64 n286))] fun v287 =>
          .asB v287 fun b288 =>
          .ret 0 [(.tu [])])
          (.ret 0 [(.tu [])]))))
    (.fail)
def t128_k289  : Nat → List AV → Tree := fun a290 l291 =>
  .tg a290 0
    (.asP (l291.getD 0 .un) fun o292 =>
    .asP (l291.getD 1 .un) fun o293 =>
    .nn o293 fun a294 a295 =>
    .asB (l291.getD 2 .un) fun b296 =>
    cond (!b296)
      (.ret 0 [(.tu [])])
      (.ld a294 (a295 + 1) 1 fun l297 =>
      .nth l297 0 fun v298 =>
      .asI .i64 (.sc v298) fun n299 =>
      cond (n299 == (0 : Int))
        (.nn o292 fun a300 a301 =>
        .ld a300 (a301 + 25) 1 fun l302 =>
        .nth l302 0 fun v303 =>
        .asP (.sc v303) fun o304 =>
        .ld a294 (a295 + 0) 1 fun l305 =>
        .nth l305 0 fun v306 =>
        .asI .i64 (.sc v306) fun n307 =>
        .ld a294 (a295 + 2) 1 fun l308 =>
        .nth l308 0 fun v309 =>
        .asI .u32 (.sc v309) fun n310 =>
        .call 221 [(.sc (.p o304)), (.sc (.i .i64 n307)), (.sc (.i .u32 n310))] fun v311 =>
        .asB v311 fun b312 =>
        .ret 0 [(.tu [])])
        (.ld a294 a295 5 fun l313 =>
        .nth l313 0 fun v314 =>
        .asI .i64 (.sc v314) fun n315 =>
        .nth l313 1 fun v316 =>
        .asI .i64 (.sc v316) fun n317 =>
        .nth l313 2 fun v318 =>
        .asI .u32 (.sc v318) fun n319 =>
        .nth l313 3 fun v320 =>
        .asI .u32 (.sc v320) fun n321 =>
        .nth l313 4 fun v322 =>
        .asI .u16 (.sc v322) fun n323 =>
        .call 140 [(.ag [(.i .i64 n315), (.i .i64 n317), (.i .u32 n319), (.i .u32 n321), (.i .u16 n323)])] fun v324 =>
        .asB v324 fun b325 =>
        cond (!b325)
          (.nn o292 fun a326 a327 =>
          .ld a326 (a327 + 25) 1 fun l328 =>
          .nth l328 0 fun v329 =>
          .asP (.sc v329) fun o330 =>
          .ld a294 (a295 + 0) 1 fun l331 =>
          .nth l331 0 fun v332 =>
          .asI .i64 (.sc v332) fun n333 =>
          .ld a294 (a295 + 2) 1 fun l334 =>
          .nth l334 0 fun v335 =>
          .asI .u32 (.sc v335) fun n336 =>
          .call 221 [(.sc (.p o330)), (.sc (.i .i64 n333)), (.sc (.i .u32 (IntKind.wrap .u32 ((minI n336 (4294967294 : Int)) + (1 : Int)))))] fun v337 =>
          .asB v337 fun b338 =>
          .nn o292 fun a339 a340 =>
          .ld a339 (a340 + 29) 1 fun l341 =>
          .nth l341 0 fun v342 =>
          .asP (.sc v342) fun o343 =>
          .ld a294 (a295 + 0) 1 fun l344 =>
          .nth l344 0 fun v345 =>
          .asI .i64 (.sc v345) fun n346 =>
          .call 222 [(.sc (.p o343)), (.sc (.i .i64 n346))] fun v347 =>
          .asB v347 fun b348 =>
          .nn o292 fun a349 a350 =>
          .ld a349 (a350 + 28) 1 fun l351 =>
          .nth l351 0 fun v352 =>
          .asP (.sc v352) fun o353 =>
          .ld a294 (a295 + 0) 1 fun l354 =>
          .nth l354 0 fun v355 =>
          .asI .i64 (.sc v355) fun n356 =>
          .call 223 [(.sc (.p o353)), (.sc (.i .i64 n356))] fun v357 =>
          .asB v357 fun b358 =>
          .ret 0 [(.tu [])])
          (.ret 0 [(.tu [])]))))
    (.fail)
def t128_k359  : Nat → List AV → Tree := fun a360 l361 =>
  .tg a360 0
    (.asP (l361.getD 0 .un) fun o362 =>
    .asP (l361.getD 1 .un) fun o363 =>
    .nn o363 fun a364 a365 =>
    .asB (l361.getD 2 .un) fun b366 =>
    cond (!b366)
      (.ret 0 [(.tu [])])
      (.ld a364 (a365 + 1) 1 fun l367 =>
      .nth l367 0 fun v368 =>
      .asI .i64 (.sc v368) fun n369 =>
      cond (n369 == (0 : Int))
        (.nn o362 fun a370 a371 =>
        .ld a370 (a371 + 25) 1 fun l372 =>
        .nth l372 0 fun v373 =>
        .asP (.sc v373) fun o374 =>
        .ld a364 (a365 + 0) 1 fun l375 =>
        .nth l375 0 fun v376 =>
        .asI .i64 (.sc v376) fun n377 =>
        .ld a364 (a365 + 2) 1 fun l378 =>
        .nth l378 0 fun v379 =>
        .asI .u32 (.sc v379) fun n380 =>
        .call 221 [(.sc (.p o374)), (.sc (.i .i64 n377)), (.sc (.i .u32 n380))] fun v381 =>
        .asB v381 fun b382 =>
        .ret 0 [(.tu [])])
        (.ld a364 a365 5 fun l383 =>
        .nth l383 0 fun v384 =>
        .asI .i64 (.sc v384) fun n385 =>
        .nth l383 1 fun v386 =>
        .asI .i64 (.sc v386) fun n387 =>
        .nth l383 2 fun v388 =>
        .asI .u32 (.sc v388) fun n389 =>
        .nth l383 3 fun v390 =>
        .asI .u32 (.sc v390) fun n391 =>
        .nth l383 4 fun v392 =>
        .asI .u16 (.sc v392) fun n393 =>
        .call 140 [(.ag [(.i .i64 n385), (.i .i64 n387), (.i .u32 n389), (.i .u32 n391), (.i .u16 n393)])] fun v394 =>
        .asB v394 fun b395 =>
        cond (!b395)
          (.nn o362 fun a396 a397 =>
          .ld a396 (a397 + 25) 1 fun l398 =>
          .nth l398 0 fun v399 =>
          .asP (.sc v399) fun o400 =>
          .ld a364 (a365 + 0) 1 fun l401 =>
          .nth l401 0 fun v402 =>
          .asI .i64 (.sc v402) fun n403 =>
          .ld a364 (a365 + 2) 1 fun l404 =>
          .nth l404 0 fun v405 =>
          .asI .u32 (.sc v405) fun n406 =>
          .call 221 [(.sc (.p o400)), (.sc (.i .i64 n403)), (.sc (.i .u32 (IntKind.wrap .u32 ((minI n406 (4294967294 : Int)) + (1 : Int)))))] fun v407 =>
          .asB v407 fun b408 =>
          .nn o362 fun a409 a410 =>
          .ld a409 (a410 + 29) 1 fun l411 =>
          .nth l411 0 fun v412 =>
          .asP (.sc v412) fun o413 =>
          .ld a364 (a365 + 0) 1 fun l414 =>
          .nth l414 0 fun v415 =>
          .asI .i64 (.sc v415) fun n416 =>
          .call 222 [(.sc (.p o413)), (.sc (.i .i64 n416))] fun v417 =>
          .asB v417 fun b418 =>
          .nn o362 fun a419 a420 =>
          .ld a419 (a420 + 28) 1 fun l421 =>
          .nth l421 0 fun v422 =>
          .asP (.sc v422) fun o423 =>
          .ld a364 (a365 + 0) 1 fun l424 =>
          .nth l424 0 fun v425 =>
          .asI .i64 (.sc v425) fun n426 =>
          .call 223 [(.sc (.p o423)), (.sc (.i .i64 n426))] fun v427 =>
          .asB v427 fun b428 =>
          .ret 0 [(.tu [])])
          (.ret 0 [(.tu [])]))))
    (.fail)
def t128_k56  : Nat → List AV → Tree := fun a69 l70 =>
  .tg a69 0
    (.asP (l70.getD 0 .un) fun o71 =>
    .asI .u64 (l70.getD 1 .un) fun n72 =>
    .asI .i64 (l70.getD 2 .un) fun n73 =>
    .asP (l70.getD 3 .un) fun o74 =>
    .nn o74 fun a75 a76 =>
    .asB (l70.getD 4 .un) fun b77 =>
    .nn o71 fun a78 a79 =>
    .ld a78 (a79 + 15) 1 fun l80 =>
    .nth l80 0 fun v81 =>
    .asP (.sc v81) fun o82 =>
    .ld a75 (a76 + 0) 1 fun l83 =>
    .nth l83 0 fun v84 =>
    .asI .i64 (.sc v84) fun n85 =>
    .al [(.i .i64 (0 : Int)), (.i .i64 (0 : Int)), (.i .u32 (0 : Int)), (.i .u32 (0 : Int)), (.i .u16 (0 : Int))] fun a86 =>
    .call 88 [(.sc (.p o82)), (.sc (.i .i64 n85))] fun v87 =>
    .asT 2 v87 fun l88 =>
    .nthC l88 0 fun v89 =>
    .asA 5 (v89.av) fun l90 =>
    .nth l90 0 fun v91 =>
    .asI .i64 (.sc v91) fun n92 =>
    .nth l90 1 fun v93 =>
    .asI .i64 (.sc v93) fun n94 =>
    .nth l90 2 fun v95 =>
    .asI .u32 (.sc v95) fun n96 =>
    .nth l90 3 fun v97 =>
    .asI .u32 (.sc v97) fun n98 =>
    .nth l90 4 fun v99 =>
    .asI .u16 (.sc v99) fun n100 =>
    .nthC l88 1 fun v101 =>
    .asB (v101.av) fun b102 =>
    .st a86 0 [(.i .i64 n92), (.i .i64 n94), (.i .u32 n96), (.i .u32 n98), (.i .u16 n100)] (
    .ld a75 (a76 + 1) 1 fun l103 =>
    .nth l103 0 fun v104 =>
    .asI .i64 (.sc v104) fun n105 =>
    cond (n105 == (1 : Int))
      (.ld a86 (0 + 1) 1 fun l106 =>
      .nth l106 0 fun v107 =>
      .asI .i64 (.sc v107) fun n108 =>
      .ld a75 (a76 + 1) 1 fun l109 =>
      .nth l109 0 fun v110 =>
      .asI .i64 (.sc v110) fun n111 =>
      cond (n108 == n111)
        (.ld a86 (0 + 2) 1 fun l112 =>
        .nth l112 0 fun v113 =>
        .asI .u32 (.sc v113) fun n114 =>
        .ld a75 (a76 + 2) 1 fun l115 =>
        .nth l115 0 fun v116 =>
        .asI .u32 (.sc v116) fun n117 =>
        cond (n114 == n117)
          (.nn o71 fun a118 a119 =>
          .ld a118 (a119 + 25) 1 fun l120 =>
          .nth l120 0 fun v121 =>
          .asP (.sc v121) fun o122 =>
          .ld a75 (a76 + 0) 1 fun l123 =>
          .nth l123 0 fun v124 =>
          .asI .i64 (.sc v124) fun n125 =>
          .ld a75 (a76 + 2) 1 fun l126 =>
          .nth l126 0 fun v127 =>
          .asI .u32 (.sc v127) fun n128 =>
          .nn o71 fun a129 a130 =>
          .ld a129 ((a130 + 0) + 8) 1 fun l131 =>
          .nth l131 0 fun v132 =>
          .asI .u64 (.sc v132) fun n133 =>
          .call 219 [(.sc (.p o122)), (.sc (.i .i64 n125)), (.sc (.i .u32 n128)), (.sc (.i .u64 n72)), (.sc (.i .u64 n133))] fun v134 =>
          .asI .i64 v134 fun n135 =>
          .join (
            cond (n135 == (6 : Int))
              (.nn o71 fun a137 a138 =>
              .ld a137 (a138 + 25) 1 fun l139 =>
              .nth l139 0 fun v140 =>
              .asP (.sc v140) fun o141 =>
              .ld a75 (a76 + 0) 1 fun l142 =>
              .nth l142 0 fun v143 =>
              .asI .i64 (.sc v143) fun n144 =>
              .ld a75 (a76 + 2) 1 fun l145 =>
              .nth l145 0 fun v146 =>
              .asI .u32 (.sc v146) fun n147 =>
              .call 220 [(.sc (.p o141)), (.sc (.i .i64 n144)), (.sc (.i .u32 n147)), (.sc (.i .i64 n73))] fun v148 =>
              .asI .i64 v148 fun n149 =>
              .ret 0 [(.sc (.p o71)), (.sc (.p (.some (a75, a76)))), (.sc (.b b77))])
              (.ret 0 [(.sc (.p o71)), (.sc (.p (.some (a75, a76)))), (.sc (.b b77))])) t128_k136)
          (.join (
            .ret 0 [(.sc (.p o71)), (.sc (.p (.some (a75, a76)))), (.sc (.b b77))]) t128_k219))
        (.join (
          .ret 0 [(.sc (.p o71)), (.sc (.p (.some (a75, a76)))), (.sc (.b b77))]) t128_k289))
      (.join (
        .ret 0 [(.sc (.p o71)), (.sc (.p (.some (a75, a76)))), (.sc (.b b77))]) t128_k359)))
    (.fail)
/-- (*scuttlebutt/node.Node).learn -/
def t128 (p0_ q0_ : Nat) (n1_ : Int) (n2_0 : Int) (n2_1 : Int) (n2_2 : Int) (n2_3 : Int) (n2_4 : Int) (n3_ : Int) : Tree :=
  .al [(.i .i64 n2_0), (.i .i64 n2_1), (.i .u32 n2_2), (.i .u32 n2_3), (.i .u16 n2_4)] fun a0 =>
  .ld a0 0 5 fun l1 =>
  .nth l1 0 fun v2 =>
  .asI .i64 (.sc v2) fun n3 =>
  .nth l1 1 fun v4 =>
  .asI .i64 (.sc v4) fun n5 =>
  .nth l1 2 fun v6 =>
  .asI .u32 (.sc v6) fun n7 =>
  .nth l1 3 fun v8 =>
  .asI .u32 (.sc v8) fun n9 =>
  .nth l1 4 fun v10 =>
  .asI .u16 (.sc v10) fun n11 =>
  .call 87 [(.ag [(.i .i64 n3), (.i .i64 n5), (.i .u32 n7), (.i .u32 n9), (.i .u16 n11)])] fun v12 =>
  .asB v12 fun b13 =>
  cond (!b13)
    (.ret 0 [(.tu [])])
    (.ld a0 (0 + 0) 1 fun l14 =>
    .nth l14 0 fun v15 =>
    .asI .i64 (.sc v15) fun n16 =>
    .nn (.some (p0_, q0_)) fun a17 a18 =>
    .ld a17 ((a18 + 0) + 0) 1 fun l19 =>
    .nth l19 0 fun v20 =>
    .asI .i64 (.sc v20) fun n21 =>
    cond (n16 == n21)
      (.ld a0 0 5 fun l22 =>
      .nth l22 0 fun v23 =>
      .asI .i64 (.sc v23) fun n24 =>
      .nth l22 1 fun v25 =>
      .asI .i64 (.sc v25) fun n26 =>
      .nth l22 2 fun v27 =>
      .asI .u32 (.sc v27) fun n28 =>
      .nth l22 3 fun v29 =>
      .asI .u32 (.sc v29) fun n30 =>
      .nth l22 4 fun v31 =>
      .asI .u16 (.sc v31) fun n32 =>
      .call 217 [(.sc (.p (.some (p0_, q0_)))), (.ag [(.i .i64 n24), (.i .i64 n26), (.i .u32 n28), (.i .u32 n30), (.i .u16 n32)])] fun v33 =>
      .ret 0 [(.tu [])])
      (.nn (.some (p0_, q0_)) fun a34 a35 =>
      .ld a34 (a35 + 15) 1 fun l36 =>
      .nth l36 0 fun v37 =>
      .asP (.sc v37) fun o38 =>
      .ld a0 0 5 fun l39 =>
      .nth l39 0 fun v40 =>
      .asI .i64 (.sc v40) fun n41 =>
      .nth l39 1 fun v42 =>
      .asI .i64 (.sc v42) fun n43 =>
      .nth l39 2 fun v44 =>
      .asI .u32 (.sc v44) fun n45 =>
      .nth l39 3 fun v46 =>
      .asI .u32 (.sc v46) fun n47 =>
      .nth l39 4 fun v48 =>
      .asI .u16 (.sc v48) fun n49 =>
      .call 20 [(.sc (.p o38)), (.ag [(.i .i64 n41), (.i .i64 n43), (.i .u32 n45), (.i .u32 n47), (.i .u16 n49)])] fun v50 =>
      .asT 2 v50 fun l51 =>
      .nthC l51 0 fun v52 =>
      .asB (v52.av) fun b53 =>
      .nthC l51 1 fun v54 =>
      .asI .i64 (v54.av) fun n55 =>
      .join (
        cond b53
          (.ld a0 0 5 fun l57 =>
          .nth l57 0 fun v58 =>
          .asI .i64 (.sc v58) fun n59 =>
          .nth l57 1 fun v60 =>
          .asI .i64 (.sc v60) fun n61 =>
          .nth l57 2 fun v62 =>
          .asI .u32 (.sc v62) fun n63 =>
          .nth l57 3 fun v64 =>
          .asI .u32 (.sc v64) fun n65 =>
          .nth l57 4 fun v66 =>
          .asI .u16 (.sc v66) fun n67 =>
          .call 218 [(.sc (.p (.some (p0_, q0_)))), (.ag [(.i .i64 n59), (.i .i64 n61), (.i .u32 n63), (.i .u32 n65), (.i .u16 n67)])] fun v68 =>
          .ret 0 [(.sc (.p (.some (p0_, q0_)))), (.sc (.i .u64 n1_)), (.sc (.i .i64 n3_)), (.sc (.p (.some (a0, 0)))), (.sc (.b b53))])
          (.ret 0 [(.sc (.p (.some (p0_, q0_)))), (.sc (.i .u64 n1_)), (.sc (.i .i64 n3_)), (.sc (.p (.some (a0, 0)))), (.sc (.b b53))])) t128_k56))
theorem t128_eq (p0_ q0_ : Nat) (n1_ : Int) (n2_0 : Int) (n2_1 : Int) (n2_2 : Int) (n2_3 : Int) (n2_4 : Int) (n3_ : Int) : bodyK T (hs 128) Tryz.f128 [.sc (.p (some (p0_, q0_))), .sc (.i .u64 n1_), .ag [.i .i64 n2_0, .i .i64 n2_1, .i .u32 n2_2, .i .u32 n2_3, .i .u16 n2_4], .sc (.i .i64 n3_)] = t128 p0_ q0_ n1_ n2_0 n2_1 n2_2 n2_3 n2_4 n3_ := by kernel_rfl
/-- (*scuttlebutt/node.Node).refute -/
def t217 (p0_ q0_ : Nat) (n1_0 : Int) (n1_1 : Int) (n1_2 : Int) (n1_3 : Int) (n1_4 : Int) : Tree :=
  .al [(.i .i64 n1_0), (.i .i64 n1_1), (.i .u32 n1_2), (.i .u32 n1_3), (.i .u16 n1_4)] fun a0 =>
  .ld a0 0 5 fun l1 =>
  .nth l1 0 fun v2 =>
  .asI .i64 (.sc v2) fun n3 =>
  .nth l1 1 fun v4 =>
  .asI .i64 (.sc v4) fun n5 =>
  .nth l1 2 fun v6 =>
  .asI .u32 (.sc v6) fun n7 =>
  .nth l1 3 fun v8 =>
  .asI .u32 (.sc v8) fun n9 =>
  .nth l1 4 fun v10 =>
  .asI .u16 (.sc v10) fun n11 =>
  .nn (.some (p0_, q0_)) fun a12 a13 =>
  .ld a12 (a13 + 10) 5 fun l14 =>
  .nth l14 0 fun v15 =>
  .asI .i64 (.sc v15) fun n16 =>
  .nth l14 1 fun v17 =>
  .asI .i64 (.sc v17) fun n18 =>
  .nth l14 2 fun v19 =>
  .asI .u32 (.sc v19) fun n20 =>
  .nth l14 3 fun v21 =>
  .asI .u32 (.sc v21) fun n22 =>
  .nth l14 4 fun v23 =>
  .asI .u16 (.sc v23) fun n24 =>
  .call 89 [(.ag [(.i .i64 n3), (.i .i64 n5), (.i .u32 n7), (.i .u32 n9), (.i .u16 n11)]), (.ag [(.i .i64 n16), (.i .i64 n18), (.i .u32 n20), (.i .u32 n22), (.i .u16 n24)])] fun v25 =>
  .asB v25 fun b26 =>
  cond b26
    (.ld a0 (0 + 2) 1 fun l27 =>
    .nth l27 0 fun v28 =>
    .asI .u32 (.sc v28) fun n29 =>
    cond (decide (n29 < (4294967295 : Int)))
      (.ld a0 (0 + 2) 1 fun l30 =>
      .nth l30 0 fun v31 =>
      .asI .u32 (.sc v31) fun n32 =>
      .nn (.some (p0_, q0_)) fun a33 a34 =>
      .ld a33 ((a34 + 10) + 3) 2 fun l35 =>
      .nth l35 0 fun v36 =>
      .asI .u32 (.sc v36) fun n37 =>
      .nth l35 1 fun v38 =>
      .asI .u16 (.sc v38) fun n39 =>
      .call 149 [(.sc (.p (.some (p0_, q0_)))), (.sc (.i .u32 (IntKind.wrap .u32 (n32 + (1 : Int))))), (.ag [(.i .u32 n37), (.i .u16 n39)])] fun v40 =>
      .ret 0 [(.tu [])])
      (.ret 0 [(.tu [])]))
    (.ret 0 [(.tu [])])
theorem t217_eq (p0_ q0_ : Nat) (n1_0 : Int) (n1_1 : Int) (n1_2 : Int) (n1_3 : Int) (n1_4 : Int) : bodyK T (hs 217) Tryz.f217 [.sc (.p (some (p0_, q0_))), .ag [.i .i64 n1_0, .i .i64 n1_1, .i .u32 n1_2, .i .u32 n1_3, .i .u16 n1_4]] = t217 p0_ q0_ n1_0 n1_1 n1_2 n1_3 n1_4 := by kernel_rfl
/-- (*scuttlebutt/node.Node).add -/
def t218 (p0_ q0_ : Nat) (n1_0 : Int) (n1_1 : Int) (n1_2 : Int) (n1_3 : Int) (n1_4 : Int) : Tree :=
  .al [(.i .i64 n1_0), (.i .i64 n1_1), (.i .u32 n1_2), (.i .u32 n1_3), (.i .u16 n1_4)] fun a0 =>
  .nn (.some (p0_, q0_)) fun a1 a2 =>
  .ld a1 (a2 + 16) 1 fun l3 =>
  .nth l3 0 fun v4 =>
  .asP (.sc v4) fun o5 =>
  .ld a0 0 5 fun l6 =>
  .nth l6 0 fun v7 =>
  .asI .i64 (.sc v7) fun n8 =>
  .nth l6 1 fun v9 =>
  .asI .i64 (.sc v9) fun n10 =>
  .nth l6 2 fun v11 =>
  .asI .u32 (.sc v11) fun n12 =>
  .nth l6 3 fun v13 =>
  .asI .u32 (.sc v13) fun n14 =>
  .nth l6 4 fun v15 =>
  .asI .u16 (.sc v15) fun n16 =>
  .nn (.some (p0_, q0_)) fun a17 a18 =>
  .ld a17 (a18 + 15) 1 fun l19 =>
  .nth l19 0 fun v20 =>
  .asP (.sc v20) fun o21 =>
  .call 21 [(.sc (.p o21))] fun v22 =>
  .asL v22 fun o23 =>
  .same a0 0 [(.i .i64 n8), (.i .i64 n10), (.i .u32 n12), (.i .u32 n14), (.i .u16 n16)] (
  .same a1 (a2 + 16) [(.p o5)] (
  .call 286 [(.sc (.i .i64 (slLen o23)))] fun v24 =>
  .asI .i64 v24 fun n25 =>
  .same a0 0 [(.i .i64 n8), (.i .i64 n10), (.i .u32 n12), (.i .u32 n14), (.i .u16 n16)] (
  .same a1 (a2 + 16) [(.p o5)] (
  .call 285 [(.sc (.p o5)), (.ag [(.i .i64 n8), (.i .i64 n10), (.i .u32 n12), (.i .u32 n14), (.i .u16 n16)]), (.sc (.i .i64 n25))] fun v26 =>
  .asI .i64 v26 fun n27 =>
  .ret 0 [(.tu [])]))))
theorem t218_eq (p0_ q0_ : Nat) (n1_0 : Int) (n1_1 : Int) (n1_2 : Int) (n1_3 : Int) (n1_4 : Int) : bodyK T (hs 218) Tryz.f218 [.sc (.p (some (p0_, q0_))), .ag [.i .i64 n1_0, .i .i64 n1_1, .i .u32 n1_2, .i .u32 n1_3, .i .u16 n1_4]] = t218 p0_ q0_ n1_0 n1_1 n1_2 n1_3 n1_4 := by kernel_rfl
/-- (*scuttlebutt/doubt.Doubt).Clear -/
def t221 (p0_ q0_ : Nat) (n1_ : Int) (n2_ : Int) : Tree :=
  .call 288 [(.sc (.p (.some (p0_, q0_)))), (.sc (.i .i64 n1_))] fun v0 =>
  .asT 2 v0 fun l1 =>
  .nthC l1 0 fun v2 =>
  .asP (v2.av) fun o3 =>
  .nthC l1 1 fun v4 =>
  .asB (v4.av) fun b5 =>
  cond (!b5)
    (.ret 0 [(.sc (.b .false))])
    (.nn o3 fun a6 a7 =>
    .ld a6 (a7 + 1) 1 fun l8 =>
    .nth l8 0 fun v9 =>
    .asI .u32 (.sc v9) fun n10 =>
    cond (decide (n10 ≥ n2_))
      (.ret 0 [(.sc (.b .false))])
      (.nn o3 fun a11 a12 =>
      .st a11 a12 [(.i .i64 (0 : Int)), (.i .u32 (0 : Int)), (.i .u64 (0 : Int)), (.i .u64 (0 : Int)), (.sl .none)] (
      .ret 0 [(.sc (.b .true))])))
theorem t221_eq (p0_ q0_ : Nat) (n1_ : Int) (n2_ : Int) : bodyK T (hs 221) Tryz.f221 [.sc (.p (some (p0_, q0_))), .sc (.i .i64 n1_), .sc (.i .u32 n2_)] = t221 p0_ q0_ n1_ n2_ := by kernel_rfl
def t285_b17  : List AV → Tree := fun l18 =>
  .asI .i64 (l18.getD 0 .un) fun n19 =>
  .br (n19 == (1 : Int))
    (.asP (l18.getD 1 .un) fun o20 =>
    .asI .i64 (l18.getD 2 .un) fun n21 =>
    .asP (l18.getD 3 .un) fun o22 =>
    .nn o22 fun a23 a24 =>
    .asI .i64 (l18.getD 4 .un) fun n25 =>
    .nn o20 fun a26 a27 =>
    .ld a26 (a27 + 0) 1 fun l28 =>
    .nth l28 0 fun v29 =>
    .asL (.sc v29) fun o30 =>
    cond (n25 == (slLen o30))
      (.ret 0 [(.sc (.i .i64 (0 : Int))), (.sc (.p o20)), (.sc (.i .i64 n21)), (.sc (.p (.some (a23, a24))))])
      (.nn o20 fun a31 a32 =>
      .ld a31 (a32 + 0) 1 fun l33 =>
      .nth l33 0 fun v34 =>
      .asL (.sc v34) fun o35 =>
      .ixS 6 o35 n25 fun a36 a37 a38 =>
      .ld a36 (((a37 + (a38 * 6)) + 0) + 0) 1 fun l39 =>
      .nth l39 0 fun v40 =>
      .asI .i64 (.sc v40) fun n41 =>
      .ld a23 (a24 + 0) 1 fun l42 =>
      .nth l42 0 fun v43 =>
      .asI .i64 (.sc v43) fun n44 =>
      cond (n41 != n44)
        (.ret 0 [(.sc (.i .i64 (1 : Int))), (.sc (.p o20)), (.sc (.i .i64 n21)), (.sc (.p (.some (a23, a24)))), (.sc (.i .i64 (IntKind.wrap .i64 (n25 + (1 : Int)))))])
        (.ld a23 a24 5 fun l45 =>
        .nth l45 0 fun v46 =>
        .asI .i64 (.sc v46) fun n47 =>
        .nth l45 1 fun v48 =>
        .asI .i64 (.sc v48) fun n49 =>
        .nth l45 2 fun v50 =>
        .asI .u32 (.sc v50) fun n51 =>
        .nth l45 3 fun v52 =>
        .asI .u32 (.sc v52) fun n53 =>
        .nth l45 4 fun v54 =>
        .asI .u16 (.sc v54) fun n55 =>
        .nn o20 fun a56 a57 =>
        .ld a56 (a57 + 0) 1 fun l58 =>
        .nth l58 0 fun v59 =>
        .asL (.sc v59) fun o60 =>
        .ixS 6 o60 n25 fun a61 a62 a63 =>
        .ld a61 ((a62 + (a63 * 6)) + 0) 5 fun l64 =>
        .nth l64 0 fun v65 =>
        .asI .i64 (.sc v65) fun n66 =>
        .nth l64 1 fun v67 =>
        .asI .i64 (.sc v67) fun n68 =>
        .nth l64 2 fun v69 =>
        .asI .u32 (.sc v69) fun n70 =>
        .nth l64 3 fun v71 =>
        .asI .u32 (.sc v71) fun n72 =>
        .nth l64 4 fun v73 =>
        .asI .u16 (.sc v73) fun n74 =>
        .call 89 [(.ag [(.i .i64 n47), (.i .i64 n49), (.i .u32 n51), (.i .u32 n53), (.i .u16 n55)]), (.ag [(.i .i64 n66), (.i .i64 n68), (.i .u32 n70), (.i .u32 n72), (.i .u16 n74)])] fun v75 =>
        .asB v75 fun b76 =>
        cond (!b76)
          (.ret 2 [(.sc (.i .i64 (6 : Int)))])
          (.nn o20 fun a77 a78 =>
          .ld a77 (a78 + 0) 1 fun l79 =>
          .nth l79 0 fun v80 =>
          .asL (.sc v80) fun o81 =>
          .call 332 [(.sc (.sl o81)), (.sc (.i .i64 n25)), (.sc (.i .i64 (IntKind.wrap .i64 (n25 + (1 : Int)))))] fun v82 =>
          .asL v82 fun o83 =>
          .nn o20 fun a84 a85 =>
          .st a84 (a85 + 0) [(.sl o83)] (
          .ret 0 [(.sc (.i .i64 (0 : Int))), (.sc (.p o20)), (.sc (.i .i64 n21)), (.sc (.p (.some (a23, a24))))])))))
    (.br (n19 == (0 : Int))
      (.asP (l18.getD 1 .un) fun o86 =>
      .asI .i64 (l18.getD 2 .un) fun n87 =>
      .asP (l18.getD 3 .un) fun o88 =>
      .nn o88 fun a89 a90 =>
      .nn o86 fun a91 a92 =>
      .ld a91 (a92 + 0) 1 fun l93 =>
      .nth l93 0 fun v94 =>
      .asL (.sc v94) fun o95 =>
      .ld a89 a90 5 fun l96 =>
      .nth l96 0 fun v97 =>
      .asI .i64 (.sc v97) fun n98 =>
      .nth l96 1 fun v99 =>
      .asI .i64 (.sc v99) fun n100 =>
      .nth l96 2 fun v101 =>
      .asI .u32 (.sc v101) fun n102 =>
      .nth l96 3 fun v103 =>
      .asI .u32 (.sc v103) fun n104 =>
      .nth l96 4 fun v105 =>
      .asI .u16 (.sc v105) fun n106 =>
      .al [(.i .i64 n98), (.i .i64 n100), (.i .u32 n102), (.i .u32 n104), (.i .u16 n106), (.i .i64 n87)] fun a107 =>
      .lds 6 (.some (.mk a107 0 1 1 6)) (slN (.some (.mk a107 0 1 1 6))) fun l108 =>
      .app 6 40 o95 l108 (slN (.some (.mk a107 0 1 1 6))) fun o109 =>
      .nn o86 fun a110 a111 =>
      .st a110 (a111 + 0) [(.sl o109)] (
      .call 113 [(.sc (.p o86))] fun v112 =>
      .asL v112 fun o113 =>
      .nn o86 fun a114 a115 =>
      .st a114 (a115 + 0) [(.sl o113)] (
      .nn o86 fun a116 a117 =>
      .ld a116 (a117 + 0) 1 fun l118 =>
      .nth l118 0 fun v119 =>
      .asL (.sc v119) fun o120 =>
      .nn o86 fun a121 a122 =>
      .ld a121 (a122 + 0) 1 fun l123 =>
      .nth l123 0 fun v124 =>
      .asL (.sc v124) fun o125 =>
      .nn o86 fun a126 a127 =>
      .ld a126 (a127 + 1) 1 fun l128 =>
      .nth l128 0 fun v129 =>
      .asI .i64 (.sc v129) fun n130 =>
      .slc 6 o120 .none (.some (minI (slLen o125) n130)) .none fun o131 =>
      .nn o86 fun a132 a133 =>
      .st a132 (a133 + 0) [(.sl o131)] (
      .ret 2 [(.sc (.i .i64 (0 : Int)))]))))
      (.fail))
def t285_k17  : Nat → List AV → Tree := fun a134 l135 =>
  .tg a134 2
    (.asI .i64 (l135.getD 0 .un) fun n136 =>
    .ret 0 [(.sc (.i .i64 n136))])
    (.fail)
def t285_b137  : List AV → Tree := fun l138 =>
  .asI .i64 (l138.getD 0 .un) fun n139 =>
  .br (n139 == (1 : Int))
    (.asP (l138.getD 1 .un) fun o140 =>
    .asI .i64 (l138.getD 2 .un) fun n141 =>
    .asP (l138.getD 3 .un) fun o142 =>
    .nn o142 fun a143 a144 =>
    .asI .i64 (l138.getD 4 .un) fun n145 =>
    .nn o140 fun a146 a147 =>
    .ld a146 (a147 + 0) 1 fun l148 =>
    .nth l148 0 fun v149 =>
    .asL (.sc v149) fun o150 =>
    cond (n145 == (slLen o150))
      (.ret 0 [(.sc (.i .i64 (0 : Int))), (.sc (.p o140)), (.sc (.i .i64 n141)), (.sc (.p (.some (a143, a144))))])
      (.nn o140 fun a151 a152 =>
      .ld a151 (a152 + 0) 1 fun l153 =>
      .nth l153 0 fun v154 =>
      .asL (.sc v154) fun o155 =>
      .ixS 6 o155 n145 fun a156 a157 a158 =>
      .ld a156 (((a157 + (a158 * 6)) + 0) + 0) 1 fun l159 =>
      .nth l159 0 fun v160 =>
      .asI .i64 (.sc v160) fun n161 =>
      .ld a143 (a144 + 0) 1 fun l162 =>
      .nth l162 0 fun v163 =>
      .asI .i64 (.sc v163) fun n164 =>
      cond (n161 != n164)
        (.ret 0 [(.sc (.i .i64 (1 : Int))), (.sc (.p o140)), (.sc (.i .i64 n141)), (.sc (.p (.some (a143, a144)))), (.sc (.i .i64 (IntKind.wrap .i64 (n145 + (1 : Int)))))])
        (.ld a143 a144 5 fun l165 =>
        .nth l165 0 fun v166 =>
        .asI .i64 (.sc v166) fun n167 =>
        .nth l165 1 fun v168 =>
        .asI .i64 (.sc v168) fun n169 =>
        .nth l165 2 fun v170 =>
        .asI .u32 (.sc v170) fun n171 =>
        .nth l165 3 fun v172 =>
        .asI .u32 (.sc v172) fun n173 =>
        .nth l165 4 fun v174 =>
        .asI .u16 (.sc v174) fun n175 =>
        .nn o140 fun a176 a177 =>
        .ld a176 (a177 + 0) 1 fun l178 =>
        .nth l178 0 fun v179 =>
        .asL (.sc v179) fun o180 =>
        .ixS 6 o180 n145 fun a181 a182 a183 =>
        .ld a181 ((a182 + (a183 * 6)) + 0) 5 fun l184 =>
        .nth l184 0 fun v185 =>
        .asI .i64 (.sc v185) fun n186 =>
        .nth l184 1 fun v187 =>
        .asI .i64 (.sc v187) fun n188 =>
        .nth l184 2 fun v189 =>
        .asI .u32 (.sc v189) fun n190 =>
        .nth l184 3 fun v191 =>
        .asI .u32 (.sc v191) fun n192 =>
        .nth l184 4 fun v193 =>
        .asI .u16 (.sc v193) fun n194 =>
        .call 89 [(.ag [(.i .i64 n167), (.i .i64 n169), (.i .u32 n171), (.i .u32 n173), (.i .u16 n175)]), (.ag [(.i .i64 n186), (.i .i64 n188), (.i .u32 n190), (.i .u32 n192), (.i .u16 n194)])] fun v195 =>
        .asB v195 fun b196 =>
        cond (!b196)
          (.ret 2 [(.sc (.i .i64 (6 : Int)))])
          (.nn o140 fun a197 a198 =>
          .ld a197 (a198 + 0) 1 fun l199 =>
          .nth l199 0 fun v200 =>
          .asL (.sc v200) fun o201 =>
          .call 332 [(.sc (.sl o201)), (.sc (.i .i64 n145)), (.sc (.i .i64 (IntKind.wrap .i64 (n145 + (1 : Int)))))] fun v202 =>
          .asL v202 fun o203 =>
          .nn o140 fun a204 a205 =>
          .st a204 (a205 + 0) [(.sl o203)] (
          .ret 0 [(.sc (.i .i64 (0 : Int))), (.sc (.p o140)), (.sc (.i .i64 n141)), (.sc (.p (.some (a143, a144))))])))))
    (.br (n139 == (0 : Int))
      (.asP (l138.getD 1 .un) fun o206 =>
      .asI .i64 (l138.getD 2 .un) fun n207 =>
      .asP (l138.getD 3 .un) fun o208 =>
      .nn o208 fun a209 a210 =>
      .nn o206 fun a211 a212 =>
      .ld a211 (a212 + 0) 1 fun l213 =>
      .nth l213 0 fun v214 =>
      .asL (.sc v214) fun o215 =>
      .ld a209 a210 5 fun l216 =>
      .nth l216 0 fun v217 =>
      .asI .i64 (.sc v217) fun n218 =>
      .nth l216 1 fun v219 =>
      .asI .i64 (.sc v219) fun n220 =>
      .nth l216 2 fun v221 =>
      .asI .u32 (.sc v221) fun n222 =>
      .nth l216 3 fun v223 =>
      .asI .u32 (.sc v223) fun n224 =>
      .nth l216 4 fun v225 =>
      .asI .u16 (.sc v225) fun n226 =>
      .al [(.i .i64 n218), (.i .i64 n220), (.i .u32 n222), (.i .u32 n224), (.i .u16 n226), (.i .i64 n207)] fun a227 =>
      .lds 6 (.some (.mk a227 0 1 1 6)) (slN (.some (.mk a227 0 1 1 6))) fun l228 =>
      .app 6 40 o215 l228 (slN (.some (.mk a227 0 1 1 6))) fun o229 =>
      .nn o206 fun a230 a231 =>
      .st a230 (a231 + 0) [(.sl o229)] (
      .call 113 [(.sc (.p o206))] fun v232 =>
      .asL v232 fun o233 =>
      .nn o206 fun a234 a235 =>
      .st a234 (a235 + 0) [(.sl o233)] (
      .nn o206 fun a236 a237 =>
      .ld a236 (a237 + 0) 1 fun l238 =>
      .nth l238 0 fun v239 =>
      .asL (.sc v239) fun o240 =>
      .nn o206 fun a241 a242 =>
      .ld a241 (a242 + 0) 1 fun l243 =>
      .nth l243 0 fun v244 =>
      .asL (.sc v244) fun o245 =>
      .nn o206 fun a246 a247 =>
      .ld a246 (a247 + 1) 1 fun l248 =>
      .nth l248 0 fun v249 =>
      .asI .i64 (.sc v249) fun n250 =>
      .slc 6 o240 .none (.some (minI (slLen o245) n250)) .none fun o251 =>
      .nn o206 fun a252 a253 =>
      .st a252 (a253 + 0) [(.sl o251)] (
      .ret 2 [(.sc (.i .i64 (0 : Int)))]))))
      (.fail))
def t285_k137  : Nat → List AV → Tree := fun a254 l255 =>
  .tg a254 2
    (.asI .i64 (l255.getD 0 .un) fun n256 =>
    .ret 0 [(.sc (.i .i64 n256))])
    (.fail)
def t285_k1  : Nat → List AV → Tree := fun a15 l16 =>
  .tg a15 5
    (.loop t285_b17 ((.sc (.i .i64 (1 : Int))) :: l16) t285_k17)
    (.tg a15 3
      (.loop t285_b137 ((.sc (.i .i64 (0 : Int))) :: l16) t285_k137)
      (.tg a15 1
        (.asI .i64 (l16.getD 0 .un) fun n257 =>
        .ret 0 [(.sc (.i .i64 n257))])
        (.fail)))
/-- (*scuttlebutt/queue.Queue).Add -/
def t285 (p0_ q0_ : Nat) (n1_0 : Int) (n1_1 : Int) (n1_2 : Int) (n1_3 : Int) (n1_4 : Int) (n2_ : Int) : Tree :=
  .al [(.i .i64 n1_0), (.i .i64 n1_1), (.i .u32 n1_2), (.i .u32 n1_3), (.i .u16 n1_4)] fun a0 =>
  .join (
    .ld a0 0 5 fun l2 =>
    .nth l2 0 fun v3 =>
    .asI .i64 (.sc v3) fun n4 =>
    .nth l2 1 fun v5 =>
    .asI .i64 (.sc v5) fun n6 =>
    .nth l2 2 fun v7 =>
    .asI .u32 (.sc v7) fun n8 =>
    .nth l2 3 fun v9 =>
    .asI .u32 (.sc v9) fun n10 =>
    .nth l2 4 fun v11 =>
    .asI .u16 (.sc v11) fun n12 =>
    .call 87 [(.ag [(.i .i64 n4), (.i .i64 n6), (.i .u32 n8), (.i .u32 n10), (.i .u16 n12)])] fun v13 =>
    .asB v13 fun b14 =>
    cond (!b14)
      (.ret 1 [(.sc (.i .i64 (1 : Int)))])
      (cond (decide (n2_ < (1 : Int)))
        (.ret 1 [(.sc (.i .i64 (1 : Int)))])
        (cond (decide (n2_ > (100 : Int)))
          (.ret 1 [(.sc (.i .i64 (1 : Int)))])
          (.ret 5 [(.sc (.p (.some (p0_, q0_)))), (.sc (.i .i64 n2_)), (.sc (.p (.some (a0, 0)))), (.sc (.i .i64 (0 : Int)))])))) t285_k1
theorem t285_eq (p0_ q0_ : Nat) (n1_0 : Int) (n1_1 : Int) (n1_2 : Int) (n1_3 : Int) (n1_4 : Int) (n2_ : Int) : bodyK T (hs 285) Tryz.f285 [.sc (.p (some (p0_, q0_))), .ag [.i .i64 n1_0, .i .i64 n1_1, .i .u32 n1_2, .i .u32 n1_3, .i .u16 n1_4], .sc (.i .i64 n2_)] = t285 p0_ q0_ n1_0 n1_1 n1_2 n1_3 n1_4 n2_ := by kernel_rfl
/-- scuttlebutt/queue.Times -/
def t286 (n0_ : Int) : Tree :=
  .call 281 [(.sc (.i .u64 (IntKind.wrap .u64 (maxI n0_ (1 : Int)))))] fun v0 =>
  .asI .i64 v0 fun n1 =>
  .ret 0 [(.sc (.i .i64 (IntKind.wrap .i64 ((3 : Int) * n1))))]
theorem t286_eq (n0_ : Int) : bodyK T (hs 286) Tryz.f286 [.sc (.i .i64 n0_)] = t286 n0_ := by kernel_rfl
/-- scuttlebutt/doubt.node -/
def t287 (n0_ : Int) : Tree :=
  cond (decide (n0_ ≥ (1 : Int)))
    (.ret 0 [(.sc (.b (decide (n0_ ≤ (32 : Int)))))])
    (.ret 0 [(.sc (.b .false))])
theorem t287_eq (n0_ : Int) : bodyK T (hs 287) Tryz.f287 [.sc (.i .i64 n0_)] = t287 n0_ := by kernel_rfl
/-- (*scuttlebutt/doubt.Doubt).of -/
def t288 (p0_ q0_ : Nat) (n1_ : Int) : Tree :=
  .call 287 [(.sc (.i .i64 n1_))] fun v0 =>
  .asB v0 fun b1 =>
  cond (!b1)
    (.ret 0 [(.tu [(.sc (.p .none)), (.sc (.b .false))])])
    (.nn (.some (p0_, q0_)) fun a2 a3 =>
    .br ((decide ((0 : Int) ≤ n1_)) && (decide (n1_ < (33 : Int))))
      (.ld a2 (((a3 + 0) + ((Int.toNat n1_) * 5)) + 0) 1 fun l4 =>
      .nth l4 0 fun v5 =>
      .asI .i64 (.sc v5) fun n6 =>
      cond (n6 == (0 : Int))
        (.ret 0 [(.tu [(.sc (.p .none)), (.sc (.b .false))])])
        (.nn (.some (p0_, q0_)) fun a7 a8 =>
        .br ((decide ((0 : Int) ≤ n1_)) && (decide (n1_ < (33 : Int))))
          (.ret 0 [(.tu [(.sc (.p (.some (a7, ((a8 + 0) + ((Int.toNat n1_) * 5)))))), (.sc (.b .true))])])
          (.fail)))
      (.fail))
theorem t288_eq (p0_ q0_ : Nat) (n1_ : Int) : bodyK T (hs 288) Tryz.f288 [.sc (.p (some (p0_, q0_))), .sc (.i .i64 n1_)] = t288 p0_ q0_ n1_ := by kernel_rfl
/-- slices.Clone[[]scuttlebutt/queue.Item,scuttlebutt/queue.Item] -/
def t205 (s0_ : Option SlD) : Tree :=
  cond (Option.isNone s0_)
    (.ret 0 [(.sc (.sl .none))])
    (.al (zeros [(.i .i64 (0 : Int)), (.i .i64 (0 : Int)), (.i .u32 (0 : Int)), (.i .u32 (0 : Int)), (.i .u16 (0 : Int)), (.i .i64 (0 : Int))] 0) fun a0 =>
    .lds 6 s0_ (slN s0_) fun l1 =>
    .app 6 40 (.some (.mk a0 0 0 0 6)) l1 (slN s0_) fun o2 =>
    .ret 0 [(.sc (.sl o2))])
theorem t205_eq (s0_ : Option SlD) : bodyK T (hs 205) Tryz.f205 [.sc (.sl s0_)] = t205 s0_ := by kernel_rfl
/-- slices.SortFunc[[]scuttlebutt/queue.Item,scuttlebutt/queue.Item] -/
def t206 (s0_ : Option SlD) (g1_ : FuncId) (f1_ c1_ : List (Nat × Nat)) : Tree :=
  .call 281 [(.sc (.i .u64 (IntKind.wrap .u64 (slLen s0_))))] fun v0 =>
  .asI .i64 v0 fun n1 =>
  .call 280 [(.sc (.sl s0_)), (.sc (.i .i64 (0 : Int))), (.sc (.i .i64 (slLen s0_))), (.sc (.i .i64 n1)), (.sc (.fn g1_ f1_ c1_))] fun v2 =>
  .ret 0 [(.tu [])]
theorem t206_eq (s0_ : Option SlD) (g1_ : FuncId) (f1_ c1_ : List (Nat × Nat)) : bodyK T (hs 206) Tryz.f206 [.sc (.sl s0_), .sc (.fn g1_ f1_ c1_)] = t206 s0_ g1_ f1_ c1_ := by kernel_rfl
/-- (*scuttlebutt/queue.Queue).Items$1 -/
def t207 (n0_0 : Int) (n0_1 : Int) (n0_2 : Int) (n0_3 : Int) (n0_4 : Int) (n0_5 : Int) (n1_0 : Int) (n1_1 : Int) (n1_2 : Int) (n1_3 : Int) (n1_4 : Int) (n1_5 : Int) : Tree :=
  .al [(.i .i64 n0_0), (.i .i64 n0_1), (.i .u32 n0_2), (.i .u32 n0_3), (.i .u16 n0_4), (.i .i64 n0_5)] fun a0 =>
  .al [(.i .i64 n1_0), (.i .i64 n1_1), (.i .u32 n1_2), (.i .u32 n1_3), (.i .u16 n1_4), (.i .i64 n1_5)] fun a1 =>
  .ld a1 (0 + 5) 1 fun l2 =>
  .nth l2 0 fun v3 =>
  .asI .i64 (.sc v3) fun n4 =>
  .ld a0 (0 + 5) 1 fun l5 =>
  .nth l5 0 fun v6 =>
  .asI .i64 (.sc v6) fun n7 =>
  .ld a0 ((0 + 0) + 0) 1 fun l8 =>
  .nth l8 0 fun v9 =>
  .asI .i64 (.sc v9) fun n10 =>
  .ld a1 ((0 + 0) + 0) 1 fun l11 =>
  .nth l11 0 fun v12 =>
  .asI .i64 (.sc v12) fun n13 =>
  .call 209 [(.sc (.i .i64 n4)), (.sc (.i .i64 n7))] fun v14 =>
  .asI .i64 v14 fun n15 =>
  .same a1 ((0 + 0) + 0) [(.i .i64 n13)] (
  .same a0 ((0 + 0) + 0) [(.i .i64 n10)] (
  .call 209 [(.sc (.i .i64 n10)), (.sc (.i .i64 n13))] fun v16 =>
  .asI .i64 v16 fun n17 =>
  .al [(.i .i64 n15), (.i .i64 n17)] fun a18 =>
  .call 208 [(.sc (.sl (.some (.mk a18 0 2 2 1))))] fun v19 =>
  .asI .i64 v19 fun n20 =>
  .ret 0 [(.sc (.i .i64 n20))]))
theorem t207_eq (n0_0 : Int) (n0_1 : Int) (n0_2 : Int) (n0_3 : Int) (n0_4 : Int) (n0_5 : Int) (n1_0 : Int) (n1_1 : Int) (n1_2 : Int) (n1_3 : Int) (n1_4 : Int) (n1_5 : Int) : bodyK T (hs 207) Tryz.f207 [.ag [.i .i64 n0_0, .i .i64 n0_1, .i .u32 n0_2, .i .u32 n0_3, .i .u16 n0_4, .i .i64 n0_5], .ag [.i .i64 n1_0, .i .i64 n1_1, .i .u32 n1_2, .i .u32 n1_3, .i .u16 n1_4, .i .i64 n1_5]] = t207 n0_0 n0_1 n0_2 n0_3 n0_4 n0_5 n1_0 n1_1 n1_2 n1_3 n1_4 n1_5 := by kernel_rfl
def t208_b0  : List AV → Tree := fun l1 =>
  .asI .i64 (l1.getD 0 .un) fun n2 =>
  .asL (l1.getD 1 .un) fun o3 =>
  .asI .i64 (l1.getD 2 .un) fun n4 =>
  .asI .i64 (l1.getD 3 .un) fun n5 =>
  cond (decide (n5 < n4))
    (.ixS 1 o3 n5 fun a6 a7 a8 =>
    .ld a6 (a7 + (a8 * 1)) 1 fun l9 =>
    .nth l9 0 fun v10 =>
    .asI .i64 (.sc v10) fun n11 =>
    cond (n11 != n2)
      (.ret 1 [(.sc (.i .i64 n11))])
      (.ret 0 [(.sc (.i .i64 n2)), (.sc (.sl o3)), (.sc (.i .i64 n4)), (.sc (.i .i64 (IntKind.wrap .i64 (n5 + (1 : Int)))))]))
    (.ret 2 [(.sc (.i .i64 n2))])
def t208_k0  : Nat → List AV → Tree := fun a12 l13 =>
  .tg a12 2
    (.asI .i64 (l13.getD 0 .un) fun n14 =>
    .ret 0 [(.sc (.i .i64 n14))])
    (.tg a12 1
      (.asI .i64 (l13.getD 0 .un) fun n15 =>
      .ret 0 [(.sc (.i .i64 n15))])
      (.fail))
/-- cmp.Or[int] -/
def t208 (s0_ : Option SlD) : Tree :=
  .loop t208_b0 [(.sc (.i .i64 (0 : Int))), (.sc (.sl s0_)), (.sc (.i .i64 (slLen s0_))), (.sc (.i .i64 (0 : Int)))] t208_k0
theorem t208_eq (s0_ : Option SlD) : bodyK T (hs 208) Tryz.f208 [.sc (.sl s0_)] = t208 s0_ := by kernel_rfl
/-- cmp.Compare[int] -/
def t209 (n0_ : Int) (n1_ : Int) : Tree :=
  .call 282 [(.sc (.i .i64 n0_))] fun v0 =>
  .asB v0 fun b1 =>
  .call 282 [(.sc (.i .i64 n1_))] fun v2 =>
  .asB v2 fun b3 =>
  cond b1
    (cond b3
      (.ret 0 [(.sc (.i .i64 (0 : Int)))])
      (.ret 0 [(.sc (.i .i64 (-1 : Int)))]))
    (cond b3
      (.ret 0 [(.sc (.i .i64 (1 : Int)))])
      (cond (decide (n0_ < n1_))
        (.ret 0 [(.sc (.i .i64 (-1 : Int)))])
        (cond (decide (n0_ > n1_))
          (.ret 0 [(.sc (.i .i64 (1 : Int)))])
          (.ret 0 [(.sc (.i .i64 (0 : Int)))]))))
theorem t209_eq (n0_ : Int) (n1_ : Int) : bodyK T (hs 209) Tryz.f209 [.sc (.i .i64 n0_), .sc (.i .i64 n1_)] = t209 n0_ n1_ := by kernel_rfl
/-- math/bits.Len -/
def t281 (n0_ : Int) : Tree :=
  .call 329 [(.sc (.i .u64 n0_))] fun v0 =>
  .asI .i64 v0 fun n1 =>
  .ret 0 [(.sc (.i .i64 n1))]
theorem t281_eq (n0_ : Int) : bodyK T (hs 281) Tryz.f281 [.sc (.i .u64 n0_)] = t281 n0_ := by kernel_rfl
/-- cmp.isNaN[int] -/
def t282 (n0_ : Int) : Tree :=
  .ret 0 [(.sc (.b (n0_ != n0_)))]
theorem t282_eq (n0_ : Int) : bodyK T (hs 282) Tryz.f282 [.sc (.i .i64 n0_)] = t282 n0_ := by kernel_rfl
def t320_b7  : List AV → Tree := fun l8 =>
  .asL (l8.getD 0 .un) fun o9 =>
  .asI .i64 (l8.getD 1 .un) fun n10 =>
  .asI .i64 (l8.getD 2 .un) fun n11 =>
  .asX (l8.getD 3 .un) fun v12 =>
  .asI .i64 (l8.getD 4 .un) fun n13 =>
  .asI .i64 (l8.getD 5 .un) fun n14 =>
  cond (decide (n14 > n10))
    (.ixS 6 o9 n14 fun a15 a16 a17 =>
    .ld a15 (a16 + (a17 * 6)) 6 fun l18 =>
    .nth l18 0 fun v19 =>
    .asI .i64 (.sc v19) fun n20 =>
    .nth l18 1 fun v21 =>
    .asI .i64 (.sc v21) fun n22 =>
    .nth l18 2 fun v23 =>
    .asI .u32 (.sc v23) fun n24 =>
    .nth l18 3 fun v25 =>
    .asI .u32 (.sc v25) fun n26 =>
    .nth l18 4 fun v27 =>
    .asI .u16 (.sc v27) fun n28 =>
    .nth l18 5 fun v29 =>
    .asI .i64 (.sc v29) fun n30 =>
    .ixS 6 o9 (IntKind.wrap .i64 (n14 - (1 : Int))) fun a31 a32 a33 =>
    .ld a31 (a32 + (a33 * 6)) 6 fun l34 =>
    .nth l34 0 fun v35 =>
    .asI .i64 (.sc v35) fun n36 =>
    .nth l34 1 fun v37 =>
    .asI .i64 (.sc v37) fun n38 =>
    .nth l34 2 fun v39 =>
    .asI .u32 (.sc v39) fun n40 =>
    .nth l34 3 fun v41 =>
    .asI .u32 (.sc v41) fun n42 =>
    .nth l34 4 fun v43 =>
    .asI .u16 (.sc v43) fun n44 =>
    .nth l34 5 fun v45 =>
    .asI .i64 (.sc v45) fun n46 =>
    .callv (.sc v12) [(.ag [(.i .i64 n20), (.i .i64 n22), (.i .u32 n24), (.i .u32 n26), (.i .u16 n28), (.i .i64 n30)]), (.ag [(.i .i64 n36), (.i .i64 n38), (.i .u32 n40), (.i .u32 n42), (.i .u16 n44), (.i .i64 n46)])] fun v47 =>
    .asI .i64 v47 fun n48 =>
    cond (decide (n48 < (0 : Int)))
      (.ixS 6 o9 (IntKind.wrap .i64 (n14 - (1 : Int))) fun a49 a50 a51 =>
      .ld a49 (a50 + (a51 * 6)) 6 fun l52 =>
      .nth l52 0 fun v53 =>
      .asI .i64 (.sc v53) fun n54 =>
      .nth l52 1 fun v55 =>
      .asI .i64 (.sc v55) fun n56 =>
      .nth l52 2 fun v57 =>
      .asI .u32 (.sc v57) fun n58 =>
      .nth l52 3 fun v59 =>
      .asI .u32 (.sc v59) fun n60 =>
      .nth l52 4 fun v61 =>
      .asI .u16 (.sc v61) fun n62 =>
      .nth l52 5 fun v63 =>
      .asI .i64 (.sc v63) fun n64 =>
      .ixS 6 o9 n14 fun a65 a66 a67 =>
      .ld a65 (a66 + (a67 * 6)) 6 fun l68 =>
      .nth l68 0 fun v69 =>
      .asI .i64 (.sc v69) fun n70 =>
      .nth l68 1 fun v71 =>
      .asI .i64 (.sc v71) fun n72 =>
      .nth l68 2 fun v73 =>
      .asI .u32 (.sc v73) fun n74 =>
      .nth l68 3 fun v75 =>
      .asI .u32 (.sc v75) fun n76 =>
      .nth l68 4 fun v77 =>
      .asI .u16 (.sc v77) fun n78 =>
      .nth l68 5 fun v79 =>
      .asI .i64 (.sc v79) fun n80 =>
      .ixS 6 o9 n14 fun a81 a82 a83 =>
      .st a81 (a82 + (a83 * 6)) [(.i .i64 n54), (.i .i64 n56), (.i .u32 n58), (.i .u32 n60), (.i .u16 n62), (.i .i64 n64)] (
      .ixS 6 o9 (IntKind.wrap .i64 (n14 - (1 : Int))) fun a84 a85 a86 =>
      .st a84 (a85 + (a86 * 6)) [(.i .i64 n70), (.i .i64 n72), (.i .u32 n74), (.i .u32 n76), (.i .u16 n78), (.i .i64 n80)] (
      .ret 0 [(.sc (.sl o9)), (.sc (.i .i64 n10)), (.sc (.i .i64 n11)), (.sc v12), (.sc (.i .i64 n13)), (.sc (.i .i64 (IntKind.wrap .i64 (n14 - (1 : Int)))))])))
      (.ret 6 [(.sc (.sl o9)), (.sc (.i .i64 n10)), (.sc (.i .i64 n11)), (.sc v12), (.sc (.i .i64 n13))]))
    (.ret 6 [(.sc (.sl o9)), (.sc (.i .i64 n10)), (.sc (.i .i64 n11)), (.sc v12), (.sc (.i .i64 n13))])
def t320_k7  : Nat → List AV → Tree := fun a87 l88 =>
  .tg a87 6
    (.asL (l88.getD 0 .un) fun o89 =>
    .asI .i64 (l88.getD 1 .un) fun n90 =>
    .asI .i64 (l88.getD 2 .un) fun n91 =>
    .asX (l88.getD 3 .un) fun v92 =>
    .asI .i64 (l88.getD 4 .un) fun n93 =>
    .ret 0 [(.sc (.sl o89)), (.sc (.i .i64 n90)), (.sc (.i .i64 n91)), (.sc v92), (.sc (.i .i64 (IntKind.wrap .i64 (n93 + (1 : Int)))))])
    (.fail)
def t320_b0  : List AV → Tree := fun l1 =>
  .asL (l1.getD 0 .un) fun o2 =>
  .asI .i64 (l1.getD 1 .un) fun n3 =>
  .asI .i64 (l1.getD 2 .un) fun n4 =>
  .asX (l1.getD 3 .un) fun v5 =>
  .asI .i64 (l1.getD 4 .un) fun n6 =>
  cond (decide (n6 < n4))
    (.loop t320_b7 [(.sc (.sl o2)), (.sc (.i .i64 n3)), (.sc (.i .i64 n4)), (.sc v5), (.sc (.i .i64 n6)), (.sc (.i .i64 n6))] t320_k7)
    (.ret 2 [])
def t320_k0  : Nat → List AV → Tree := fun a94 l95 =>
  .tg a94 2
    (.ret 0 [(.tu [])])
    (.fail)
/-- slices.insertionSortCmpFunc[scuttlebutt/queue.Item] -/
def t320 (s0_ : Option SlD) (n1_ : Int) (n2_ : Int) (g3_ : FuncId) (f3_ c3_ : List (Nat × Nat)) : Tree :=
  .loop t320_b0 [(.sc (.sl s0_)), (.sc (.i .i64 n1_)), (.sc (.i .i64 n2_)), (.sc (.fn g3_ f3_ c3_)), (.sc (.i .i64 (IntKind.wrap .i64 (n1_ + (1 : Int)))))] t320_k0
theorem t320_eq (s0_ : Option SlD) (n1_ : Int) (n2_ : Int) (g3_ : FuncId) (f3_ c3_ : List (Nat × Nat)) : bodyK T (hs 320) Tryz.f320 [.sc (.sl s0_), .sc (.i .i64 n1_), .sc (.i .i64 n2_), .sc (.fn g3_ f3_ c3_)] = t320 s0_ n1_ n2_ g3_ f3_ c3_ := by kernel_rfl
/-- scuttlebutt/addr.Order -/
def t242 (n0_0 : Int) (n0_1 : Int) (n1_0 : Int) (n1_1 : Int) : Tree :=
  .al [(.i .u32 n0_0), (.i .u16 n0_1)] fun a0 =>
  .al [(.i .u32 n1_0), (.i .u16 n1_1)] fun a1 =>
  .ld a0 (0 + 0) 1 fun l2 =>
  .nth l2 0 fun v3 =>
  .asI .u32 (.sc v3) fun n4 =>
  .ld a1 (0 + 0) 1 fun l5 =>
  .nth l5 0 fun v6 =>
  .asI .u32 (.sc v6) fun n7 =>
  .ld a0 (0 + 1) 1 fun l8 =>
  .nth l8 0 fun v9 =>
  .asI .u16 (.sc v9) fun n10 =>
  .ld a1 (0 + 1) 1 fun l11 =>
  .nth l11 0 fun v12 =>
  .asI .u16 (.sc v12) fun n13 =>
  .call 270 [(.sc (.i .u32 n4)), (.sc (.i .u32 n7))] fun v14 =>
  .asI .i64 v14 fun n15 =>
  .same a1 (0 + 1) [(.i .u16 n13)] (
  .same a0 (0 + 1) [(.i .u16 n10)] (
  .call 302 [(.sc (.i .u16 n10)), (.sc (.i .u16 n13))] fun v16 =>
  .asI .i64 v16 fun n17 =>
  .al [(.i .i64 n15), (.i .i64 n17)] fun a18 =>
  .call 208 [(.sc (.sl (.some (.mk a18 0 2 2 1))))] fun v19 =>
  .asI .i64 v19 fun n20 =>
  .ret 0 [(.sc (.i .i64 n20))]))
theorem t242_eq (n0_0 : Int) (n0_1 : Int) (n1_0 : Int) (n1_1 : Int) : bodyK T (hs 242) Tryz.f242 [.ag [.i .u32 n0_0, .i .u16 n0_1], .ag [.i .u32 n1_0, .i .u16 n1_1]] = t242 n0_0 n0_1 n1_0 n1_1 := by kernel_rfl
/-- cmp.Compare[uint16] -/
def t302 (n0_ : Int) (n1_ : Int) : Tree :=
  .call 349 [(.sc (.i .u16 n0_))] fun v0 =>
  .asB v0 fun b1 =>
  .call 349 [(.sc (.i .u16 n1_))] fun v2 =>
  .asB v2 fun b3 =>
  cond b1
    (cond b3
      (.ret 0 [(.sc (.i .i64 (0 : Int)))])
      (.ret 0 [(.sc (.i .i64 (-1 : Int)))]))
    (cond b3
      (.ret 0 [(.sc (.i .i64 (1 : Int)))])
      (cond (decide (n0_ < n1_))
        (.ret 0 [(.sc (.i .i64 (-1 : Int)))])
        (cond (decide (n0_ > n1_))
          (.ret 0 [(.sc (.i .i64 (1 : Int)))])
          (.ret 0 [(.sc (.i .i64 (0 : Int)))]))))
theorem t302_eq (n0_ : Int) (n1_ : Int) : bodyK T (hs 302) Tryz.f302 [.sc (.i .u16 n0_), .sc (.i .u16 n1_)] = t302 n0_ n1_ := by kernel_rfl
/-- scuttlebutt/record.Over -/
def t89 (n0_0 : Int) (n0_1 : Int) (n0_2 : Int) (n0_3 : Int) (n0_4 : Int) (n1_0 : Int) (n1_1 : Int) (n1_2 : Int) (n1_3 : Int) (n1_4 : Int) : Tree :=
  .al [(.i .i64 n0_0), (.i .i64 n0_1), (.i .u32 n0_2), (.i .u32 n0_3), (.i .u16 n0_4)] fun a0 =>
  .al [(.i .i64 n1_0), (.i .i64 n1_1), (.i .u32 n1_2), (.i .u32 n1_3), (.i .u16 n1_4)] fun a1 =>
  .ld a0 0 5 fun l2 =>
  .nth l2 0 fun v3 =>
  .asI .i64 (.sc v3) fun n4 =>
  .nth l2 1 fun v5 =>
  .asI .i64 (.sc v5) fun n6 =>
  .nth l2 2 fun v7 =>
  .asI .u32 (.sc v7) fun n8 =>
  .nth l2 3 fun v9 =>
  .asI .u32 (.sc v9) fun n10 =>
  .nth l2 4 fun v11 =>
  .asI .u16 (.sc v11) fun n12 =>
  .ld a1 0 5 fun l13 =>
  .nth l13 0 fun v14 =>
  .asI .i64 (.sc v14) fun n15 =>
  .nth l13 1 fun v16 =>
  .asI .i64 (.sc v16) fun n17 =>
  .nth l13 2 fun v18 =>
  .asI .u32 (.sc v18) fun n19 =>
  .nth l13 3 fun v20 =>
  .asI .u32 (.sc v20) fun n21 =>
  .nth l13 4 fun v22 =>
  .asI .u16 (.sc v22) fun n23 =>
  .call 185 [(.ag [(.i .i64 n4), (.i .i64 n6), (.i .u32 n8), (.i .u32 n10), (.i .u16 n12)]), (.ag [(.i .i64 n15), (.i .i64 n17), (.i .u32 n19), (.i .u32 n21), (.i .u16 n23)])] fun v24 =>
  .asI .i64 v24 fun n25 =>
  .ret 0 [(.sc (.b (decide (n25 > (0 : Int)))))]
theorem t89_eq (n0_0 : Int) (n0_1 : Int) (n0_2 : Int) (n0_3 : Int) (n0_4 : Int) (n1_0 : Int) (n1_1 : Int) (n1_2 : Int) (n1_3 : Int) (n1_4 : Int) : bodyK T (hs 89) Tryz.f89 [.ag [.i .i64 n0_0, .i .i64 n0_1, .i .u32 n0_2, .i .u32 n0_3, .i .u16 n0_4], .ag [.i .i64 n1_0, .i .i64 n1_1, .i .u32 n1_2, .i .u32 n1_3, .i .u16 n1_4]] = t89 n0_0 n0_1 n0_2 n0_3 n0_4 n1_0 n1_1 n1_2 n1_3 n1_4 := by kernel_rfl
/-- scuttlebutt/record.Order -/
def t185 (n0_0 : Int) (n0_1 : Int) (n0_2 : Int) (n0_3 : Int) (n0_4 : Int) (n1_0 : Int) (n1_1 : Int) (n1_2 : Int) (n1_3 : Int) (n1_4 : Int) : Tree :=
  .al [(.i .i64 n0_0), (.i .i64 n0_1), (.i .u32 n0_2), (.i .u32 n0_3), (.i .u16 n0_4)] fun a0 =>
  .al [(.i .i64 n1_0), (.i .i64 n1_1), (.i .u32 n1_2), (.i .u32 n1_3), (.i .u16 n1_4)] fun a1 =>
  .ld a0 (0 + 2) 1 fun l2 =>
  .nth l2 0 fun v3 =>
  .asI .u32 (.sc v3) fun n4 =>
  .ld a1 (0 + 2) 1 fun l5 =>
  .nth l5 0 fun v6 =>
  .asI .u32 (.sc v6) fun n7 =>
  .ld a0 (0 + 1) 1 fun l8 =>
  .nth l8 0 fun v9 =>
  .asI .i64 (.sc v9) fun n10 =>
  .ld a1 (0 + 1) 1 fun l11 =>
  .nth l11 0 fun v12 =>
  .asI .i64 (.sc v12) fun n13 =>
  .ld a0 (0 + 3) 2 fun l14 =>
  .nth l14 0 fun v15 =>
  .asI .u32 (.sc v15) fun n16 =>
  .nth l14 1 fun v17 =>
  .asI .u16 (.sc v17) fun n18 =>
  .ld a1 (0 + 3) 2 fun l19 =>
  .nth l19 0 fun v20 =>
  .asI .u32 (.sc v20) fun n21 =>
  .nth l19 1 fun v22 =>
  .asI .u16 (.sc v22) fun n23 =>
  .call 270 [(.sc (.i .u32 n4)), (.sc (.i .u32 n7))] fun v24 =>
  .asI .i64 v24 fun n25 =>
  .same a1 (0 + 3) [(.i .u32 n21), (.i .u16 n23)] (
  .same a0 (0 + 3) [(.i .u32 n16), (.i .u16 n18)] (
  .same a1 (0 + 1) [(.i .i64 n13)] (
  .same a0 (0 + 1) [(.i .i64 n10)] (
  .call 209 [(.sc (.i .i64 n10)), (.sc (.i .i64 n13))] fun v26 =>
  .asI .i64 v26 fun n27 =>
  .same a1 (0 + 3) [(.i .u32 n21), (.i .u16 n23)] (
  .same a0 (0 + 3) [(.i .u32 n16), (.i .u16 n18)] (
  .call 242 [(.ag [(.i .u32 n16), (.i .u16 n18)]), (.ag [(.i .u32 n21), (.i .u16 n23)])] fun v28 =>
  .asI .i64 v28 fun n29 =>
  .al [(.i .i64 n25), (.i .i64 n27), (.i .i64 n29)] fun a30 =>
  .call 208 [(.sc (.sl (.some (.mk a30 0 3 3 1))))] fun v31 =>
  .asI .i64 v31 fun n32 =>
  .ret 0 [(.sc (.i .i64 n32))]))))))
theorem t185_eq (n0_0 : Int) (n0_1 : Int) (n0_2 : Int) (n0_3 : Int) (n0_4 : Int) (n1_0 : Int) (n1_1 : Int) (n1_2 : Int) (n1_3 : Int) (n1_4 : Int) : bodyK T (hs 185) Tryz.f185 [.ag [.i .i64 n0_0, .i .i64 n0_1, .i .u32 n0_2, .i .u32 n0_3, .i .u16 n0_4], .ag [.i .i64 n1_0, .i .i64 n1_1, .i .u32 n1_2, .i .u32 n1_3, .i .u16 n1_4]] = t185 n0_0 n0_1 n0_2 n0_3 n0_4 n1_0 n1_1 n1_2 n1_3 n1_4 := by kernel_rfl
/-- (*scuttlebutt/node.Node).wrapped -/
def t143 (p0_ q0_ : Nat) (n1_ : Int) (n2_0 : Int) (n2_1 : Int) (n2_2 : Int) (n2_3 : Int) (n2_4 : Int) (n2_5 : Int) (n2_6 m2_6 : Nat) (b2_7 : Bool) (x2_8 : ByteArray) (s2_9 : Option SlD) : Tree :=
  .al [(.i .i64 n2_0), (.i .i64 n2_1), (.i .u32 n2_2), (.i .i64 n2_3), (.i .u32 n2_4), (.i .u16 n2_5), (.cx .f64 n2_6 m2_6), (.b b2_7), (.s x2_8), (.sl s2_9)] fun a0 =>
  .nn (.some (p0_, q0_)) fun a1 a2 =>
  .ld a1 ((a2 + 0) + 0) 1 fun l3 =>
  .nth l3 0 fun v4 =>
  .asI .i64 (.sc v4) fun n5 =>
  .st a0 (0 + 1) [(.i .i64 n5)] (
  .nn (.some (p0_, q0_)) fun a6 a7 =>
  .ld a6 (a7 + 27) 1 fun l8 =>
  .nth l8 0 fun v9 =>
  .asP (.sc v9) fun o10 =>
  .nn (.some (p0_, q0_)) fun a11 a12 =>
  .ld a11 (a12 + 36) 1 fun l13 =>
  .nth l13 0 fun v14 =>
  .asI .u64 (.sc v14) fun n15 =>
  .al [(.i .u32 (0 : Int)), (.i .u16 (0 : Int))] fun a16 =>
  .call 236 [(.sc (.p o10)), (.sc (.i .i64 n1_)), (.sc (.i .u64 n15))] fun v17 =>
  .asT 2 v17 fun l18 =>
  .nthC l18 0 fun v19 =>
  .asA 2 (v19.av) fun l20 =>
  .nth l20 0 fun v21 =>
  .asI .u32 (.sc v21) fun n22 =>
  .nth l20 1 fun v23 =>
  .asI .u16 (.sc v23) fun n24 =>
  .nthC l18 1 fun v25 =>
  .asB (v25.av) fun b26 =>
  .st a16 0 [(.i .u32 n22), (.i .u16 n24)] (
  cond b26
    (.ld a16 0 2 fun l27 =>
    .nth l27 0 fun v28 =>
    .asI .u32 (.sc v28) fun n29 =>
    .nth l27 1 fun v30 =>
    .asI .u16 (.sc v30) fun n31 =>
    .ld a0 0 10 fun l32 =>
    .nth l32 0 fun v33 =>
    .asI .i64 (.sc v33) fun n34 =>
    .nth l32 1 fun v35 =>
    .asI .i64 (.sc v35) fun n36 =>
    .nth l32 2 fun v37 =>
    .asI .u32 (.sc v37) fun n38 =>
    .nth l32 3 fun v39 =>
    .asI .i64 (.sc v39) fun n40 =>
    .nth l32 4 fun v41 =>
    .asI .u32 (.sc v41) fun n42 =>
    .nth l32 5 fun v43 =>
    .asI .u16 (.sc v43) fun n44 =>
    .nth l32 6 fun v45 =>
    .asC .f64 (.sc v45) fun a46 a47 =>
    .nth l32 7 fun v48 =>
    .asB (.sc v48) fun b49 =>
    .nth l32 8 fun v50 =>
    .asS (.sc v50) fun x51 =>
    .nth l32 9 fun v52 =>
    .asL (.sc v52) fun o53 =>
    .call 53 [(.sc (.p (.some (p0_, q0_)))), (.ag [(.i .u32 n29), (.i .u16 n31)]), (.ag [(.i .i64 n34), (.i .i64 n36), (.i .u32 n38), (.i .i64 n40), (.i .u32 n42), (.i .u16 n44), (.cx .f64 a46 a47), (.b b49), (.s x51), (.sl o53)])] fun v54 =>
    .ret 0 [(.sc (.b .true))])
    (.nn (.some (p0_, q0_)) fun a55 a56 =>
    .ld a55 (a56 + 15) 1 fun l57 =>
    .nth l57 0 fun v58 =>
    .asP (.sc v58) fun o59 =>
    .call 88 [(.sc (.p o59)), (.sc (.i .i64 n1_))] fun v60 =>
    .asT 2 v60 fun l61 =>
    .nthC l61 0 fun v62 =>
    .asA 5 (v62.av) fun l63 =>
    .nth l63 0 fun v64 =>
    .asI .i64 (.sc v64) fun n65 =>
    .nth l63 1 fun v66 =>
    .asI .i64 (.sc v66) fun n67 =>
    .nth l63 2 fun v68 =>
    .asI .u32 (.sc v68) fun n69 =>
    .nth l63 3 fun v70 =>
    .asI .u32 (.sc v70) fun n71 =>
    .nth l63 4 fun v72 =>
    .asI .u16 (.sc v72) fun n73 =>
    .nthC l61 1 fun v74 =>
    .asB (v74.av) fun b75 =>
    .al [(.i .i64 (0 : Int)), (.i .i64 (0 : Int)), (.i .u32 (0 : Int)), (.i .u32 (0 : Int)), (.i .u16 (0 : Int))] fun a76 =>
    .st a76 0 [(.i .i64 n65), (.i .i64 n67), (.i .u32 n69), (.i .u32 n71), (.i .u16 n73)] (
    cond (!b75)
      (.ret 0 [(.sc (.b .false))])
      (.nn (.some (p0_, q0_)) fun a77 a78 =>
      .ld a77 ((a78 + 0) + 0) 1 fun l79 =>
      .nth l79 0 fun v80 =>
      .asI .i64 (.sc v80) fun n81 =>
      cond (n1_ == n81)
        (.ret 0 [(.sc (.b .false))])
        (.ld a0 0 10 fun l82 =>
        .nth l82 0 fun v83 =>
        .asI .i64 (.sc v83) fun n84 =>
        .nth l82 1 fun v85 =>
        .asI .i64 (.sc v85) fun n86 =>
        .nth l82 2 fun v87 =>
        .asI .u32 (.sc v87) fun n88 =>
        .nth l82 3 fun v89 =>
        .asI .i64 (.sc v89) fun n90 =>
        .nth l82 4 fun v91 =>
        .asI .u32 (.sc v91) fun n92 =>
        .nth l82 5 fun v93 =>
        .asI .u16 (.sc v93) fun n94 =>
        .nth l82 6 fun v95 =>
        .asC .f64 (.sc v95) fun a96 a97 =>
        .nth l82 7 fun v98 =>
        .asB (.sc v98) fun b99 =>
        .nth l82 8 fun v100 =>
        .asS (.sc v100) fun x101 =>
        .nth l82 9 fun v102 =>
        .asL (.sc v102) fun o103 =>
        .call 103 [(.ag [(.i .i64 n84), (.i .i64 n86), (.i .u32 n88), (.i .i64 n90), (.i .u32 n92), (.i .u16 n94), (.cx .f64 a96 a97), (.b b99), (.s x101), (.sl o103)])] fun v104 =>
        .asT 2 v104 fun l105 =>
        .nthC l105 0 fun v106 =>
        .asS (v106.av) fun x107 =>
        .nthC l105 1 fun v108 =>
        .asB (v108.av) fun b109 =>
        cond b109
          (.ld a76 (0 + 3) 2 fun l110 =>
          .nth l110 0 fun v111 =>
          .asI .u32 (.sc v111) fun n112 =>
          .nth l110 1 fun v113 =>
          .asI .u16 (.sc v113) fun n114 =>
          .call 53 [(.sc (.p (.some (p0_, q0_)))), (.ag [(.i .u32 n112), (.i .u16 n114)]), (.ag [(.i .i64 (5 : Int)), (.i .i64 (0 : Int)), (.i .u32 (0 : Int)), (.i .i64 n1_), (.i .u32 (0 : Int)), (.i .u16 (0 : Int)), (.cx .f64 0 0), (.b .false), (.s x107), (.sl .none)])] fun v115 =>
          .ret 0 [(.sc (.b .true))])
          (.ret 0 [(.sc (.b .true))])))))))
theorem t143_eq (p0_ q0_ : Nat) (n1_ : Int) (n2_0 : Int) (n2_1 : Int) (n2_2 : Int) (n2_3 : Int) (n2_4 : Int) (n2_5 : Int) (n2_6 m2_6 : Nat) (b2_7 : Bool) (x2_8 : ByteArray) (s2_9 : Option SlD) : bodyK T (hs 143) Tryz.f143 [.sc (.p (some (p0_, q0_))), .sc (.i .i64 n1_), .ag [.i .i64 n2_0, .i .i64 n2_1, .i .u32 n2_2, .i .i64 n2_3, .i .u32 n2_4, .i .u16 n2_5, .cx .f64 n2_6 m2_6, .b b2_7, .s x2_8, .sl s2_9]] = t143 p0_ q0_ n1_ n2_0 n2_1 n2_2 n2_3 n2_4 n2_5 n2_6 m2_6 b2_7 x2_8 s2_9 := by kernel_rfl
end Go.Proofs.YtpbhfolaoccpkaaGreat
