/- Trees of functions, printed by a program of mine; each is proved to be the function's. -/
import Derived.Test.YtpbhfolaoccpkaaGreatGen
namespace Go.Proofs.YtpbhfolaoccpkaaGreat
open Go Go.Proofs.YtpbhfolaoccpkaaGreat.Fw
set_option linter.unusedVariables false
set_option maxRecDepth 20000
def t5_k44  : Nat → List AV → Tree := fun a45 l46 =>
  .tg a45 0
    (.asB (l46.getD 0 .un) fun b47 =>
    .asB (l46.getD 1 .un) fun b48 =>
    .asB (l46.getD 2 .un) fun b49 =>
    .asP (l46.getD 3 .un) fun o50 =>
    .asP (l46.getD 4 .un) fun o51 =>
    .nn o51 fun a52 a53 =>
    .asI .i64 (l46.getD 5 .un) fun n54 =>
    .asS (l46.getD 6 .un) fun x55 =>
    .asI .i64 (l46.getD 7 .un) fun n56 =>
    .asS (l46.getD 8 .un) fun x57 =>
    .asI .u64 (l46.getD 9 .un) fun n58 =>
    .call 15 [(.sc (.p o50)), (.sc (.i .u64 n58)), (.ag [(.i .u32 (66 : Int)), (.i .u16 (6 : Int))]), (.sc (.s x57))] fun v59 =>
    .asL v59 fun o60 =>
    cond b47
      (cond (n56 == (3 : Int))
        (cond (!b48)
          (cond b49
            (cond (n54 == (1 : Int))
              (cond ((slLen o60) == (1 : Int))
                (.ixS 3 o60 (0 : Int) fun a61 a62 a63 =>
                .ld a61 ((a62 + (a63 * 3)) + 0) 2 fun l64 =>
                .nth l64 0 fun v65 =>
                .asI .u32 (.sc v65) fun n66 =>
                .nth l64 1 fun v67 =>
                .asI .u16 (.sc v67) fun n68 =>
                .ld a52 a53 2 fun l69 =>
                .nth l69 0 fun v70 =>
                .asI .u32 (.sc v70) fun n71 =>
                .nth l69 1 fun v72 =>
                .asI .u16 (.sc v72) fun n73 =>
                cond ((n66 == n71) && ((n68 == n73) && .true))
                  (.ixS 3 o60 (0 : Int) fun a74 a75 a76 =>
                  .ld a74 ((a75 + (a76 * 3)) + 2) 1 fun l77 =>
                  .nth l77 0 fun v78 =>
                  .asS (.sc v78) fun x79 =>
                  cond ((ByteArray.toList x79) == (ByteArray.toList x55))
                    (.call 24 [(.sc (.p o50))] fun v80 =>
                    .asL v80 fun o81 =>
                    .ret 0 [(.sc (.b ((slLen o81) == (1 : Int))))])
                    (.ret 0 [(.sc (.b .false))]))
                  (.ret 0 [(.sc (.b .false))]))
                (.ret 0 [(.sc (.b .false))]))
              (.ret 0 [(.sc (.b .false))]))
            (.ret 0 [(.sc (.b .false))]))
          (cond b49
            (.call 24 [(.sc (.p o50))] fun v82 =>
            .asL v82 fun o83 =>
            cond (n54 == (slLen o83))
              (.ret 0 [(.sc (.b ((slLen o60) == (0 : Int))))])
              (.ret 0 [(.sc (.b .false))]))
            (.ret 0 [(.sc (.b .false))])))
        (cond b49
          (.call 24 [(.sc (.p o50))] fun v84 =>
          .asL v84 fun o85 =>
          cond (n54 == (slLen o85))
            (.ret 0 [(.sc (.b ((slLen o60) == (0 : Int))))])
            (.ret 0 [(.sc (.b .false))]))
          (.ret 0 [(.sc (.b .false))])))
      (cond b49
        (.call 24 [(.sc (.p o50))] fun v86 =>
        .asL v86 fun o87 =>
        cond (n54 == (slLen o87))
          (.ret 0 [(.sc (.b ((slLen o60) == (0 : Int))))])
          (.ret 0 [(.sc (.b .false))]))
        (.ret 0 [(.sc (.b .false))])))
    (.fail)
def t5_k18  : Nat → List AV → Tree := fun a26 l27 =>
  .tg a26 0
    (.asS (l27.getD 0 .un) fun x28 =>
    .asI .u8 (l27.getD 1 .un) fun n29 =>
    .asB (l27.getD 2 .un) fun b30 =>
    .asB (l27.getD 3 .un) fun b31 =>
    .asB (l27.getD 4 .un) fun b32 =>
    .asP (l27.getD 5 .un) fun o33 =>
    .asP (l27.getD 6 .un) fun o34 =>
    .nn o34 fun a35 a36 =>
    .asI .i64 (l27.getD 7 .un) fun n37 =>
    .br (((decide ((0 : Int) ≤ (0 : Int))) && (decide ((0 : Int) ≤ (minI (((ByteArray.size x28) : Nat) : Int) (100 : Int))))) && (decide ((minI (((ByteArray.size x28) : Nat) : Int) (100 : Int)) ≤ (((ByteArray.size x28) : Nat) : Int))))
      (.br (decide (((((ByteArray.size (.mk (.mk [98]))) + (ByteArray.size (ByteArray.extract x28 (Int.toNat (0 : Int)) (Int.toNat (minI (((ByteArray.size x28) : Nat) : Int) (100 : Int)))))) : Nat) : Int) ≤ (9223372036854775807 : Int)))
        (.br .true
          (.call 23 [(.ag [(.i .i64 (5 : Int)), (.i .i64 (9 : Int)), (.i .u32 (0 : Int)), (.i .i64 (IntKind.wrap .i64 ((2 : Int) + (IntKind.wrap .i64 (Int.tmod n29 (4 : Int)))))), (.i .u32 (0 : Int)), (.i .u16 (0 : Int)), (.cx .f64 0 0), (.b .false), (.s ((.mk (.mk [98])) ++ (ByteArray.extract x28 (Int.toNat (0 : Int)) (Int.toNat (minI (((ByteArray.size x28) : Nat) : Int) (100 : Int)))))), (.sl .none)])] fun v38 =>
          .asT 2 v38 fun l39 =>
          .nthC l39 0 fun v40 =>
          .asS (v40.av) fun x41 =>
          .nthC l39 1 fun v42 =>
          .asB (v42.av) fun b43 =>
          .join (
            cond b31
              (.ret 0 [(.sc (.b b30)), (.sc (.b b31)), (.sc (.b b32)), (.sc (.p o33)), (.sc (.p (.some (a35, a36)))), (.sc (.i .i64 n37)), (.sc (.s ((.mk (.mk [98])) ++ (ByteArray.extract x28 (Int.toNat (0 : Int)) (Int.toNat (minI (((ByteArray.size x28) : Nat) : Int) (100 : Int))))))), (.sc (.i .i64 (IntKind.wrap .i64 ((2 : Int) + (IntKind.wrap .i64 (Int.tmod n29 (4 : Int))))))), (.sc (.s x41)), (.sc (.i .u64 (20 : Int)))])
              (.ret 0 [(.sc (.b b30)), (.sc (.b b31)), (.sc (.b b32)), (.sc (.p o33)), (.sc (.p (.some (a35, a36)))), (.sc (.i .i64 n37)), (.sc (.s ((.mk (.mk [98])) ++ (ByteArray.extract x28 (Int.toNat (0 : Int)) (Int.toNat (minI (((ByteArray.size x28) : Nat) : Int) (100 : Int))))))), (.sc (.i .i64 (IntKind.wrap .i64 ((2 : Int) + (IntKind.wrap .i64 (Int.tmod n29 (4 : Int))))))), (.sc (.s x41)), (.sc (.i .u64 (5 : Int)))])) t5_k44)
          (.fail))
        (.fail))
      (.fail))
    (.fail)
/-- scuttlebutt/scuttlebuttlaw19.NodeRelays -/
def t5 (x0_ : ByteArray) (n1_ : Int) (b2_ : Bool) (b3_ : Bool) : Tree :=
  .call 7 [] fun v0 =>
  .asB v0 fun b1 =>
  cond (!b1)
    (.ret 0 [(.sc (.b .false))])
    (.al [(.i .i64 (1 : Int)), (.i .u32 (1 : Int)), (.i .u16 (7 : Int)), (.cx .f64 0 0)] fun a2 =>
    .call 8 [(.ag [(.i .i64 (1 : Int)), (.i .u32 (1 : Int)), (.i .u16 (7 : Int)), (.cx .f64 0 0), (.i .u64 (0 : Int)), (.i .u32 (0 : Int)), (.sl (.some (.mk a2 0 1 1 4))), (.i .u64 (2 : Int)), (.i .u64 (9 : Int)), (.i .i64 (1 : Int))])] fun v3 =>
    .asT 2 v3 fun l4 =>
    .nthC l4 0 fun v5 =>
    .asP (v5.av) fun o6 =>
    .nthC l4 1 fun v7 =>
    .asI .i64 (v7.av) fun n8 =>
    cond (Option.isNone o6)
      (.ret 0 [(.sc (.b .false))])
      (cond (n8 != (0 : Int))
        (.ret 0 [(.sc (.b .false))])
        (.call 19 [(.sc (.p o6))] fun v9 =>
        .asP v9 fun o10 =>
        cond (Option.isNone o10)
          (.ret 0 [(.sc (.b .false))])
          (.al [(.i .u32 (0 : Int)), (.i .u16 (0 : Int))] fun a11 =>
          .st a11 0 [(.i .u32 (55 : Int)), (.i .u16 (5 : Int))] (
          .call 23 [(.ag [(.i .i64 (10 : Int)), (.i .i64 (3 : Int)), (.i .u32 (0 : Int)), (.i .i64 (0 : Int)), (.i .u32 (0 : Int)), (.i .u16 (0 : Int)), (.cx .f64 0 0), (.b .true), (.s (.mk (.mk []))), (.sl .none)])] fun v12 =>
          .asT 2 v12 fun l13 =>
          .nthC l13 0 fun v14 =>
          .asS (v14.av) fun x15 =>
          .nthC l13 1 fun v16 =>
          .asB (v16.av) fun b17 =>
          .join (
            cond b2_
              (.ld a11 0 2 fun l19 =>
              .nth l19 0 fun v20 =>
              .asI .u32 (.sc v20) fun n21 =>
              .nth l19 1 fun v22 =>
              .asI .u16 (.sc v22) fun n23 =>
              .call 15 [(.sc (.p o6)), (.sc (.i .u64 (0 : Int))), (.ag [(.i .u32 n21), (.i .u16 n23)]), (.sc (.s x15))] fun v24 =>
              .asL v24 fun o25 =>
              .ret 0 [(.sc (.s x0_)), (.sc (.i .u8 n1_)), (.sc (.b b2_)), (.sc (.b b3_)), (.sc (.b b1)), (.sc (.p o6)), (.sc (.p (.some (a11, 0)))), (.sc (.i .i64 (slLen o25)))])
              (.ret 0 [(.sc (.s x0_)), (.sc (.i .u8 n1_)), (.sc (.b b2_)), (.sc (.b b3_)), (.sc (.b b1)), (.sc (.p o6)), (.sc (.p (.some (a11, 0)))), (.sc (.i .i64 (0 : Int)))])) t5_k18)))))
theorem t5_eq (x0_ : ByteArray) (n1_ : Int) (b2_ : Bool) (b3_ : Bool) : bodyK T (hs 5) Tryz.f5 [.sc (.s x0_), .sc (.i .u8 n1_), .sc (.b b2_), .sc (.b b3_)] = t5 x0_ n1_ b2_ b3_ := by kernel_rfl
end Go.Proofs.YtpbhfolaoccpkaaGreat
namespace Go.Proofs.YtpbhfolaoccpkaaGreat
open Go Go.Proofs.YtpbhfolaoccpkaaGreat.Fw
set_option linter.unusedVariables false
set_option maxRecDepth 20000
def t8_b186  : List AV → Tree := fun l187 =>
  .asP (l187.getD 0 .un) fun o188 =>
  .nn o188 fun a189 a190 =>
  .asP (l187.getD 1 .un) fun o191 =>
  .asL (l187.getD 2 .un) fun o192 =>
  .asI .i64 (l187.getD 3 .un) fun n193 =>
  .asI .i64 (l187.getD 4 .un) fun n194 =>
  cond (decide (n194 < n193))
    (.ixS 4 o192 n194 fun a195 a196 a197 =>
    .ld a195 (a196 + (a197 * 4)) 4 fun l198 =>
    .nth l198 0 fun v199 =>
    .asI .i64 (.sc v199) fun n200 =>
    .nth l198 1 fun v201 =>
    .asI .u32 (.sc v201) fun n202 =>
    .nth l198 2 fun v203 =>
    .asI .u16 (.sc v203) fun n204 =>
    .nth l198 3 fun v205 =>
    .asC .f64 (.sc v205) fun a206 a207 =>
    .al [(.i .i64 (0 : Int)), (.i .u32 (0 : Int)), (.i .u16 (0 : Int)), (.cx .f64 0 0)] fun a208 =>
    .st a208 0 [(.i .i64 n200), (.i .u32 n202), (.i .u16 n204), (.cx .f64 a206 a207)] (
    .ld a208 (0 + 0) 1 fun l209 =>
    .nth l209 0 fun v210 =>
    .asI .i64 (.sc v210) fun n211 =>
    .ld a189 (a190 + 0) 1 fun l212 =>
    .nth l212 0 fun v213 =>
    .asI .i64 (.sc v213) fun n214 =>
    cond (n211 != n214)
      (.nn o191 fun a215 a216 =>
      .ld a215 (a216 + 15) 1 fun l217 =>
      .nth l217 0 fun v218 =>
      .asP (.sc v218) fun o219 =>
      .ld a208 (0 + 0) 1 fun l220 =>
      .nth l220 0 fun v221 =>
      .asI .i64 (.sc v221) fun n222 =>
      .ld a208 (0 + 1) 2 fun l223 =>
      .nth l223 0 fun v224 =>
      .asI .u32 (.sc v224) fun n225 =>
      .nth l223 1 fun v226 =>
      .asI .u16 (.sc v226) fun n227 =>
      .call 20 [(.sc (.p o219)), (.ag [(.i .i64 n222), (.i .i64 (0 : Int)), (.i .u32 (0 : Int)), (.i .u32 n225), (.i .u16 n227)])] fun v228 =>
      .asT 2 v228 fun l229 =>
      .nthC l229 0 fun v230 =>
      .asB (v230.av) fun b231 =>
      .nthC l229 1 fun v232 =>
      .asI .i64 (v232.av) fun n233 =>
      .ret 0 [(.sc (.p (.some (a189, a190)))), (.sc (.p o191)), (.sc (.sl o192)), (.sc (.i .i64 n193)), (.sc (.i .i64 (IntKind.wrap .i64 (n194 + (1 : Int)))))])
      (.ret 0 [(.sc (.p (.some (a189, a190)))), (.sc (.p o191)), (.sc (.sl o192)), (.sc (.i .i64 n193)), (.sc (.i .i64 (IntKind.wrap .i64 (n194 + (1 : Int)))))])))
    (.ret 2 [(.sc (.p o191))])
def t8_k186  : Nat → List AV → Tree := fun a234 l235 =>
  .tg a234 2
    (.asP (l235.getD 0 .un) fun o236 =>
    .ret 0 [(.tu [(.sc (.p o236)), (.sc (.i .i64 (0 : Int)))])])
    (.fail)
/-- scuttlebutt/node.New -/
def t8 (n0_0 : Int) (n0_1 : Int) (n0_2 : Int) (n0_3 m0_3 : Nat) (n0_4 : Int) (n0_5 : Int) (s0_6 : Option SlD) (n0_7 : Int) (n0_8 : Int) (n0_9 : Int) : Tree :=
  .al [(.i .i64 n0_0), (.i .u32 n0_1), (.i .u16 n0_2), (.cx .f64 n0_3 m0_3), (.i .u64 n0_4), (.i .u32 n0_5), (.sl s0_6), (.i .u64 n0_7), (.i .u64 n0_8), (.i .i64 n0_9)] fun a0 =>
  .ld a0 0 10 fun l1 =>
  .nth l1 0 fun v2 =>
  .asI .i64 (.sc v2) fun n3 =>
  .nth l1 1 fun v4 =>
  .asI .u32 (.sc v4) fun n5 =>
  .nth l1 2 fun v6 =>
  .asI .u16 (.sc v6) fun n7 =>
  .nth l1 3 fun v8 =>
  .asC .f64 (.sc v8) fun a9 a10 =>
  .nth l1 4 fun v11 =>
  .asI .u64 (.sc v11) fun n12 =>
  .nth l1 5 fun v13 =>
  .asI .u32 (.sc v13) fun n14 =>
  .nth l1 6 fun v15 =>
  .asL (.sc v15) fun o16 =>
  .nth l1 7 fun v17 =>
  .asI .u64 (.sc v17) fun n18 =>
  .nth l1 8 fun v19 =>
  .asI .u64 (.sc v19) fun n20 =>
  .nth l1 9 fun v21 =>
  .asI .i64 (.sc v21) fun n22 =>
  .call 33 [(.ag [(.i .i64 n3), (.i .u32 n5), (.i .u16 n7), (.cx .f64 a9 a10), (.i .u64 n12), (.i .u32 n14), (.sl o16), (.i .u64 n18), (.i .u64 n20), (.i .i64 n22)])] fun v23 =>
  .asB v23 fun b24 =>
  cond (!b24)
    (.ret 0 [(.tu [(.sc (.p .none)), (.sc (.i .i64 (1 : Int)))])])
    (.ld a0 (0 + 6) 1 fun l25 =>
    .nth l25 0 fun v26 =>
    .asL (.sc v26) fun o27 =>
    .call 34 [(.sc (.sl o27))] fun v28 =>
    .asL v28 fun o29 =>
    .st a0 (0 + 6) [(.sl o29)] (
    .ld a0 0 10 fun l30 =>
    .nth l30 0 fun v31 =>
    .asI .i64 (.sc v31) fun n32 =>
    .nth l30 1 fun v33 =>
    .asI .u32 (.sc v33) fun n34 =>
    .nth l30 2 fun v35 =>
    .asI .u16 (.sc v35) fun n36 =>
    .nth l30 3 fun v37 =>
    .asC .f64 (.sc v37) fun a38 a39 =>
    .nth l30 4 fun v40 =>
    .asI .u64 (.sc v40) fun n41 =>
    .nth l30 5 fun v42 =>
    .asI .u32 (.sc v42) fun n43 =>
    .nth l30 6 fun v44 =>
    .asL (.sc v44) fun o45 =>
    .nth l30 7 fun v46 =>
    .asI .u64 (.sc v46) fun n47 =>
    .nth l30 8 fun v48 =>
    .asI .u64 (.sc v48) fun n49 =>
    .nth l30 9 fun v50 =>
    .asI .i64 (.sc v50) fun n51 =>
    .ld a0 (0 + 4) 1 fun l52 =>
    .nth l52 0 fun v53 =>
    .asI .u64 (.sc v53) fun n54 =>
    .ld a0 (0 + 0) 1 fun l55 =>
    .nth l55 0 fun v56 =>
    .asI .i64 (.sc v56) fun n57 =>
    .ld a0 (0 + 5) 1 fun l58 =>
    .nth l58 0 fun v59 =>
    .asI .u32 (.sc v59) fun n60 =>
    .ld a0 (0 + 1) 2 fun l61 =>
    .nth l61 0 fun v62 =>
    .asI .u32 (.sc v62) fun n63 =>
    .nth l61 1 fun v64 =>
    .asI .u16 (.sc v64) fun n65 =>
    .call 35 [] fun v66 =>
    .asP v66 fun o67 =>
    .same a0 (0 + 1) [(.i .u32 n63), (.i .u16 n65)] (
    .same a0 (0 + 5) [(.i .u32 n60)] (
    .same a0 (0 + 0) [(.i .i64 n57)] (
    .same a0 (0 + 4) [(.i .u64 n54)] (
    .same a0 0 [(.i .i64 n32), (.i .u32 n34), (.i .u16 n36), (.cx .f64 a38 a39), (.i .u64 n41), (.i .u32 n43), (.sl o45), (.i .u64 n47), (.i .u64 n49), (.i .i64 n51)] (
    .call 36 [(.sc (.i .u64 n54))] fun v68 =>
    .asP v68 fun o69 =>
    .same a0 (0 + 1) [(.i .u32 n63), (.i .u16 n65)] (
    .same a0 (0 + 5) [(.i .u32 n60)] (
    .same a0 (0 + 0) [(.i .i64 n57)] (
    .same a0 0 [(.i .i64 n32), (.i .u32 n34), (.i .u16 n36), (.cx .f64 a38 a39), (.i .u64 n41), (.i .u32 n43), (.sl o45), (.i .u64 n47), (.i .u64 n49), (.i .i64 n51)] (
    .call 37 [] fun v70 =>
    .asP v70 fun o71 =>
    .same a0 (0 + 1) [(.i .u32 n63), (.i .u16 n65)] (
    .same a0 (0 + 5) [(.i .u32 n60)] (
    .same a0 (0 + 0) [(.i .i64 n57)] (
    .same a0 0 [(.i .i64 n32), (.i .u32 n34), (.i .u16 n36), (.cx .f64 a38 a39), (.i .u64 n41), (.i .u32 n43), (.sl o45), (.i .u64 n47), (.i .u64 n49), (.i .i64 n51)] (
    .al [(.i .i64 n32), (.i .u32 n34), (.i .u16 n36), (.cx .f64 a38 a39), (.i .u64 n41), (.i .u32 n43), (.sl o45), (.i .u64 n47), (.i .u64 n49), (.i .i64 n51), (.i .i64 n57), (.i .i64 (0 : Int)), (.i .u32 n60), (.i .u32 n63), (.i .u16 n65), (.p o67), (.p .none), (.p o69), (.i .i64 (0 : Int)), (.i .i64 (0 : Int)), (.i .i64 (0 : Int)), (.i .u32 (0 : Int)), (.i .u64 (0 : Int)), (.i .u64 (0 : Int)), (.i .u64 (0 : Int)), (.p o71), (.p .none), (.p .none), (.p .none), (.p .none), (.sl .none), (.i .u32 (0 : Int)), (.i .u64 (0 : Int)), (.b .false), (.i .u64 (0 : Int)), (.sl .none), (.i .u64 (0 : Int))] fun a72 =>
    .call 38 [(.sc (.i .i64 (64 : Int)))] fun v73 =>
    .asT 2 v73 fun l74 =>
    .nthC l74 0 fun v75 =>
    .asP (v75.av) fun o76 =>
    .nthC l74 1 fun v77 =>
    .asI .i64 (v77.av) fun n78 =>
    .nn (.some (a72, 0)) fun a79 a80 =>
    .st a79 (a80 + 16) [(.p o76)] (
    .ld a0 (0 + 7) 1 fun l81 =>
    .nth l81 0 fun v82 =>
    .asI .u64 (.sc v82) fun n83 =>
    .ld a0 (0 + 7) 1 fun l84 =>
    .nth l84 0 fun v85 =>
    .asI .u64 (.sc v85) fun n86 =>
    .call 39 [(.sc (.i .u64 n83)), (.sc (.i .u64 n86))] fun v87 =>
    .asT 2 v87 fun l88 =>
    .nthC l88 0 fun v89 =>
    .asA 7 (v89.av) fun l90 =>
    .nth l90 0 fun v91 =>
    .asI .i64 (.sc v91) fun n92 =>
    .nth l90 1 fun v93 =>
    .asI .i64 (.sc v93) fun n94 =>
    .nth l90 2 fun v95 =>
    .asI .i64 (.sc v95) fun n96 =>
    .nth l90 3 fun v97 =>
    .asI .u32 (.sc v97) fun n98 =>
    .nth l90 4 fun v99 =>
    .asI .u64 (.sc v99) fun n100 =>
    .nth l90 5 fun v101 =>
    .asI .u64 (.sc v101) fun n102 =>
    .nth l90 6 fun v103 =>
    .asI .u64 (.sc v103) fun n104 =>
    .nthC l88 1 fun v105 =>
    .asI .i64 (v105.av) fun n106 =>
    .nn (.some (a72, 0)) fun a107 a108 =>
    .st a107 (a108 + 18) [(.i .i64 n92), (.i .i64 n94), (.i .i64 n96), (.i .u32 n98), (.i .u64 n100), (.i .u64 n102), (.i .u64 n104)] (
    .ld a0 (0 + 8) 1 fun l109 =>
    .nth l109 0 fun v110 =>
    .asI .u64 (.sc v110) fun n111 =>
    .call 40 [(.sc (.i .i64 (2 : Int))), (.sc (.i .u64 n111))] fun v112 =>
    .asT 2 v112 fun l113 =>
    .nthC l113 0 fun v114 =>
    .asP (v114.av) fun o115 =>
    .nthC l113 1 fun v116 =>
    .asI .i64 (v116.av) fun n117 =>
    .nn (.some (a72, 0)) fun a118 a119 =>
    .st a118 (a119 + 26) [(.p o115)] (
    .ld a0 (0 + 8) 1 fun l120 =>
    .nth l120 0 fun v121 =>
    .asI .u64 (.sc v121) fun n122 =>
    .call 41 [(.sc (.i .i64 (8 : Int))), (.sc (.i .u64 n122))] fun v123 =>
    .asT 2 v123 fun l124 =>
    .nthC l124 0 fun v125 =>
    .asP (v125.av) fun o126 =>
    .nthC l124 1 fun v127 =>
    .asI .i64 (v127.av) fun n128 =>
    .nn (.some (a72, 0)) fun a129 a130 =>
    .st a129 (a130 + 27) [(.p o126)] (
    .ld a0 (0 + 7) 1 fun l131 =>
    .nth l131 0 fun v132 =>
    .asI .u64 (.sc v132) fun n133 =>
    .call 42 [(.sc (.i .i64 (2 : Int))), (.sc (.i .u64 n133))] fun v134 =>
    .asT 2 v134 fun l135 =>
    .nthC l135 0 fun v136 =>
    .asP (v136.av) fun o137 =>
    .nthC l135 1 fun v138 =>
    .asI .i64 (v138.av) fun n139 =>
    .nn (.some (a72, 0)) fun a140 a141 =>
    .st a140 (a141 + 28) [(.p o137)] (
    .ld a0 (0 + 7) 1 fun l142 =>
    .nth l142 0 fun v143 =>
    .asI .u64 (.sc v143) fun n144 =>
    .ld a0 (0 + 7) 1 fun l145 =>
    .nth l145 0 fun v146 =>
    .asI .u64 (.sc v146) fun n147 =>
    .ld a0 (0 + 8) 1 fun l148 =>
    .nth l148 0 fun v149 =>
    .asI .u64 (.sc v149) fun n150 =>
    .call 43 [(.sc (.i .i64 (3 : Int))), (.sc (.i .u64 n144)), (.sc (.i .u64 n147)), (.sc (.i .u64 n150))] fun v151 =>
    .asT 2 v151 fun l152 =>
    .nthC l152 0 fun v153 =>
    .asP (v153.av) fun o154 =>
    .nthC l152 1 fun v155 =>
    .asI .i64 (v155.av) fun n156 =>
    .nn (.some (a72, 0)) fun a157 a158 =>
    .st a157 (a158 + 29) [(.p o154)] (
    .nn (.some (a72, 0)) fun a159 a160 =>
    .ld a159 (a160 + 15) 1 fun l161 =>
    .nth l161 0 fun v162 =>
    .asP (.sc v162) fun o163 =>
    .nn (.some (a72, 0)) fun a164 a165 =>
    .ld a164 (a165 + 10) 5 fun l166 =>
    .nth l166 0 fun v167 =>
    .asI .i64 (.sc v167) fun n168 =>
    .nth l166 1 fun v169 =>
    .asI .i64 (.sc v169) fun n170 =>
    .nth l166 2 fun v171 =>
    .asI .u32 (.sc v171) fun n172 =>
    .nth l166 3 fun v173 =>
    .asI .u32 (.sc v173) fun n174 =>
    .nth l166 4 fun v175 =>
    .asI .u16 (.sc v175) fun n176 =>
    .call 20 [(.sc (.p o163)), (.ag [(.i .i64 n168), (.i .i64 n170), (.i .u32 n172), (.i .u32 n174), (.i .u16 n176)])] fun v177 =>
    .asT 2 v177 fun l178 =>
    .nthC l178 0 fun v179 =>
    .asB (v179.av) fun b180 =>
    .nthC l178 1 fun v181 =>
    .asI .i64 (v181.av) fun n182 =>
    .ld a0 (0 + 6) 1 fun l183 =>
    .nth l183 0 fun v184 =>
    .asL (.sc v184) fun o185 =>
    .loop t8_b186 [(.sc (.p (.some (a0, 0)))), (.sc (.p (.some (a72, 0)))), (.sc (.sl o185)), (.sc (.i .i64 (slLen o185))), (.sc (.i .i64 (0 : Int)))] t8_k186)))))))))))))))))))))
theorem t8_eq (n0_0 : Int) (n0_1 : Int) (n0_2 : Int) (n0_3 m0_3 : Nat) (n0_4 : Int) (n0_5 : Int) (s0_6 : Option SlD) (n0_7 : Int) (n0_8 : Int) (n0_9 : Int) : bodyK T (hs 8) Tryz.f8 [.ag [.i .i64 n0_0, .i .u32 n0_1, .i .u16 n0_2, .cx .f64 n0_3 m0_3, .i .u64 n0_4, .i .u32 n0_5, .sl s0_6, .i .u64 n0_7, .i .u64 n0_8, .i .i64 n0_9]] = t8 n0_0 n0_1 n0_2 n0_3 m0_3 n0_4 n0_5 s0_6 n0_7 n0_8 n0_9 := by kernel_rfl
/-- (*scuttlebutt/node.Node).Take -/
def t15 (p0_ q0_ : Nat) (n1_ : Int) (n2_0 : Int) (n2_1 : Int) (x3_ : ByteArray) : Tree :=
  .al [(.i .u32 n2_0), (.i .u16 n2_1)] fun a0 =>
  cond (decide (n1_ > (4611686018427387904 : Int)))
    (.ret 0 [(.sc (.sl .none))])
    (.nn (.some (p0_, q0_)) fun a1 a2 =>
    .st a1 (a2 + 36) [(.i .u64 n1_)] (
    .ld a0 0 2 fun l3 =>
    .nth l3 0 fun v4 =>
    .asI .u32 (.sc v4) fun n5 =>
    .nth l3 1 fun v6 =>
    .asI .u16 (.sc v6) fun n7 =>
    .call 81 [(.sc (.p (.some (p0_, q0_)))), (.sc (.i .u64 n1_)), (.ag [(.i .u32 n5), (.i .u16 n7)]), (.sc (.s x3_)), (.sc (.b .false))] fun v8 =>
    .call 55 [(.sc (.p (.some (p0_, q0_))))] fun v9 =>
    .asL v9 fun o10 =>
    .ret 0 [(.sc (.sl o10))]))
theorem t15_eq (p0_ q0_ : Nat) (n1_ : Int) (n2_0 : Int) (n2_1 : Int) (x3_ : ByteArray) : bodyK T (hs 15) Tryz.f15 [.sc (.p (some (p0_, q0_))), .sc (.i .u64 n1_), .ag [.i .u32 n2_0, .i .u16 n2_1], .sc (.s x3_)] = t15 p0_ q0_ n1_ n2_0 n2_1 x3_ := by kernel_rfl
/-- (*scuttlebutt/node.Node).View -/
def t19 (p0_ q0_ : Nat) : Tree :=
  .nn (.some (p0_, q0_)) fun a0 a1 =>
  .ld a0 (a1 + 15) 1 fun l2 =>
  .nth l2 0 fun v3 =>
  .asP (.sc v3) fun o4 =>
  .ret 0 [(.sc (.p o4))]
theorem t19_eq (p0_ q0_ : Nat) : bodyK T (hs 19) Tryz.f19 [.sc (.p (some (p0_, q0_)))] = t19 p0_ q0_ := by kernel_rfl
def t20_k34  : Nat → List AV → Tree := fun a38 l39 =>
  .tg a38 0
    (.asP (l39.getD 0 .un) fun o40 =>
    .asP (l39.getD 1 .un) fun o41 =>
    .nn o41 fun a42 a43 =>
    .asI .i64 (l39.getD 2 .un) fun n44 =>
    .asP (l39.getD 3 .un) fun o45 =>
    .nn o45 fun a46 a47 =>
    .asB (l39.getD 4 .un) fun b48 =>
    cond b48
      (.ld a42 a43 5 fun l49 =>
      .nth l49 0 fun v50 =>
      .asI .i64 (.sc v50) fun n51 =>
      .nth l49 1 fun v52 =>
      .asI .i64 (.sc v52) fun n53 =>
      .nth l49 2 fun v54 =>
      .asI .u32 (.sc v54) fun n55 =>
      .nth l49 3 fun v56 =>
      .asI .u32 (.sc v56) fun n57 =>
      .nth l49 4 fun v58 =>
      .asI .u16 (.sc v58) fun n59 =>
      .ld a46 a47 5 fun l60 =>
      .nth l60 0 fun v61 =>
      .asI .i64 (.sc v61) fun n62 =>
      .nth l60 1 fun v63 =>
      .asI .i64 (.sc v63) fun n64 =>
      .nth l60 2 fun v65 =>
      .asI .u32 (.sc v65) fun n66 =>
      .nth l60 3 fun v67 =>
      .asI .u32 (.sc v67) fun n68 =>
      .nth l60 4 fun v69 =>
      .asI .u16 (.sc v69) fun n70 =>
      .call 89 [(.ag [(.i .i64 n51), (.i .i64 n53), (.i .u32 n55), (.i .u32 n57), (.i .u16 n59)]), (.ag [(.i .i64 n62), (.i .i64 n64), (.i .u32 n66), (.i .u32 n68), (.i .u16 n70)])] fun v71 =>
      .asB v71 fun b72 =>
      cond (!b72)
        (.ret 0 [(.tu [(.sc (.b .false)), (.sc (.i .i64 (0 : Int)))])])
        (.ld a42 (a43 + 0) 1 fun l73 =>
        .nth l73 0 fun v74 =>
        .asI .i64 (.sc v74) fun n75 =>
        .ld a42 a43 5 fun l76 =>
        .nth l76 0 fun v77 =>
        .asI .i64 (.sc v77) fun n78 =>
        .nth l76 1 fun v79 =>
        .asI .i64 (.sc v79) fun n80 =>
        .nth l76 2 fun v81 =>
        .asI .u32 (.sc v81) fun n82 =>
        .nth l76 3 fun v83 =>
        .asI .u32 (.sc v83) fun n84 =>
        .nth l76 4 fun v85 =>
        .asI .u16 (.sc v85) fun n86 =>
        .nn o40 fun a87 a88 =>
        .br ((decide ((0 : Int) ≤ n75)) && (decide (n75 < (33 : Int))))
          (.st a87 ((a88 + 0) + ((Int.toNat n75) * 5)) [(.i .i64 n78), (.i .i64 n80), (.i .u32 n82), (.i .u32 n84), (.i .u16 n86)] (
          .ld a42 (a43 + 1) 1 fun l89 =>
          .nth l89 0 fun v90 =>
          .asI .i64 (.sc v90) fun n91 =>
          cond (n44 != n91)
            (.ld a42 (a43 + 0) 1 fun l92 =>
            .nth l92 0 fun v93 =>
            .asI .i64 (.sc v93) fun n94 =>
            .ld a42 (a43 + 1) 1 fun l95 =>
            .nth l95 0 fun v96 =>
            .asI .i64 (.sc v96) fun n97 =>
            .ld a42 (a43 + 2) 1 fun l98 =>
            .nth l98 0 fun v99 =>
            .asI .u32 (.sc v99) fun n100 =>
            .call 90 [(.sc (.p o40)), (.ag [(.i .i64 n94), (.i .i64 n44), (.i .i64 n97), (.i .u32 n100)])] fun v101 =>
            .ret 0 [(.tu [(.sc (.b .true)), (.sc (.i .i64 (0 : Int)))])])
            (.ret 0 [(.tu [(.sc (.b .true)), (.sc (.i .i64 (0 : Int)))])])))
          (.fail)))
      (.ld a42 (a43 + 0) 1 fun l102 =>
      .nth l102 0 fun v103 =>
      .asI .i64 (.sc v103) fun n104 =>
      .ld a42 a43 5 fun l105 =>
      .nth l105 0 fun v106 =>
      .asI .i64 (.sc v106) fun n107 =>
      .nth l105 1 fun v108 =>
      .asI .i64 (.sc v108) fun n109 =>
      .nth l105 2 fun v110 =>
      .asI .u32 (.sc v110) fun n111 =>
      .nth l105 3 fun v112 =>
      .asI .u32 (.sc v112) fun n113 =>
      .nth l105 4 fun v114 =>
      .asI .u16 (.sc v114) fun n115 =>
      .nn o40 fun a116 a117 =>
      .br ((decide ((0 : Int) ≤ n104)) && (decide (n104 < (33 : Int))))
        (.st a116 ((a117 + 0) + ((Int.toNat n104) * 5)) [(.i .i64 n107), (.i .i64 n109), (.i .u32 n111), (.i .u32 n113), (.i .u16 n115)] (
        .ld a42 (a43 + 1) 1 fun l118 =>
        .nth l118 0 fun v119 =>
        .asI .i64 (.sc v119) fun n120 =>
        cond (n44 != n120)
          (.ld a42 (a43 + 0) 1 fun l121 =>
          .nth l121 0 fun v122 =>
          .asI .i64 (.sc v122) fun n123 =>
          .ld a42 (a43 + 1) 1 fun l124 =>
          .nth l124 0 fun v125 =>
          .asI .i64 (.sc v125) fun n126 =>
          .ld a42 (a43 + 2) 1 fun l127 =>
          .nth l127 0 fun v128 =>
          .asI .u32 (.sc v128) fun n129 =>
          .call 90 [(.sc (.p o40)), (.ag [(.i .i64 n123), (.i .i64 n44), (.i .i64 n126), (.i .u32 n129)])] fun v130 =>
          .ret 0 [(.tu [(.sc (.b .true)), (.sc (.i .i64 (0 : Int)))])])
          (.ret 0 [(.tu [(.sc (.b .true)), (.sc (.i .i64 (0 : Int)))])])))
        (.fail)))
    (.fail)
/-- (*scuttlebutt/view.View).Take -/
def t20 (p0_ q0_ : Nat) (n1_0 : Int) (n1_1 : Int) (n1_2 : Int) (n1_3 : Int) (n1_4 : Int) : Tree :=
  .al [(.i .i64 n1_0), (.i .i64 n1_1), (.i .u32 n1_2), (.i .u32 n1_3), (.i .u16 n1_4)] fun a0 =>
  .ld a0 0 5 fun l1 =>
  .nth l1 0 fun v2 =>
  .asI .i64 (.sc v2) fun n3 =>
  .nth l1 1 fun v4 =>
  .asI .i64 (.sc v4) fun n5 =>
  .nth l1 2 fun v6 =>
  .asI .u32 (.sc v6) fun n7 =>
  .nth l1 3 fun v8 =>
  .asI .u32 (.sc v8) fun n9 =>
  .nth l1 4 fun v10 =>
  .asI .u16 (.sc v10) fun n11 =>
  .call 87 [(.ag [(.i .i64 n3), (.i .i64 n5), (.i .u32 n7), (.i .u32 n9), (.i .u16 n11)])] fun v12 =>
  .asB v12 fun b13 =>
  cond (!b13)
    (.ret 0 [(.tu [(.sc (.b .false)), (.sc (.i .i64 (1 : Int)))])])
    (.ld a0 (0 + 0) 1 fun l14 =>
    .nth l14 0 fun v15 =>
    .asI .i64 (.sc v15) fun n16 =>
    .call 88 [(.sc (.p (.some (p0_, q0_)))), (.sc (.i .i64 n16))] fun v17 =>
    .asT 2 v17 fun l18 =>
    .nthC l18 0 fun v19 =>
    .asA 5 (v19.av) fun l20 =>
    .nth l20 0 fun v21 =>
    .asI .i64 (.sc v21) fun n22 =>
    .nth l20 1 fun v23 =>
    .asI .i64 (.sc v23) fun n24 =>
    .nth l20 2 fun v25 =>
    .asI .u32 (.sc v25) fun n26 =>
    .nth l20 3 fun v27 =>
    .asI .u32 (.sc v27) fun n28 =>
    .nth l20 4 fun v29 =>
    .asI .u16 (.sc v29) fun n30 =>
    .nthC l18 1 fun v31 =>
    .asB (v31.av) fun b32 =>
    .al [(.i .i64 (0 : Int)), (.i .i64 (0 : Int)), (.i .u32 (0 : Int)), (.i .u32 (0 : Int)), (.i .u16 (0 : Int))] fun a33 =>
    .st a33 0 [(.i .i64 n22), (.i .i64 n24), (.i .u32 n26), (.i .u32 n28), (.i .u16 n30)] (
    .join (
      cond b32
        (.ld a33 (0 + 1) 1 fun l35 =>
        .nth l35 0 fun v36 =>
        .asI .i64 (.sc v36) fun n37 =>
        .ret 0 [(.sc (.p (.some (p0_, q0_)))), (.sc (.p (.some (a0, 0)))), (.sc (.i .i64 n37)), (.sc (.p (.some (a33, 0)))), (.sc (.b b32))])
        (.ret 0 [(.sc (.p (.some (p0_, q0_)))), (.sc (.p (.some (a0, 0)))), (.sc (.i .i64 (-1 : Int))), (.sc (.p (.some (a33, 0)))), (.sc (.b b32))])) t20_k34))
theorem t20_eq (p0_ q0_ : Nat) (n1_0 : Int) (n1_1 : Int) (n1_2 : Int) (n1_3 : Int) (n1_4 : Int) : bodyK T (hs 20) Tryz.f20 [.sc (.p (some (p0_, q0_))), .ag [.i .i64 n1_0, .i .i64 n1_1, .i .u32 n1_2, .i .u32 n1_3, .i .u16 n1_4]] = t20 p0_ q0_ n1_0 n1_1 n1_2 n1_3 n1_4 := by kernel_rfl
def t33_b4  : List AV → Tree := fun l5 =>
  .asP (l5.getD 0 .un) fun o6 =>
  .nn o6 fun a7 a8 =>
  .asL (l5.getD 1 .un) fun o9 =>
  .asL (l5.getD 2 .un) fun o10 =>
  .asI .i64 (l5.getD 3 .un) fun n11 =>
  .asI .i64 (l5.getD 4 .un) fun n12 =>
  cond (decide (n12 < n11))
    (.ixS 4 o10 n12 fun a13 a14 a15 =>
    .ld a13 (a14 + (a15 * 4)) 4 fun l16 =>
    .nth l16 0 fun v17 =>
    .asI .i64 (.sc v17) fun n18 =>
    .nth l16 1 fun v19 =>
    .asI .u32 (.sc v19) fun n20 =>
    .nth l16 2 fun v21 =>
    .asI .u16 (.sc v21) fun n22 =>
    .nth l16 3 fun v23 =>
    .asC .f64 (.sc v23) fun a24 a25 =>
    .al [(.i .i64 (0 : Int)), (.i .u32 (0 : Int)), (.i .u16 (0 : Int)), (.cx .f64 0 0)] fun a26 =>
    .st a26 0 [(.i .i64 n18), (.i .u32 n20), (.i .u16 n22), (.cx .f64 a24 a25)] (
    .ld a26 (0 + 0) 1 fun l27 =>
    .nth l27 0 fun v28 =>
    .asI .i64 (.sc v28) fun n29 =>
    .call 114 [(.sc (.i .i64 n29))] fun v30 =>
    .asB v30 fun b31 =>
    cond (!b31)
      (.ret 1 [(.sc (.b .false))])
      (.ld a26 (0 + 1) 2 fun l32 =>
      .nth l32 0 fun v33 =>
      .asI .u32 (.sc v33) fun n34 =>
      .nth l32 1 fun v35 =>
      .asI .u16 (.sc v35) fun n36 =>
      .call 115 [(.ag [(.i .u32 n34), (.i .u16 n36)])] fun v37 =>
      .asB v37 fun b38 =>
      cond b38
        (.ret 1 [(.sc (.b .false))])
        (.ld a26 (0 + 3) 1 fun l39 =>
        .nth l39 0 fun v40 =>
        .asC .f64 (.sc v40) fun a41 a42 =>
        .call 116 [(.sc (.cx .f64 a41 a42))] fun v43 =>
        .asB v43 fun b44 =>
        cond (!b44)
          (.ret 1 [(.sc (.b .false))])
          (.ld a26 (0 + 0) 1 fun l45 =>
          .nth l45 0 fun v46 =>
          .asI .i64 (.sc v46) fun n47 =>
          .call 117 [(.sc (.sl o9)), (.sc (.i .i64 n47))] fun v48 =>
          .asB v48 fun b49 =>
          cond b49
            (.ret 1 [(.sc (.b .false))])
            (.ld a26 (0 + 0) 1 fun l50 =>
            .nth l50 0 fun v51 =>
            .asI .i64 (.sc v51) fun n52 =>
            .al [(.i .i64 n52)] fun a53 =>
            .lds 1 (.some (.mk a53 0 1 1 1)) (slN (.some (.mk a53 0 1 1 1))) fun l54 =>
            .app 1 8 o9 l54 (slN (.some (.mk a53 0 1 1 1))) fun o55 =>
            .ret 0 [(.sc (.p (.some (a7, a8)))), (.sc (.sl o55)), (.sc (.sl o10)), (.sc (.i .i64 n11)), (.sc (.i .i64 (IntKind.wrap .i64 (n12 + (1 : Int)))))]))))))
    (.ret 2 [(.sc (.p (.some (a7, a8)))), (.sc (.sl o9))])
def t33_k4  : Nat → List AV → Tree := fun a56 l57 =>
  .tg a56 2
    (.asP (l57.getD 0 .un) fun o58 =>
    .nn o58 fun a59 a60 =>
    .asL (l57.getD 1 .un) fun o61 =>
    .ld a59 (a60 + 0) 1 fun l62 =>
    .nth l62 0 fun v63 =>
    .asI .i64 (.sc v63) fun n64 =>
    .call 114 [(.sc (.i .i64 n64))] fun v65 =>
    .asB v65 fun b66 =>
    cond b66
      (.ld a59 (a60 + 1) 2 fun l67 =>
      .nth l67 0 fun v68 =>
      .asI .u32 (.sc v68) fun n69 =>
      .nth l67 1 fun v70 =>
      .asI .u16 (.sc v70) fun n71 =>
      .call 115 [(.ag [(.i .u32 n69), (.i .u16 n71)])] fun v72 =>
      .asB v72 fun b73 =>
      cond (!b73)
        (.ld a59 (a60 + 3) 1 fun l74 =>
        .nth l74 0 fun v75 =>
        .asC .f64 (.sc v75) fun a76 a77 =>
        .call 116 [(.sc (.cx .f64 a76 a77))] fun v78 =>
        .asB v78 fun b79 =>
        cond b79
          (cond (decide ((slLen o61) ≥ (1 : Int)))
            (cond (decide ((slLen o61) ≤ (8 : Int)))
              (.ld a59 (a60 + 7) 1 fun l80 =>
              .nth l80 0 fun v81 =>
              .asI .u64 (.sc v81) fun n82 =>
              .callv (.sc (.fn 118 [] [])) [(.sc (.i .u64 n82)), (.sc (.i .u64 (2 : Int))), (.sc (.i .u64 (1000 : Int)))] fun v83 =>
              .asB v83 fun b84 =>
              cond b84
                (.ld a59 (a60 + 8) 1 fun l85 =>
                .nth l85 0 fun v86 =>
                .asI .u64 (.sc v86) fun n87 =>
                .ld a59 (a60 + 7) 1 fun l88 =>
                .nth l88 0 fun v89 =>
                .asI .u64 (.sc v89) fun n90 =>
                .callv (.sc (.fn 118 [] [])) [(.sc (.i .u64 n87)), (.sc (.i .u64 n90)), (.sc (.i .u64 (100000 : Int)))] fun v91 =>
                .asB v91 fun b92 =>
                cond b92
                  (.ld a59 (a60 + 9) 1 fun l93 =>
                  .nth l93 0 fun v94 =>
                  .asI .i64 (.sc v94) fun n95 =>
                  cond (decide (n95 ≥ (1 : Int)))
                    (.ld a59 (a60 + 9) 1 fun l96 =>
                    .nth l96 0 fun v97 =>
                    .asI .i64 (.sc v97) fun n98 =>
                    .ret 0 [(.sc (.b (decide (n98 ≤ (4 : Int)))))])
                    (.ret 0 [(.sc (.b .false))]))
                  (.ret 0 [(.sc (.b .false))]))
                (.ret 0 [(.sc (.b .false))]))
              (.ret 0 [(.sc (.b .false))]))
            (.ret 0 [(.sc (.b .false))]))
          (.ret 0 [(.sc (.b .false))]))
        (.ret 0 [(.sc (.b .false))]))
      (.ret 0 [(.sc (.b .false))]))
    (.tg a56 1
      (.asB (l57.getD 0 .un) fun b99 =>
      .ret 0 [(.sc (.b b99))])
      (.fail))
/-- scuttlebutt/node.Right -/
def t33 (n0_0 : Int) (n0_1 : Int) (n0_2 : Int) (n0_3 m0_3 : Nat) (n0_4 : Int) (n0_5 : Int) (s0_6 : Option SlD) (n0_7 : Int) (n0_8 : Int) (n0_9 : Int) : Tree :=
  .al [(.i .i64 n0_0), (.i .u32 n0_1), (.i .u16 n0_2), (.cx .f64 n0_3 m0_3), (.i .u64 n0_4), (.i .u32 n0_5), (.sl s0_6), (.i .u64 n0_7), (.i .u64 n0_8), (.i .i64 n0_9)] fun a0 =>
  .ld a0 (0 + 6) 1 fun l1 =>
  .nth l1 0 fun v2 =>
  .asL (.sc v2) fun o3 =>
  .loop t33_b4 [(.sc (.p (.some (a0, 0)))), (.sc (.sl .none)), (.sc (.sl o3)), (.sc (.i .i64 (slLen o3))), (.sc (.i .i64 (0 : Int)))] t33_k4
theorem t33_eq (n0_0 : Int) (n0_1 : Int) (n0_2 : Int) (n0_3 m0_3 : Nat) (n0_4 : Int) (n0_5 : Int) (s0_6 : Option SlD) (n0_7 : Int) (n0_8 : Int) (n0_9 : Int) : bodyK T (hs 33) Tryz.f33 [.ag [.i .i64 n0_0, .i .u32 n0_1, .i .u16 n0_2, .cx .f64 n0_3 m0_3, .i .u64 n0_4, .i .u32 n0_5, .sl s0_6, .i .u64 n0_7, .i .u64 n0_8, .i .i64 n0_9]] = t33 n0_0 n0_1 n0_2 n0_3 m0_3 n0_4 n0_5 s0_6 n0_7 n0_8 n0_9 := by kernel_rfl
/-- slices.Clone[[]scuttlebutt/node.Seed,scuttlebutt/node.Seed] -/
def t34 (s0_ : Option SlD) : Tree :=
  cond (Option.isNone s0_)
    (.ret 0 [(.sc (.sl .none))])
    (.al (zeros [(.i .i64 (0 : Int)), (.i .u32 (0 : Int)), (.i .u16 (0 : Int)), (.cx .f64 0 0)] 0) fun a0 =>
    .lds 4 s0_ (slN s0_) fun l1 =>
    .app 4 32 (.some (.mk a0 0 0 0 4)) l1 (slN s0_) fun o2 =>
    .ret 0 [(.sc (.sl o2))])
theorem t34_eq (s0_ : Option SlD) : bodyK T (hs 34) Tryz.f34 [.sc (.sl s0_)] = t34 s0_ := by kernel_rfl
/-- scuttlebutt/view.New -/
def t35  : Tree :=
  .al [(.i .i64 (0 : Int)), (.i .i64 (0 : Int)), (.i .u32 (0 : Int)), (.i .u32 (0 : Int)), (.i .u16 (0 : Int)), (.i .i64 (0 : Int)), (.i .i64 (0 : Int)), (.i .u32 (0 : Int)), (.i .u32 (0 : Int)), (.i .u16 (0 : Int)), (.i .i64 (0 : Int)), (.i .i64 (0 : Int)), (.i .u32 (0 : Int)), (.i .u32 (0 : Int)), (.i .u16 (0 : Int)), (.i .i64 (0 : Int)), (.i .i64 (0 : Int)), (.i .u32 (0 : Int)), (.i .u32 (0 : Int)), (.i .u16 (0 : Int)), (.i .i64 (0 : Int)), (.i .i64 (0 : Int)), (.i .u32 (0 : Int)), (.i .u32 (0 : Int)), (.i .u16 (0 : Int)), (.i .i64 (0 : Int)), (.i .i64 (0 : Int)), (.i .u32 (0 : Int)), (.i .u32 (0 : Int)), (.i .u16 (0 : Int)), (.i .i64 (0 : Int)), (.i .i64 (0 : Int)), (.i .u32 (0 : Int)), (.i .u32 (0 : Int)), (.i .u16 (0 : Int)), (.i .i64 (0 : Int)), (.i .i64 (0 : Int)), (.i .u32 (0 : Int)), (.i .u32 (0 : Int)), (.i .u16 (0 : Int)), (.i .i64 (0 : Int)), (.i .i64 (0 : Int)), (.i .u32 (0 : Int)), (.i .u32 (0 : Int)), (.i .u16 (0 : Int)), (.i .i64 (0 : Int)), (.i .i64 (0 : Int)), (.i .u32 (0 : Int)), (.i .u32 (0 : Int)), (.i .u16 (0 : Int)), (.i .i64 (0 : Int)), (.i .i64 (0 : Int)), (.i .u32 (0 : Int)), (.i .u32 (0 : Int)), (.i .u16 (0 : Int)), (.i .i64 (0 : Int)), (.i .i64 (0 : Int)), (.i .u32 (0 : Int)), (.i .u32 (0 : Int)), (.i .u16 (0 : Int)), (.i .i64 (0 : Int)), (.i .i64 (0 : Int)), (.i .u32 (0 : Int)), (.i .u32 (0 : Int)), (.i .u16 (0 : Int)), (.i .i64 (0 : Int)), (.i .i64 (0 : Int)), (.i .u32 (0 : Int)), (.i .u32 (0 : Int)), (.i .u16 (0 : Int)), (.i .i64 (0 : Int)), (.i .i64 (0 : Int)), (.i .u32 (0 : Int)), (.i .u32 (0 : Int)), (.i .u16 (0 : Int)), (.i .i64 (0 : Int)), (.i .i64 (0 : Int)), (.i .u32 (0 : Int)), (.i .u32 (0 : Int)), (.i .u16 (0 : Int)), (.i .i64 (0 : Int)), (.i .i64 (0 : Int)), (.i .u32 (0 : Int)), (.i .u32 (0 : Int)), (.i .u16 (0 : Int)), (.i .i64 (0 : Int)), (.i .i64 (0 : Int)), (.i .u32 (0 : Int)), (.i .u32 (0 : Int)), (.i .u16 (0 : Int)), (.i .i64 (0 : Int)), (.i .i64 (0 : Int)), (.i .u32 (0 : Int)), (.i .u32 (0 : Int)), (.i .u16 (0 : Int)), (.i .i64 (0 : Int)), (.i .i64 (0 : Int)), (.i .u32 (0 : Int)), (.i .u32 (0 : Int)), (.i .u16 (0 : Int)), (.i .i64 (0 : Int)), (.i .i64 (0 : Int)), (.i .u32 (0 : Int)), (.i .u32 (0 : Int)), (.i .u16 (0 : Int)), (.i .i64 (0 : Int)), (.i .i64 (0 : Int)), (.i .u32 (0 : Int)), (.i .u32 (0 : Int)), (.i .u16 (0 : Int)), (.i .i64 (0 : Int)), (.i .i64 (0 : Int)), (.i .u32 (0 : Int)), (.i .u32 (0 : Int)), (.i .u16 (0 : Int)), (.i .i64 (0 : Int)), (.i .i64 (0 : Int)), (.i .u32 (0 : Int)), (.i .u32 (0 : Int)), (.i .u16 (0 : Int)), (.i .i64 (0 : Int)), (.i .i64 (0 : Int)), (.i .u32 (0 : Int)), (.i .u32 (0 : Int)), (.i .u16 (0 : Int)), (.i .i64 (0 : Int)), (.i .i64 (0 : Int)), (.i .u32 (0 : Int)), (.i .u32 (0 : Int)), (.i .u16 (0 : Int)), (.i .i64 (0 : Int)), (.i .i64 (0 : Int)), (.i .u32 (0 : Int)), (.i .u32 (0 : Int)), (.i .u16 (0 : Int)), (.i .i64 (0 : Int)), (.i .i64 (0 : Int)), (.i .u32 (0 : Int)), (.i .u32 (0 : Int)), (.i .u16 (0 : Int)), (.i .i64 (0 : Int)), (.i .i64 (0 : Int)), (.i .u32 (0 : Int)), (.i .u32 (0 : Int)), (.i .u16 (0 : Int)), (.i .i64 (0 : Int)), (.i .i64 (0 : Int)), (.i .u32 (0 : Int)), (.i .u32 (0 : Int)), (.i .u16 (0 : Int)), (.i .i64 (0 : Int)), (.i .i64 (0 : Int)), (.i .u32 (0 : Int)), (.i .u32 (0 : Int)), (.i .u16 (0 : Int)), (.i .i64 (0 : Int)), (.i .i64 (0 : Int)), (.i .u32 (0 : Int)), (.i .u32 (0 : Int)), (.i .u16 (0 : Int)), (.i .i64 (0 : Int)), (.i .i64 (0 : Int)), (.i .u32 (0 : Int)), (.i .u32 (0 : Int)), (.i .u16 (0 : Int)), (.sl .none), (.i .u64 (0 : Int))] fun a0 =>
  .ret 0 [(.sc (.p (.some (a0, 0))))]
theorem t35_eq  : bodyK T (hs 35) Tryz.f35 [] = t35 := by kernel_rfl
/-- scuttlebutt/ring.New -/
def t36 (n0_ : Int) : Tree :=
  .call 119 [(.sc (.i .u64 n0_))] fun v0 =>
  .asA 1 v0 fun l1 =>
  .nth l1 0 fun v2 =>
  .asI .u64 (.sc v2) fun n3 =>
  .al [(.i .u64 n3), (.sl .none)] fun a4 =>
  .ret 0 [(.sc (.p (.some (a4, 0))))]
theorem t36_eq (n0_ : Int) : bodyK T (hs 36) Tryz.f36 [.sc (.i .u64 n0_)] = t36 n0_ := by kernel_rfl
/-- scuttlebutt/doubt.New -/
def t37  : Tree :=
  .al [(.i .i64 (0 : Int)), (.i .u32 (0 : Int)), (.i .u64 (0 : Int)), (.i .u64 (0 : Int)), (.sl .none), (.i .i64 (0 : Int)), (.i .u32 (0 : Int)), (.i .u64 (0 : Int)), (.i .u64 (0 : Int)), (.sl .none), (.i .i64 (0 : Int)), (.i .u32 (0 : Int)), (.i .u64 (0 : Int)), (.i .u64 (0 : Int)), (.sl .none), (.i .i64 (0 : Int)), (.i .u32 (0 : Int)), (.i .u64 (0 : Int)), (.i .u64 (0 : Int)), (.sl .none), (.i .i64 (0 : Int)), (.i .u32 (0 : Int)), (.i .u64 (0 : Int)), (.i .u64 (0 : Int)), (.sl .none), (.i .i64 (0 : Int)), (.i .u32 (0 : Int)), (.i .u64 (0 : Int)), (.i .u64 (0 : Int)), (.sl .none), (.i .i64 (0 : Int)), (.i .u32 (0 : Int)), (.i .u64 (0 : Int)), (.i .u64 (0 : Int)), (.sl .none), (.i .i64 (0 : Int)), (.i .u32 (0 : Int)), (.i .u64 (0 : Int)), (.i .u64 (0 : Int)), (.sl .none), (.i .i64 (0 : Int)), (.i .u32 (0 : Int)), (.i .u64 (0 : Int)), (.i .u64 (0 : Int)), (.sl .none), (.i .i64 (0 : Int)), (.i .u32 (0 : Int)), (.i .u64 (0 : Int)), (.i .u64 (0 : Int)), (.sl .none), (.i .i64 (0 : Int)), (.i .u32 (0 : Int)), (.i .u64 (0 : Int)), (.i .u64 (0 : Int)), (.sl .none), (.i .i64 (0 : Int)), (.i .u32 (0 : Int)), (.i .u64 (0 : Int)), (.i .u64 (0 : Int)), (.sl .none), (.i .i64 (0 : Int)), (.i .u32 (0 : Int)), (.i .u64 (0 : Int)), (.i .u64 (0 : Int)), (.sl .none), (.i .i64 (0 : Int)), (.i .u32 (0 : Int)), (.i .u64 (0 : Int)), (.i .u64 (0 : Int)), (.sl .none), (.i .i64 (0 : Int)), (.i .u32 (0 : Int)), (.i .u64 (0 : Int)), (.i .u64 (0 : Int)), (.sl .none), (.i .i64 (0 : Int)), (.i .u32 (0 : Int)), (.i .u64 (0 : Int)), (.i .u64 (0 : Int)), (.sl .none), (.i .i64 (0 : Int)), (.i .u32 (0 : Int)), (.i .u64 (0 : Int)), (.i .u64 (0 : Int)), (.sl .none), (.i .i64 (0 : Int)), (.i .u32 (0 : Int)), (.i .u64 (0 : Int)), (.i .u64 (0 : Int)), (.sl .none), (.i .i64 (0 : Int)), (.i .u32 (0 : Int)), (.i .u64 (0 : Int)), (.i .u64 (0 : Int)), (.sl .none), (.i .i64 (0 : Int)), (.i .u32 (0 : Int)), (.i .u64 (0 : Int)), (.i .u64 (0 : Int)), (.sl .none), (.i .i64 (0 : Int)), (.i .u32 (0 : Int)), (.i .u64 (0 : Int)), (.i .u64 (0 : Int)), (.sl .none), (.i .i64 (0 : Int)), (.i .u32 (0 : Int)), (.i .u64 (0 : Int)), (.i .u64 (0 : Int)), (.sl .none), (.i .i64 (0 : Int)), (.i .u32 (0 : Int)), (.i .u64 (0 : Int)), (.i .u64 (0 : Int)), (.sl .none), (.i .i64 (0 : Int)), (.i .u32 (0 : Int)), (.i .u64 (0 : Int)), (.i .u64 (0 : Int)), (.sl .none), (.i .i64 (0 : Int)), (.i .u32 (0 : Int)), (.i .u64 (0 : Int)), (.i .u64 (0 : Int)), (.sl .none), (.i .i64 (0 : Int)), (.i .u32 (0 : Int)), (.i .u64 (0 : Int)), (.i .u64 (0 : Int)), (.sl .none), (.i .i64 (0 : Int)), (.i .u32 (0 : Int)), (.i .u64 (0 : Int)), (.i .u64 (0 : Int)), (.sl .none), (.i .i64 (0 : Int)), (.i .u32 (0 : Int)), (.i .u64 (0 : Int)), (.i .u64 (0 : Int)), (.sl .none), (.i .i64 (0 : Int)), (.i .u32 (0 : Int)), (.i .u64 (0 : Int)), (.i .u64 (0 : Int)), (.sl .none), (.i .i64 (0 : Int)), (.i .u32 (0 : Int)), (.i .u64 (0 : Int)), (.i .u64 (0 : Int)), (.sl .none), (.i .i64 (0 : Int)), (.i .u32 (0 : Int)), (.i .u64 (0 : Int)), (.i .u64 (0 : Int)), (.sl .none), (.i .i64 (0 : Int)), (.i .u32 (0 : Int)), (.i .u64 (0 : Int)), (.i .u64 (0 : Int)), (.sl .none), (.i .i64 (0 : Int)), (.i .u32 (0 : Int)), (.i .u64 (0 : Int)), (.i .u64 (0 : Int)), (.sl .none)] fun a0 =>
  .ret 0 [(.sc (.p (.some (a0, 0))))]
theorem t37_eq  : bodyK T (hs 37) Tryz.f37 [] = t37 := by kernel_rfl
/-- scuttlebutt/queue.New -/
def t38 (n0_ : Int) : Tree :=
  cond (decide (n0_ < (1 : Int)))
    (.ret 0 [(.tu [(.sc (.p .none)), (.sc (.i .i64 (1 : Int)))])])
    (cond (decide (n0_ > (64 : Int)))
      (.ret 0 [(.tu [(.sc (.p .none)), (.sc (.i .i64 (1 : Int)))])])
      (.al [(.sl .none), (.i .i64 n0_)] fun a0 =>
      .ret 0 [(.tu [(.sc (.p (.some (a0, 0)))), (.sc (.i .i64 (0 : Int)))])]))
theorem t38_eq (n0_ : Int) : bodyK T (hs 38) Tryz.f38 [.sc (.i .i64 n0_)] = t38 n0_ := by kernel_rfl
/-- scuttlebutt/probe.New -/
def t39 (n0_ : Int) (n1_ : Int) : Tree :=
  .al [(.i .i64 (0 : Int)), (.i .i64 (0 : Int)), (.i .i64 (0 : Int)), (.i .u32 (0 : Int)), (.i .u64 (0 : Int)), (.i .u64 (0 : Int)), (.i .u64 (0 : Int))] fun a0 =>
  cond ((minI n0_ n1_) == (0 : Int))
    (.st a0 0 [(.i .i64 (0 : Int)), (.i .i64 (0 : Int)), (.i .i64 (0 : Int)), (.i .u32 (0 : Int)), (.i .u64 (0 : Int)), (.i .u64 (0 : Int)), (.i .u64 (0 : Int))] (
    .ld a0 0 7 fun l1 =>
    .nth l1 0 fun v2 =>
    .asI .i64 (.sc v2) fun n3 =>
    .nth l1 1 fun v4 =>
    .asI .i64 (.sc v4) fun n5 =>
    .nth l1 2 fun v6 =>
    .asI .i64 (.sc v6) fun n7 =>
    .nth l1 3 fun v8 =>
    .asI .u32 (.sc v8) fun n9 =>
    .nth l1 4 fun v10 =>
    .asI .u64 (.sc v10) fun n11 =>
    .nth l1 5 fun v12 =>
    .asI .u64 (.sc v12) fun n13 =>
    .nth l1 6 fun v14 =>
    .asI .u64 (.sc v14) fun n15 =>
    .ret 0 [(.tu [(.ag [(.i .i64 n3), (.i .i64 n5), (.i .i64 n7), (.i .u32 n9), (.i .u64 n11), (.i .u64 n13), (.i .u64 n15)]), (.sc (.i .i64 (1 : Int)))])]))
    (cond (decide ((maxI n0_ n1_) > (1000000 : Int)))
      (.st a0 0 [(.i .i64 (0 : Int)), (.i .i64 (0 : Int)), (.i .i64 (0 : Int)), (.i .u32 (0 : Int)), (.i .u64 (0 : Int)), (.i .u64 (0 : Int)), (.i .u64 (0 : Int))] (
      .ld a0 0 7 fun l16 =>
      .nth l16 0 fun v17 =>
      .asI .i64 (.sc v17) fun n18 =>
      .nth l16 1 fun v19 =>
      .asI .i64 (.sc v19) fun n20 =>
      .nth l16 2 fun v21 =>
      .asI .i64 (.sc v21) fun n22 =>
      .nth l16 3 fun v23 =>
      .asI .u32 (.sc v23) fun n24 =>
      .nth l16 4 fun v25 =>
      .asI .u64 (.sc v25) fun n26 =>
      .nth l16 5 fun v27 =>
      .asI .u64 (.sc v27) fun n28 =>
      .nth l16 6 fun v29 =>
      .asI .u64 (.sc v29) fun n30 =>
      .ret 0 [(.tu [(.ag [(.i .i64 n18), (.i .i64 n20), (.i .i64 n22), (.i .u32 n24), (.i .u64 n26), (.i .u64 n28), (.i .u64 n30)]), (.sc (.i .i64 (1 : Int)))])]))
      (.st a0 0 [(.i .i64 (0 : Int)), (.i .i64 (0 : Int)), (.i .i64 (0 : Int)), (.i .u32 (0 : Int)), (.i .u64 (0 : Int)), (.i .u64 n0_), (.i .u64 n1_)] (
      .ld a0 0 7 fun l31 =>
      .nth l31 0 fun v32 =>
      .asI .i64 (.sc v32) fun n33 =>
      .nth l31 1 fun v34 =>
      .asI .i64 (.sc v34) fun n35 =>
      .nth l31 2 fun v36 =>
      .asI .i64 (.sc v36) fun n37 =>
      .nth l31 3 fun v38 =>
      .asI .u32 (.sc v38) fun n39 =>
      .nth l31 4 fun v40 =>
      .asI .u64 (.sc v40) fun n41 =>
      .nth l31 5 fun v42 =>
      .asI .u64 (.sc v42) fun n43 =>
      .nth l31 6 fun v44 =>
      .asI .u64 (.sc v44) fun n45 =>
      .ret 0 [(.tu [(.ag [(.i .i64 n33), (.i .i64 n35), (.i .i64 n37), (.i .u32 n39), (.i .u64 n41), (.i .u64 n43), (.i .u64 n45)]), (.sc (.i .i64 (0 : Int)))])])))
theorem t39_eq (n0_ : Int) (n1_ : Int) : bodyK T (hs 39) Tryz.f39 [.sc (.i .u64 n0_), .sc (.i .u64 n1_)] = t39 n0_ n1_ := by kernel_rfl
/-- scuttlebutt/reach.New -/
def t40 (n0_ : Int) (n1_ : Int) : Tree :=
  cond (decide (n0_ < (1 : Int)))
    (.ret 0 [(.tu [(.sc (.p .none)), (.sc (.i .i64 (1 : Int)))])])
    (cond (decide (n0_ > (8 : Int)))
      (.ret 0 [(.tu [(.sc (.p .none)), (.sc (.i .i64 (1 : Int)))])])
      (cond (n1_ == (0 : Int))
        (.ret 0 [(.tu [(.sc (.p .none)), (.sc (.i .i64 (1 : Int)))])])
        (cond (decide (n1_ > (1000000 : Int)))
          (.ret 0 [(.tu [(.sc (.p .none)), (.sc (.i .i64 (1 : Int)))])])
          (.al [(.i .i64 n0_), (.i .u64 n1_), (.i .i64 (0 : Int)), (.i .u32 (0 : Int)), (.i .u16 (0 : Int)), (.i .u64 (0 : Int)), (.i .i64 (0 : Int)), (.i .u32 (0 : Int)), (.i .u16 (0 : Int)), (.i .u64 (0 : Int)), (.i .i64 (0 : Int)), (.i .u32 (0 : Int)), (.i .u16 (0 : Int)), (.i .u64 (0 : Int)), (.i .i64 (0 : Int)), (.i .u32 (0 : Int)), (.i .u16 (0 : Int)), (.i .u64 (0 : Int)), (.i .i64 (0 : Int)), (.i .u32 (0 : Int)), (.i .u16 (0 : Int)), (.i .u64 (0 : Int)), (.i .i64 (0 : Int)), (.i .u32 (0 : Int)), (.i .u16 (0 : Int)), (.i .u64 (0 : Int)), (.i .i64 (0 : Int)), (.i .u32 (0 : Int)), (.i .u16 (0 : Int)), (.i .u64 (0 : Int)), (.i .i64 (0 : Int)), (.i .u32 (0 : Int)), (.i .u16 (0 : Int)), (.i .u64 (0 : Int)), (.i .i64 (0 : Int)), (.i .u32 (0 : Int)), (.i .u16 (0 : Int)), (.i .u64 (0 : Int)), (.i .i64 (0 : Int)), (.i .u32 (0 : Int)), (.i .u16 (0 : Int)), (.i .u64 (0 : Int)), (.i .i64 (0 : Int)), (.i .u32 (0 : Int)), (.i .u16 (0 : Int)), (.i .u64 (0 : Int)), (.i .i64 (0 : Int)), (.i .u32 (0 : Int)), (.i .u16 (0 : Int)), (.i .u64 (0 : Int)), (.i .i64 (0 : Int)), (.i .u32 (0 : Int)), (.i .u16 (0 : Int)), (.i .u64 (0 : Int)), (.i .i64 (0 : Int)), (.i .u32 (0 : Int)), (.i .u16 (0 : Int)), (.i .u64 (0 : Int)), (.i .i64 (0 : Int)), (.i .u32 (0 : Int)), (.i .u16 (0 : Int)), (.i .u64 (0 : Int)), (.i .i64 (0 : Int)), (.i .u32 (0 : Int)), (.i .u16 (0 : Int)), (.i .u64 (0 : Int)), (.i .i64 (0 : Int)), (.i .u32 (0 : Int)), (.i .u16 (0 : Int)), (.i .u64 (0 : Int)), (.i .i64 (0 : Int)), (.i .u32 (0 : Int)), (.i .u16 (0 : Int)), (.i .u64 (0 : Int)), (.i .i64 (0 : Int)), (.i .u32 (0 : Int)), (.i .u16 (0 : Int)), (.i .u64 (0 : Int)), (.i .i64 (0 : Int)), (.i .u32 (0 : Int)), (.i .u16 (0 : Int)), (.i .u64 (0 : Int)), (.i .i64 (0 : Int)), (.i .u32 (0 : Int)), (.i .u16 (0 : Int)), (.i .u64 (0 : Int)), (.i .i64 (0 : Int)), (.i .u32 (0 : Int)), (.i .u16 (0 : Int)), (.i .u64 (0 : Int)), (.i .i64 (0 : Int)), (.i .u32 (0 : Int)), (.i .u16 (0 : Int)), (.i .u64 (0 : Int)), (.i .i64 (0 : Int)), (.i .u32 (0 : Int)), (.i .u16 (0 : Int)), (.i .u64 (0 : Int)), (.i .i64 (0 : Int)), (.i .u32 (0 : Int)), (.i .u16 (0 : Int)), (.i .u64 (0 : Int)), (.i .i64 (0 : Int)), (.i .u32 (0 : Int)), (.i .u16 (0 : Int)), (.i .u64 (0 : Int)), (.i .i64 (0 : Int)), (.i .u32 (0 : Int)), (.i .u16 (0 : Int)), (.i .u64 (0 : Int)), (.i .i64 (0 : Int)), (.i .u32 (0 : Int)), (.i .u16 (0 : Int)), (.i .u64 (0 : Int)), (.i .i64 (0 : Int)), (.i .u32 (0 : Int)), (.i .u16 (0 : Int)), (.i .u64 (0 : Int)), (.i .i64 (0 : Int)), (.i .u32 (0 : Int)), (.i .u16 (0 : Int)), (.i .u64 (0 : Int)), (.i .i64 (0 : Int)), (.i .u32 (0 : Int)), (.i .u16 (0 : Int)), (.i .u64 (0 : Int)), (.i .i64 (0 : Int)), (.i .u32 (0 : Int)), (.i .u16 (0 : Int)), (.i .u64 (0 : Int)), (.i .i64 (0 : Int)), (.i .u32 (0 : Int)), (.i .u16 (0 : Int)), (.i .u64 (0 : Int)), (.sl .none), (.b .false), (.i .u32 (0 : Int)), (.b .false)] fun a0 =>
          .ret 0 [(.tu [(.sc (.p (.some (a0, 0)))), (.sc (.i .i64 (0 : Int)))])]))))
theorem t40_eq (n0_ : Int) (n1_ : Int) : bodyK T (hs 40) Tryz.f40 [.sc (.i .i64 n0_), .sc (.i .u64 n1_)] = t40 n0_ n1_ := by kernel_rfl
/-- scuttlebutt/lease.NewTable -/
def t41 (n0_ : Int) (n1_ : Int) : Tree :=
  cond (decide (n0_ < (1 : Int)))
    (.ret 0 [(.tu [(.sc (.p .none)), (.sc (.i .i64 (1 : Int)))])])
    (cond (decide (n0_ > (8 : Int)))
      (.ret 0 [(.tu [(.sc (.p .none)), (.sc (.i .i64 (1 : Int)))])])
      (cond (n1_ == (0 : Int))
        (.ret 0 [(.tu [(.sc (.p .none)), (.sc (.i .i64 (1 : Int)))])])
        (cond (decide (n1_ > (1000000 : Int)))
          (.ret 0 [(.tu [(.sc (.p .none)), (.sc (.i .i64 (1 : Int)))])])
          (.al [(.i .i64 n0_), (.i .u64 n1_), (.i .i64 (0 : Int)), (.i .u32 (0 : Int)), (.i .u16 (0 : Int)), (.i .u64 (0 : Int)), (.i .i64 (0 : Int)), (.i .u32 (0 : Int)), (.i .u16 (0 : Int)), (.i .u64 (0 : Int)), (.i .i64 (0 : Int)), (.i .u32 (0 : Int)), (.i .u16 (0 : Int)), (.i .u64 (0 : Int)), (.i .i64 (0 : Int)), (.i .u32 (0 : Int)), (.i .u16 (0 : Int)), (.i .u64 (0 : Int)), (.i .i64 (0 : Int)), (.i .u32 (0 : Int)), (.i .u16 (0 : Int)), (.i .u64 (0 : Int)), (.i .i64 (0 : Int)), (.i .u32 (0 : Int)), (.i .u16 (0 : Int)), (.i .u64 (0 : Int)), (.i .i64 (0 : Int)), (.i .u32 (0 : Int)), (.i .u16 (0 : Int)), (.i .u64 (0 : Int)), (.i .i64 (0 : Int)), (.i .u32 (0 : Int)), (.i .u16 (0 : Int)), (.i .u64 (0 : Int)), (.i .i64 (0 : Int)), (.i .u32 (0 : Int)), (.i .u16 (0 : Int)), (.i .u64 (0 : Int)), (.i .i64 (0 : Int)), (.i .u32 (0 : Int)), (.i .u16 (0 : Int)), (.i .u64 (0 : Int)), (.i .i64 (0 : Int)), (.i .u32 (0 : Int)), (.i .u16 (0 : Int)), (.i .u64 (0 : Int)), (.i .i64 (0 : Int)), (.i .u32 (0 : Int)), (.i .u16 (0 : Int)), (.i .u64 (0 : Int)), (.i .i64 (0 : Int)), (.i .u32 (0 : Int)), (.i .u16 (0 : Int)), (.i .u64 (0 : Int)), (.i .i64 (0 : Int)), (.i .u32 (0 : Int)), (.i .u16 (0 : Int)), (.i .u64 (0 : Int)), (.i .i64 (0 : Int)), (.i .u32 (0 : Int)), (.i .u16 (0 : Int)), (.i .u64 (0 : Int)), (.i .i64 (0 : Int)), (.i .u32 (0 : Int)), (.i .u16 (0 : Int)), (.i .u64 (0 : Int)), (.i .i64 (0 : Int)), (.i .u32 (0 : Int)), (.i .u16 (0 : Int)), (.i .u64 (0 : Int)), (.i .i64 (0 : Int)), (.i .u32 (0 : Int)), (.i .u16 (0 : Int)), (.i .u64 (0 : Int)), (.i .i64 (0 : Int)), (.i .u32 (0 : Int)), (.i .u16 (0 : Int)), (.i .u64 (0 : Int)), (.i .i64 (0 : Int)), (.i .u32 (0 : Int)), (.i .u16 (0 : Int)), (.i .u64 (0 : Int)), (.i .i64 (0 : Int)), (.i .u32 (0 : Int)), (.i .u16 (0 : Int)), (.i .u64 (0 : Int)), (.i .i64 (0 : Int)), (.i .u32 (0 : Int)), (.i .u16 (0 : Int)), (.i .u64 (0 : Int)), (.i .i64 (0 : Int)), (.i .u32 (0 : Int)), (.i .u16 (0 : Int)), (.i .u64 (0 : Int)), (.i .i64 (0 : Int)), (.i .u32 (0 : Int)), (.i .u16 (0 : Int)), (.i .u64 (0 : Int)), (.i .i64 (0 : Int)), (.i .u32 (0 : Int)), (.i .u16 (0 : Int)), (.i .u64 (0 : Int)), (.i .i64 (0 : Int)), (.i .u32 (0 : Int)), (.i .u16 (0 : Int)), (.i .u64 (0 : Int)), (.i .i64 (0 : Int)), (.i .u32 (0 : Int)), (.i .u16 (0 : Int)), (.i .u64 (0 : Int)), (.i .i64 (0 : Int)), (.i .u32 (0 : Int)), (.i .u16 (0 : Int)), (.i .u64 (0 : Int)), (.i .i64 (0 : Int)), (.i .u32 (0 : Int)), (.i .u16 (0 : Int)), (.i .u64 (0 : Int)), (.i .i64 (0 : Int)), (.i .u32 (0 : Int)), (.i .u16 (0 : Int)), (.i .u64 (0 : Int)), (.i .i64 (0 : Int)), (.i .u32 (0 : Int)), (.i .u16 (0 : Int)), (.i .u64 (0 : Int)), (.i .i64 (0 : Int)), (.i .u32 (0 : Int)), (.i .u16 (0 : Int)), (.i .u64 (0 : Int)), (.i .i64 (0 : Int)), (.i .u32 (0 : Int)), (.i .u16 (0 : Int)), (.i .u64 (0 : Int))] fun a0 =>
          .ret 0 [(.tu [(.sc (.p (.some (a0, 0)))), (.sc (.i .i64 (0 : Int)))])]))))
theorem t41_eq (n0_ : Int) (n1_ : Int) : bodyK T (hs 41) Tryz.f41 [.sc (.i .i64 n0_), .sc (.i .u64 n1_)] = t41 n0_ n1_ := by kernel_rfl
/-- scuttlebutt/lease.NewLeases -/
def t42 (n0_ : Int) (n1_ : Int) : Tree :=
  cond (decide (n0_ < (1 : Int)))
    (.ret 0 [(.tu [(.sc (.p .none)), (.sc (.i .i64 (1 : Int)))])])
    (cond (decide (n0_ > (8 : Int)))
      (.ret 0 [(.tu [(.sc (.p .none)), (.sc (.i .i64 (1 : Int)))])])
      (cond (n1_ == (0 : Int))
        (.ret 0 [(.tu [(.sc (.p .none)), (.sc (.i .i64 (1 : Int)))])])
        (cond (decide (n1_ > (1000000 : Int)))
          (.ret 0 [(.tu [(.sc (.p .none)), (.sc (.i .i64 (1 : Int)))])])
          (.al [(.i .i64 n0_), (.i .u64 n1_), (.i .i64 (0 : Int)), (.i .u64 (0 : Int)), (.i .u64 (0 : Int)), (.i .i64 (0 : Int)), (.i .u64 (0 : Int)), (.i .u64 (0 : Int)), (.i .i64 (0 : Int)), (.i .u64 (0 : Int)), (.i .u64 (0 : Int)), (.i .i64 (0 : Int)), (.i .u64 (0 : Int)), (.i .u64 (0 : Int)), (.i .i64 (0 : Int)), (.i .u64 (0 : Int)), (.i .u64 (0 : Int)), (.i .i64 (0 : Int)), (.i .u64 (0 : Int)), (.i .u64 (0 : Int)), (.i .i64 (0 : Int)), (.i .u64 (0 : Int)), (.i .u64 (0 : Int)), (.i .i64 (0 : Int)), (.i .u64 (0 : Int)), (.i .u64 (0 : Int)), (.i .i64 (0 : Int)), (.i .u64 (0 : Int)), (.i .u64 (0 : Int)), (.i .i64 (0 : Int)), (.i .u64 (0 : Int)), (.i .u64 (0 : Int)), (.i .i64 (0 : Int)), (.i .u64 (0 : Int)), (.i .u64 (0 : Int)), (.i .i64 (0 : Int)), (.i .u64 (0 : Int)), (.i .u64 (0 : Int)), (.i .i64 (0 : Int)), (.i .u64 (0 : Int)), (.i .u64 (0 : Int)), (.i .i64 (0 : Int)), (.i .u64 (0 : Int)), (.i .u64 (0 : Int)), (.i .i64 (0 : Int)), (.i .u64 (0 : Int)), (.i .u64 (0 : Int)), (.i .i64 (0 : Int)), (.i .u64 (0 : Int)), (.i .u64 (0 : Int)), (.i .i64 (0 : Int)), (.i .u64 (0 : Int)), (.i .u64 (0 : Int)), (.i .i64 (0 : Int)), (.i .u64 (0 : Int)), (.i .u64 (0 : Int)), (.i .i64 (0 : Int)), (.i .u64 (0 : Int)), (.i .u64 (0 : Int)), (.i .i64 (0 : Int)), (.i .u64 (0 : Int)), (.i .u64 (0 : Int)), (.i .i64 (0 : Int)), (.i .u64 (0 : Int)), (.i .u64 (0 : Int)), (.i .i64 (0 : Int)), (.i .u64 (0 : Int)), (.i .u64 (0 : Int)), (.i .i64 (0 : Int)), (.i .u64 (0 : Int)), (.i .u64 (0 : Int)), (.i .i64 (0 : Int)), (.i .u64 (0 : Int)), (.i .u64 (0 : Int)), (.i .i64 (0 : Int)), (.i .u64 (0 : Int)), (.i .u64 (0 : Int)), (.i .i64 (0 : Int)), (.i .u64 (0 : Int)), (.i .u64 (0 : Int)), (.i .i64 (0 : Int)), (.i .u64 (0 : Int)), (.i .u64 (0 : Int)), (.i .i64 (0 : Int)), (.i .u64 (0 : Int)), (.i .u64 (0 : Int)), (.i .i64 (0 : Int)), (.i .u64 (0 : Int)), (.i .u64 (0 : Int)), (.i .i64 (0 : Int)), (.i .u64 (0 : Int)), (.i .u64 (0 : Int)), (.i .i64 (0 : Int)), (.i .u64 (0 : Int)), (.i .u64 (0 : Int)), (.i .i64 (0 : Int)), (.i .u64 (0 : Int)), (.i .u64 (0 : Int)), (.i .i64 (0 : Int)), (.i .u64 (0 : Int)), (.i .u64 (0 : Int))] fun a0 =>
          .ret 0 [(.tu [(.sc (.p (.some (a0, 0)))), (.sc (.i .i64 (0 : Int)))])]))))
theorem t42_eq (n0_ : Int) (n1_ : Int) : bodyK T (hs 42) Tryz.f42 [.sc (.i .i64 n0_), .sc (.i .u64 n1_)] = t42 n0_ n1_ := by kernel_rfl
/-- scuttlebutt/path.New -/
def t43 (n0_ : Int) (n1_ : Int) (n2_ : Int) (n3_ : Int) : Tree :=
  cond (decide (n0_ < (1 : Int)))
    (.ret 0 [(.tu [(.sc (.p .none)), (.sc (.i .i64 (1 : Int)))])])
    (cond (decide (n0_ > (8 : Int)))
      (.ret 0 [(.tu [(.sc (.p .none)), (.sc (.i .i64 (1 : Int)))])])
      (cond ((minI (minI n1_ n2_) n3_) == (0 : Int))
        (.ret 0 [(.tu [(.sc (.p .none)), (.sc (.i .i64 (1 : Int)))])])
        (cond (decide ((maxI (maxI n1_ n2_) n3_) > (1000000 : Int)))
          (.ret 0 [(.tu [(.sc (.p .none)), (.sc (.i .i64 (1 : Int)))])])
          (.al [(.i .i64 n0_), (.i .u64 n1_), (.i .u64 n2_), (.i .u64 n3_), (.i .i64 (0 : Int)), (.i .i64 (0 : Int)), (.i .i64 (0 : Int)), (.i .u32 (0 : Int)), (.i .u16 (0 : Int)), (.i .u64 (0 : Int)), (.i .u64 (0 : Int)), (.i .i64 (0 : Int)), (.i .i64 (0 : Int)), (.i .i64 (0 : Int)), (.i .u32 (0 : Int)), (.i .u16 (0 : Int)), (.i .u64 (0 : Int)), (.i .u64 (0 : Int)), (.i .i64 (0 : Int)), (.i .i64 (0 : Int)), (.i .i64 (0 : Int)), (.i .u32 (0 : Int)), (.i .u16 (0 : Int)), (.i .u64 (0 : Int)), (.i .u64 (0 : Int)), (.i .i64 (0 : Int)), (.i .i64 (0 : Int)), (.i .i64 (0 : Int)), (.i .u32 (0 : Int)), (.i .u16 (0 : Int)), (.i .u64 (0 : Int)), (.i .u64 (0 : Int)), (.i .i64 (0 : Int)), (.i .i64 (0 : Int)), (.i .i64 (0 : Int)), (.i .u32 (0 : Int)), (.i .u16 (0 : Int)), (.i .u64 (0 : Int)), (.i .u64 (0 : Int)), (.i .i64 (0 : Int)), (.i .i64 (0 : Int)), (.i .i64 (0 : Int)), (.i .u32 (0 : Int)), (.i .u16 (0 : Int)), (.i .u64 (0 : Int)), (.i .u64 (0 : Int)), (.i .i64 (0 : Int)), (.i .i64 (0 : Int)), (.i .i64 (0 : Int)), (.i .u32 (0 : Int)), (.i .u16 (0 : Int)), (.i .u64 (0 : Int)), (.i .u64 (0 : Int)), (.i .i64 (0 : Int)), (.i .i64 (0 : Int)), (.i .i64 (0 : Int)), (.i .u32 (0 : Int)), (.i .u16 (0 : Int)), (.i .u64 (0 : Int)), (.i .u64 (0 : Int)), (.i .i64 (0 : Int)), (.i .i64 (0 : Int)), (.i .i64 (0 : Int)), (.i .u32 (0 : Int)), (.i .u16 (0 : Int)), (.i .u64 (0 : Int)), (.i .u64 (0 : Int)), (.i .i64 (0 : Int)), (.i .i64 (0 : Int)), (.i .i64 (0 : Int)), (.i .u32 (0 : Int)), (.i .u16 (0 : Int)), (.i .u64 (0 : Int)), (.i .u64 (0 : Int)), (.i .i64 (0 : Int)), (.i .i64 (0 : Int)), (.i .i64 (0 : Int)), (.i .u32 (0 : Int)), (.i .u16 (0 : Int)), (.i .u64 (0 : Int)), (.i .u64 (0 : Int)), (.i .i64 (0 : Int)), (.i .i64 (0 : Int)), (.i .i64 (0 : Int)), (.i .u32 (0 : Int)), (.i .u16 (0 : Int)), (.i .u64 (0 : Int)), (.i .u64 (0 : Int)), (.i .i64 (0 : Int)), (.i .i64 (0 : Int)), (.i .i64 (0 : Int)), (.i .u32 (0 : Int)), (.i .u16 (0 : Int)), (.i .u64 (0 : Int)), (.i .u64 (0 : Int)), (.i .i64 (0 : Int)), (.i .i64 (0 : Int)), (.i .i64 (0 : Int)), (.i .u32 (0 : Int)), (.i .u16 (0 : Int)), (.i .u64 (0 : Int)), (.i .u64 (0 : Int)), (.i .i64 (0 : Int)), (.i .i64 (0 : Int)), (.i .i64 (0 : Int)), (.i .u32 (0 : Int)), (.i .u16 (0 : Int)), (.i .u64 (0 : Int)), (.i .u64 (0 : Int)), (.i .i64 (0 : Int)), (.i .i64 (0 : Int)), (.i .i64 (0 : Int)), (.i .u32 (0 : Int)), (.i .u16 (0 : Int)), (.i .u64 (0 : Int)), (.i .u64 (0 : Int)), (.i .i64 (0 : Int)), (.i .i64 (0 : Int)), (.i .i64 (0 : Int)), (.i .u32 (0 : Int)), (.i .u16 (0 : Int)), (.i .u64 (0 : Int)), (.i .u64 (0 : Int)), (.i .i64 (0 : Int)), (.i .i64 (0 : Int)), (.i .i64 (0 : Int)), (.i .u32 (0 : Int)), (.i .u16 (0 : Int)), (.i .u64 (0 : Int)), (.i .u64 (0 : Int)), (.i .i64 (0 : Int)), (.i .i64 (0 : Int)), (.i .i64 (0 : Int)), (.i .u32 (0 : Int)), (.i .u16 (0 : Int)), (.i .u64 (0 : Int)), (.i .u64 (0 : Int)), (.i .i64 (0 : Int)), (.i .i64 (0 : Int)), (.i .i64 (0 : Int)), (.i .u32 (0 : Int)), (.i .u16 (0 : Int)), (.i .u64 (0 : Int)), (.i .u64 (0 : Int)), (.i .i64 (0 : Int)), (.i .i64 (0 : Int)), (.i .i64 (0 : Int)), (.i .u32 (0 : Int)), (.i .u16 (0 : Int)), (.i .u64 (0 : Int)), (.i .u64 (0 : Int)), (.i .i64 (0 : Int)), (.i .i64 (0 : Int)), (.i .i64 (0 : Int)), (.i .u32 (0 : Int)), (.i .u16 (0 : Int)), (.i .u64 (0 : Int)), (.i .u64 (0 : Int)), (.i .i64 (0 : Int)), (.i .i64 (0 : Int)), (.i .i64 (0 : Int)), (.i .u32 (0 : Int)), (.i .u16 (0 : Int)), (.i .u64 (0 : Int)), (.i .u64 (0 : Int)), (.i .i64 (0 : Int)), (.i .i64 (0 : Int)), (.i .i64 (0 : Int)), (.i .u32 (0 : Int)), (.i .u16 (0 : Int)), (.i .u64 (0 : Int)), (.i .u64 (0 : Int)), (.i .i64 (0 : Int)), (.i .i64 (0 : Int)), (.i .i64 (0 : Int)), (.i .u32 (0 : Int)), (.i .u16 (0 : Int)), (.i .u64 (0 : Int)), (.i .u64 (0 : Int)), (.i .i64 (0 : Int)), (.i .i64 (0 : Int)), (.i .i64 (0 : Int)), (.i .u32 (0 : Int)), (.i .u16 (0 : Int)), (.i .u64 (0 : Int)), (.i .u64 (0 : Int)), (.i .i64 (0 : Int)), (.i .i64 (0 : Int)), (.i .i64 (0 : Int)), (.i .u32 (0 : Int)), (.i .u16 (0 : Int)), (.i .u64 (0 : Int)), (.i .u64 (0 : Int)), (.i .i64 (0 : Int)), (.i .i64 (0 : Int)), (.i .i64 (0 : Int)), (.i .u32 (0 : Int)), (.i .u16 (0 : Int)), (.i .u64 (0 : Int)), (.i .u64 (0 : Int)), (.i .i64 (0 : Int)), (.i .i64 (0 : Int)), (.i .i64 (0 : Int)), (.i .u32 (0 : Int)), (.i .u16 (0 : Int)), (.i .u64 (0 : Int)), (.i .u64 (0 : Int)), (.i .i64 (0 : Int)), (.i .i64 (0 : Int)), (.i .i64 (0 : Int)), (.i .u32 (0 : Int)), (.i .u16 (0 : Int)), (.i .u64 (0 : Int)), (.i .u64 (0 : Int)), (.i .i64 (0 : Int)), (.i .i64 (0 : Int)), (.i .i64 (0 : Int)), (.i .u32 (0 : Int)), (.i .u16 (0 : Int)), (.i .u64 (0 : Int)), (.i .u64 (0 : Int)), (.i .i64 (0 : Int)), (.i .i64 (0 : Int)), (.i .i64 (0 : Int)), (.i .u32 (0 : Int)), (.i .u16 (0 : Int)), (.i .u64 (0 : Int)), (.i .u64 (0 : Int)), (.i .i64 (0 : Int)), (.i .i64 (0 : Int)), (.i .i64 (0 : Int)), (.i .u32 (0 : Int)), (.i .u16 (0 : Int)), (.i .u64 (0 : Int)), (.i .u64 (0 : Int))] fun a0 =>
          .ret 0 [(.tu [(.sc (.p (.some (a0, 0)))), (.sc (.i .i64 (0 : Int)))])]))))
theorem t43_eq (n0_ : Int) (n1_ : Int) (n2_ : Int) (n3_ : Int) : bodyK T (hs 43) Tryz.f43 [.sc (.i .i64 n0_), .sc (.i .u64 n1_), .sc (.i .u64 n2_), .sc (.i .u64 n3_)] = t43 n0_ n1_ n2_ n3_ := by kernel_rfl
/-- (*scuttlebutt/node.Node).raw -/
def t53 (p0_ q0_ : Nat) (n1_0 : Int) (n1_1 : Int) (n2_0 : Int) (n2_1 : Int) (n2_2 : Int) (n2_3 : Int) (n2_4 : Int) (n2_5 : Int) (n2_6 m2_6 : Nat) (b2_7 : Bool) (x2_8 : ByteArray) (s2_9 : Option SlD) : Tree :=
  .al [(.i .u32 n1_0), (.i .u16 n1_1)] fun a0 =>
  .al [(.i .i64 n2_0), (.i .i64 n2_1), (.i .u32 n2_2), (.i .i64 n2_3), (.i .u32 n2_4), (.i .u16 n2_5), (.cx .f64 n2_6 m2_6), (.b b2_7), (.s x2_8), (.sl s2_9)] fun a1 =>
  .nn (.some (p0_, q0_)) fun a2 a3 =>
  .ld a2 ((a3 + 0) + 0) 1 fun l4 =>
  .nth l4 0 fun v5 =>
  .asI .i64 (.sc v5) fun n6 =>
  .st a1 (0 + 1) [(.i .i64 n6)] (
  .ld a1 0 10 fun l7 =>
  .nth l7 0 fun v8 =>
  .asI .i64 (.sc v8) fun n9 =>
  .nth l7 1 fun v10 =>
  .asI .i64 (.sc v10) fun n11 =>
  .nth l7 2 fun v12 =>
  .asI .u32 (.sc v12) fun n13 =>
  .nth l7 3 fun v14 =>
  .asI .i64 (.sc v14) fun n15 =>
  .nth l7 4 fun v16 =>
  .asI .u32 (.sc v16) fun n17 =>
  .nth l7 5 fun v18 =>
  .asI .u16 (.sc v18) fun n19 =>
  .nth l7 6 fun v20 =>
  .asC .f64 (.sc v20) fun a21 a22 =>
  .nth l7 7 fun v23 =>
  .asB (.sc v23) fun b24 =>
  .nth l7 8 fun v25 =>
  .asS (.sc v25) fun x26 =>
  .nth l7 9 fun v27 =>
  .asL (.sc v27) fun o28 =>
  .call 103 [(.ag [(.i .i64 n9), (.i .i64 n11), (.i .u32 n13), (.i .i64 n15), (.i .u32 n17), (.i .u16 n19), (.cx .f64 a21 a22), (.b b24), (.s x26), (.sl o28)])] fun v29 =>
  .asT 2 v29 fun l30 =>
  .nthC l30 0 fun v31 =>
  .asS (v31.av) fun x32 =>
  .nthC l30 1 fun v33 =>
  .asB (v33.av) fun b34 =>
  cond b34
    (.ld a0 0 2 fun l35 =>
    .nth l35 0 fun v36 =>
    .asI .u32 (.sc v36) fun n37 =>
    .nth l35 1 fun v38 =>
    .asI .u16 (.sc v38) fun n39 =>
    .call 115 [(.ag [(.i .u32 n37), (.i .u16 n39)])] fun v40 =>
    .asB v40 fun b41 =>
    cond (!b41)
      (.nn (.some (p0_, q0_)) fun a42 a43 =>
      .ld a42 (a43 + 35) 1 fun l44 =>
      .nth l44 0 fun v45 =>
      .asL (.sc v45) fun o46 =>
      .ld a0 0 2 fun l47 =>
      .nth l47 0 fun v48 =>
      .asI .u32 (.sc v48) fun n49 =>
      .nth l47 1 fun v50 =>
      .asI .u16 (.sc v50) fun n51 =>
      .al [(.i .u32 n49), (.i .u16 n51), (.s x32)] fun a52 =>
      .lds 3 (.some (.mk a52 0 1 1 3)) (slN (.some (.mk a52 0 1 1 3))) fun l53 =>
      .app 3 24 o46 l53 (slN (.some (.mk a52 0 1 1 3))) fun o54 =>
      .nn (.some (p0_, q0_)) fun a55 a56 =>
      .st a55 (a56 + 35) [(.sl o54)] (
      .ret 0 [(.tu [])]))
      (.ret 0 [(.tu [])]))
    (.ret 0 [(.tu [])]))
theorem t53_eq (p0_ q0_ : Nat) (n1_0 : Int) (n1_1 : Int) (n2_0 : Int) (n2_1 : Int) (n2_2 : Int) (n2_3 : Int) (n2_4 : Int) (n2_5 : Int) (n2_6 m2_6 : Nat) (b2_7 : Bool) (x2_8 : ByteArray) (s2_9 : Option SlD) : bodyK T (hs 53) Tryz.f53 [.sc (.p (some (p0_, q0_))), .ag [.i .u32 n1_0, .i .u16 n1_1], .ag [.i .i64 n2_0, .i .i64 n2_1, .i .u32 n2_2, .i .i64 n2_3, .i .u32 n2_4, .i .u16 n2_5, .cx .f64 n2_6 m2_6, .b b2_7, .s x2_8, .sl s2_9]] = t53 p0_ q0_ n1_0 n1_1 n2_0 n2_1 n2_2 n2_3 n2_4 n2_5 n2_6 m2_6 b2_7 x2_8 s2_9 := by kernel_rfl
/-- (*scuttlebutt/node.Node).flush -/
def t55 (p0_ q0_ : Nat) : Tree :=
  .nn (.some (p0_, q0_)) fun a0 a1 =>
  .ld a0 (a1 + 35) 1 fun l2 =>
  .nth l2 0 fun v3 =>
  .asL (.sc v3) fun o4 =>
  .nn (.some (p0_, q0_)) fun a5 a6 =>
  .st a5 (a6 + 35) [(.sl .none)] (
  .ret 0 [(.sc (.sl o4))])
theorem t55_eq (p0_ q0_ : Nat) : bodyK T (hs 55) Tryz.f55 [.sc (.p (some (p0_, q0_)))] = t55 p0_ q0_ := by kernel_rfl
/-- (*scuttlebutt/node.Node).seed -/
def t62 (p0_ q0_ : Nat) : Tree :=
  .nn (.some (p0_, q0_)) fun a0 a1 =>
  .ld a0 ((a1 + 0) + 0) 1 fun l2 =>
  .nth l2 0 fun v3 =>
  .asI .i64 (.sc v3) fun n4 =>
  .call 134 [(.sc (.p (.some (p0_, q0_)))), (.sc (.i .i64 n4))] fun v5 =>
  .asT 2 v5 fun l6 =>
  .nthC l6 0 fun v7 =>
  .asA 4 (v7.av) fun l8 =>
  .nth l8 0 fun v9 =>
  .asI .i64 (.sc v9) fun n10 =>
  .nth l8 1 fun v11 =>
  .asI .u32 (.sc v11) fun n12 =>
  .nth l8 2 fun v13 =>
  .asI .u16 (.sc v13) fun n14 =>
  .nth l8 3 fun v15 =>
  .asC .f64 (.sc v15) fun a16 a17 =>
  .nthC l6 1 fun v18 =>
  .asB (v18.av) fun b19 =>
  .al [(.i .i64 (0 : Int)), (.i .u32 (0 : Int)), (.i .u16 (0 : Int)), (.cx .f64 0 0)] fun a20 =>
  .st a20 0 [(.i .i64 n10), (.i .u32 n12), (.i .u16 n14), (.cx .f64 a16 a17)] (
  .ret 0 [(.sc (.b b19))])
theorem t62_eq (p0_ q0_ : Nat) : bodyK T (hs 62) Tryz.f62 [.sc (.p (some (p0_, q0_)))] = t62 p0_ q0_ := by kernel_rfl
def t81_b64  : List AV → Tree := fun l65 =>
  .asP (l65.getD 0 .un) fun o66 =>
  .asI .u64 (l65.getD 1 .un) fun n67 =>
  .asP (l65.getD 2 .un) fun o68 =>
  .nn o68 fun a69 a70 =>
  .asP (l65.getD 3 .un) fun o71 =>
  .nn o71 fun a72 a73 =>
  .asL (l65.getD 4 .un) fun o74 =>
  .asI .i64 (l65.getD 5 .un) fun n75 =>
  .asI .i64 (l65.getD 6 .un) fun n76 =>
  cond (decide (n76 < n75))
    (.ixS 5 o74 n76 fun a77 a78 a79 =>
    .ld a77 (a78 + (a79 * 5)) 5 fun l80 =>
    .nth l80 0 fun v81 =>
    .asI .i64 (.sc v81) fun n82 =>
    .nth l80 1 fun v83 =>
    .asI .i64 (.sc v83) fun n84 =>
    .nth l80 2 fun v85 =>
    .asI .u32 (.sc v85) fun n86 =>
    .nth l80 3 fun v87 =>
    .asI .u32 (.sc v87) fun n88 =>
    .nth l80 4 fun v89 =>
    .asI .u16 (.sc v89) fun n90 =>
    .al [(.i .i64 (0 : Int)), (.i .i64 (0 : Int)), (.i .u32 (0 : Int)), (.i .u32 (0 : Int)), (.i .u16 (0 : Int))] fun a91 =>
    .st a91 0 [(.i .i64 n82), (.i .i64 n84), (.i .u32 n86), (.i .u32 n88), (.i .u16 n90)] (
    .ld a91 0 5 fun l92 =>
    .nth l92 0 fun v93 =>
    .asI .i64 (.sc v93) fun n94 =>
    .nth l92 1 fun v95 =>
    .asI .i64 (.sc v95) fun n96 =>
    .nth l92 2 fun v97 =>
    .asI .u32 (.sc v97) fun n98 =>
    .nth l92 3 fun v99 =>
    .asI .u32 (.sc v99) fun n100 =>
    .nth l92 4 fun v101 =>
    .asI .u16 (.sc v101) fun n102 =>
    .ld a72 (a73 + 1) 1 fun l103 =>
    .nth l103 0 fun v104 =>
    .asI .i64 (.sc v104) fun n105 =>
    .call 128 [(.sc (.p o66)), (.sc (.i .u64 n67)), (.ag [(.i .i64 n94), (.i .i64 n96), (.i .u32 n98), (.i .u32 n100), (.i .u16 n102)]), (.sc (.i .i64 n105))] fun v106 =>
    .ret 0 [(.sc (.p o66)), (.sc (.i .u64 n67)), (.sc (.p (.some (a69, a70)))), (.sc (.p (.some (a72, a73)))), (.sc (.sl o74)), (.sc (.i .i64 n75)), (.sc (.i .i64 (IntKind.wrap .i64 (n76 + (1 : Int)))))]))
    (.ret 2 [(.sc (.p o66)), (.sc (.i .u64 n67)), (.sc (.p (.some (a69, a70)))), (.sc (.p (.some (a72, a73))))])
def t81_k64  : Nat → List AV → Tree := fun a107 l108 =>
  .tg a107 2
    (.asP (l108.getD 0 .un) fun o109 =>
    .asI .u64 (l108.getD 1 .un) fun n110 =>
    .asP (l108.getD 2 .un) fun o111 =>
    .nn o111 fun a112 a113 =>
    .asP (l108.getD 3 .un) fun o114 =>
    .nn o114 fun a115 a116 =>
    .ld a112 a113 2 fun l117 =>
    .nth l117 0 fun v118 =>
    .asI .u32 (.sc v118) fun n119 =>
    .nth l117 1 fun v120 =>
    .asI .u16 (.sc v120) fun n121 =>
    .ld a115 a116 10 fun l122 =>
    .nth l122 0 fun v123 =>
    .asI .i64 (.sc v123) fun n124 =>
    .nth l122 1 fun v125 =>
    .asI .i64 (.sc v125) fun n126 =>
    .nth l122 2 fun v127 =>
    .asI .u32 (.sc v127) fun n128 =>
    .nth l122 3 fun v129 =>
    .asI .i64 (.sc v129) fun n130 =>
    .nth l122 4 fun v131 =>
    .asI .u32 (.sc v131) fun n132 =>
    .nth l122 5 fun v133 =>
    .asI .u16 (.sc v133) fun n134 =>
    .nth l122 6 fun v135 =>
    .asC .f64 (.sc v135) fun a136 a137 =>
    .nth l122 7 fun v138 =>
    .asB (.sc v138) fun b139 =>
    .nth l122 8 fun v140 =>
    .asS (.sc v140) fun x141 =>
    .nth l122 9 fun v142 =>
    .asL (.sc v142) fun o143 =>
    .call 175 [(.sc (.p o109)), (.sc (.i .u64 n110)), (.ag [(.i .u32 n119), (.i .u16 n121)]), (.ag [(.i .i64 n124), (.i .i64 n126), (.i .u32 n128), (.i .i64 n130), (.i .u32 n132), (.i .u16 n134), (.cx .f64 a136 a137), (.b b139), (.s x141), (.sl o143)])] fun v144 =>
    .ret 1 [])
    (.fail)
def t81_b168  : List AV → Tree := fun l169 =>
  .asP (l169.getD 0 .un) fun o170 =>
  .asI .u64 (l169.getD 1 .un) fun n171 =>
  .asP (l169.getD 2 .un) fun o172 =>
  .nn o172 fun a173 a174 =>
  .asP (l169.getD 3 .un) fun o175 =>
  .nn o175 fun a176 a177 =>
  .asL (l169.getD 4 .un) fun o178 =>
  .asI .i64 (l169.getD 5 .un) fun n179 =>
  .asI .i64 (l169.getD 6 .un) fun n180 =>
  cond (decide (n180 < n179))
    (.ixS 5 o178 n180 fun a181 a182 a183 =>
    .ld a181 (a182 + (a183 * 5)) 5 fun l184 =>
    .nth l184 0 fun v185 =>
    .asI .i64 (.sc v185) fun n186 =>
    .nth l184 1 fun v187 =>
    .asI .i64 (.sc v187) fun n188 =>
    .nth l184 2 fun v189 =>
    .asI .u32 (.sc v189) fun n190 =>
    .nth l184 3 fun v191 =>
    .asI .u32 (.sc v191) fun n192 =>
    .nth l184 4 fun v193 =>
    .asI .u16 (.sc v193) fun n194 =>
    .al [(.i .i64 (0 : Int)), (.i .i64 (0 : Int)), (.i .u32 (0 : Int)), (.i .u32 (0 : Int)), (.i .u16 (0 : Int))] fun a195 =>
    .st a195 0 [(.i .i64 n186), (.i .i64 n188), (.i .u32 n190), (.i .u32 n192), (.i .u16 n194)] (
    .ld a195 0 5 fun l196 =>
    .nth l196 0 fun v197 =>
    .asI .i64 (.sc v197) fun n198 =>
    .nth l196 1 fun v199 =>
    .asI .i64 (.sc v199) fun n200 =>
    .nth l196 2 fun v201 =>
    .asI .u32 (.sc v201) fun n202 =>
    .nth l196 3 fun v203 =>
    .asI .u32 (.sc v203) fun n204 =>
    .nth l196 4 fun v205 =>
    .asI .u16 (.sc v205) fun n206 =>
    .ld a176 (a177 + 1) 1 fun l207 =>
    .nth l207 0 fun v208 =>
    .asI .i64 (.sc v208) fun n209 =>
    .call 128 [(.sc (.p o170)), (.sc (.i .u64 n171)), (.ag [(.i .i64 n198), (.i .i64 n200), (.i .u32 n202), (.i .u32 n204), (.i .u16 n206)]), (.sc (.i .i64 n209))] fun v210 =>
    .ret 0 [(.sc (.p o170)), (.sc (.i .u64 n171)), (.sc (.p (.some (a173, a174)))), (.sc (.p (.some (a176, a177)))), (.sc (.sl o178)), (.sc (.i .i64 n179)), (.sc (.i .i64 (IntKind.wrap .i64 (n180 + (1 : Int)))))]))
    (.ret 2 [(.sc (.p o170)), (.sc (.i .u64 n171)), (.sc (.p (.some (a173, a174)))), (.sc (.p (.some (a176, a177))))])
def t81_k168  : Nat → List AV → Tree := fun a211 l212 =>
  .tg a211 2
    (.asP (l212.getD 0 .un) fun o213 =>
    .asI .u64 (l212.getD 1 .un) fun n214 =>
    .asP (l212.getD 2 .un) fun o215 =>
    .nn o215 fun a216 a217 =>
    .asP (l212.getD 3 .un) fun o218 =>
    .nn o218 fun a219 a220 =>
    .ld a216 a217 2 fun l221 =>
    .nth l221 0 fun v222 =>
    .asI .u32 (.sc v222) fun n223 =>
    .nth l221 1 fun v224 =>
    .asI .u16 (.sc v224) fun n225 =>
    .ld a219 a220 10 fun l226 =>
    .nth l226 0 fun v227 =>
    .asI .i64 (.sc v227) fun n228 =>
    .nth l226 1 fun v229 =>
    .asI .i64 (.sc v229) fun n230 =>
    .nth l226 2 fun v231 =>
    .asI .u32 (.sc v231) fun n232 =>
    .nth l226 3 fun v233 =>
    .asI .i64 (.sc v233) fun n234 =>
    .nth l226 4 fun v235 =>
    .asI .u32 (.sc v235) fun n236 =>
    .nth l226 5 fun v237 =>
    .asI .u16 (.sc v237) fun n238 =>
    .nth l226 6 fun v239 =>
    .asC .f64 (.sc v239) fun a240 a241 =>
    .nth l226 7 fun v242 =>
    .asB (.sc v242) fun b243 =>
    .nth l226 8 fun v244 =>
    .asS (.sc v244) fun x245 =>
    .nth l226 9 fun v246 =>
    .asL (.sc v246) fun o247 =>
    .call 175 [(.sc (.p o213)), (.sc (.i .u64 n214)), (.ag [(.i .u32 n223), (.i .u16 n225)]), (.ag [(.i .i64 n228), (.i .i64 n230), (.i .u32 n232), (.i .i64 n234), (.i .u32 n236), (.i .u16 n238), (.cx .f64 a240 a241), (.b b243), (.s x245), (.sl o247)])] fun v248 =>
    .ret 1 [])
    (.fail)
def t81_b251  : List AV → Tree := fun l252 =>
  .asI .i64 (l252.getD 0 .un) fun n253 =>
  .br (n253 == (0 : Int))
    (.asP (l252.getD 1 .un) fun o254 =>
    .nn o254 fun a255 a256 =>
    .ld a255 (a256 + 34) 1 fun l257 =>
    .nth l257 0 fun v258 =>
    .asI .u64 (.sc v258) fun n259 =>
    .nn o254 fun a260 a261 =>
    .st a260 (a261 + 34) [(.i .u64 (IntKind.wrap .u64 (n259 + (1 : Int))))] (
    .ret 1 []))
    (.fail)
def t81_k251  : Nat → List AV → Tree := fun a262 l263 =>
  .tg a262 2
    (.ret 0 [(.tu [])])
    (.tg a262 1
      (.ret 0 [(.tu [])])
      (.fail))
def t81_k1  : Nat → List AV → Tree := fun a249 l250 =>
  .tg a249 3
    (.loop t81_b251 ((.sc (.i .i64 (0 : Int))) :: l250) t81_k251)
    (.tg a249 1
      (.ret 0 [(.tu [])])
      (.tg a249 0
        (.ret 0 [(.tu [])])
        (.fail)))
/-- (*scuttlebutt/node.Node).take -/
def t81 (p0_ q0_ : Nat) (n1_ : Int) (n2_0 : Int) (n2_1 : Int) (x3_ : ByteArray) (b4_ : Bool) : Tree :=
  .al [(.i .u32 n2_0), (.i .u16 n2_1)] fun a0 =>
  .join (
    .call 25 [(.sc (.s x3_))] fun v2 =>
    .asT 2 v2 fun l3 =>
    .nthC l3 0 fun v4 =>
    .asA 10 (v4.av) fun l5 =>
    .nth l5 0 fun v6 =>
    .asI .i64 (.sc v6) fun n7 =>
    .nth l5 1 fun v8 =>
    .asI .i64 (.sc v8) fun n9 =>
    .nth l5 2 fun v10 =>
    .asI .u32 (.sc v10) fun n11 =>
    .nth l5 3 fun v12 =>
    .asI .i64 (.sc v12) fun n13 =>
    .nth l5 4 fun v14 =>
    .asI .u32 (.sc v14) fun n15 =>
    .nth l5 5 fun v16 =>
    .asI .u16 (.sc v16) fun n17 =>
    .nth l5 6 fun v18 =>
    .asC .f64 (.sc v18) fun a19 a20 =>
    .nth l5 7 fun v21 =>
    .asB (.sc v21) fun b22 =>
    .nth l5 8 fun v23 =>
    .asS (.sc v23) fun x24 =>
    .nth l5 9 fun v25 =>
    .asL (.sc v25) fun o26 =>
    .nthC l3 1 fun v27 =>
    .asI .i64 (v27.av) fun n28 =>
    .al [(.i .i64 (0 : Int)), (.i .i64 (0 : Int)), (.i .u32 (0 : Int)), (.i .i64 (0 : Int)), (.i .u32 (0 : Int)), (.i .u16 (0 : Int)), (.cx .f64 0 0), (.b .false), (.s (.mk (.mk []))), (.sl .none)] fun a29 =>
    .st a29 0 [(.i .i64 n7), (.i .i64 n9), (.i .u32 n11), (.i .i64 n13), (.i .u32 n15), (.i .u16 n17), (.cx .f64 a19 a20), (.b b22), (.s x24), (.sl o26)] (
    cond (n28 != (0 : Int))
      (.ret 3 [(.sc (.p (.some (p0_, q0_))))])
      (.ld a29 (0 + 1) 1 fun l30 =>
      .nth l30 0 fun v31 =>
      .asI .i64 (.sc v31) fun n32 =>
      .nn (.some (p0_, q0_)) fun a33 a34 =>
      .ld a33 ((a34 + 0) + 0) 1 fun l35 =>
      .nth l35 0 fun v36 =>
      .asI .i64 (.sc v36) fun n37 =>
      cond (n32 == n37)
        (.ret 3 [(.sc (.p (.some (p0_, q0_))))])
        (cond b4_
          (.ld a29 (0 + 0) 1 fun l38 =>
          .nth l38 0 fun v39 =>
          .asI .i64 (.sc v39) fun n40 =>
          cond (n40 == (5 : Int))
            (.ret 3 [(.sc (.p (.some (p0_, q0_))))])
            (.nn (.some (p0_, q0_)) fun a41 a42 =>
            .ld a41 (a42 + 33) 1 fun l43 =>
            .nth l43 0 fun v44 =>
            .asB (.sc v44) fun b45 =>
            cond b45
              (.ret 1 [])
              (.nn (.some (p0_, q0_)) fun a46 a47 =>
              .ld a46 (a47 + 29) 1 fun l48 =>
              .nth l48 0 fun v49 =>
              .asP (.sc v49) fun o50 =>
              .ld a29 (0 + 1) 1 fun l51 =>
              .nth l51 0 fun v52 =>
              .asI .i64 (.sc v52) fun n53 =>
              .ld a0 0 2 fun l54 =>
              .nth l54 0 fun v55 =>
              .asI .u32 (.sc v55) fun n56 =>
              .nth l54 1 fun v57 =>
              .asI .u16 (.sc v57) fun n58 =>
              .call 174 [(.sc (.p o50)), (.sc (.i .i64 n53)), (.ag [(.i .u32 n56), (.i .u16 n58)]), (.sc (.i .u64 n1_))] fun v59 =>
              .asB v59 fun b60 =>
              .ld a29 (0 + 9) 1 fun l61 =>
              .nth l61 0 fun v62 =>
              .asL (.sc v62) fun o63 =>
              .loop t81_b64 [(.sc (.p (.some (p0_, q0_)))), (.sc (.i .u64 n1_)), (.sc (.p (.some (a0, 0)))), (.sc (.p (.some (a29, 0)))), (.sc (.sl o63)), (.sc (.i .i64 (slLen o63))), (.sc (.i .i64 (0 : Int)))] t81_k64)))
          (.nn (.some (p0_, q0_)) fun a145 a146 =>
          .ld a145 (a146 + 33) 1 fun l147 =>
          .nth l147 0 fun v148 =>
          .asB (.sc v148) fun b149 =>
          cond b149
            (.ret 1 [])
            (.nn (.some (p0_, q0_)) fun a150 a151 =>
            .ld a150 (a151 + 29) 1 fun l152 =>
            .nth l152 0 fun v153 =>
            .asP (.sc v153) fun o154 =>
            .ld a29 (0 + 1) 1 fun l155 =>
            .nth l155 0 fun v156 =>
            .asI .i64 (.sc v156) fun n157 =>
            .ld a0 0 2 fun l158 =>
            .nth l158 0 fun v159 =>
            .asI .u32 (.sc v159) fun n160 =>
            .nth l158 1 fun v161 =>
            .asI .u16 (.sc v161) fun n162 =>
            .call 174 [(.sc (.p o154)), (.sc (.i .i64 n157)), (.ag [(.i .u32 n160), (.i .u16 n162)]), (.sc (.i .u64 n1_))] fun v163 =>
            .asB v163 fun b164 =>
            .ld a29 (0 + 9) 1 fun l165 =>
            .nth l165 0 fun v166 =>
            .asL (.sc v166) fun o167 =>
            .loop t81_b168 [(.sc (.p (.some (p0_, q0_)))), (.sc (.i .u64 n1_)), (.sc (.p (.some (a0, 0)))), (.sc (.p (.some (a29, 0)))), (.sc (.sl o167)), (.sc (.i .i64 (slLen o167))), (.sc (.i .i64 (0 : Int)))] t81_k168)))))) t81_k1
theorem t81_eq (p0_ q0_ : Nat) (n1_ : Int) (n2_0 : Int) (n2_1 : Int) (x3_ : ByteArray) (b4_ : Bool) : bodyK T (hs 81) Tryz.f81 [.sc (.p (some (p0_, q0_))), .sc (.i .u64 n1_), .ag [.i .u32 n2_0, .i .u16 n2_1], .sc (.s x3_), .sc (.b b4_)] = t81 p0_ q0_ n1_ n2_0 n2_1 x3_ b4_ := by kernel_rfl
/-- (*scuttlebutt/view.View).tell -/
def t90 (p0_ q0_ : Nat) (n1_0 : Int) (n1_1 : Int) (n1_2 : Int) (n1_3 : Int) : Tree :=
  .al [(.i .i64 n1_0), (.i .i64 n1_1), (.i .i64 n1_2), (.i .u32 n1_3)] fun a0 =>
  .nn (.some (p0_, q0_)) fun a1 a2 =>
  .ld a1 (a2 + 166) 1 fun l3 =>
  .nth l3 0 fun v4 =>
  .asI .u64 (.sc v4) fun n5 =>
  .nn (.some (p0_, q0_)) fun a6 a7 =>
  .st a6 (a7 + 166) [(.i .u64 (IntKind.wrap .u64 (n5 + (1 : Int))))] (
  .nn (.some (p0_, q0_)) fun a8 a9 =>
  .ld a8 (a9 + 165) 1 fun l10 =>
  .nth l10 0 fun v11 =>
  .asL (.sc v11) fun o12 =>
  .ld a0 0 4 fun l13 =>
  .nth l13 0 fun v14 =>
  .asI .i64 (.sc v14) fun n15 =>
  .nth l13 1 fun v16 =>
  .asI .i64 (.sc v16) fun n17 =>
  .nth l13 2 fun v18 =>
  .asI .i64 (.sc v18) fun n19 =>
  .nth l13 3 fun v20 =>
  .asI .u32 (.sc v20) fun n21 =>
  .al [(.i .i64 n15), (.i .i64 n17), (.i .i64 n19), (.i .u32 n21)] fun a22 =>
  .lds 4 (.some (.mk a22 0 1 1 4)) (slN (.some (.mk a22 0 1 1 4))) fun l23 =>
  .app 4 32 o12 l23 (slN (.some (.mk a22 0 1 1 4))) fun o24 =>
  .nn (.some (p0_, q0_)) fun a25 a26 =>
  .st a25 (a26 + 165) [(.sl o24)] (
  .nn (.some (p0_, q0_)) fun a27 a28 =>
  .ld a27 (a28 + 165) 1 fun l29 =>
  .nth l29 0 fun v30 =>
  .asL (.sc v30) fun o31 =>
  .nn (.some (p0_, q0_)) fun a32 a33 =>
  .ld a32 (a33 + 165) 1 fun l34 =>
  .nth l34 0 fun v35 =>
  .asL (.sc v35) fun o36 =>
  .slc 4 o31 (.some (maxI (IntKind.wrap .i64 ((slLen o36) - (128 : Int))) (0 : Int))) .none .none fun o37 =>
  .nn (.some (p0_, q0_)) fun a38 a39 =>
  .st a38 (a39 + 165) [(.sl o37)] (
  .ret 0 [(.tu [])])))
theorem t90_eq (p0_ q0_ : Nat) (n1_0 : Int) (n1_1 : Int) (n1_2 : Int) (n1_3 : Int) : bodyK T (hs 90) Tryz.f90 [.sc (.p (some (p0_, q0_))), .ag [.i .i64 n1_0, .i .i64 n1_1, .i .i64 n1_2, .i .u32 n1_3]] = t90 p0_ q0_ n1_0 n1_1 n1_2 n1_3 := by kernel_rfl
/-- scuttlebutt/node.node -/
def t114 (n0_ : Int) : Tree :=
  cond (decide (n0_ ≥ (1 : Int)))
    (.ret 0 [(.sc (.b (decide (n0_ ≤ (32 : Int)))))])
    (.ret 0 [(.sc (.b .false))])
theorem t114_eq (n0_ : Int) : bodyK T (hs 114) Tryz.f114 [.sc (.i .i64 n0_)] = t114 n0_ := by kernel_rfl
/-- scuttlebutt/node.Right$1 -/
def t118 (n0_ : Int) (n1_ : Int) (n2_ : Int) : Tree :=
  cond (decide (n0_ ≥ n1_))
    (.ret 0 [(.sc (.b (decide (n0_ ≤ n2_))))])
    (.ret 0 [(.sc (.b .false))])
theorem t118_eq (n0_ : Int) (n1_ : Int) (n2_ : Int) : bodyK T (hs 118) Tryz.f118 [.sc (.i .u64 n0_), .sc (.i .u64 n1_), .sc (.i .u64 n2_)] = t118 n0_ n1_ n2_ := by kernel_rfl
/-- scuttlebutt/draw.New -/
def t119 (n0_ : Int) : Tree :=
  .al [(.i .u64 (0 : Int))] fun a0 =>
  .st a0 0 [(.i .u64 n0_)] (
  .ld a0 0 1 fun l1 =>
  .nth l1 0 fun v2 =>
  .asI .u64 (.sc v2) fun n3 =>
  .ret 0 [(.ag [(.i .u64 n3)])])
theorem t119_eq (n0_ : Int) : bodyK T (hs 119) Tryz.f119 [.sc (.i .u64 n0_)] = t119 n0_ := by kernel_rfl
/-- slices.Contains[[]int,int] -/
def t117 (s0_ : Option SlD) (n1_ : Int) : Tree :=
  .call 211 [(.sc (.sl s0_)), (.sc (.i .i64 n1_))] fun v0 =>
  .asI .i64 v0 fun n1 =>
  .ret 0 [(.sc (.b (decide (n1 ≥ (0 : Int)))))]
theorem t117_eq (s0_ : Option SlD) (n1_ : Int) : bodyK T (hs 117) Tryz.f117 [.sc (.sl s0_), .sc (.i .i64 n1_)] = t117 s0_ n1_ := by kernel_rfl
/-- (*scuttlebutt/node.Node).of -/
def t134 (p0_ q0_ : Nat) (n1_ : Int) : Tree :=
  .al [(.i .i64 n1_)] fun a0 =>
  .al [(.i .i64 (0 : Int)), (.i .u32 (0 : Int)), (.i .u16 (0 : Int)), (.cx .f64 0 0)] fun a1 =>
  .nn (.some (p0_, q0_)) fun a2 a3 =>
  .ld a2 ((a3 + 0) + 6) 1 fun l4 =>
  .nth l4 0 fun v5 =>
  .asL (.sc v5) fun o6 =>
  .call 228 [(.sc (.sl o6)), (.sc (.fn 229 [] [(a0, 0)]))] fun v7 =>
  .asI .i64 v7 fun n8 =>
  cond (decide (n8 < (0 : Int)))
    (.st a1 0 [(.i .i64 (0 : Int)), (.i .u32 (0 : Int)), (.i .u16 (0 : Int)), (.cx .f64 0 0)] (
    .ld a1 0 4 fun l9 =>
    .nth l9 0 fun v10 =>
    .asI .i64 (.sc v10) fun n11 =>
    .nth l9 1 fun v12 =>
    .asI .u32 (.sc v12) fun n13 =>
    .nth l9 2 fun v14 =>
    .asI .u16 (.sc v14) fun n15 =>
    .nth l9 3 fun v16 =>
    .asC .f64 (.sc v16) fun a17 a18 =>
    .ret 0 [(.tu [(.ag [(.i .i64 n11), (.i .u32 n13), (.i .u16 n15), (.cx .f64 a17 a18)]), (.sc (.b .false))])]))
    (.nn (.some (p0_, q0_)) fun a19 a20 =>
    .ld a19 ((a20 + 0) + 6) 1 fun l21 =>
    .nth l21 0 fun v22 =>
    .asL (.sc v22) fun o23 =>
    .ixS 4 o23 n8 fun a24 a25 a26 =>
    .ld a24 (a25 + (a26 * 4)) 4 fun l27 =>
    .nth l27 0 fun v28 =>
    .asI .i64 (.sc v28) fun n29 =>
    .nth l27 1 fun v30 =>
    .asI .u32 (.sc v30) fun n31 =>
    .nth l27 2 fun v32 =>
    .asI .u16 (.sc v32) fun n33 =>
    .nth l27 3 fun v34 =>
    .asC .f64 (.sc v34) fun a35 a36 =>
    .st a1 0 [(.i .i64 n29), (.i .u32 n31), (.i .u16 n33), (.cx .f64 a35 a36)] (
    .ld a1 0 4 fun l37 =>
    .nth l37 0 fun v38 =>
    .asI .i64 (.sc v38) fun n39 =>
    .nth l37 1 fun v40 =>
    .asI .u32 (.sc v40) fun n41 =>
    .nth l37 2 fun v42 =>
    .asI .u16 (.sc v42) fun n43 =>
    .nth l37 3 fun v44 =>
    .asC .f64 (.sc v44) fun a45 a46 =>
    .ret 0 [(.tu [(.ag [(.i .i64 n39), (.i .u32 n41), (.i .u16 n43), (.cx .f64 a45 a46)]), (.sc (.b .true))])]))
theorem t134_eq (p0_ q0_ : Nat) (n1_ : Int) : bodyK T (hs 134) Tryz.f134 [.sc (.p (some (p0_, q0_))), .sc (.i .i64 n1_)] = t134 p0_ q0_ n1_ := by kernel_rfl
/-- (*scuttlebutt/path.Table).Of -/
def t145 (p0_ q0_ : Nat) (n1_ : Int) : Tree :=
  .al [(.i .i64 (0 : Int)), (.i .i64 (0 : Int)), (.i .i64 (0 : Int)), (.i .u32 (0 : Int)), (.i .u16 (0 : Int)), (.i .u64 (0 : Int)), (.i .u64 (0 : Int))] fun a0 =>
  .call 231 [(.sc (.i .i64 n1_))] fun v1 =>
  .asB v1 fun b2 =>
  cond (!b2)
    (.st a0 0 [(.i .i64 (0 : Int)), (.i .i64 (0 : Int)), (.i .i64 (0 : Int)), (.i .u32 (0 : Int)), (.i .u16 (0 : Int)), (.i .u64 (0 : Int)), (.i .u64 (0 : Int))] (
    .ld a0 0 7 fun l3 =>
    .nth l3 0 fun v4 =>
    .asI .i64 (.sc v4) fun n5 =>
    .nth l3 1 fun v6 =>
    .asI .i64 (.sc v6) fun n7 =>
    .nth l3 2 fun v8 =>
    .asI .i64 (.sc v8) fun n9 =>
    .nth l3 3 fun v10 =>
    .asI .u32 (.sc v10) fun n11 =>
    .nth l3 4 fun v12 =>
    .asI .u16 (.sc v12) fun n13 =>
    .nth l3 5 fun v14 =>
    .asI .u64 (.sc v14) fun n15 =>
    .nth l3 6 fun v16 =>
    .asI .u64 (.sc v16) fun n17 =>
    .ret 0 [(.tu [(.ag [(.i .i64 n5), (.i .i64 n7), (.i .i64 n9), (.i .u32 n11), (.i .u16 n13), (.i .u64 n15), (.i .u64 n17)]), (.sc (.b .false))])]))
    (.nn (.some (p0_, q0_)) fun a18 a19 =>
    .br ((decide ((0 : Int) ≤ n1_)) && (decide (n1_ < (33 : Int))))
      (.ld a18 (((a19 + 4) + ((Int.toNat n1_) * 7)) + 1) 1 fun l20 =>
      .nth l20 0 fun v21 =>
      .asI .i64 (.sc v21) fun n22 =>
      cond (n22 == (0 : Int))
        (.st a0 0 [(.i .i64 (0 : Int)), (.i .i64 (0 : Int)), (.i .i64 (0 : Int)), (.i .u32 (0 : Int)), (.i .u16 (0 : Int)), (.i .u64 (0 : Int)), (.i .u64 (0 : Int))] (
        .ld a0 0 7 fun l23 =>
        .nth l23 0 fun v24 =>
        .asI .i64 (.sc v24) fun n25 =>
        .nth l23 1 fun v26 =>
        .asI .i64 (.sc v26) fun n27 =>
        .nth l23 2 fun v28 =>
        .asI .i64 (.sc v28) fun n29 =>
        .nth l23 3 fun v30 =>
        .asI .u32 (.sc v30) fun n31 =>
        .nth l23 4 fun v32 =>
        .asI .u16 (.sc v32) fun n33 =>
        .nth l23 5 fun v34 =>
        .asI .u64 (.sc v34) fun n35 =>
        .nth l23 6 fun v36 =>
        .asI .u64 (.sc v36) fun n37 =>
        .ret 0 [(.tu [(.ag [(.i .i64 n25), (.i .i64 n27), (.i .i64 n29), (.i .u32 n31), (.i .u16 n33), (.i .u64 n35), (.i .u64 n37)]), (.sc (.b .false))])]))
        (.nn (.some (p0_, q0_)) fun a38 a39 =>
        .br ((decide ((0 : Int) ≤ n1_)) && (decide (n1_ < (33 : Int))))
          (.ld a38 ((a39 + 4) + ((Int.toNat n1_) * 7)) 7 fun l40 =>
          .nth l40 0 fun v41 =>
          .asI .i64 (.sc v41) fun n42 =>
          .nth l40 1 fun v43 =>
          .asI .i64 (.sc v43) fun n44 =>
          .nth l40 2 fun v45 =>
          .asI .i64 (.sc v45) fun n46 =>
          .nth l40 3 fun v47 =>
          .asI .u32 (.sc v47) fun n48 =>
          .nth l40 4 fun v49 =>
          .asI .u16 (.sc v49) fun n50 =>
          .nth l40 5 fun v51 =>
          .asI .u64 (.sc v51) fun n52 =>
          .nth l40 6 fun v53 =>
          .asI .u64 (.sc v53) fun n54 =>
          .st a0 0 [(.i .i64 n42), (.i .i64 n44), (.i .i64 n46), (.i .u32 n48), (.i .u16 n50), (.i .u64 n52), (.i .u64 n54)] (
          .ld a0 0 7 fun l55 =>
          .nth l55 0 fun v56 =>
          .asI .i64 (.sc v56) fun n57 =>
          .nth l55 1 fun v58 =>
          .asI .i64 (.sc v58) fun n59 =>
          .nth l55 2 fun v60 =>
          .asI .i64 (.sc v60) fun n61 =>
          .nth l55 3 fun v62 =>
          .asI .u32 (.sc v62) fun n63 =>
          .nth l55 4 fun v64 =>
          .asI .u16 (.sc v64) fun n65 =>
          .nth l55 5 fun v66 =>
          .asI .u64 (.sc v66) fun n67 =>
          .nth l55 6 fun v68 =>
          .asI .u64 (.sc v68) fun n69 =>
          .ret 0 [(.tu [(.ag [(.i .i64 n57), (.i .i64 n59), (.i .i64 n61), (.i .u32 n63), (.i .u16 n65), (.i .u64 n67), (.i .u64 n69)]), (.sc (.b .true))])]))
          (.fail)))
      (.fail))
theorem t145_eq (p0_ q0_ : Nat) (n1_ : Int) : bodyK T (hs 145) Tryz.f145 [.sc (.p (some (p0_, q0_))), .sc (.i .i64 n1_)] = t145 p0_ q0_ n1_ := by kernel_rfl
/-- (*scuttlebutt/path.Table).Heard -/
def t174 (p0_ q0_ : Nat) (n1_ : Int) (n2_0 : Int) (n2_1 : Int) (n3_ : Int) : Tree :=
  .al [(.i .u32 n2_0), (.i .u16 n2_1)] fun a0 =>
  .call 145 [(.sc (.p (.some (p0_, q0_)))), (.sc (.i .i64 n1_))] fun v1 =>
  .asT 2 v1 fun l2 =>
  .nthC l2 0 fun v3 =>
  .asA 7 (v3.av) fun l4 =>
  .nth l4 0 fun v5 =>
  .asI .i64 (.sc v5) fun n6 =>
  .nth l4 1 fun v7 =>
  .asI .i64 (.sc v7) fun n8 =>
  .nth l4 2 fun v9 =>
  .asI .i64 (.sc v9) fun n10 =>
  .nth l4 3 fun v11 =>
  .asI .u32 (.sc v11) fun n12 =>
  .nth l4 4 fun v13 =>
  .asI .u16 (.sc v13) fun n14 =>
  .nth l4 5 fun v15 =>
  .asI .u64 (.sc v15) fun n16 =>
  .nth l4 6 fun v17 =>
  .asI .u64 (.sc v17) fun n18 =>
  .nthC l2 1 fun v19 =>
  .asB (v19.av) fun b20 =>
  .al [(.i .i64 (0 : Int)), (.i .i64 (0 : Int)), (.i .i64 (0 : Int)), (.i .u32 (0 : Int)), (.i .u16 (0 : Int)), (.i .u64 (0 : Int)), (.i .u64 (0 : Int))] fun a21 =>
  .st a21 0 [(.i .i64 n6), (.i .i64 n8), (.i .i64 n10), (.i .u32 n12), (.i .u16 n14), (.i .u64 n16), (.i .u64 n18)] (
  cond (!b20)
    (.ret 0 [(.sc (.b .false))])
    (cond (decide (n3_ > (4611686018427387904 : Int)))
      (.ret 0 [(.sc (.b .false))])
      (.ld a21 (0 + 1) 1 fun l22 =>
      .nth l22 0 fun v23 =>
      .asI .i64 (.sc v23) fun n24 =>
      cond (n24 != (3 : Int))
        (.ret 0 [(.sc (.b .false))])
        (.ld a21 (0 + 3) 2 fun l25 =>
        .nth l25 0 fun v26 =>
        .asI .u32 (.sc v26) fun n27 =>
        .nth l25 1 fun v28 =>
        .asI .u16 (.sc v28) fun n29 =>
        .ld a0 0 2 fun l30 =>
        .nth l30 0 fun v31 =>
        .asI .u32 (.sc v31) fun n32 =>
        .nth l30 1 fun v33 =>
        .asI .u16 (.sc v33) fun n34 =>
        cond (!((n27 == n32) && ((n29 == n34) && .true)))
          (.ret 0 [(.sc (.b .false))])
          (.nn (.some (p0_, q0_)) fun a35 a36 =>
          .ld a35 (a36 + 3) 1 fun l37 =>
          .nth l37 0 fun v38 =>
          .asI .u64 (.sc v38) fun n39 =>
          .nn (.some (p0_, q0_)) fun a40 a41 =>
          .br ((decide ((0 : Int) ≤ n1_)) && (decide (n1_ < (33 : Int))))
            (.st a40 (((a41 + 4) + ((Int.toNat n1_) * 7)) + 6) [(.i .u64 (IntKind.wrap .u64 (n3_ + n39)))] (
            .ret 0 [(.sc (.b .true))]))
            (.fail))))))
theorem t174_eq (p0_ q0_ : Nat) (n1_ : Int) (n2_0 : Int) (n2_1 : Int) (n3_ : Int) : bodyK T (hs 174) Tryz.f174 [.sc (.p (some (p0_, q0_))), .sc (.i .i64 n1_), .ag [.i .u32 n2_0, .i .u16 n2_1], .sc (.i .u64 n3_)] = t174 p0_ q0_ n1_ n2_0 n2_1 n3_ := by kernel_rfl
def t175_k266  : Nat → List AV → Tree := fun a354 l355 =>
  .tg a354 0
    (.asP (l355.getD 0 .un) fun o356 =>
    .asI .u64 (l355.getD 1 .un) fun n357 =>
    .asP (l355.getD 2 .un) fun o358 =>
    .nn o358 fun a359 a360 =>
    .asP (l355.getD 3 .un) fun o361 =>
    .nn o361 fun a362 a363 =>
    .asB (l355.getD 4 .un) fun b364 =>
    .asI .i64 (l355.getD 5 .un) fun n365 =>
    .asB (l355.getD 6 .un) fun b366 =>
    .asB (l355.getD 7 .un) fun b367 =>
    .ret 0 [(.sc (.p o356)), (.sc (.i .u64 n357)), (.sc (.p (.some (a359, a360)))), (.sc (.p (.some (a362, a363)))), (.sc (.b b364)), (.sc (.i .i64 n365)), (.sc (.b b366))])
    (.fail)
def t175_k251  : Nat → List AV → Tree := fun a252 l253 =>
  .tg a252 0
    (.asP (l253.getD 0 .un) fun o254 =>
    .asI .u64 (l253.getD 1 .un) fun n255 =>
    .asP (l253.getD 2 .un) fun o256 =>
    .nn o256 fun a257 a258 =>
    .asP (l253.getD 3 .un) fun o259 =>
    .nn o259 fun a260 a261 =>
    .asB (l253.getD 4 .un) fun b262 =>
    .asI .i64 (l253.getD 5 .un) fun n263 =>
    .asB (l253.getD 6 .un) fun b264 =>
    .asB (l253.getD 7 .un) fun b265 =>
    .join (
      cond b265
        (.ld a257 a258 2 fun l267 =>
        .nth l267 0 fun v268 =>
        .asI .u32 (.sc v268) fun n269 =>
        .nth l267 1 fun v270 =>
        .asI .u16 (.sc v270) fun n271 =>
        .ld a260 a261 10 fun l272 =>
        .nth l272 0 fun v273 =>
        .asI .i64 (.sc v273) fun n274 =>
        .nth l272 1 fun v275 =>
        .asI .i64 (.sc v275) fun n276 =>
        .nth l272 2 fun v277 =>
        .asI .u32 (.sc v277) fun n278 =>
        .nth l272 3 fun v279 =>
        .asI .i64 (.sc v279) fun n280 =>
        .nth l272 4 fun v281 =>
        .asI .u32 (.sc v281) fun n282 =>
        .nth l272 5 fun v283 =>
        .asI .u16 (.sc v283) fun n284 =>
        .nth l272 6 fun v285 =>
        .asC .f64 (.sc v285) fun a286 a287 =>
        .nth l272 7 fun v288 =>
        .asB (.sc v288) fun b289 =>
        .nth l272 8 fun v290 =>
        .asS (.sc v290) fun x291 =>
        .nth l272 9 fun v292 =>
        .asL (.sc v292) fun o293 =>
        .call 266 [(.sc (.p o254)), (.sc (.i .u64 n255)), (.ag [(.i .u32 n269), (.i .u16 n271)]), (.ag [(.i .i64 n274), (.i .i64 n276), (.i .u32 n278), (.i .i64 n280), (.i .u32 n282), (.i .u16 n284), (.cx .f64 a286 a287), (.b b289), (.s x291), (.sl o293)])] fun v294 =>
        .ret 0 [(.sc (.p o254)), (.sc (.i .u64 n255)), (.sc (.p (.some (a257, a258)))), (.sc (.p (.some (a260, a261)))), (.sc (.b b262)), (.sc (.i .i64 n263)), (.sc (.b b264)), (.sc (.b b265))])
        (cond (n263 == (11 : Int))
          (.ld a260 a261 10 fun l295 =>
          .nth l295 0 fun v296 =>
          .asI .i64 (.sc v296) fun n297 =>
          .nth l295 1 fun v298 =>
          .asI .i64 (.sc v298) fun n299 =>
          .nth l295 2 fun v300 =>
          .asI .u32 (.sc v300) fun n301 =>
          .nth l295 3 fun v302 =>
          .asI .i64 (.sc v302) fun n303 =>
          .nth l295 4 fun v304 =>
          .asI .u32 (.sc v304) fun n305 =>
          .nth l295 5 fun v306 =>
          .asI .u16 (.sc v306) fun n307 =>
          .nth l295 6 fun v308 =>
          .asC .f64 (.sc v308) fun a309 a310 =>
          .nth l295 7 fun v311 =>
          .asB (.sc v311) fun b312 =>
          .nth l295 8 fun v313 =>
          .asS (.sc v313) fun x314 =>
          .nth l295 9 fun v315 =>
          .asL (.sc v315) fun o316 =>
          .call 267 [(.sc (.p o254)), (.sc (.i .u64 n255)), (.ag [(.i .i64 n297), (.i .i64 n299), (.i .u32 n301), (.i .i64 n303), (.i .u32 n305), (.i .u16 n307), (.cx .f64 a309 a310), (.b b312), (.s x314), (.sl o316)])] fun v317 =>
          .ret 0 [(.sc (.p o254)), (.sc (.i .u64 n255)), (.sc (.p (.some (a257, a258)))), (.sc (.p (.some (a260, a261)))), (.sc (.b b262)), (.sc (.i .i64 n263)), (.sc (.b b264)), (.sc (.b b265))])
          (cond (n263 == (13 : Int))
            (.ld a257 a258 2 fun l318 =>
            .nth l318 0 fun v319 =>
            .asI .u32 (.sc v319) fun n320 =>
            .nth l318 1 fun v321 =>
            .asI .u16 (.sc v321) fun n322 =>
            .nn o254 fun a323 a324 =>
            .ld a323 (a324 + 15) 1 fun l325 =>
            .nth l325 0 fun v326 =>
            .asP (.sc v326) fun o327 =>
            .call 21 [(.sc (.p o327))] fun v328 =>
            .asL v328 fun o329 =>
            .same a257 a258 [(.i .u32 n320), (.i .u16 n322)] (
            .call 53 [(.sc (.p o254)), (.ag [(.i .u32 n320), (.i .u16 n322)]), (.ag [(.i .i64 (15 : Int)), (.i .i64 (0 : Int)), (.i .u32 (0 : Int)), (.i .i64 (0 : Int)), (.i .u32 (0 : Int)), (.i .u16 (0 : Int)), (.cx .f64 0 0), (.b .true), (.s (.mk (.mk []))), (.sl o329)])] fun v330 =>
            .ret 0 [(.sc (.p o254)), (.sc (.i .u64 n255)), (.sc (.p (.some (a257, a258)))), (.sc (.p (.some (a260, a261)))), (.sc (.b b262)), (.sc (.i .i64 n263)), (.sc (.b b264)), (.sc (.b b265))]))
            (cond (n263 == (16 : Int))
              (.ld a260 a261 10 fun l331 =>
              .nth l331 0 fun v332 =>
              .asI .i64 (.sc v332) fun n333 =>
              .nth l331 1 fun v334 =>
              .asI .i64 (.sc v334) fun n335 =>
              .nth l331 2 fun v336 =>
              .asI .u32 (.sc v336) fun n337 =>
              .nth l331 3 fun v338 =>
              .asI .i64 (.sc v338) fun n339 =>
              .nth l331 4 fun v340 =>
              .asI .u32 (.sc v340) fun n341 =>
              .nth l331 5 fun v342 =>
              .asI .u16 (.sc v342) fun n343 =>
              .nth l331 6 fun v344 =>
              .asC .f64 (.sc v344) fun a345 a346 =>
              .nth l331 7 fun v347 =>
              .asB (.sc v347) fun b348 =>
              .nth l331 8 fun v349 =>
              .asS (.sc v349) fun x350 =>
              .nth l331 9 fun v351 =>
              .asL (.sc v351) fun o352 =>
              .call 268 [(.sc (.p o254)), (.sc (.i .u64 n255)), (.ag [(.i .i64 n333), (.i .i64 n335), (.i .u32 n337), (.i .i64 n339), (.i .u32 n341), (.i .u16 n343), (.cx .f64 a345 a346), (.b b348), (.s x350), (.sl o352)]), (.sc (.b b262))] fun v353 =>
              .ret 0 [(.sc (.p o254)), (.sc (.i .u64 n255)), (.sc (.p (.some (a257, a258)))), (.sc (.p (.some (a260, a261)))), (.sc (.b b262)), (.sc (.i .i64 n263)), (.sc (.b b264)), (.sc (.b b265))])
              (.ret 0 [(.sc (.p o254)), (.sc (.i .u64 n255)), (.sc (.p (.some (a257, a258)))), (.sc (.p (.some (a260, a261)))), (.sc (.b b262)), (.sc (.i .i64 n263)), (.sc (.b b264)), (.sc (.b b265))]))))) t175_k266)
    (.fail)
def t175_k222  : Nat → List AV → Tree := fun a368 l369 =>
  .tg a368 0
    (.asP (l369.getD 0 .un) fun o370 =>
    .asI .u64 (l369.getD 1 .un) fun n371 =>
    .asP (l369.getD 2 .un) fun o372 =>
    .nn o372 fun a373 a374 =>
    .asP (l369.getD 3 .un) fun o375 =>
    .nn o375 fun a376 a377 =>
    .asB (l369.getD 4 .un) fun b378 =>
    .asI .i64 (l369.getD 5 .un) fun n379 =>
    .asB (l369.getD 6 .un) fun b380 =>
    .ret 0 [(.tu [])])
    (.fail)
def t175_k208  : Nat → List AV → Tree := fun a209 l210 =>
  .tg a209 0
    (.asP (l210.getD 0 .un) fun o211 =>
    .asI .u64 (l210.getD 1 .un) fun n212 =>
    .asP (l210.getD 2 .un) fun o213 =>
    .nn o213 fun a214 a215 =>
    .asP (l210.getD 3 .un) fun o216 =>
    .nn o216 fun a217 a218 =>
    .asB (l210.getD 4 .un) fun b219 =>
    .asI .i64 (l210.getD 5 .un) fun n220 =>
    .asB (l210.getD 6 .un) fun b221 =>
    .join (
      cond b221
        (.ld a214 a215 2 fun l223 =>
        .nth l223 0 fun v224 =>
        .asI .u32 (.sc v224) fun n225 =>
        .nth l223 1 fun v226 =>
        .asI .u16 (.sc v226) fun n227 =>
        .ld a217 a218 10 fun l228 =>
        .nth l228 0 fun v229 =>
        .asI .i64 (.sc v229) fun n230 =>
        .nth l228 1 fun v231 =>
        .asI .i64 (.sc v231) fun n232 =>
        .nth l228 2 fun v233 =>
        .asI .u32 (.sc v233) fun n234 =>
        .nth l228 3 fun v235 =>
        .asI .i64 (.sc v235) fun n236 =>
        .nth l228 4 fun v237 =>
        .asI .u32 (.sc v237) fun n238 =>
        .nth l228 5 fun v239 =>
        .asI .u16 (.sc v239) fun n240 =>
        .nth l228 6 fun v241 =>
        .asC .f64 (.sc v241) fun a242 a243 =>
        .nth l228 7 fun v244 =>
        .asB (.sc v244) fun b245 =>
        .nth l228 8 fun v246 =>
        .asS (.sc v246) fun x247 =>
        .nth l228 9 fun v248 =>
        .asL (.sc v248) fun o249 =>
        .call 265 [(.sc (.p o211)), (.sc (.i .u64 n212)), (.ag [(.i .u32 n225), (.i .u16 n227)]), (.ag [(.i .i64 n230), (.i .i64 n232), (.i .u32 n234), (.i .i64 n236), (.i .u32 n238), (.i .u16 n240), (.cx .f64 a242 a243), (.b b245), (.s x247), (.sl o249)]), (.sc (.b b219))] fun v250 =>
        .ret 0 [(.sc (.p o211)), (.sc (.i .u64 n212)), (.sc (.p (.some (a214, a215)))), (.sc (.p (.some (a217, a218)))), (.sc (.b b219)), (.sc (.i .i64 n220)), (.sc (.b b221))])
        (.join (
          cond (n220 == (10 : Int))
            (.ret 0 [(.sc (.p o211)), (.sc (.i .u64 n212)), (.sc (.p (.some (a214, a215)))), (.sc (.p (.some (a217, a218)))), (.sc (.b b219)), (.sc (.i .i64 n220)), (.sc (.b b221)), (.sc (.b (n220 == (10 : Int))))])
            (.ret 0 [(.sc (.p o211)), (.sc (.i .u64 n212)), (.sc (.p (.some (a214, a215)))), (.sc (.p (.some (a217, a218)))), (.sc (.b b219)), (.sc (.i .i64 n220)), (.sc (.b b221)), (.sc (.b (n220 == (12 : Int))))])) t175_k251)) t175_k222)
    (.fail)
/-- (*scuttlebutt/node.Node).deal -/
def t175 (p0_ q0_ : Nat) (n1_ : Int) (n2_0 : Int) (n2_1 : Int) (n3_0 : Int) (n3_1 : Int) (n3_2 : Int) (n3_3 : Int) (n3_4 : Int) (n3_5 : Int) (n3_6 m3_6 : Nat) (b3_7 : Bool) (x3_8 : ByteArray) (s3_9 : Option SlD) : Tree :=
  .al [(.i .u32 n2_0), (.i .u16 n2_1)] fun a0 =>
  .al [(.i .i64 n3_0), (.i .i64 n3_1), (.i .u32 n3_2), (.i .i64 n3_3), (.i .u32 n3_4), (.i .u16 n3_5), (.cx .f64 n3_6 m3_6), (.b b3_7), (.s x3_8), (.sl s3_9)] fun a1 =>
  .ld a1 (0 + 3) 1 fun l2 =>
  .nth l2 0 fun v3 =>
  .asI .i64 (.sc v3) fun n4 =>
  .nn (.some (p0_, q0_)) fun a5 a6 =>
  .ld a5 ((a6 + 0) + 0) 1 fun l7 =>
  .nth l7 0 fun v8 =>
  .asI .i64 (.sc v8) fun n9 =>
  .ld a1 (0 + 0) 1 fun l10 =>
  .nth l10 0 fun v11 =>
  .asI .i64 (.sc v11) fun n12 =>
  cond (n12 == (1 : Int))
    (.ld a0 0 2 fun l13 =>
    .nth l13 0 fun v14 =>
    .asI .u32 (.sc v14) fun n15 =>
    .nth l13 1 fun v16 =>
    .asI .u16 (.sc v16) fun n17 =>
    .ld a1 0 10 fun l18 =>
    .nth l18 0 fun v19 =>
    .asI .i64 (.sc v19) fun n20 =>
    .nth l18 1 fun v21 =>
    .asI .i64 (.sc v21) fun n22 =>
    .nth l18 2 fun v23 =>
    .asI .u32 (.sc v23) fun n24 =>
    .nth l18 3 fun v25 =>
    .asI .i64 (.sc v25) fun n26 =>
    .nth l18 4 fun v27 =>
    .asI .u32 (.sc v27) fun n28 =>
    .nth l18 5 fun v29 =>
    .asI .u16 (.sc v29) fun n30 =>
    .nth l18 6 fun v31 =>
    .asC .f64 (.sc v31) fun a32 a33 =>
    .nth l18 7 fun v34 =>
    .asB (.sc v34) fun b35 =>
    .nth l18 8 fun v36 =>
    .asS (.sc v36) fun x37 =>
    .nth l18 9 fun v38 =>
    .asL (.sc v38) fun o39 =>
    .call 258 [(.sc (.p (.some (p0_, q0_)))), (.ag [(.i .u32 n15), (.i .u16 n17)]), (.ag [(.i .i64 n20), (.i .i64 n22), (.i .u32 n24), (.i .i64 n26), (.i .u32 n28), (.i .u16 n30), (.cx .f64 a32 a33), (.b b35), (.s x37), (.sl o39)]), (.sc (.b (n4 == n9)))] fun v40 =>
    .ret 0 [(.tu [])])
    (cond (n12 == (2 : Int))
      (.ld a1 0 10 fun l41 =>
      .nth l41 0 fun v42 =>
      .asI .i64 (.sc v42) fun n43 =>
      .nth l41 1 fun v44 =>
      .asI .i64 (.sc v44) fun n45 =>
      .nth l41 2 fun v46 =>
      .asI .u32 (.sc v46) fun n47 =>
      .nth l41 3 fun v48 =>
      .asI .i64 (.sc v48) fun n49 =>
      .nth l41 4 fun v50 =>
      .asI .u32 (.sc v50) fun n51 =>
      .nth l41 5 fun v52 =>
      .asI .u16 (.sc v52) fun n53 =>
      .nth l41 6 fun v54 =>
      .asC .f64 (.sc v54) fun a55 a56 =>
      .nth l41 7 fun v57 =>
      .asB (.sc v57) fun b58 =>
      .nth l41 8 fun v59 =>
      .asS (.sc v59) fun x60 =>
      .nth l41 9 fun v61 =>
      .asL (.sc v61) fun o62 =>
      .call 259 [(.sc (.p (.some (p0_, q0_)))), (.ag [(.i .i64 n43), (.i .i64 n45), (.i .u32 n47), (.i .i64 n49), (.i .u32 n51), (.i .u16 n53), (.cx .f64 a55 a56), (.b b58), (.s x60), (.sl o62)])] fun v63 =>
      .ret 0 [(.tu [])])
      (cond (n12 == (3 : Int))
        (.ld a1 0 10 fun l64 =>
        .nth l64 0 fun v65 =>
        .asI .i64 (.sc v65) fun n66 =>
        .nth l64 1 fun v67 =>
        .asI .i64 (.sc v67) fun n68 =>
        .nth l64 2 fun v69 =>
        .asI .u32 (.sc v69) fun n70 =>
        .nth l64 3 fun v71 =>
        .asI .i64 (.sc v71) fun n72 =>
        .nth l64 4 fun v73 =>
        .asI .u32 (.sc v73) fun n74 =>
        .nth l64 5 fun v75 =>
        .asI .u16 (.sc v75) fun n76 =>
        .nth l64 6 fun v77 =>
        .asC .f64 (.sc v77) fun a78 a79 =>
        .nth l64 7 fun v80 =>
        .asB (.sc v80) fun b81 =>
        .nth l64 8 fun v82 =>
        .asS (.sc v82) fun x83 =>
        .nth l64 9 fun v84 =>
        .asL (.sc v84) fun o85 =>
        .call 260 [(.sc (.p (.some (p0_, q0_)))), (.ag [(.i .i64 n66), (.i .i64 n68), (.i .u32 n70), (.i .i64 n72), (.i .u32 n74), (.i .u16 n76), (.cx .f64 a78 a79), (.b b81), (.s x83), (.sl o85)]), (.sc (.b (n4 == n9)))] fun v86 =>
        .ret 0 [(.tu [])])
        (cond (n12 == (4 : Int))
          (.nn (.some (p0_, q0_)) fun a87 a88 =>
          .ld a87 (a88 + 18) 7 fun l89 =>
          .nth l89 0 fun v90 =>
          .asI .i64 (.sc v90) fun n91 =>
          .nth l89 1 fun v92 =>
          .asI .i64 (.sc v92) fun n93 =>
          .nth l89 2 fun v94 =>
          .asI .i64 (.sc v94) fun n95 =>
          .nth l89 3 fun v96 =>
          .asI .u32 (.sc v96) fun n97 =>
          .nth l89 4 fun v98 =>
          .asI .u64 (.sc v98) fun n99 =>
          .nth l89 5 fun v100 =>
          .asI .u64 (.sc v100) fun n101 =>
          .nth l89 6 fun v102 =>
          .asI .u64 (.sc v102) fun n103 =>
          .ld a1 (0 + 2) 1 fun l104 =>
          .nth l104 0 fun v105 =>
          .asI .u32 (.sc v105) fun n106 =>
          .call 261 [(.ag [(.i .i64 n91), (.i .i64 n93), (.i .i64 n95), (.i .u32 n97), (.i .u64 n99), (.i .u64 n101), (.i .u64 n103)]), (.sc (.i .u32 n106))] fun v107 =>
          .asT 2 v107 fun l108 =>
          .nthC l108 0 fun v109 =>
          .asA 7 (v109.av) fun l110 =>
          .nth l110 0 fun v111 =>
          .asI .i64 (.sc v111) fun n112 =>
          .nth l110 1 fun v113 =>
          .asI .i64 (.sc v113) fun n114 =>
          .nth l110 2 fun v115 =>
          .asI .i64 (.sc v115) fun n116 =>
          .nth l110 3 fun v117 =>
          .asI .u32 (.sc v117) fun n118 =>
          .nth l110 4 fun v119 =>
          .asI .u64 (.sc v119) fun n120 =>
          .nth l110 5 fun v121 =>
          .asI .u64 (.sc v121) fun n122 =>
          .nth l110 6 fun v123 =>
          .asI .u64 (.sc v123) fun n124 =>
          .nthC l108 1 fun v125 =>
          .asB (v125.av) fun b126 =>
          .nn (.some (p0_, q0_)) fun a127 a128 =>
          .st a127 (a128 + 18) [(.i .i64 n112), (.i .i64 n114), (.i .i64 n116), (.i .u32 n118), (.i .u64 n120), (.i .u64 n122), (.i .u64 n124)] (
          .ret 0 [(.tu [])]))
          (cond (n12 == (5 : Int))
            (.ld a0 0 2 fun l129 =>
            .nth l129 0 fun v130 =>
            .asI .u32 (.sc v130) fun n131 =>
            .nth l129 1 fun v132 =>
            .asI .u16 (.sc v132) fun n133 =>
            .ld a1 0 10 fun l134 =>
            .nth l134 0 fun v135 =>
            .asI .i64 (.sc v135) fun n136 =>
            .nth l134 1 fun v137 =>
            .asI .i64 (.sc v137) fun n138 =>
            .nth l134 2 fun v139 =>
            .asI .u32 (.sc v139) fun n140 =>
            .nth l134 3 fun v141 =>
            .asI .i64 (.sc v141) fun n142 =>
            .nth l134 4 fun v143 =>
            .asI .u32 (.sc v143) fun n144 =>
            .nth l134 5 fun v145 =>
            .asI .u16 (.sc v145) fun n146 =>
            .nth l134 6 fun v147 =>
            .asC .f64 (.sc v147) fun a148 a149 =>
            .nth l134 7 fun v150 =>
            .asB (.sc v150) fun b151 =>
            .nth l134 8 fun v152 =>
            .asS (.sc v152) fun x153 =>
            .nth l134 9 fun v154 =>
            .asL (.sc v154) fun o155 =>
            .call 262 [(.sc (.p (.some (p0_, q0_)))), (.sc (.i .u64 n1_)), (.ag [(.i .u32 n131), (.i .u16 n133)]), (.ag [(.i .i64 n136), (.i .i64 n138), (.i .u32 n140), (.i .i64 n142), (.i .u32 n144), (.i .u16 n146), (.cx .f64 a148 a149), (.b b151), (.s x153), (.sl o155)]), (.sc (.b (n4 == n9)))] fun v156 =>
            .ret 0 [(.tu [])])
            (cond (n12 == (6 : Int))
              (.ld a0 0 2 fun l157 =>
              .nth l157 0 fun v158 =>
              .asI .u32 (.sc v158) fun n159 =>
              .nth l157 1 fun v160 =>
              .asI .u16 (.sc v160) fun n161 =>
              .ld a1 0 10 fun l162 =>
              .nth l162 0 fun v163 =>
              .asI .i64 (.sc v163) fun n164 =>
              .nth l162 1 fun v165 =>
              .asI .i64 (.sc v165) fun n166 =>
              .nth l162 2 fun v167 =>
              .asI .u32 (.sc v167) fun n168 =>
              .nth l162 3 fun v169 =>
              .asI .i64 (.sc v169) fun n170 =>
              .nth l162 4 fun v171 =>
              .asI .u32 (.sc v171) fun n172 =>
              .nth l162 5 fun v173 =>
              .asI .u16 (.sc v173) fun n174 =>
              .nth l162 6 fun v175 =>
              .asC .f64 (.sc v175) fun a176 a177 =>
              .nth l162 7 fun v178 =>
              .asB (.sc v178) fun b179 =>
              .nth l162 8 fun v180 =>
              .asS (.sc v180) fun x181 =>
              .nth l162 9 fun v182 =>
              .asL (.sc v182) fun o183 =>
              .call 263 [(.sc (.p (.some (p0_, q0_)))), (.ag [(.i .u32 n159), (.i .u16 n161)]), (.ag [(.i .i64 n164), (.i .i64 n166), (.i .u32 n168), (.i .i64 n170), (.i .u32 n172), (.i .u16 n174), (.cx .f64 a176 a177), (.b b179), (.s x181), (.sl o183)])] fun v184 =>
              .ret 0 [(.tu [])])
              (cond (n12 == (7 : Int))
                (.ld a1 0 10 fun l185 =>
                .nth l185 0 fun v186 =>
                .asI .i64 (.sc v186) fun n187 =>
                .nth l185 1 fun v188 =>
                .asI .i64 (.sc v188) fun n189 =>
                .nth l185 2 fun v190 =>
                .asI .u32 (.sc v190) fun n191 =>
                .nth l185 3 fun v192 =>
                .asI .i64 (.sc v192) fun n193 =>
                .nth l185 4 fun v194 =>
                .asI .u32 (.sc v194) fun n195 =>
                .nth l185 5 fun v196 =>
                .asI .u16 (.sc v196) fun n197 =>
                .nth l185 6 fun v198 =>
                .asC .f64 (.sc v198) fun a199 a200 =>
                .nth l185 7 fun v201 =>
                .asB (.sc v201) fun b202 =>
                .nth l185 8 fun v203 =>
                .asS (.sc v203) fun x204 =>
                .nth l185 9 fun v205 =>
                .asL (.sc v205) fun o206 =>
                .call 264 [(.sc (.p (.some (p0_, q0_)))), (.sc (.i .u64 n1_)), (.ag [(.i .i64 n187), (.i .i64 n189), (.i .u32 n191), (.i .i64 n193), (.i .u32 n195), (.i .u16 n197), (.cx .f64 a199 a200), (.b b202), (.s x204), (.sl o206)])] fun v207 =>
                .ret 0 [(.tu [])])
                (.join (
                  cond (n12 == (8 : Int))
                    (.ret 0 [(.sc (.p (.some (p0_, q0_)))), (.sc (.i .u64 n1_)), (.sc (.p (.some (a0, 0)))), (.sc (.p (.some (a1, 0)))), (.sc (.b (n4 == n9))), (.sc (.i .i64 n12)), (.sc (.b (n12 == (8 : Int))))])
                    (.ret 0 [(.sc (.p (.some (p0_, q0_)))), (.sc (.i .u64 n1_)), (.sc (.p (.some (a0, 0)))), (.sc (.p (.some (a1, 0)))), (.sc (.b (n4 == n9))), (.sc (.i .i64 n12)), (.sc (.b (n12 == (9 : Int))))])) t175_k208)))))))
theorem t175_eq (p0_ q0_ : Nat) (n1_ : Int) (n2_0 : Int) (n2_1 : Int) (n3_0 : Int) (n3_1 : Int) (n3_2 : Int) (n3_3 : Int) (n3_4 : Int) (n3_5 : Int) (n3_6 m3_6 : Nat) (b3_7 : Bool) (x3_8 : ByteArray) (s3_9 : Option SlD) : bodyK T (hs 175) Tryz.f175 [.sc (.p (some (p0_, q0_))), .sc (.i .u64 n1_), .ag [.i .u32 n2_0, .i .u16 n2_1], .ag [.i .i64 n3_0, .i .i64 n3_1, .i .u32 n3_2, .i .i64 n3_3, .i .u32 n3_4, .i .u16 n3_5, .cx .f64 n3_6 m3_6, .b b3_7, .s x3_8, .sl s3_9]] = t175 p0_ q0_ n1_ n2_0 n2_1 n3_0 n3_1 n3_2 n3_3 n3_4 n3_5 n3_6 m3_6 b3_7 x3_8 s3_9 := by kernel_rfl
def t211_b0  : List AV → Tree := fun l1 =>
  .asL (l1.getD 0 .un) fun o2 =>
  .asI .i64 (l1.getD 1 .un) fun n3 =>
  .asI .i64 (l1.getD 2 .un) fun n4 =>
  .asI .i64 (l1.getD 3 .un) fun n5 =>
  cond (decide (n5 < n4))
    (.ixS 1 o2 n5 fun a6 a7 a8 =>
    .ld a6 (a7 + (a8 * 1)) 1 fun l9 =>
    .nth l9 0 fun v10 =>
    .asI .i64 (.sc v10) fun n11 =>
    cond (n3 == n11)
      (.ret 1 [(.sc (.i .i64 n5))])
      (.ret 0 [(.sc (.sl o2)), (.sc (.i .i64 n3)), (.sc (.i .i64 n4)), (.sc (.i .i64 (IntKind.wrap .i64 (n5 + (1 : Int)))))]))
    (.ret 2 [])
def t211_k0  : Nat → List AV → Tree := fun a12 l13 =>
  .tg a12 2
    (.ret 0 [(.sc (.i .i64 (-1 : Int)))])
    (.tg a12 1
      (.asI .i64 (l13.getD 0 .un) fun n14 =>
      .ret 0 [(.sc (.i .i64 n14))])
      (.fail))
/-- slices.Index[[]int,int] -/
def t211 (s0_ : Option SlD) (n1_ : Int) : Tree :=
  .loop t211_b0 [(.sc (.sl s0_)), (.sc (.i .i64 n1_)), (.sc (.i .i64 (slLen s0_))), (.sc (.i .i64 (0 : Int)))] t211_k0
theorem t211_eq (s0_ : Option SlD) (n1_ : Int) : bodyK T (hs 211) Tryz.f211 [.sc (.sl s0_), .sc (.i .i64 n1_)] = t211 s0_ n1_ := by kernel_rfl
def t228_b0  : List AV → Tree := fun l1 =>
  .asL (l1.getD 0 .un) fun o2 =>
  .asX (l1.getD 1 .un) fun v3 =>
  .asI .i64 (l1.getD 2 .un) fun n4 =>
  .asI .i64 (l1.getD 3 .un) fun n5 =>
  cond (decide (n5 < n4))
    (.ixS 4 o2 n5 fun a6 a7 a8 =>
    .ld a6 (a7 + (a8 * 4)) 4 fun l9 =>
    .nth l9 0 fun v10 =>
    .asI .i64 (.sc v10) fun n11 =>
    .nth l9 1 fun v12 =>
    .asI .u32 (.sc v12) fun n13 =>
    .nth l9 2 fun v14 =>
    .asI .u16 (.sc v14) fun n15 =>
    .nth l9 3 fun v16 =>
    .asC .f64 (.sc v16) fun a17 a18 =>
    .callv (.sc v3) [(.ag [(.i .i64 n11), (.i .u32 n13), (.i .u16 n15), (.cx .f64 a17 a18)])] fun v19 =>
    .asB v19 fun b20 =>
    cond b20
      (.ret 1 [(.sc (.i .i64 n5))])
      (.ret 0 [(.sc (.sl o2)), (.sc v3), (.sc (.i .i64 n4)), (.sc (.i .i64 (IntKind.wrap .i64 (n5 + (1 : Int)))))]))
    (.ret 2 [])
def t228_k0  : Nat → List AV → Tree := fun a21 l22 =>
  .tg a21 2
    (.ret 0 [(.sc (.i .i64 (-1 : Int)))])
    (.tg a21 1
      (.asI .i64 (l22.getD 0 .un) fun n23 =>
      .ret 0 [(.sc (.i .i64 n23))])
      (.fail))
/-- slices.IndexFunc[[]scuttlebutt/node.Seed,scuttlebutt/node.Seed] -/
def t228 (s0_ : Option SlD) (g1_ : FuncId) (f1_ c1_ : List (Nat × Nat)) : Tree :=
  .loop t228_b0 [(.sc (.sl s0_)), (.sc (.fn g1_ f1_ c1_)), (.sc (.i .i64 (slLen s0_))), (.sc (.i .i64 (0 : Int)))] t228_k0
theorem t228_eq (s0_ : Option SlD) (g1_ : FuncId) (f1_ c1_ : List (Nat × Nat)) : bodyK T (hs 228) Tryz.f228 [.sc (.sl s0_), .sc (.fn g1_ f1_ c1_)] = t228 s0_ g1_ f1_ c1_ := by kernel_rfl
/-- (*scuttlebutt/node.Node).of$1 -/
def t229 (n0_0 : Int) (n0_1 : Int) (n0_2 : Int) (n0_3 m0_3 : Nat) (p1_ q1_ : Nat) : Tree :=
  .al [(.i .i64 n0_0), (.i .u32 n0_1), (.i .u16 n0_2), (.cx .f64 n0_3 m0_3)] fun a0 =>
  .ld a0 (0 + 0) 1 fun l1 =>
  .nth l1 0 fun v2 =>
  .asI .i64 (.sc v2) fun n3 =>
  .ld p1_ q1_ 1 fun l4 =>
  .nth l4 0 fun v5 =>
  .asI .i64 (.sc v5) fun n6 =>
  .ret 0 [(.sc (.b (n3 == n6)))]
theorem t229_eq (n0_0 : Int) (n0_1 : Int) (n0_2 : Int) (n0_3 m0_3 : Nat) (p1_ q1_ : Nat) : bodyK T (hs 229) Tryz.f229 [.ag [.i .i64 n0_0, .i .u32 n0_1, .i .u16 n0_2, .cx .f64 n0_3 m0_3], .sc (.p (some (p1_, q1_)))] = t229 n0_0 n0_1 n0_2 n0_3 m0_3 p1_ q1_ := by kernel_rfl
/-- scuttlebutt/path.node -/
def t231 (n0_ : Int) : Tree :=
  cond (decide (n0_ ≥ (1 : Int)))
    (.ret 0 [(.sc (.b (decide (n0_ ≤ (32 : Int)))))])
    (.ret 0 [(.sc (.b .false))])
theorem t231_eq (n0_ : Int) : bodyK T (hs 231) Tryz.f231 [.sc (.i .i64 n0_)] = t231 n0_ := by kernel_rfl
/-- (*scuttlebutt/node.Node).relay -/
def t262 (p0_ q0_ : Nat) (n1_ : Int) (n2_0 : Int) (n2_1 : Int) (n3_0 : Int) (n3_1 : Int) (n3_2 : Int) (n3_3 : Int) (n3_4 : Int) (n3_5 : Int) (n3_6 m3_6 : Nat) (b3_7 : Bool) (x3_8 : ByteArray) (s3_9 : Option SlD) (b4_ : Bool) : Tree :=
  .al [(.i .u32 n2_0), (.i .u16 n2_1)] fun a0 =>
  .al [(.i .i64 n3_0), (.i .i64 n3_1), (.i .u32 n3_2), (.i .i64 n3_3), (.i .u32 n3_4), (.i .u16 n3_5), (.cx .f64 n3_6 m3_6), (.b b3_7), (.s x3_8), (.sl s3_9)] fun a1 =>
  cond b4_
    (.ld a0 0 2 fun l2 =>
    .nth l2 0 fun v3 =>
    .asI .u32 (.sc v3) fun n4 =>
    .nth l2 1 fun v5 =>
    .asI .u16 (.sc v5) fun n6 =>
    .ld a1 (0 + 8) 1 fun l7 =>
    .nth l7 0 fun v8 =>
    .asS (.sc v8) fun x9 =>
    .call 81 [(.sc (.p (.some (p0_, q0_)))), (.sc (.i .u64 n1_)), (.ag [(.i .u32 n4), (.i .u16 n6)]), (.sc (.s x9)), (.sc (.b .true))] fun v10 =>
    .ret 0 [(.tu [])])
    (.nn (.some (p0_, q0_)) fun a11 a12 =>
    .ld a11 (a12 + 27) 1 fun l13 =>
    .nth l13 0 fun v14 =>
    .asP (.sc v14) fun o15 =>
    .ld a1 (0 + 3) 1 fun l16 =>
    .nth l16 0 fun v17 =>
    .asI .i64 (.sc v17) fun n18 =>
    .al [(.i .u32 (0 : Int)), (.i .u16 (0 : Int))] fun a19 =>
    .call 236 [(.sc (.p o15)), (.sc (.i .i64 n18)), (.sc (.i .u64 n1_))] fun v20 =>
    .asT 2 v20 fun l21 =>
    .nthC l21 0 fun v22 =>
    .asA 2 (v22.av) fun l23 =>
    .nth l23 0 fun v24 =>
    .asI .u32 (.sc v24) fun n25 =>
    .nth l23 1 fun v26 =>
    .asI .u16 (.sc v26) fun n27 =>
    .nthC l21 1 fun v28 =>
    .asB (v28.av) fun b29 =>
    .st a19 0 [(.i .u32 n25), (.i .u16 n27)] (
    cond b29
      (.nn (.some (p0_, q0_)) fun a30 a31 =>
      .ld a30 (a31 + 35) 1 fun l32 =>
      .nth l32 0 fun v33 =>
      .asL (.sc v33) fun o34 =>
      .ld a19 0 2 fun l35 =>
      .nth l35 0 fun v36 =>
      .asI .u32 (.sc v36) fun n37 =>
      .nth l35 1 fun v38 =>
      .asI .u16 (.sc v38) fun n39 =>
      .ld a1 (0 + 8) 1 fun l40 =>
      .nth l40 0 fun v41 =>
      .asS (.sc v41) fun x42 =>
      .al [(.i .u32 n37), (.i .u16 n39), (.s x42)] fun a43 =>
      .lds 3 (.some (.mk a43 0 1 1 3)) (slN (.some (.mk a43 0 1 1 3))) fun l44 =>
      .app 3 24 o34 l44 (slN (.some (.mk a43 0 1 1 3))) fun o45 =>
      .nn (.some (p0_, q0_)) fun a46 a47 =>
      .st a46 (a47 + 35) [(.sl o45)] (
      .ret 0 [(.tu [])]))
      (.ret 0 [(.tu [])])))
theorem t262_eq (p0_ q0_ : Nat) (n1_ : Int) (n2_0 : Int) (n2_1 : Int) (n3_0 : Int) (n3_1 : Int) (n3_2 : Int) (n3_3 : Int) (n3_4 : Int) (n3_5 : Int) (n3_6 m3_6 : Nat) (b3_7 : Bool) (x3_8 : ByteArray) (s3_9 : Option SlD) (b4_ : Bool) : bodyK T (hs 262) Tryz.f262 [.sc (.p (some (p0_, q0_))), .sc (.i .u64 n1_), .ag [.i .u32 n2_0, .i .u16 n2_1], .ag [.i .i64 n3_0, .i .i64 n3_1, .i .u32 n3_2, .i .i64 n3_3, .i .u32 n3_4, .i .u16 n3_5, .cx .f64 n3_6 m3_6, .b b3_7, .s x3_8, .sl s3_9], .sc (.b b4_)] = t262 p0_ q0_ n1_ n2_0 n2_1 n3_0 n3_1 n3_2 n3_3 n3_4 n3_5 n3_6 m3_6 b3_7 x3_8 s3_9 b4_ := by kernel_rfl
def t266_k41  : Nat → List AV → Tree := fun a80 l81 =>
  .tg a80 0
    (.asP (l81.getD 0 .un) fun o82 =>
    .asI .u64 (l81.getD 1 .un) fun n83 =>
    .asP (l81.getD 2 .un) fun o84 =>
    .nn o84 fun a85 a86 =>
    .asP (l81.getD 3 .un) fun o87 =>
    .nn o87 fun a88 a89 =>
    .asB (l81.getD 4 .un) fun b90 =>
    .ret 0 [(.tu [])])
    (.fail)
def t266_k26  : Nat → List AV → Tree := fun a30 l31 =>
  .tg a30 0
    (.asP (l31.getD 0 .un) fun o32 =>
    .asI .u64 (l31.getD 1 .un) fun n33 =>
    .asP (l31.getD 2 .un) fun o34 =>
    .nn o34 fun a35 a36 =>
    .asP (l31.getD 3 .un) fun o37 =>
    .nn o37 fun a38 a39 =>
    .asB (l31.getD 4 .un) fun b40 =>
    .join (
      cond b40
        (.nn o32 fun a42 a43 =>
        .ld a42 (a43 + 27) 1 fun l44 =>
        .nth l44 0 fun v45 =>
        .asP (.sc v45) fun o46 =>
        .ld a38 (a39 + 1) 1 fun l47 =>
        .nth l47 0 fun v48 =>
        .asI .i64 (.sc v48) fun n49 =>
        .ld a35 a36 2 fun l50 =>
        .nth l50 0 fun v51 =>
        .asI .u32 (.sc v51) fun n52 =>
        .nth l50 1 fun v53 =>
        .asI .u16 (.sc v53) fun n54 =>
        .call 313 [(.sc (.p o46)), (.sc (.i .i64 n49)), (.ag [(.i .u32 n52), (.i .u16 n54)]), (.sc (.i .u64 n33))] fun v55 =>
        .asT 2 v55 fun l56 =>
        .nthC l56 0 fun v57 =>
        .asI .u64 (v57.av) fun n58 =>
        .nthC l56 1 fun v59 =>
        .asI .i64 (v59.av) fun n60 =>
        .ld a35 a36 2 fun l61 =>
        .nth l61 0 fun v62 =>
        .asI .u32 (.sc v62) fun n63 =>
        .nth l61 1 fun v64 =>
        .asI .u16 (.sc v64) fun n65 =>
        .call 53 [(.sc (.p o32)), (.ag [(.i .u32 n63), (.i .u16 n65)]), (.ag [(.i .i64 (11 : Int)), (.i .i64 (0 : Int)), (.i .u32 (0 : Int)), (.i .i64 (0 : Int)), (.i .u32 (0 : Int)), (.i .u16 (0 : Int)), (.cx .f64 0 0), (.b (n60 == (0 : Int))), (.s (.mk (.mk []))), (.sl .none)])] fun v66 =>
        .ret 0 [(.sc (.p o32)), (.sc (.i .u64 n33)), (.sc (.p (.some (a35, a36)))), (.sc (.p (.some (a38, a39)))), (.sc (.b b40))])
        (.ld a38 (a39 + 0) 1 fun l67 =>
        .nth l67 0 fun v68 =>
        .asI .i64 (.sc v68) fun n69 =>
        cond (n69 == (10 : Int))
          (.nn o32 fun a70 a71 =>
          .ld a70 (a71 + 27) 1 fun l72 =>
          .nth l72 0 fun v73 =>
          .asP (.sc v73) fun o74 =>
          .ld a38 (a39 + 1) 1 fun l75 =>
          .nth l75 0 fun v76 =>
          .asI .i64 (.sc v76) fun n77 =>
          .call 146 [(.sc (.p o74)), (.sc (.i .i64 n77))] fun v78 =>
          .asB v78 fun b79 =>
          .ret 0 [(.sc (.p o32)), (.sc (.i .u64 n33)), (.sc (.p (.some (a35, a36)))), (.sc (.p (.some (a38, a39)))), (.sc (.b b40))])
          (.ret 0 [(.sc (.p o32)), (.sc (.i .u64 n33)), (.sc (.p (.some (a35, a36)))), (.sc (.p (.some (a38, a39)))), (.sc (.b b40))]))) t266_k41)
    (.fail)
/-- (*scuttlebutt/node.Node).grant -/
def t266 (p0_ q0_ : Nat) (n1_ : Int) (n2_0 : Int) (n2_1 : Int) (n3_0 : Int) (n3_1 : Int) (n3_2 : Int) (n3_3 : Int) (n3_4 : Int) (n3_5 : Int) (n3_6 m3_6 : Nat) (b3_7 : Bool) (x3_8 : ByteArray) (s3_9 : Option SlD) : Tree :=
  .al [(.i .u32 n2_0), (.i .u16 n2_1)] fun a0 =>
  .al [(.i .i64 n3_0), (.i .i64 n3_1), (.i .u32 n3_2), (.i .i64 n3_3), (.i .u32 n3_4), (.i .u16 n3_5), (.cx .f64 n3_6 m3_6), (.b b3_7), (.s x3_8), (.sl s3_9)] fun a1 =>
  .nn (.some (p0_, q0_)) fun a2 a3 =>
  .ld a2 (a3 + 27) 1 fun l4 =>
  .nth l4 0 fun v5 =>
  .asP (.sc v5) fun o6 =>
  .ld a1 (0 + 1) 1 fun l7 =>
  .nth l7 0 fun v8 =>
  .asI .i64 (.sc v8) fun n9 =>
  .al [(.i .u32 (0 : Int)), (.i .u16 (0 : Int))] fun a10 =>
  .call 236 [(.sc (.p o6)), (.sc (.i .i64 n9)), (.sc (.i .u64 n1_))] fun v11 =>
  .asT 2 v11 fun l12 =>
  .nthC l12 0 fun v13 =>
  .asA 2 (v13.av) fun l14 =>
  .nth l14 0 fun v15 =>
  .asI .u32 (.sc v15) fun n16 =>
  .nth l14 1 fun v17 =>
  .asI .u16 (.sc v17) fun n18 =>
  .nthC l12 1 fun v19 =>
  .asB (v19.av) fun b20 =>
  .st a10 0 [(.i .u32 n16), (.i .u16 n18)] (
  .call 62 [(.sc (.p (.some (p0_, q0_))))] fun v21 =>
  .asB v21 fun b22 =>
  cond (!b22)
    (.ret 0 [(.tu [])])
    (.ld a1 (0 + 7) 1 fun l23 =>
    .nth l23 0 fun v24 =>
    .asB (.sc v24) fun b25 =>
    .join (
      cond b25
        (.ret 0 [(.sc (.p (.some (p0_, q0_)))), (.sc (.i .u64 n1_)), (.sc (.p (.some (a0, 0)))), (.sc (.p (.some (a1, 0)))), (.sc (.b b25))])
        (.ld a1 (0 + 0) 1 fun l27 =>
        .nth l27 0 fun v28 =>
        .asI .i64 (.sc v28) fun n29 =>
        cond (n29 == (12 : Int))
          (.ret 0 [(.sc (.p (.some (p0_, q0_)))), (.sc (.i .u64 n1_)), (.sc (.p (.some (a0, 0)))), (.sc (.p (.some (a1, 0)))), (.sc (.b b20))])
          (.ret 0 [(.sc (.p (.some (p0_, q0_)))), (.sc (.i .u64 n1_)), (.sc (.p (.some (a0, 0)))), (.sc (.p (.some (a1, 0)))), (.sc (.b .false))]))) t266_k26))
theorem t266_eq (p0_ q0_ : Nat) (n1_ : Int) (n2_0 : Int) (n2_1 : Int) (n3_0 : Int) (n3_1 : Int) (n3_2 : Int) (n3_3 : Int) (n3_4 : Int) (n3_5 : Int) (n3_6 m3_6 : Nat) (b3_7 : Bool) (x3_8 : ByteArray) (s3_9 : Option SlD) : bodyK T (hs 266) Tryz.f266 [.sc (.p (some (p0_, q0_))), .sc (.i .u64 n1_), .ag [.i .u32 n2_0, .i .u16 n2_1], .ag [.i .i64 n3_0, .i .i64 n3_1, .i .u32 n3_2, .i .i64 n3_3, .i .u32 n3_4, .i .u16 n3_5, .cx .f64 n3_6 m3_6, .b b3_7, .s x3_8, .sl s3_9]] = t266 p0_ q0_ n1_ n2_0 n2_1 n3_0 n3_1 n3_2 n3_3 n3_4 n3_5 n3_6 m3_6 b3_7 x3_8 s3_9 := by kernel_rfl
end Go.Proofs.YtpbhfolaoccpkaaGreat
namespace Go.Proofs.YtpbhfolaoccpkaaGreat
open Go Go.Proofs.YtpbhfolaoccpkaaGreat.Fw
set_option linter.unusedVariables false
set_option maxRecDepth 20000
def t66_b2  : List AV → Tree := fun l3 =>
  .asP (l3.getD 0 .un) fun o4 =>
  .asI .u64 (l3.getD 1 .un) fun n5 =>
  .asL (l3.getD 2 .un) fun o6 =>
  .asL (l3.getD 3 .un) fun o7 =>
  .asI .i64 (l3.getD 4 .un) fun n8 =>
  .asI .i64 (l3.getD 5 .un) fun n9 =>
  cond (decide (n9 < n8))
    (.ixS 4 o7 n9 fun a10 a11 a12 =>
    .ld a10 (a11 + (a12 * 4)) 4 fun l13 =>
    .nth l13 0 fun v14 =>
    .asI .i64 (.sc v14) fun n15 =>
    .nth l13 1 fun v16 =>
    .asI .u32 (.sc v16) fun n17 =>
    .nth l13 2 fun v18 =>
    .asI .u16 (.sc v18) fun n19 =>
    .nth l13 3 fun v20 =>
    .asI .u64 (.sc v20) fun n21 =>
    .al [(.i .i64 (0 : Int)), (.i .u32 (0 : Int)), (.i .u16 (0 : Int)), (.i .u64 (0 : Int))] fun a22 =>
    .st a22 0 [(.i .i64 n15), (.i .u32 n17), (.i .u16 n19), (.i .u64 n21)] (
    .ld a22 (0 + 3) 1 fun l23 =>
    .nth l23 0 fun v24 =>
    .asI .u64 (.sc v24) fun n25 =>
    cond (decide (n25 ≤ n5))
      (.ld a22 (0 + 0) 1 fun l26 =>
      .nth l26 0 fun v27 =>
      .asI .i64 (.sc v27) fun n28 =>
      .call 146 [(.sc (.p o4)), (.sc (.i .i64 n28))] fun v29 =>
      .asB v29 fun b30 =>
      .ld a22 (0 + 0) 1 fun l31 =>
      .nth l31 0 fun v32 =>
      .asI .i64 (.sc v32) fun n33 =>
      .al [(.i .i64 n33)] fun a34 =>
      .lds 1 (.some (.mk a34 0 1 1 1)) (slN (.some (.mk a34 0 1 1 1))) fun l35 =>
      .app 1 8 o6 l35 (slN (.some (.mk a34 0 1 1 1))) fun o36 =>
      .ret 0 [(.sc (.p o4)), (.sc (.i .u64 n5)), (.sc (.sl o36)), (.sc (.sl o7)), (.sc (.i .i64 n8)), (.sc (.i .i64 (IntKind.wrap .i64 (n9 + (1 : Int)))))])
      (.ret 0 [(.sc (.p o4)), (.sc (.i .u64 n5)), (.sc (.sl o6)), (.sc (.sl o7)), (.sc (.i .i64 n8)), (.sc (.i .i64 (IntKind.wrap .i64 (n9 + (1 : Int)))))])))
    (.ret 2 [(.sc (.sl o6))])
def t66_k2  : Nat → List AV → Tree := fun a37 l38 =>
  .tg a37 2
    (.asL (l38.getD 0 .un) fun o39 =>
    .ret 0 [(.sc (.sl o39))])
    (.fail)
/-- (*scuttlebutt/lease.Table).Sweep -/
def t66 (p0_ q0_ : Nat) (n1_ : Int) : Tree :=
  .call 97 [(.sc (.p (.some (p0_, q0_))))] fun v0 =>
  .asL v0 fun o1 =>
  .loop t66_b2 [(.sc (.p (.some (p0_, q0_)))), (.sc (.i .u64 n1_)), (.sc (.sl .none)), (.sc (.sl o1)), (.sc (.i .i64 (slLen o1))), (.sc (.i .i64 (0 : Int)))] t66_k2
theorem t66_eq (p0_ q0_ : Nat) (n1_ : Int) : bodyK T (hs 66) Tryz.f66 [.sc (.p (some (p0_, q0_))), .sc (.i .u64 n1_)] = t66 p0_ q0_ n1_ := by kernel_rfl
/-- (*scuttlebutt/lease.Table).Clients -/
def t97 (p0_ q0_ : Nat) : Tree :=
  .nn (.some (p0_, q0_)) fun a0 a1 =>
  .slc 4 (.some (.mk a0 (a1 + 2) 33 33 4)) .none .none .none fun o2 =>
  .call 189 [(.sc (.sl o2))] fun v3 =>
  .asL v3 fun o4 =>
  .call 188 [(.sc (.sl o4)), (.sc (.fn 190 [] []))] fun v5 =>
  .asL v5 fun o6 =>
  .ret 0 [(.sc (.sl o6))]
theorem t97_eq (p0_ q0_ : Nat) : bodyK T (hs 97) Tryz.f97 [.sc (.p (some (p0_, q0_)))] = t97 p0_ q0_ := by kernel_rfl
/-- (scuttlebutt/addr.Addr).None -/
def t115 (n0_0 : Int) (n0_1 : Int) : Tree :=
  .al [(.i .u32 n0_0), (.i .u16 n0_1)] fun a0 =>
  .ld a0 (0 + 0) 1 fun l1 =>
  .nth l1 0 fun v2 =>
  .asI .u32 (.sc v2) fun n3 =>
  cond (n3 == (0 : Int))
    (.ret 0 [(.sc (.b .true))])
    (.ld a0 (0 + 1) 1 fun l4 =>
    .nth l4 0 fun v5 =>
    .asI .u16 (.sc v5) fun n6 =>
    .ret 0 [(.sc (.b (n6 == (0 : Int))))])
theorem t115_eq (n0_0 : Int) (n0_1 : Int) : bodyK T (hs 115) Tryz.f115 [.ag [.i .u32 n0_0, .i .u16 n0_1]] = t115 n0_0 n0_1 := by kernel_rfl
def t188_b2  : List AV → Tree := fun l3 =>
  .asL (l3.getD 0 .un) fun o4 =>
  .asX (l3.getD 1 .un) fun v5 =>
  .asI .i64 (l3.getD 2 .un) fun n6 =>
  .asI .i64 (l3.getD 3 .un) fun n7 =>
  cond (decide (n7 < (slLen o4)))
    (.ixS 4 o4 n7 fun a8 a9 a10 =>
    .ld a8 (a9 + (a10 * 4)) 4 fun l11 =>
    .nth l11 0 fun v12 =>
    .asI .i64 (.sc v12) fun n13 =>
    .nth l11 1 fun v14 =>
    .asI .u32 (.sc v14) fun n15 =>
    .nth l11 2 fun v16 =>
    .asI .u16 (.sc v16) fun n17 =>
    .nth l11 3 fun v18 =>
    .asI .u64 (.sc v18) fun n19 =>
    .al [(.i .i64 (0 : Int)), (.i .u32 (0 : Int)), (.i .u16 (0 : Int)), (.i .u64 (0 : Int))] fun a20 =>
    .st a20 0 [(.i .i64 n13), (.i .u32 n15), (.i .u16 n17), (.i .u64 n19)] (
    .ld a20 0 4 fun l21 =>
    .nth l21 0 fun v22 =>
    .asI .i64 (.sc v22) fun n23 =>
    .nth l21 1 fun v24 =>
    .asI .u32 (.sc v24) fun n25 =>
    .nth l21 2 fun v26 =>
    .asI .u16 (.sc v26) fun n27 =>
    .nth l21 3 fun v28 =>
    .asI .u64 (.sc v28) fun n29 =>
    .callv (.sc v5) [(.ag [(.i .i64 n23), (.i .u32 n25), (.i .u16 n27), (.i .u64 n29)])] fun v30 =>
    .asB v30 fun b31 =>
    cond (!b31)
      (.ld a20 0 4 fun l32 =>
      .nth l32 0 fun v33 =>
      .asI .i64 (.sc v33) fun n34 =>
      .nth l32 1 fun v35 =>
      .asI .u32 (.sc v35) fun n36 =>
      .nth l32 2 fun v37 =>
      .asI .u16 (.sc v37) fun n38 =>
      .nth l32 3 fun v39 =>
      .asI .u64 (.sc v39) fun n40 =>
      .ixS 4 o4 n6 fun a41 a42 a43 =>
      .st a41 (a42 + (a43 * 4)) [(.i .i64 n34), (.i .u32 n36), (.i .u16 n38), (.i .u64 n40)] (
      .ret 0 [(.sc (.sl o4)), (.sc v5), (.sc (.i .i64 (IntKind.wrap .i64 (n6 + (1 : Int))))), (.sc (.i .i64 (IntKind.wrap .i64 (n7 + (1 : Int)))))]))
      (.ret 0 [(.sc (.sl o4)), (.sc v5), (.sc (.i .i64 n6)), (.sc (.i .i64 (IntKind.wrap .i64 (n7 + (1 : Int)))))])))
    (.ret 2 [(.sc (.sl o4)), (.sc (.i .i64 n6))])
def t188_k2  : Nat → List AV → Tree := fun a44 l45 =>
  .tg a44 2
    (.asL (l45.getD 0 .un) fun o46 =>
    .asI .i64 (l45.getD 1 .un) fun n47 =>
    .slc 4 o46 (.some n47) .none .none fun o48 =>
    .sts 4 o48 (zeros [(.i .i64 (0 : Int)), (.i .u32 (0 : Int)), (.i .u16 (0 : Int)), (.i .u64 (0 : Int))] (slN o48)) (
    .slc 4 o46 .none (.some n47) .none fun o49 =>
    .ret 0 [(.sc (.sl o49))]))
    (.fail)
/-- slices.DeleteFunc[[]scuttlebutt/lease.Client,scuttlebutt/lease.Client] -/
def t188 (s0_ : Option SlD) (g1_ : FuncId) (f1_ c1_ : List (Nat × Nat)) : Tree :=
  .call 271 [(.sc (.sl s0_)), (.sc (.fn g1_ f1_ c1_))] fun v0 =>
  .asI .i64 v0 fun n1 =>
  cond (n1 == (-1 : Int))
    (.ret 0 [(.sc (.sl s0_))])
    (.loop t188_b2 [(.sc (.sl s0_)), (.sc (.fn g1_ f1_ c1_)), (.sc (.i .i64 n1)), (.sc (.i .i64 (IntKind.wrap .i64 (n1 + (1 : Int)))))] t188_k2)
theorem t188_eq (s0_ : Option SlD) (g1_ : FuncId) (f1_ c1_ : List (Nat × Nat)) : bodyK T (hs 188) Tryz.f188 [.sc (.sl s0_), .sc (.fn g1_ f1_ c1_)] = t188 s0_ g1_ f1_ c1_ := by kernel_rfl
/-- slices.Clone[[]scuttlebutt/lease.Client,scuttlebutt/lease.Client] -/
def t189 (s0_ : Option SlD) : Tree :=
  cond (Option.isNone s0_)
    (.ret 0 [(.sc (.sl .none))])
    (.al (zeros [(.i .i64 (0 : Int)), (.i .u32 (0 : Int)), (.i .u16 (0 : Int)), (.i .u64 (0 : Int))] 0) fun a0 =>
    .lds 4 s0_ (slN s0_) fun l1 =>
    .app 4 24 (.some (.mk a0 0 0 0 4)) l1 (slN s0_) fun o2 =>
    .ret 0 [(.sc (.sl o2))])
theorem t189_eq (s0_ : Option SlD) : bodyK T (hs 189) Tryz.f189 [.sc (.sl s0_)] = t189 s0_ := by kernel_rfl
/-- (*scuttlebutt/lease.Table).Clients$1 -/
def t190 (n0_0 : Int) (n0_1 : Int) (n0_2 : Int) (n0_3 : Int) : Tree :=
  .al [(.i .i64 n0_0), (.i .u32 n0_1), (.i .u16 n0_2), (.i .u64 n0_3)] fun a0 =>
  .ld a0 (0 + 0) 1 fun l1 =>
  .nth l1 0 fun v2 =>
  .asI .i64 (.sc v2) fun n3 =>
  .ret 0 [(.sc (.b (n3 == (0 : Int))))]
theorem t190_eq (n0_0 : Int) (n0_1 : Int) (n0_2 : Int) (n0_3 : Int) : bodyK T (hs 190) Tryz.f190 [.ag [.i .i64 n0_0, .i .u32 n0_1, .i .u16 n0_2, .i .u64 n0_3]] = t190 n0_0 n0_1 n0_2 n0_3 := by kernel_rfl
/-- scuttlebutt/lease.node -/
def t233 (n0_ : Int) : Tree :=
  cond (decide (n0_ ≥ (1 : Int)))
    (.ret 0 [(.sc (.b (decide (n0_ ≤ (32 : Int)))))])
    (.ret 0 [(.sc (.b .false))])
theorem t233_eq (n0_ : Int) : bodyK T (hs 233) Tryz.f233 [.sc (.i .i64 n0_)] = t233 n0_ := by kernel_rfl
/-- (*scuttlebutt/lease.Table).Of -/
def t236 (p0_ q0_ : Nat) (n1_ : Int) (n2_ : Int) : Tree :=
  .al [(.i .u32 (0 : Int)), (.i .u16 (0 : Int))] fun a0 =>
  .call 233 [(.sc (.i .i64 n1_))] fun v1 =>
  .asB v1 fun b2 =>
  cond (!b2)
    (.st a0 0 [(.i .u32 (0 : Int)), (.i .u16 (0 : Int))] (
    .ld a0 0 2 fun l3 =>
    .nth l3 0 fun v4 =>
    .asI .u32 (.sc v4) fun n5 =>
    .nth l3 1 fun v6 =>
    .asI .u16 (.sc v6) fun n7 =>
    .ret 0 [(.tu [(.ag [(.i .u32 n5), (.i .u16 n7)]), (.sc (.b .false))])]))
    (.nn (.some (p0_, q0_)) fun a8 a9 =>
    .br ((decide ((0 : Int) ≤ n1_)) && (decide (n1_ < (33 : Int))))
      (.ld a8 (((a9 + 2) + ((Int.toNat n1_) * 4)) + 0) 1 fun l10 =>
      .nth l10 0 fun v11 =>
      .asI .i64 (.sc v11) fun n12 =>
      cond (n12 == (0 : Int))
        (.st a0 0 [(.i .u32 (0 : Int)), (.i .u16 (0 : Int))] (
        .ld a0 0 2 fun l13 =>
        .nth l13 0 fun v14 =>
        .asI .u32 (.sc v14) fun n15 =>
        .nth l13 1 fun v16 =>
        .asI .u16 (.sc v16) fun n17 =>
        .ret 0 [(.tu [(.ag [(.i .u32 n15), (.i .u16 n17)]), (.sc (.b .false))])]))
        (.nn (.some (p0_, q0_)) fun a18 a19 =>
        .br ((decide ((0 : Int) ≤ n1_)) && (decide (n1_ < (33 : Int))))
          (.ld a18 (((a19 + 2) + ((Int.toNat n1_) * 4)) + 3) 1 fun l20 =>
          .nth l20 0 fun v21 =>
          .asI .u64 (.sc v21) fun n22 =>
          cond (decide (n22 ≤ n2_))
            (.st a0 0 [(.i .u32 (0 : Int)), (.i .u16 (0 : Int))] (
            .ld a0 0 2 fun l23 =>
            .nth l23 0 fun v24 =>
            .asI .u32 (.sc v24) fun n25 =>
            .nth l23 1 fun v26 =>
            .asI .u16 (.sc v26) fun n27 =>
            .ret 0 [(.tu [(.ag [(.i .u32 n25), (.i .u16 n27)]), (.sc (.b .false))])]))
            (.nn (.some (p0_, q0_)) fun a28 a29 =>
            .br ((decide ((0 : Int) ≤ n1_)) && (decide (n1_ < (33 : Int))))
              (.ld a28 (((a29 + 2) + ((Int.toNat n1_) * 4)) + 1) 2 fun l30 =>
              .nth l30 0 fun v31 =>
              .asI .u32 (.sc v31) fun n32 =>
              .nth l30 1 fun v33 =>
              .asI .u16 (.sc v33) fun n34 =>
              .st a0 0 [(.i .u32 n32), (.i .u16 n34)] (
              .ld a0 0 2 fun l35 =>
              .nth l35 0 fun v36 =>
              .asI .u32 (.sc v36) fun n37 =>
              .nth l35 1 fun v38 =>
              .asI .u16 (.sc v38) fun n39 =>
              .ret 0 [(.tu [(.ag [(.i .u32 n37), (.i .u16 n39)]), (.sc (.b .true))])]))
              (.fail)))
          (.fail)))
      (.fail))
theorem t236_eq (p0_ q0_ : Nat) (n1_ : Int) (n2_ : Int) : bodyK T (hs 236) Tryz.f236 [.sc (.p (some (p0_, q0_))), .sc (.i .i64 n1_), .sc (.i .u64 n2_)] = t236 p0_ q0_ n1_ n2_ := by kernel_rfl
def t271_b0  : List AV → Tree := fun l1 =>
  .asL (l1.getD 0 .un) fun o2 =>
  .asX (l1.getD 1 .un) fun v3 =>
  .asI .i64 (l1.getD 2 .un) fun n4 =>
  .asI .i64 (l1.getD 3 .un) fun n5 =>
  cond (decide (n5 < n4))
    (.ixS 4 o2 n5 fun a6 a7 a8 =>
    .ld a6 (a7 + (a8 * 4)) 4 fun l9 =>
    .nth l9 0 fun v10 =>
    .asI .i64 (.sc v10) fun n11 =>
    .nth l9 1 fun v12 =>
    .asI .u32 (.sc v12) fun n13 =>
    .nth l9 2 fun v14 =>
    .asI .u16 (.sc v14) fun n15 =>
    .nth l9 3 fun v16 =>
    .asI .u64 (.sc v16) fun n17 =>
    .callv (.sc v3) [(.ag [(.i .i64 n11), (.i .u32 n13), (.i .u16 n15), (.i .u64 n17)])] fun v18 =>
    .asB v18 fun b19 =>
    cond b19
      (.ret 1 [(.sc (.i .i64 n5))])
      (.ret 0 [(.sc (.sl o2)), (.sc v3), (.sc (.i .i64 n4)), (.sc (.i .i64 (IntKind.wrap .i64 (n5 + (1 : Int)))))]))
    (.ret 2 [])
def t271_k0  : Nat → List AV → Tree := fun a20 l21 =>
  .tg a20 2
    (.ret 0 [(.sc (.i .i64 (-1 : Int)))])
    (.tg a20 1
      (.asI .i64 (l21.getD 0 .un) fun n22 =>
      .ret 0 [(.sc (.i .i64 n22))])
      (.fail))
/-- slices.IndexFunc[[]scuttlebutt/lease.Client,scuttlebutt/lease.Client] -/
def t271 (s0_ : Option SlD) (g1_ : FuncId) (f1_ c1_ : List (Nat × Nat)) : Tree :=
  .loop t271_b0 [(.sc (.sl s0_)), (.sc (.fn g1_ f1_ c1_)), (.sc (.i .i64 (slLen s0_))), (.sc (.i .i64 (0 : Int)))] t271_k0
theorem t271_eq (s0_ : Option SlD) (g1_ : FuncId) (f1_ c1_ : List (Nat × Nat)) : bodyK T (hs 271) Tryz.f271 [.sc (.sl s0_), .sc (.fn g1_ f1_ c1_)] = t271 s0_ g1_ f1_ c1_ := by kernel_rfl
/-- (*scuttlebutt/lease.Table).Grant -/
def t313 (p0_ q0_ : Nat) (n1_ : Int) (n2_0 : Int) (n2_1 : Int) (n3_ : Int) : Tree :=
  .al [(.i .u32 n2_0), (.i .u16 n2_1)] fun a0 =>
  .call 233 [(.sc (.i .i64 n1_))] fun v1 =>
  .asB v1 fun b2 =>
  cond (!b2)
    (.ret 0 [(.tu [(.sc (.i .u64 (0 : Int))), (.sc (.i .i64 (1 : Int)))])])
    (.ld a0 0 2 fun l3 =>
    .nth l3 0 fun v4 =>
    .asI .u32 (.sc v4) fun n5 =>
    .nth l3 1 fun v6 =>
    .asI .u16 (.sc v6) fun n7 =>
    .call 115 [(.ag [(.i .u32 n5), (.i .u16 n7)])] fun v8 =>
    .asB v8 fun b9 =>
    cond b9
      (.ret 0 [(.tu [(.sc (.i .u64 (0 : Int))), (.sc (.i .i64 (1 : Int)))])])
      (cond (decide (n3_ > (4611686018427387904 : Int)))
        (.ret 0 [(.tu [(.sc (.i .u64 (0 : Int))), (.sc (.i .i64 (1 : Int)))])])
        (.call 66 [(.sc (.p (.some (p0_, q0_)))), (.sc (.i .u64 n3_))] fun v10 =>
        .asL v10 fun o11 =>
        .nn (.some (p0_, q0_)) fun a12 a13 =>
        .br ((decide ((0 : Int) ≤ n1_)) && (decide (n1_ < (33 : Int))))
          (.ld a12 (((a13 + 2) + ((Int.toNat n1_) * 4)) + 0) 1 fun l14 =>
          .nth l14 0 fun v15 =>
          .asI .i64 (.sc v15) fun n16 =>
          cond (n16 == (0 : Int))
            (.nn (.some (p0_, q0_)) fun a17 a18 =>
            .ld a17 (a18 + 0) 1 fun l19 =>
            .nth l19 0 fun v20 =>
            .asI .i64 (.sc v20) fun n21 =>
            .call 97 [(.sc (.p (.some (p0_, q0_))))] fun v22 =>
            .asL v22 fun o23 =>
            .same a17 (a18 + 0) [(.i .i64 n21)] (
            cond (decide ((slLen o23) ≥ n21))
              (.ret 0 [(.tu [(.sc (.i .u64 (0 : Int))), (.sc (.i .i64 (4 : Int)))])])
              (.ld a0 0 2 fun l24 =>
              .nth l24 0 fun v25 =>
              .asI .u32 (.sc v25) fun n26 =>
              .nth l24 1 fun v27 =>
              .asI .u16 (.sc v27) fun n28 =>
              .nn (.some (p0_, q0_)) fun a29 a30 =>
              .ld a29 (a30 + 1) 1 fun l31 =>
              .nth l31 0 fun v32 =>
              .asI .u64 (.sc v32) fun n33 =>
              .nn (.some (p0_, q0_)) fun a34 a35 =>
              .br ((decide ((0 : Int) ≤ n1_)) && (decide (n1_ < (33 : Int))))
                (.st a34 ((a35 + 2) + ((Int.toNat n1_) * 4)) [(.i .i64 n1_), (.i .u32 n26), (.i .u16 n28), (.i .u64 (IntKind.wrap .u64 (n3_ + n33)))] (
                .nn (.some (p0_, q0_)) fun a36 a37 =>
                .br ((decide ((0 : Int) ≤ n1_)) && (decide (n1_ < (33 : Int))))
                  (.ld a36 (((a37 + 2) + ((Int.toNat n1_) * 4)) + 3) 1 fun l38 =>
                  .nth l38 0 fun v39 =>
                  .asI .u64 (.sc v39) fun n40 =>
                  .ret 0 [(.tu [(.sc (.i .u64 n40)), (.sc (.i .i64 (0 : Int)))])])
                  (.fail)))
                (.fail))))
            (.ld a0 0 2 fun l41 =>
            .nth l41 0 fun v42 =>
            .asI .u32 (.sc v42) fun n43 =>
            .nth l41 1 fun v44 =>
            .asI .u16 (.sc v44) fun n45 =>
            .nn (.some (p0_, q0_)) fun a46 a47 =>
            .ld a46 (a47 + 1) 1 fun l48 =>
            .nth l48 0 fun v49 =>
            .asI .u64 (.sc v49) fun n50 =>
            .nn (.some (p0_, q0_)) fun a51 a52 =>
            .br ((decide ((0 : Int) ≤ n1_)) && (decide (n1_ < (33 : Int))))
              (.st a51 ((a52 + 2) + ((Int.toNat n1_) * 4)) [(.i .i64 n1_), (.i .u32 n43), (.i .u16 n45), (.i .u64 (IntKind.wrap .u64 (n3_ + n50)))] (
              .nn (.some (p0_, q0_)) fun a53 a54 =>
              .br ((decide ((0 : Int) ≤ n1_)) && (decide (n1_ < (33 : Int))))
                (.ld a53 (((a54 + 2) + ((Int.toNat n1_) * 4)) + 3) 1 fun l55 =>
                .nth l55 0 fun v56 =>
                .asI .u64 (.sc v56) fun n57 =>
                .ret 0 [(.tu [(.sc (.i .u64 n57)), (.sc (.i .i64 (0 : Int)))])])
                (.fail)))
              (.fail)))
          (.fail))))
theorem t313_eq (p0_ q0_ : Nat) (n1_ : Int) (n2_0 : Int) (n2_1 : Int) (n3_ : Int) : bodyK T (hs 313) Tryz.f313 [.sc (.p (some (p0_, q0_))), .sc (.i .i64 n1_), .ag [.i .u32 n2_0, .i .u16 n2_1], .sc (.i .u64 n3_)] = t313 p0_ q0_ n1_ n2_0 n2_1 n3_ := by kernel_rfl
end Go.Proofs.YtpbhfolaoccpkaaGreat
namespace Go.Proofs.YtpbhfolaoccpkaaGreat
open Go Go.Proofs.YtpbhfolaoccpkaaGreat.Fw
set_option linter.unusedVariables false
set_option maxRecDepth 20000
/-- (*scuttlebutt/node.Node).Clients -/
def t24 (p0_ q0_ : Nat) : Tree :=
  .nn (.some (p0_, q0_)) fun a0 a1 =>
  .ld a0 (a1 + 27) 1 fun l2 =>
  .nth l2 0 fun v3 =>
  .asP (.sc v3) fun o4 =>
  .call 97 [(.sc (.p o4))] fun v5 =>
  .asL v5 fun o6 =>
  .ret 0 [(.sc (.sl o6))]
theorem t24_eq (p0_ q0_ : Nat) : bodyK T (hs 24) Tryz.f24 [.sc (.p (some (p0_, q0_)))] = t24 p0_ q0_ := by kernel_rfl
end Go.Proofs.YtpbhfolaoccpkaaGreat
