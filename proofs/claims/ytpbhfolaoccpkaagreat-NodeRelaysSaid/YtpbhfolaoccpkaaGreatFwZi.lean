/- Functions of the Go library over any element: their trees, turned by a program of mine from printed ones. -/
import Derived.Test.YtpbhfolaoccpkaaGreatFwZh
set_option linter.unusedSimpArgs false
set_option linter.unusedVariables false
namespace Go.Proofs.YtpbhfolaoccpkaaGreat.Fw
open Go
abbrev Dec := List Sc → (List Sc → Tree) → Tree
structure BIds where
  len64 : Nat
  blen : Nat
  or_ : Nat
structure DIds where
  idxF : Nat
  delF : Nat
structure SIds where
  b : BIds
  ins : Nat
  sift : Nat
  heap : Nat
  rev : Nat
  ord2 : Nat
  med : Nat
  medA : Nat
  piv : Nat
  xors : Nat
  npow : Nat
  brk : Nat
  pins : Nat
  peq : Nat
  part : Nat
  pdq : Nat
  sortF : Nat
def glen64_k5 (S : BIds)  : Nat → List AV → Tree := fun a6 l7 =>
  .tg a6 0
    (.asI .u64 (l7.getD 0 .un) fun n8 =>
    .asI .i64 (l7.getD 1 .un) fun n9 =>
    cond (decide (n8 ≥ (256 : Int)))
      (.br (decide ((0 : Int) ≤ (8 : Int)))
        (.br ((decide ((0 : Int) ≤ (IntKind.wrap .u8 (Int.fdiv n8 (256 : Int))))) && (decide ((IntKind.wrap .u8 (Int.fdiv n8 (256 : Int))) < (256 : Int))))
          (.ret 0 [(.sc (.i .i64 (IntKind.wrap .i64 ((IntKind.wrap .i64 (n9 + (8 : Int))) + (IntKind.wrap .i64 (strAt (.mk (.mk [0, 1, 2, 2, 3, 3, 3, 3, 4, 4, 4, 4, 4, 4, 4, 4, 5, 5, 5, 5, 5, 5, 5, 5, 5, 5, 5, 5, 5, 5, 5, 5, 6, 6, 6, 6, 6, 6, 6, 6, 6, 6, 6, 6, 6, 6, 6, 6, 6, 6, 6, 6, 6, 6, 6, 6, 6, 6, 6, 6, 6, 6, 6, 6, 7, 7, 7, 7, 7, 7, 7, 7, 7, 7, 7, 7, 7, 7, 7, 7, 7, 7, 7, 7, 7, 7, 7, 7, 7, 7, 7, 7, 7, 7, 7, 7, 7, 7, 7, 7, 7, 7, 7, 7, 7, 7, 7, 7, 7, 7, 7, 7, 7, 7, 7, 7, 7, 7, 7, 7, 7, 7, 7, 7, 7, 7, 7, 7, 8, 8, 8, 8, 8, 8, 8, 8, 8, 8, 8, 8, 8, 8, 8, 8, 8, 8, 8, 8, 8, 8, 8, 8, 8, 8, 8, 8, 8, 8, 8, 8, 8, 8, 8, 8, 8, 8, 8, 8, 8, 8, 8, 8, 8, 8, 8, 8, 8, 8, 8, 8, 8, 8, 8, 8, 8, 8, 8, 8, 8, 8, 8, 8, 8, 8, 8, 8, 8, 8, 8, 8, 8, 8, 8, 8, 8, 8, 8, 8, 8, 8, 8, 8, 8, 8, 8, 8, 8, 8, 8, 8, 8, 8, 8, 8, 8, 8, 8, 8, 8, 8, 8, 8, 8, 8, 8, 8, 8, 8, 8, 8, 8, 8, 8, 8, 8, 8, 8, 8, 8, 8, 8, 8, 8, 8, 8, 8])) (Int.toNat (IntKind.wrap .u8 (Int.fdiv n8 (256 : Int))))))))))])
          (.fail))
        (.fail))
      (.br ((decide ((0 : Int) ≤ (IntKind.wrap .u8 n8))) && (decide ((IntKind.wrap .u8 n8) < (256 : Int))))
        (.ret 0 [(.sc (.i .i64 (IntKind.wrap .i64 (n9 + (IntKind.wrap .i64 (strAt (.mk (.mk [0, 1, 2, 2, 3, 3, 3, 3, 4, 4, 4, 4, 4, 4, 4, 4, 5, 5, 5, 5, 5, 5, 5, 5, 5, 5, 5, 5, 5, 5, 5, 5, 6, 6, 6, 6, 6, 6, 6, 6, 6, 6, 6, 6, 6, 6, 6, 6, 6, 6, 6, 6, 6, 6, 6, 6, 6, 6, 6, 6, 6, 6, 6, 6, 7, 7, 7, 7, 7, 7, 7, 7, 7, 7, 7, 7, 7, 7, 7, 7, 7, 7, 7, 7, 7, 7, 7, 7, 7, 7, 7, 7, 7, 7, 7, 7, 7, 7, 7, 7, 7, 7, 7, 7, 7, 7, 7, 7, 7, 7, 7, 7, 7, 7, 7, 7, 7, 7, 7, 7, 7, 7, 7, 7, 7, 7, 7, 7, 8, 8, 8, 8, 8, 8, 8, 8, 8, 8, 8, 8, 8, 8, 8, 8, 8, 8, 8, 8, 8, 8, 8, 8, 8, 8, 8, 8, 8, 8, 8, 8, 8, 8, 8, 8, 8, 8, 8, 8, 8, 8, 8, 8, 8, 8, 8, 8, 8, 8, 8, 8, 8, 8, 8, 8, 8, 8, 8, 8, 8, 8, 8, 8, 8, 8, 8, 8, 8, 8, 8, 8, 8, 8, 8, 8, 8, 8, 8, 8, 8, 8, 8, 8, 8, 8, 8, 8, 8, 8, 8, 8, 8, 8, 8, 8, 8, 8, 8, 8, 8, 8, 8, 8, 8, 8, 8, 8, 8, 8, 8, 8, 8, 8, 8, 8, 8, 8, 8, 8, 8, 8, 8, 8, 8, 8, 8, 8])) (Int.toNat (IntKind.wrap .u8 n8))))))))])
        (.fail)))
    (.fail)
def glen64_k0 (S : BIds)  : Nat → List AV → Tree := fun a1 l2 =>
  .tg a1 0
    (.asI .u64 (l2.getD 0 .un) fun n3 =>
    .asI .i64 (l2.getD 1 .un) fun n4 =>
    .join (
      cond (decide (n3 ≥ (65536 : Int)))
        (.br (decide ((0 : Int) ≤ (16 : Int)))
          (.ret 0 [(.sc (.i .u64 (Int.fdiv n3 (65536 : Int)))), (.sc (.i .i64 (IntKind.wrap .i64 (n4 + (16 : Int)))))])
          (.fail))
        (.ret 0 [(.sc (.i .u64 n3)), (.sc (.i .i64 n4))])) (glen64_k5 S))
    (.fail)
def glen64 (S : BIds) (n0_ : Int) : Tree :=
  .join (
    cond (decide (n0_ ≥ (4294967296 : Int)))
      (.br (decide ((0 : Int) ≤ (32 : Int)))
        (.ret 0 [(.sc (.i .u64 (Int.fdiv n0_ (4294967296 : Int)))), (.sc (.i .i64 (32 : Int)))])
        (.fail))
      (.ret 0 [(.sc (.i .u64 n0_)), (.sc (.i .i64 (0 : Int)))])) (glen64_k0 S)
def gblen (S : BIds) (n0_ : Int) : Tree :=
  .call S.len64 [(.sc (.i .u64 n0_))] fun v0 =>
  .asI .i64 v0 fun n1 =>
  .ret 0 [(.sc (.i .i64 n1))]
def gor__b0 (S : BIds)  : List AV → Tree := fun l1 =>
  .asI .i64 (l1.getD 0 .un) fun n2 =>
  .asL (l1.getD 1 .un) fun o3 =>
  .asI .i64 (l1.getD 2 .un) fun n4 =>
  .asI .i64 (l1.getD 3 .un) fun n5 =>
  cond (decide (n5 < n4))
    (.ixS 1 o3 n5 fun a6 a7 a8 =>
    .ld a6 (a7 + (a8 * 1)) 1 fun l9 =>
    .nth l9 0 fun v10 =>
    .asI .i64 (.sc v10) fun n11 =>
    cond (n11 != n2)
      (.ret 1 [(.sc (.i .i64 n11))])
      (.ret 0 [(.sc (.i .i64 n2)), (.sc (.sl o3)), (.sc (.i .i64 n4)), (.sc (.i .i64 (IntKind.wrap .i64 (n5 + (1 : Int)))))]))
    (.ret 2 [(.sc (.i .i64 n2))])
def gor__k0 (S : BIds)  : Nat → List AV → Tree := fun a12 l13 =>
  .tg a12 2
    (.asI .i64 (l13.getD 0 .un) fun n14 =>
    .ret 0 [(.sc (.i .i64 n14))])
    (.tg a12 1
      (.asI .i64 (l13.getD 0 .un) fun n15 =>
      .ret 0 [(.sc (.i .i64 n15))])
      (.fail))
def gor_ (S : BIds) (s0_ : Option SlD) : Tree :=
  .loop (gor__b0 S) [(.sc (.i .i64 (0 : Int))), (.sc (.sl s0_)), (.sc (.i .i64 (slLen s0_))), (.sc (.i .i64 (0 : Int)))] (gor__k0 S)
def gidxF_b0 (z : Nat) (dec : Dec) (zs : List Sc) (D : DIds)  : List AV → Tree := fun l1 =>
  .asL (l1.getD 0 .un) fun o2 =>
  .asX (l1.getD 1 .un) fun v3 =>
  .asI .i64 (l1.getD 2 .un) fun n4 =>
  .asI .i64 (l1.getD 3 .un) fun n5 =>
  cond (decide (n5 < n4))
    (.ixS z o2 n5 fun a6 a7 a8 =>
    .ld a6 (a7 + (a8 * z)) z fun l9 =>
    dec l9 fun r9 =>
    .callv (.sc v3) [(.ag r9)] fun v22 =>
    .asB v22 fun b23 =>
    cond b23
      (.ret 1 [(.sc (.i .i64 n5))])
      (.ret 0 [(.sc (.sl o2)), (.sc v3), (.sc (.i .i64 n4)), (.sc (.i .i64 (IntKind.wrap .i64 (n5 + (1 : Int)))))]))
    (.ret 2 [])
def gidxF_k0 (z : Nat) (dec : Dec) (zs : List Sc) (D : DIds)  : Nat → List AV → Tree := fun a24 l25 =>
  .tg a24 2
    (.ret 0 [(.sc (.i .i64 (-1 : Int)))])
    (.tg a24 1
      (.asI .i64 (l25.getD 0 .un) fun n26 =>
      .ret 0 [(.sc (.i .i64 n26))])
      (.fail))
def gidxF (z : Nat) (dec : Dec) (zs : List Sc) (D : DIds) (s0_ : Option SlD) (g1_ : FuncId) (f1_ c1_ : List (Nat × Nat)) : Tree :=
  .loop (gidxF_b0 z dec zs D) [(.sc (.sl s0_)), (.sc (.fn g1_ f1_ c1_)), (.sc (.i .i64 (slLen s0_))), (.sc (.i .i64 (0 : Int)))] (gidxF_k0 z dec zs D)
def gdelF_b2 (z : Nat) (dec : Dec) (zs : List Sc) (D : DIds)  : List AV → Tree := fun l3 =>
  .asL (l3.getD 0 .un) fun o4 =>
  .asX (l3.getD 1 .un) fun v5 =>
  .asI .i64 (l3.getD 2 .un) fun n6 =>
  .asI .i64 (l3.getD 3 .un) fun n7 =>
  cond (decide (n7 < (slLen o4)))
    (.ixS z o4 n7 fun a8 a9 a10 =>
    .ld a8 (a9 + (a10 * z)) z fun l11 =>
    dec l11 fun r11 =>
    .al zs fun a24 =>
    .st a24 0 r11 (
    .ld a24 0 z fun l25 =>
    dec l25 fun r25 =>
    .callv (.sc v5) [(.ag r25)] fun v38 =>
    .asB v38 fun b39 =>
    cond (!b39)
      (.ld a24 0 z fun l40 =>
      dec l40 fun r40 =>
      .ixS z o4 n6 fun a53 a54 a55 =>
      .st a53 (a54 + (a55 * z)) r40 (
      .ret 0 [(.sc (.sl o4)), (.sc v5), (.sc (.i .i64 (IntKind.wrap .i64 (n6 + (1 : Int))))), (.sc (.i .i64 (IntKind.wrap .i64 (n7 + (1 : Int)))))]))
      (.ret 0 [(.sc (.sl o4)), (.sc v5), (.sc (.i .i64 n6)), (.sc (.i .i64 (IntKind.wrap .i64 (n7 + (1 : Int)))))])))
    (.ret 2 [(.sc (.sl o4)), (.sc (.i .i64 n6))])
def gdelF_k2 (z : Nat) (dec : Dec) (zs : List Sc) (D : DIds)  : Nat → List AV → Tree := fun a56 l57 =>
  .tg a56 2
    (.asL (l57.getD 0 .un) fun o58 =>
    .asI .i64 (l57.getD 1 .un) fun n59 =>
    .slc z o58 (.some n59) .none .none fun o60 =>
    .sts z o60 (zeros zs (slN o60)) (
    .slc z o58 .none (.some n59) .none fun o61 =>
    .ret 0 [(.sc (.sl o61))]))
    (.fail)
def gdelF (z : Nat) (dec : Dec) (zs : List Sc) (D : DIds) (s0_ : Option SlD) (g1_ : FuncId) (f1_ c1_ : List (Nat × Nat)) : Tree :=
  .call D.idxF [(.sc (.sl s0_)), (.sc (.fn g1_ f1_ c1_))] fun v0 =>
  .asI .i64 v0 fun n1 =>
  cond (n1 == (-1 : Int))
    (.ret 0 [(.sc (.sl s0_))])
    (.loop (gdelF_b2 z dec zs D) [(.sc (.sl s0_)), (.sc (.fn g1_ f1_ c1_)), (.sc (.i .i64 n1)), (.sc (.i .i64 (IntKind.wrap .i64 (n1 + (1 : Int)))))] (gdelF_k2 z dec zs D))
def gins_b7 (z : Nat) (dec : Dec) (zs : List Sc) (S : SIds)  : List AV → Tree := fun l8 =>
  .asL (l8.getD 0 .un) fun o9 =>
  .asI .i64 (l8.getD 1 .un) fun n10 =>
  .asI .i64 (l8.getD 2 .un) fun n11 =>
  .asX (l8.getD 3 .un) fun v12 =>
  .asI .i64 (l8.getD 4 .un) fun n13 =>
  .asI .i64 (l8.getD 5 .un) fun n14 =>
  cond (decide (n14 > n10))
    (.ixS z o9 n14 fun a15 a16 a17 =>
    .ld a15 (a16 + (a17 * z)) z fun l18 =>
    dec l18 fun r18 =>
    .ixS z o9 (IntKind.wrap .i64 (n14 - (1 : Int))) fun a31 a32 a33 =>
    .ld a31 (a32 + (a33 * z)) z fun l34 =>
    dec l34 fun r34 =>
    .callv (.sc v12) [(.ag r18), (.ag r34)] fun v47 =>
    .asI .i64 v47 fun n48 =>
    cond (decide (n48 < (0 : Int)))
      (.ixS z o9 (IntKind.wrap .i64 (n14 - (1 : Int))) fun a49 a50 a51 =>
      .ld a49 (a50 + (a51 * z)) z fun l52 =>
      dec l52 fun r52 =>
      .ixS z o9 n14 fun a65 a66 a67 =>
      .ld a65 (a66 + (a67 * z)) z fun l68 =>
      dec l68 fun r68 =>
      .ixS z o9 n14 fun a81 a82 a83 =>
      .st a81 (a82 + (a83 * z)) r52 (
      .ixS z o9 (IntKind.wrap .i64 (n14 - (1 : Int))) fun a84 a85 a86 =>
      .st a84 (a85 + (a86 * z)) r68 (
      .ret 0 [(.sc (.sl o9)), (.sc (.i .i64 n10)), (.sc (.i .i64 n11)), (.sc v12), (.sc (.i .i64 n13)), (.sc (.i .i64 (IntKind.wrap .i64 (n14 - (1 : Int)))))])))
      (.ret 6 [(.sc (.sl o9)), (.sc (.i .i64 n10)), (.sc (.i .i64 n11)), (.sc v12), (.sc (.i .i64 n13))]))
    (.ret 6 [(.sc (.sl o9)), (.sc (.i .i64 n10)), (.sc (.i .i64 n11)), (.sc v12), (.sc (.i .i64 n13))])
def gins_k7 (z : Nat) (dec : Dec) (zs : List Sc) (S : SIds)  : Nat → List AV → Tree := fun a87 l88 =>
  .tg a87 6
    (.asL (l88.getD 0 .un) fun o89 =>
    .asI .i64 (l88.getD 1 .un) fun n90 =>
    .asI .i64 (l88.getD 2 .un) fun n91 =>
    .asX (l88.getD 3 .un) fun v92 =>
    .asI .i64 (l88.getD 4 .un) fun n93 =>
    .ret 0 [(.sc (.sl o89)), (.sc (.i .i64 n90)), (.sc (.i .i64 n91)), (.sc v92), (.sc (.i .i64 (IntKind.wrap .i64 (n93 + (1 : Int)))))])
    (.fail)
def gins_b0 (z : Nat) (dec : Dec) (zs : List Sc) (S : SIds)  : List AV → Tree := fun l1 =>
  .asL (l1.getD 0 .un) fun o2 =>
  .asI .i64 (l1.getD 1 .un) fun n3 =>
  .asI .i64 (l1.getD 2 .un) fun n4 =>
  .asX (l1.getD 3 .un) fun v5 =>
  .asI .i64 (l1.getD 4 .un) fun n6 =>
  cond (decide (n6 < n4))
    (.loop (gins_b7 z dec zs S) [(.sc (.sl o2)), (.sc (.i .i64 n3)), (.sc (.i .i64 n4)), (.sc v5), (.sc (.i .i64 n6)), (.sc (.i .i64 n6))] (gins_k7 z dec zs S))
    (.ret 2 [])
def gins_k0 (z : Nat) (dec : Dec) (zs : List Sc) (S : SIds)  : Nat → List AV → Tree := fun a94 l95 =>
  .tg a94 2
    (.ret 0 [(.tu [])])
    (.fail)
def gins (z : Nat) (dec : Dec) (zs : List Sc) (S : SIds) (s0_ : Option SlD) (n1_ : Int) (n2_ : Int) (g3_ : FuncId) (f3_ c3_ : List (Nat × Nat)) : Tree :=
  .loop (gins_b0 z dec zs S) [(.sc (.sl s0_)), (.sc (.i .i64 n1_)), (.sc (.i .i64 n2_)), (.sc (.fn g3_ f3_ c3_)), (.sc (.i .i64 (IntKind.wrap .i64 (n1_ + (1 : Int)))))] (gins_k0 z dec zs S)
def gsift_k41 (z : Nat) (dec : Dec) (zs : List Sc) (S : SIds)  : Nat → List AV → Tree := fun a42 l43 =>
  .tg a42 0
    (.asL (l43.getD 0 .un) fun o44 =>
    .asI .i64 (l43.getD 1 .un) fun n45 =>
    .asI .i64 (l43.getD 2 .un) fun n46 =>
    .asX (l43.getD 3 .un) fun v47 =>
    .asI .i64 (l43.getD 4 .un) fun n48 =>
    .asI .i64 (l43.getD 5 .un) fun n49 =>
    .ixS z o44 (IntKind.wrap .i64 (n46 + n48)) fun a50 a51 a52 =>
    .ld a50 (a51 + (a52 * z)) z fun l53 =>
    dec l53 fun r53 =>
    .ixS z o44 (IntKind.wrap .i64 (n46 + n49)) fun a66 a67 a68 =>
    .ld a66 (a67 + (a68 * z)) z fun l69 =>
    dec l69 fun r69 =>
    .callv (.sc v47) [(.ag r53), (.ag r69)] fun v82 =>
    .asI .i64 v82 fun n83 =>
    cond (!(decide (n83 < (0 : Int))))
      (.ret 1 [])
      (.ixS z o44 (IntKind.wrap .i64 (n46 + n49)) fun a84 a85 a86 =>
      .ld a84 (a85 + (a86 * z)) z fun l87 =>
      dec l87 fun r87 =>
      .ixS z o44 (IntKind.wrap .i64 (n46 + n48)) fun a100 a101 a102 =>
      .ld a100 (a101 + (a102 * z)) z fun l103 =>
      dec l103 fun r103 =>
      .ixS z o44 (IntKind.wrap .i64 (n46 + n48)) fun a116 a117 a118 =>
      .st a116 (a117 + (a118 * z)) r87 (
      .ixS z o44 (IntKind.wrap .i64 (n46 + n49)) fun a119 a120 a121 =>
      .st a119 (a120 + (a121 * z)) r103 (
      .ret 0 [(.sc (.sl o44)), (.sc (.i .i64 n45)), (.sc (.i .i64 n46)), (.sc v47), (.sc (.i .i64 n49))]))))
    (.fail)
def gsift_k122 (z : Nat) (dec : Dec) (zs : List Sc) (S : SIds)  : Nat → List AV → Tree := fun a123 l124 =>
  .tg a123 0
    (.asL (l124.getD 0 .un) fun o125 =>
    .asI .i64 (l124.getD 1 .un) fun n126 =>
    .asI .i64 (l124.getD 2 .un) fun n127 =>
    .asX (l124.getD 3 .un) fun v128 =>
    .asI .i64 (l124.getD 4 .un) fun n129 =>
    .asI .i64 (l124.getD 5 .un) fun n130 =>
    .ixS z o125 (IntKind.wrap .i64 (n127 + n129)) fun a131 a132 a133 =>
    .ld a131 (a132 + (a133 * z)) z fun l134 =>
    dec l134 fun r134 =>
    .ixS z o125 (IntKind.wrap .i64 (n127 + n130)) fun a147 a148 a149 =>
    .ld a147 (a148 + (a149 * z)) z fun l150 =>
    dec l150 fun r150 =>
    .callv (.sc v128) [(.ag r134), (.ag r150)] fun v163 =>
    .asI .i64 v163 fun n164 =>
    cond (!(decide (n164 < (0 : Int))))
      (.ret 1 [])
      (.ixS z o125 (IntKind.wrap .i64 (n127 + n130)) fun a165 a166 a167 =>
      .ld a165 (a166 + (a167 * z)) z fun l168 =>
      dec l168 fun r168 =>
      .ixS z o125 (IntKind.wrap .i64 (n127 + n129)) fun a181 a182 a183 =>
      .ld a181 (a182 + (a183 * z)) z fun l184 =>
      dec l184 fun r184 =>
      .ixS z o125 (IntKind.wrap .i64 (n127 + n129)) fun a197 a198 a199 =>
      .st a197 (a198 + (a199 * z)) r168 (
      .ixS z o125 (IntKind.wrap .i64 (n127 + n130)) fun a200 a201 a202 =>
      .st a200 (a201 + (a202 * z)) r184 (
      .ret 0 [(.sc (.sl o125)), (.sc (.i .i64 n126)), (.sc (.i .i64 n127)), (.sc v128), (.sc (.i .i64 n130))]))))
    (.fail)
def gsift_b0 (z : Nat) (dec : Dec) (zs : List Sc) (S : SIds)  : List AV → Tree := fun l1 =>
  .asL (l1.getD 0 .un) fun o2 =>
  .asI .i64 (l1.getD 1 .un) fun n3 =>
  .asI .i64 (l1.getD 2 .un) fun n4 =>
  .asX (l1.getD 3 .un) fun v5 =>
  .asI .i64 (l1.getD 4 .un) fun n6 =>
  cond (decide ((IntKind.wrap .i64 ((IntKind.wrap .i64 ((2 : Int) * n6)) + (1 : Int))) ≥ n3))
    (.ret 2 [])
    (cond (decide ((IntKind.wrap .i64 ((IntKind.wrap .i64 ((IntKind.wrap .i64 ((2 : Int) * n6)) + (1 : Int))) + (1 : Int))) < n3))
      (.ixS z o2 (IntKind.wrap .i64 (n4 + (IntKind.wrap .i64 ((IntKind.wrap .i64 ((2 : Int) * n6)) + (1 : Int))))) fun a7 a8 a9 =>
      .ld a7 (a8 + (a9 * z)) z fun l10 =>
      dec l10 fun r10 =>
      .ixS z o2 (IntKind.wrap .i64 ((IntKind.wrap .i64 (n4 + (IntKind.wrap .i64 ((IntKind.wrap .i64 ((2 : Int) * n6)) + (1 : Int))))) + (1 : Int))) fun a23 a24 a25 =>
      .ld a23 (a24 + (a25 * z)) z fun l26 =>
      dec l26 fun r26 =>
      .callv (.sc v5) [(.ag r10), (.ag r26)] fun v39 =>
      .asI .i64 v39 fun n40 =>
      .join (
        cond (decide (n40 < (0 : Int)))
          (.ret 0 [(.sc (.sl o2)), (.sc (.i .i64 n3)), (.sc (.i .i64 n4)), (.sc v5), (.sc (.i .i64 n6)), (.sc (.i .i64 (IntKind.wrap .i64 ((IntKind.wrap .i64 ((IntKind.wrap .i64 ((2 : Int) * n6)) + (1 : Int))) + (1 : Int)))))])
          (.ret 0 [(.sc (.sl o2)), (.sc (.i .i64 n3)), (.sc (.i .i64 n4)), (.sc v5), (.sc (.i .i64 n6)), (.sc (.i .i64 (IntKind.wrap .i64 ((IntKind.wrap .i64 ((2 : Int) * n6)) + (1 : Int)))))])) (gsift_k41 z dec zs S))
      (.join (
        .ret 0 [(.sc (.sl o2)), (.sc (.i .i64 n3)), (.sc (.i .i64 n4)), (.sc v5), (.sc (.i .i64 n6)), (.sc (.i .i64 (IntKind.wrap .i64 ((IntKind.wrap .i64 ((2 : Int) * n6)) + (1 : Int)))))]) (gsift_k122 z dec zs S)))
def gsift_k0 (z : Nat) (dec : Dec) (zs : List Sc) (S : SIds)  : Nat → List AV → Tree := fun a203 l204 =>
  .tg a203 2
    (.ret 0 [(.tu [])])
    (.tg a203 1
      (.ret 0 [(.tu [])])
      (.fail))
def gsift (z : Nat) (dec : Dec) (zs : List Sc) (S : SIds) (s0_ : Option SlD) (n1_ : Int) (n2_ : Int) (n3_ : Int) (g4_ : FuncId) (f4_ c4_ : List (Nat × Nat)) : Tree :=
  .loop (gsift_b0 z dec zs S) [(.sc (.sl s0_)), (.sc (.i .i64 n2_)), (.sc (.i .i64 n3_)), (.sc (.fn g4_ f4_ c4_)), (.sc (.i .i64 n1_))] (gsift_k0 z dec zs S)
def gheap_b16 (z : Nat) (dec : Dec) (zs : List Sc) (S : SIds)  : List AV → Tree := fun l17 =>
  .asL (l17.getD 0 .un) fun o18 =>
  .asX (l17.getD 1 .un) fun v19 =>
  .asI .i64 (l17.getD 2 .un) fun n20 =>
  .asI .i64 (l17.getD 3 .un) fun n21 =>
  .asI .i64 (l17.getD 4 .un) fun n22 =>
  cond (decide (n22 ≥ (0 : Int)))
    (.ixS z o18 (IntKind.wrap .i64 (n20 + n22)) fun a23 a24 a25 =>
    .ld a23 (a24 + (a25 * z)) z fun l26 =>
    dec l26 fun r26 =>
    .ixS z o18 n20 fun a39 a40 a41 =>
    .ld a39 (a40 + (a41 * z)) z fun l42 =>
    dec l42 fun r42 =>
    .ixS z o18 n20 fun a55 a56 a57 =>
    .st a55 (a56 + (a57 * z)) r26 (
    .ixS z o18 (IntKind.wrap .i64 (n20 + n22)) fun a58 a59 a60 =>
    .st a58 (a59 + (a60 * z)) r42 (
    .call S.sift [(.sc (.sl o18)), (.sc (.i .i64 n21)), (.sc (.i .i64 n22)), (.sc (.i .i64 n20)), (.sc v19)] fun v61 =>
    .ret 0 [(.sc (.sl o18)), (.sc v19), (.sc (.i .i64 n20)), (.sc (.i .i64 n21)), (.sc (.i .i64 (IntKind.wrap .i64 (n22 - (1 : Int)))))])))
    (.ret 6 [])
def gheap_k16 (z : Nat) (dec : Dec) (zs : List Sc) (S : SIds)  : Nat → List AV → Tree := fun a62 l63 =>
  .tg a62 6
    (.ret 0 [(.tu [])])
    (.fail)
def gheap_b0 (z : Nat) (dec : Dec) (zs : List Sc) (S : SIds)  : List AV → Tree := fun l1 =>
  .asL (l1.getD 0 .un) fun o2 =>
  .asX (l1.getD 1 .un) fun v3 =>
  .asI .i64 (l1.getD 2 .un) fun n4 =>
  .asI .i64 (l1.getD 3 .un) fun n5 =>
  .asI .i64 (l1.getD 4 .un) fun n6 =>
  .asI .i64 (l1.getD 5 .un) fun n7 =>
  cond (decide (n7 ≥ (0 : Int)))
    (.call S.sift [(.sc (.sl o2)), (.sc (.i .i64 n7)), (.sc (.i .i64 n6)), (.sc (.i .i64 n4)), (.sc v3)] fun v8 =>
    .ret 0 [(.sc (.sl o2)), (.sc v3), (.sc (.i .i64 n4)), (.sc (.i .i64 n5)), (.sc (.i .i64 n6)), (.sc (.i .i64 (IntKind.wrap .i64 (n7 - (1 : Int)))))])
    (.ret 2 [(.sc (.sl o2)), (.sc v3), (.sc (.i .i64 n4)), (.sc (.i .i64 n5)), (.sc (.i .i64 n6))])
def gheap_k0 (z : Nat) (dec : Dec) (zs : List Sc) (S : SIds)  : Nat → List AV → Tree := fun a9 l10 =>
  .tg a9 2
    (.asL (l10.getD 0 .un) fun o11 =>
    .asX (l10.getD 1 .un) fun v12 =>
    .asI .i64 (l10.getD 2 .un) fun n13 =>
    .asI .i64 (l10.getD 3 .un) fun n14 =>
    .asI .i64 (l10.getD 4 .un) fun n15 =>
    .loop (gheap_b16 z dec zs S) [(.sc (.sl o11)), (.sc v12), (.sc (.i .i64 n13)), (.sc (.i .i64 n14)), (.sc (.i .i64 (IntKind.wrap .i64 (n15 - (1 : Int)))))] (gheap_k16 z dec zs S))
    (.fail)
def gheap (z : Nat) (dec : Dec) (zs : List Sc) (S : SIds) (s0_ : Option SlD) (n1_ : Int) (n2_ : Int) (g3_ : FuncId) (f3_ c3_ : List (Nat × Nat)) : Tree :=
  .br .true
    (.loop (gheap_b0 z dec zs S) [(.sc (.sl s0_)), (.sc (.fn g3_ f3_ c3_)), (.sc (.i .i64 n1_)), (.sc (.i .i64 (0 : Int))), (.sc (.i .i64 (IntKind.wrap .i64 (n2_ - n1_)))), (.sc (.i .i64 (IntKind.wrap .i64 (Int.tdiv (IntKind.wrap .i64 ((IntKind.wrap .i64 (n2_ - n1_)) - (1 : Int))) (2 : Int)))))] (gheap_k0 z dec zs S))
    (.fail)
def grev_b0 (z : Nat) (dec : Dec) (zs : List Sc) (S : SIds)  : List AV → Tree := fun l1 =>
  .asL (l1.getD 0 .un) fun o2 =>
  .asI .i64 (l1.getD 1 .un) fun n3 =>
  .asI .i64 (l1.getD 2 .un) fun n4 =>
  cond (decide (n3 < n4))
    (.ixS z o2 n4 fun a5 a6 a7 =>
    .ld a5 (a6 + (a7 * z)) z fun l8 =>
    dec l8 fun r8 =>
    .ixS z o2 n3 fun a21 a22 a23 =>
    .ld a21 (a22 + (a23 * z)) z fun l24 =>
    dec l24 fun r24 =>
    .ixS z o2 n3 fun a37 a38 a39 =>
    .st a37 (a38 + (a39 * z)) r8 (
    .ixS z o2 n4 fun a40 a41 a42 =>
    .st a40 (a41 + (a42 * z)) r24 (
    .ret 0 [(.sc (.sl o2)), (.sc (.i .i64 (IntKind.wrap .i64 (n3 + (1 : Int))))), (.sc (.i .i64 (IntKind.wrap .i64 (n4 - (1 : Int)))))])))
    (.ret 2 [])
def grev_k0 (z : Nat) (dec : Dec) (zs : List Sc) (S : SIds)  : Nat → List AV → Tree := fun a43 l44 =>
  .tg a43 2
    (.ret 0 [(.tu [])])
    (.fail)
def grev (z : Nat) (dec : Dec) (zs : List Sc) (S : SIds) (s0_ : Option SlD) (n1_ : Int) (n2_ : Int) (g3_ : FuncId) (f3_ c3_ : List (Nat × Nat)) : Tree :=
  .loop (grev_b0 z dec zs S) [(.sc (.sl s0_)), (.sc (.i .i64 n1_)), (.sc (.i .i64 (IntKind.wrap .i64 (n2_ - (1 : Int)))))] (grev_k0 z dec zs S)
def gord2 (z : Nat) (dec : Dec) (zs : List Sc) (S : SIds) (s0_ : Option SlD) (n1_ : Int) (n2_ : Int) (p3_ q3_ : Nat) (g4_ : FuncId) (f4_ c4_ : List (Nat × Nat)) : Tree :=
  .ixS z s0_ n2_ fun a0 a1 a2 =>
  .ld a0 (a1 + (a2 * z)) z fun l3 =>
  dec l3 fun r3 =>
  .ixS z s0_ n1_ fun a16 a17 a18 =>
  .ld a16 (a17 + (a18 * z)) z fun l19 =>
  dec l19 fun r19 =>
  .callv (.sc (.fn g4_ f4_ c4_)) [(.ag r3), (.ag r19)] fun v32 =>
  .asI .i64 v32 fun n33 =>
  cond (decide (n33 < (0 : Int)))
    (.nn (.some (p3_, q3_)) fun a34 a35 =>
    .ld a34 a35 1 fun l36 =>
    .nth l36 0 fun v37 =>
    .asI .i64 (.sc v37) fun n38 =>
    .nn (.some (p3_, q3_)) fun a39 a40 =>
    .st a39 a40 [(.i .i64 (IntKind.wrap .i64 (n38 + (1 : Int))))] (
    .ret 0 [(.tu [(.sc (.i .i64 n2_)), (.sc (.i .i64 n1_))])]))
    (.ret 0 [(.tu [(.sc (.i .i64 n1_)), (.sc (.i .i64 n2_))])])
def gmed (z : Nat) (dec : Dec) (zs : List Sc) (S : SIds) (s0_ : Option SlD) (n1_ : Int) (n2_ : Int) (n3_ : Int) (p4_ q4_ : Nat) (g5_ : FuncId) (f5_ c5_ : List (Nat × Nat)) : Tree :=
  .call S.ord2 [(.sc (.sl s0_)), (.sc (.i .i64 n1_)), (.sc (.i .i64 n2_)), (.sc (.p (.some (p4_, q4_)))), (.sc (.fn g5_ f5_ c5_))] fun v0 =>
  .asT 2 v0 fun l1 =>
  .nthC l1 0 fun v2 =>
  .asI .i64 (v2.av) fun n3 =>
  .nthC l1 1 fun v4 =>
  .asI .i64 (v4.av) fun n5 =>
  .call S.ord2 [(.sc (.sl s0_)), (.sc (.i .i64 n5)), (.sc (.i .i64 n3_)), (.sc (.p (.some (p4_, q4_)))), (.sc (.fn g5_ f5_ c5_))] fun v6 =>
  .asT 2 v6 fun l7 =>
  .nthC l7 0 fun v8 =>
  .asI .i64 (v8.av) fun n9 =>
  .nthC l7 1 fun v10 =>
  .asI .i64 (v10.av) fun n11 =>
  .call S.ord2 [(.sc (.sl s0_)), (.sc (.i .i64 n3)), (.sc (.i .i64 n9)), (.sc (.p (.some (p4_, q4_)))), (.sc (.fn g5_ f5_ c5_))] fun v12 =>
  .asT 2 v12 fun l13 =>
  .nthC l13 0 fun v14 =>
  .asI .i64 (v14.av) fun n15 =>
  .nthC l13 1 fun v16 =>
  .asI .i64 (v16.av) fun n17 =>
  .ret 0 [(.sc (.i .i64 n17))]
def gmedA (z : Nat) (dec : Dec) (zs : List Sc) (S : SIds) (s0_ : Option SlD) (n1_ : Int) (p2_ q2_ : Nat) (g3_ : FuncId) (f3_ c3_ : List (Nat × Nat)) : Tree :=
  .call S.med [(.sc (.sl s0_)), (.sc (.i .i64 (IntKind.wrap .i64 (n1_ - (1 : Int))))), (.sc (.i .i64 n1_)), (.sc (.i .i64 (IntKind.wrap .i64 (n1_ + (1 : Int))))), (.sc (.p (.some (p2_, q2_)))), (.sc (.fn g3_ f3_ c3_))] fun v0 =>
  .asI .i64 v0 fun n1 =>
  .ret 0 [(.sc (.i .i64 n1))]
def gpiv_k1 (z : Nat) (dec : Dec) (zs : List Sc) (S : SIds)  : Nat → List AV → Tree := fun a12 l13 =>
  .tg a12 0
    (.asP (l13.getD 0 .un) fun o14 =>
    .nn o14 fun a15 a16 =>
    .asI .i64 (l13.getD 1 .un) fun n17 =>
    .ld a15 a16 1 fun l18 =>
    .nth l18 0 fun v19 =>
    .asI .i64 (.sc v19) fun n20 =>
    cond (n20 == (0 : Int))
      (.ret 0 [(.tu [(.sc (.i .i64 n17)), (.sc (.i .i64 (1 : Int)))])])
      (cond (n20 == (12 : Int))
        (.ret 0 [(.tu [(.sc (.i .i64 n17)), (.sc (.i .i64 (2 : Int)))])])
        (.ret 0 [(.tu [(.sc (.i .i64 n17)), (.sc (.i .i64 (0 : Int)))])])))
    (.fail)
def gpiv (z : Nat) (dec : Dec) (zs : List Sc) (S : SIds) (s0_ : Option SlD) (n1_ : Int) (n2_ : Int) (g3_ : FuncId) (f3_ c3_ : List (Nat × Nat)) : Tree :=
  .al [(.i .i64 (0 : Int))] fun a0 =>
  .br .true
    (.br .true
      (.br .true
        (.join (
          cond (decide ((IntKind.wrap .i64 (n2_ - n1_)) ≥ (8 : Int)))
            (cond (decide ((IntKind.wrap .i64 (n2_ - n1_)) ≥ (50 : Int)))
              (.call S.medA [(.sc (.sl s0_)), (.sc (.i .i64 (IntKind.wrap .i64 (n1_ + (IntKind.wrap .i64 ((IntKind.wrap .i64 (Int.tdiv (IntKind.wrap .i64 (n2_ - n1_)) (4 : Int))) * (1 : Int))))))), (.sc (.p (.some (a0, 0)))), (.sc (.fn g3_ f3_ c3_))] fun v2 =>
              .asI .i64 v2 fun n3 =>
              .call S.medA [(.sc (.sl s0_)), (.sc (.i .i64 (IntKind.wrap .i64 (n1_ + (IntKind.wrap .i64 ((IntKind.wrap .i64 (Int.tdiv (IntKind.wrap .i64 (n2_ - n1_)) (4 : Int))) * (2 : Int))))))), (.sc (.p (.some (a0, 0)))), (.sc (.fn g3_ f3_ c3_))] fun v4 =>
              .asI .i64 v4 fun n5 =>
              .call S.medA [(.sc (.sl s0_)), (.sc (.i .i64 (IntKind.wrap .i64 (n1_ + (IntKind.wrap .i64 ((IntKind.wrap .i64 (Int.tdiv (IntKind.wrap .i64 (n2_ - n1_)) (4 : Int))) * (3 : Int))))))), (.sc (.p (.some (a0, 0)))), (.sc (.fn g3_ f3_ c3_))] fun v6 =>
              .asI .i64 v6 fun n7 =>
              .call S.med [(.sc (.sl s0_)), (.sc (.i .i64 n3)), (.sc (.i .i64 n5)), (.sc (.i .i64 n7)), (.sc (.p (.some (a0, 0)))), (.sc (.fn g3_ f3_ c3_))] fun v8 =>
              .asI .i64 v8 fun n9 =>
              .ret 0 [(.sc (.p (.some (a0, 0)))), (.sc (.i .i64 n9))])
              (.call S.med [(.sc (.sl s0_)), (.sc (.i .i64 (IntKind.wrap .i64 (n1_ + (IntKind.wrap .i64 ((IntKind.wrap .i64 (Int.tdiv (IntKind.wrap .i64 (n2_ - n1_)) (4 : Int))) * (1 : Int))))))), (.sc (.i .i64 (IntKind.wrap .i64 (n1_ + (IntKind.wrap .i64 ((IntKind.wrap .i64 (Int.tdiv (IntKind.wrap .i64 (n2_ - n1_)) (4 : Int))) * (2 : Int))))))), (.sc (.i .i64 (IntKind.wrap .i64 (n1_ + (IntKind.wrap .i64 ((IntKind.wrap .i64 (Int.tdiv (IntKind.wrap .i64 (n2_ - n1_)) (4 : Int))) * (3 : Int))))))), (.sc (.p (.some (a0, 0)))), (.sc (.fn g3_ f3_ c3_))] fun v10 =>
              .asI .i64 v10 fun n11 =>
              .ret 0 [(.sc (.p (.some (a0, 0)))), (.sc (.i .i64 n11))]))
            (.ret 0 [(.sc (.p (.some (a0, 0)))), (.sc (.i .i64 (IntKind.wrap .i64 (n1_ + (IntKind.wrap .i64 ((IntKind.wrap .i64 (Int.tdiv (IntKind.wrap .i64 (n2_ - n1_)) (4 : Int))) * (2 : Int)))))))])) (gpiv_k1 z dec zs S))
        (.fail))
      (.fail))
    (.fail)
def gxors (z : Nat) (dec : Dec) (zs : List Sc) (S : SIds) (p0_ q0_ : Nat) : Tree :=
  .nn (.some (p0_, q0_)) fun a0 a1 =>
  .ld a0 a1 1 fun l2 =>
  .nth l2 0 fun v3 =>
  .asI .u64 (.sc v3) fun n4 =>
  .nn (.some (p0_, q0_)) fun a5 a6 =>
  .ld a5 a6 1 fun l7 =>
  .nth l7 0 fun v8 =>
  .asI .u64 (.sc v8) fun n9 =>
  .br (decide ((0 : Int) ≤ (13 : Int)))
    (.nn (.some (p0_, q0_)) fun a10 a11 =>
    .st a10 a11 [(.i .u64 (IntKind.wrap .u64 (((BitVec.toNat ((BitVec.ofInt 64 n4) ^^^ (BitVec.ofInt 64 (IntKind.wrap .u64 (n9 * (8192 : Int)))))) : Nat) : Int)))] (
    .nn (.some (p0_, q0_)) fun a12 a13 =>
    .ld a12 a13 1 fun l14 =>
    .nth l14 0 fun v15 =>
    .asI .u64 (.sc v15) fun n16 =>
    .nn (.some (p0_, q0_)) fun a17 a18 =>
    .ld a17 a18 1 fun l19 =>
    .nth l19 0 fun v20 =>
    .asI .u64 (.sc v20) fun n21 =>
    .br (decide ((0 : Int) ≤ (7 : Int)))
      (.nn (.some (p0_, q0_)) fun a22 a23 =>
      .st a22 a23 [(.i .u64 (IntKind.wrap .u64 (((BitVec.toNat ((BitVec.ofInt 64 n16) ^^^ (BitVec.ofInt 64 (Int.fdiv n21 (128 : Int))))) : Nat) : Int)))] (
      .nn (.some (p0_, q0_)) fun a24 a25 =>
      .ld a24 a25 1 fun l26 =>
      .nth l26 0 fun v27 =>
      .asI .u64 (.sc v27) fun n28 =>
      .nn (.some (p0_, q0_)) fun a29 a30 =>
      .ld a29 a30 1 fun l31 =>
      .nth l31 0 fun v32 =>
      .asI .u64 (.sc v32) fun n33 =>
      .br (decide ((0 : Int) ≤ (17 : Int)))
        (.nn (.some (p0_, q0_)) fun a34 a35 =>
        .st a34 a35 [(.i .u64 (IntKind.wrap .u64 (((BitVec.toNat ((BitVec.ofInt 64 n28) ^^^ (BitVec.ofInt 64 (IntKind.wrap .u64 (n33 * (131072 : Int)))))) : Nat) : Int)))] (
        .nn (.some (p0_, q0_)) fun a36 a37 =>
        .ld a36 a37 1 fun l38 =>
        .nth l38 0 fun v39 =>
        .asI .u64 (.sc v39) fun n40 =>
        .ret 0 [(.sc (.i .u64 n40))]))
        (.fail)))
      (.fail)))
    (.fail)
def gnpow (z : Nat) (dec : Dec) (zs : List Sc) (S : SIds) (n0_ : Int) : Tree :=
  .call S.b.blen [(.sc (.i .u64 (IntKind.wrap .u64 n0_)))] fun v0 =>
  .asI .i64 v0 fun n1 =>
  .br (decide ((0 : Int) ≤ n1))
    (.ret 0 [(.sc (.i .u64 (IntKind.wrap .u64 ((1 : Int) * ((2 : Int) ^ (min (Int.toNat n1) 64))))))])
    (.fail)
def gbrk_k15 (z : Nat) (dec : Dec) (zs : List Sc) (S : SIds)  : Nat → List AV → Tree := fun a16 l17 =>
  .tg a16 0
    (.asL (l17.getD 0 .un) fun o18 =>
    .asI .i64 (l17.getD 1 .un) fun n19 =>
    .asI .i64 (l17.getD 2 .un) fun n20 =>
    .asP (l17.getD 3 .un) fun o21 =>
    .nn o21 fun a22 a23 =>
    .asI .u64 (l17.getD 4 .un) fun n24 =>
    .asI .i64 (l17.getD 5 .un) fun n25 =>
    .asI .i64 (l17.getD 6 .un) fun n26 =>
    .ixS z o18 (IntKind.wrap .i64 (n19 + n26)) fun a27 a28 a29 =>
    .ld a27 (a28 + (a29 * z)) z fun l30 =>
    dec l30 fun r30 =>
    .ixS z o18 n25 fun a43 a44 a45 =>
    .ld a43 (a44 + (a45 * z)) z fun l46 =>
    dec l46 fun r46 =>
    .ixS z o18 n25 fun a59 a60 a61 =>
    .st a59 (a60 + (a61 * z)) r30 (
    .ixS z o18 (IntKind.wrap .i64 (n19 + n26)) fun a62 a63 a64 =>
    .st a62 (a63 + (a64 * z)) r46 (
    .ret 0 [(.sc (.sl o18)), (.sc (.i .i64 n19)), (.sc (.i .i64 n20)), (.sc (.p (.some (a22, a23)))), (.sc (.i .u64 n24)), (.sc (.i .i64 (IntKind.wrap .i64 (n25 + (1 : Int)))))])))
    (.fail)
def gbrk_b3 (z : Nat) (dec : Dec) (zs : List Sc) (S : SIds)  : List AV → Tree := fun l4 =>
  .asL (l4.getD 0 .un) fun o5 =>
  .asI .i64 (l4.getD 1 .un) fun n6 =>
  .asI .i64 (l4.getD 2 .un) fun n7 =>
  .asP (l4.getD 3 .un) fun o8 =>
  .nn o8 fun a9 a10 =>
  .asI .u64 (l4.getD 4 .un) fun n11 =>
  .asI .i64 (l4.getD 5 .un) fun n12 =>
  .br .true
    (cond (decide (n12 ≤ (IntKind.wrap .i64 ((IntKind.wrap .i64 (n6 + (IntKind.wrap .i64 ((IntKind.wrap .i64 (Int.tdiv n7 (4 : Int))) * (2 : Int))))) + (1 : Int)))))
      (.call S.xors [(.sc (.p (.some (a9, a10))))] fun v13 =>
      .asI .u64 v13 fun n14 =>
      .join (
        cond (decide ((IntKind.wrap .i64 (IntKind.wrap .u64 (((BitVec.toNat ((BitVec.ofInt 64 n14) &&& (BitVec.ofInt 64 (IntKind.wrap .u64 (n11 - (1 : Int)))))) : Nat) : Int))) ≥ n7))
          (.ret 0 [(.sc (.sl o5)), (.sc (.i .i64 n6)), (.sc (.i .i64 n7)), (.sc (.p (.some (a9, a10)))), (.sc (.i .u64 n11)), (.sc (.i .i64 n12)), (.sc (.i .i64 (IntKind.wrap .i64 ((IntKind.wrap .i64 (IntKind.wrap .u64 (((BitVec.toNat ((BitVec.ofInt 64 n14) &&& (BitVec.ofInt 64 (IntKind.wrap .u64 (n11 - (1 : Int)))))) : Nat) : Int))) - n7))))])
          (.ret 0 [(.sc (.sl o5)), (.sc (.i .i64 n6)), (.sc (.i .i64 n7)), (.sc (.p (.some (a9, a10)))), (.sc (.i .u64 n11)), (.sc (.i .i64 n12)), (.sc (.i .i64 (IntKind.wrap .i64 (IntKind.wrap .u64 (((BitVec.toNat ((BitVec.ofInt 64 n14) &&& (BitVec.ofInt 64 (IntKind.wrap .u64 (n11 - (1 : Int)))))) : Nat) : Int)))))])) (gbrk_k15 z dec zs S))
      (.ret 2 []))
    (.fail)
def gbrk_k3 (z : Nat) (dec : Dec) (zs : List Sc) (S : SIds)  : Nat → List AV → Tree := fun a65 l66 =>
  .tg a65 2
    (.ret 0 [(.tu [])])
    (.fail)
def gbrk (z : Nat) (dec : Dec) (zs : List Sc) (S : SIds) (s0_ : Option SlD) (n1_ : Int) (n2_ : Int) (g3_ : FuncId) (f3_ c3_ : List (Nat × Nat)) : Tree :=
  cond (decide ((IntKind.wrap .i64 (n2_ - n1_)) ≥ (8 : Int)))
    (.al [(.i .u64 (0 : Int))] fun a0 =>
    .st a0 0 [(.i .u64 (IntKind.wrap .u64 (IntKind.wrap .i64 (n2_ - n1_))))] (
    .call S.npow [(.sc (.i .i64 (IntKind.wrap .i64 (n2_ - n1_))))] fun v1 =>
    .asI .u64 v1 fun n2 =>
    .br .true
      (.loop (gbrk_b3 z dec zs S) [(.sc (.sl s0_)), (.sc (.i .i64 n1_)), (.sc (.i .i64 (IntKind.wrap .i64 (n2_ - n1_)))), (.sc (.p (.some (a0, 0)))), (.sc (.i .u64 n2)), (.sc (.i .i64 (IntKind.wrap .i64 ((IntKind.wrap .i64 (n1_ + (IntKind.wrap .i64 ((IntKind.wrap .i64 (Int.tdiv (IntKind.wrap .i64 (n2_ - n1_)) (4 : Int))) * (2 : Int))))) - (1 : Int)))))] (gbrk_k3 z dec zs S))
      (.fail)))
    (.ret 0 [(.tu [])])
def gpins_b97 (z : Nat) (dec : Dec) (zs : List Sc) (S : SIds)  : List AV → Tree := fun l98 =>
  .asL (l98.getD 0 .un) fun o99 =>
  .asI .i64 (l98.getD 1 .un) fun n100 =>
  .asI .i64 (l98.getD 2 .un) fun n101 =>
  .asX (l98.getD 3 .un) fun v102 =>
  .asI .i64 (l98.getD 4 .un) fun n103 =>
  .asI .i64 (l98.getD 5 .un) fun n104 =>
  .asI .i64 (l98.getD 6 .un) fun n105 =>
  cond (decide (n105 ≥ (1 : Int)))
    (.ixS z o99 n105 fun a106 a107 a108 =>
    .ld a106 (a107 + (a108 * z)) z fun l109 =>
    dec l109 fun r109 =>
    .ixS z o99 (IntKind.wrap .i64 (n105 - (1 : Int))) fun a122 a123 a124 =>
    .ld a122 (a123 + (a124 * z)) z fun l125 =>
    dec l125 fun r125 =>
    .callv (.sc v102) [(.ag r109), (.ag r125)] fun v138 =>
    .asI .i64 v138 fun n139 =>
    cond (!(decide (n139 < (0 : Int))))
      (.ret 10 [(.sc (.sl o99)), (.sc (.i .i64 n100)), (.sc (.i .i64 n101)), (.sc v102), (.sc (.i .i64 n103)), (.sc (.i .i64 n104))])
      (.ixS z o99 (IntKind.wrap .i64 (n105 - (1 : Int))) fun a140 a141 a142 =>
      .ld a140 (a141 + (a142 * z)) z fun l143 =>
      dec l143 fun r143 =>
      .ixS z o99 n105 fun a156 a157 a158 =>
      .ld a156 (a157 + (a158 * z)) z fun l159 =>
      dec l159 fun r159 =>
      .ixS z o99 n105 fun a172 a173 a174 =>
      .st a172 (a173 + (a174 * z)) r143 (
      .ixS z o99 (IntKind.wrap .i64 (n105 - (1 : Int))) fun a175 a176 a177 =>
      .st a175 (a176 + (a177 * z)) r159 (
      .ret 0 [(.sc (.sl o99)), (.sc (.i .i64 n100)), (.sc (.i .i64 n101)), (.sc v102), (.sc (.i .i64 n103)), (.sc (.i .i64 n104)), (.sc (.i .i64 (IntKind.wrap .i64 (n105 - (1 : Int)))))]))))
    (.ret 10 [(.sc (.sl o99)), (.sc (.i .i64 n100)), (.sc (.i .i64 n101)), (.sc v102), (.sc (.i .i64 n103)), (.sc (.i .i64 n104))])
def gpins_k97 (z : Nat) (dec : Dec) (zs : List Sc) (S : SIds)  : Nat → List AV → Tree := fun a178 l179 =>
  .tg a178 10
    (.asL (l179.getD 0 .un) fun o180 =>
    .asI .i64 (l179.getD 1 .un) fun n181 =>
    .asI .i64 (l179.getD 2 .un) fun n182 =>
    .asX (l179.getD 3 .un) fun v183 =>
    .asI .i64 (l179.getD 4 .un) fun n184 =>
    .asI .i64 (l179.getD 5 .un) fun n185 =>
    .ret 0 [(.sc (.sl o180)), (.sc (.i .i64 n181)), (.sc (.i .i64 n182)), (.sc v183), (.sc (.i .i64 n184)), (.sc (.i .i64 n185))])
    (.fail)
def gpins_b194 (z : Nat) (dec : Dec) (zs : List Sc) (S : SIds)  : List AV → Tree := fun l195 =>
  .asL (l195.getD 0 .un) fun o196 =>
  .asI .i64 (l195.getD 1 .un) fun n197 =>
  .asI .i64 (l195.getD 2 .un) fun n198 =>
  .asX (l195.getD 3 .un) fun v199 =>
  .asI .i64 (l195.getD 4 .un) fun n200 =>
  .asI .i64 (l195.getD 5 .un) fun n201 =>
  .asI .i64 (l195.getD 6 .un) fun n202 =>
  cond (decide (n202 < n198))
    (.ixS z o196 n202 fun a203 a204 a205 =>
    .ld a203 (a204 + (a205 * z)) z fun l206 =>
    dec l206 fun r206 =>
    .ixS z o196 (IntKind.wrap .i64 (n202 - (1 : Int))) fun a219 a220 a221 =>
    .ld a219 (a220 + (a221 * z)) z fun l222 =>
    dec l222 fun r222 =>
    .callv (.sc v199) [(.ag r206), (.ag r222)] fun v235 =>
    .asI .i64 v235 fun n236 =>
    cond (!(decide (n236 < (0 : Int))))
      (.ret 14 [(.sc (.sl o196)), (.sc (.i .i64 n197)), (.sc (.i .i64 n198)), (.sc v199), (.sc (.i .i64 n200)), (.sc (.i .i64 n201))])
      (.ixS z o196 (IntKind.wrap .i64 (n202 - (1 : Int))) fun a237 a238 a239 =>
      .ld a237 (a238 + (a239 * z)) z fun l240 =>
      dec l240 fun r240 =>
      .ixS z o196 n202 fun a253 a254 a255 =>
      .ld a253 (a254 + (a255 * z)) z fun l256 =>
      dec l256 fun r256 =>
      .ixS z o196 n202 fun a269 a270 a271 =>
      .st a269 (a270 + (a271 * z)) r240 (
      .ixS z o196 (IntKind.wrap .i64 (n202 - (1 : Int))) fun a272 a273 a274 =>
      .st a272 (a273 + (a274 * z)) r256 (
      .ret 0 [(.sc (.sl o196)), (.sc (.i .i64 n197)), (.sc (.i .i64 n198)), (.sc v199), (.sc (.i .i64 n200)), (.sc (.i .i64 n201)), (.sc (.i .i64 (IntKind.wrap .i64 (n202 + (1 : Int)))))]))))
    (.ret 14 [(.sc (.sl o196)), (.sc (.i .i64 n197)), (.sc (.i .i64 n198)), (.sc v199), (.sc (.i .i64 n200)), (.sc (.i .i64 n201))])
def gpins_k194 (z : Nat) (dec : Dec) (zs : List Sc) (S : SIds)  : Nat → List AV → Tree := fun a275 l276 =>
  .tg a275 14
    (.asL (l276.getD 0 .un) fun o277 =>
    .asI .i64 (l276.getD 1 .un) fun n278 =>
    .asI .i64 (l276.getD 2 .un) fun n279 =>
    .asX (l276.getD 3 .un) fun v280 =>
    .asI .i64 (l276.getD 4 .un) fun n281 =>
    .asI .i64 (l276.getD 5 .un) fun n282 =>
    .ret 0 [(.sc (.sl o277)), (.sc (.i .i64 n278)), (.sc (.i .i64 n279)), (.sc v280), (.sc (.i .i64 n281)), (.sc (.i .i64 (IntKind.wrap .i64 (n282 + (1 : Int)))))])
    (.fail)
def gpins_k96 (z : Nat) (dec : Dec) (zs : List Sc) (S : SIds)  : Nat → List AV → Tree := fun a186 l187 =>
  .tg a186 0
    (.asL (l187.getD 0 .un) fun o188 =>
    .asI .i64 (l187.getD 1 .un) fun n189 =>
    .asI .i64 (l187.getD 2 .un) fun n190 =>
    .asX (l187.getD 3 .un) fun v191 =>
    .asI .i64 (l187.getD 4 .un) fun n192 =>
    .asI .i64 (l187.getD 5 .un) fun n193 =>
    cond (decide ((IntKind.wrap .i64 (n190 - n192)) ≥ (2 : Int)))
      (.loop (gpins_b194 z dec zs S) [(.sc (.sl o188)), (.sc (.i .i64 n189)), (.sc (.i .i64 n190)), (.sc v191), (.sc (.i .i64 n192)), (.sc (.i .i64 n193)), (.sc (.i .i64 (IntKind.wrap .i64 (n192 + (1 : Int)))))] (gpins_k194 z dec zs S))
      (.ret 0 [(.sc (.sl o188)), (.sc (.i .i64 n189)), (.sc (.i .i64 n190)), (.sc v191), (.sc (.i .i64 n192)), (.sc (.i .i64 (IntKind.wrap .i64 (n193 + (1 : Int)))))]))
    (.fail)
def gpins_b8 (z : Nat) (dec : Dec) (zs : List Sc) (S : SIds)  : List AV → Tree := fun l9 =>
  .asL (l9.getD 0 .un) fun o10 =>
  .asI .i64 (l9.getD 1 .un) fun n11 =>
  .asI .i64 (l9.getD 2 .un) fun n12 =>
  .asX (l9.getD 3 .un) fun v13 =>
  .asI .i64 (l9.getD 4 .un) fun n14 =>
  .asI .i64 (l9.getD 5 .un) fun n15 =>
  cond (decide (n14 < n12))
    (.ixS z o10 n14 fun a16 a17 a18 =>
    .ld a16 (a17 + (a18 * z)) z fun l19 =>
    dec l19 fun r19 =>
    .ixS z o10 (IntKind.wrap .i64 (n14 - (1 : Int))) fun a32 a33 a34 =>
    .ld a32 (a33 + (a34 * z)) z fun l35 =>
    dec l35 fun r35 =>
    .callv (.sc v13) [(.ag r19), (.ag r35)] fun v48 =>
    .asI .i64 v48 fun n49 =>
    cond (!(decide (n49 < (0 : Int))))
      (.ret 0 [(.sc (.sl o10)), (.sc (.i .i64 n11)), (.sc (.i .i64 n12)), (.sc v13), (.sc (.i .i64 (IntKind.wrap .i64 (n14 + (1 : Int))))), (.sc (.i .i64 n15))])
      (.ret 6 [(.sc (.sl o10)), (.sc (.i .i64 n11)), (.sc (.i .i64 n12)), (.sc v13), (.sc (.i .i64 n14)), (.sc (.i .i64 n15))]))
    (.ret 6 [(.sc (.sl o10)), (.sc (.i .i64 n11)), (.sc (.i .i64 n12)), (.sc v13), (.sc (.i .i64 n14)), (.sc (.i .i64 n15))])
def gpins_k8 (z : Nat) (dec : Dec) (zs : List Sc) (S : SIds)  : Nat → List AV → Tree := fun a50 l51 =>
  .tg a50 6
    (.asL (l51.getD 0 .un) fun o52 =>
    .asI .i64 (l51.getD 1 .un) fun n53 =>
    .asI .i64 (l51.getD 2 .un) fun n54 =>
    .asX (l51.getD 3 .un) fun v55 =>
    .asI .i64 (l51.getD 4 .un) fun n56 =>
    .asI .i64 (l51.getD 5 .un) fun n57 =>
    cond (n56 == n54)
      (.ret 1 [(.sc (.b .true))])
      (cond (decide ((IntKind.wrap .i64 (n54 - n53)) < (50 : Int)))
        (.ret 1 [(.sc (.b .false))])
        (.ixS z o52 (IntKind.wrap .i64 (n56 - (1 : Int))) fun a58 a59 a60 =>
        .ld a58 (a59 + (a60 * z)) z fun l61 =>
        dec l61 fun r61 =>
        .ixS z o52 n56 fun a74 a75 a76 =>
        .ld a74 (a75 + (a76 * z)) z fun l77 =>
        dec l77 fun r77 =>
        .ixS z o52 n56 fun a90 a91 a92 =>
        .st a90 (a91 + (a92 * z)) r61 (
        .ixS z o52 (IntKind.wrap .i64 (n56 - (1 : Int))) fun a93 a94 a95 =>
        .st a93 (a94 + (a95 * z)) r77 (
        .join (
          cond (decide ((IntKind.wrap .i64 (n56 - n53)) ≥ (2 : Int)))
            (.loop (gpins_b97 z dec zs S) [(.sc (.sl o52)), (.sc (.i .i64 n53)), (.sc (.i .i64 n54)), (.sc v55), (.sc (.i .i64 n56)), (.sc (.i .i64 n57)), (.sc (.i .i64 (IntKind.wrap .i64 (n56 - (1 : Int)))))] (gpins_k97 z dec zs S))
            (.ret 0 [(.sc (.sl o52)), (.sc (.i .i64 n53)), (.sc (.i .i64 n54)), (.sc v55), (.sc (.i .i64 n56)), (.sc (.i .i64 n57))])) (gpins_k96 z dec zs S))))))
    (.fail)
def gpins_b0 (z : Nat) (dec : Dec) (zs : List Sc) (S : SIds)  : List AV → Tree := fun l1 =>
  .asL (l1.getD 0 .un) fun o2 =>
  .asI .i64 (l1.getD 1 .un) fun n3 =>
  .asI .i64 (l1.getD 2 .un) fun n4 =>
  .asX (l1.getD 3 .un) fun v5 =>
  .asI .i64 (l1.getD 4 .un) fun n6 =>
  .asI .i64 (l1.getD 5 .un) fun n7 =>
  cond (decide (n7 < (5 : Int)))
    (.loop (gpins_b8 z dec zs S) [(.sc (.sl o2)), (.sc (.i .i64 n3)), (.sc (.i .i64 n4)), (.sc v5), (.sc (.i .i64 n6)), (.sc (.i .i64 n7))] (gpins_k8 z dec zs S))
    (.ret 2 [])
def gpins_k0 (z : Nat) (dec : Dec) (zs : List Sc) (S : SIds)  : Nat → List AV → Tree := fun a283 l284 =>
  .tg a283 2
    (.ret 0 [(.sc (.b .false))])
    (.tg a283 1
      (.asB (l284.getD 0 .un) fun b285 =>
      .ret 0 [(.sc (.b b285))])
      (.fail))
def gpins (z : Nat) (dec : Dec) (zs : List Sc) (S : SIds) (s0_ : Option SlD) (n1_ : Int) (n2_ : Int) (g3_ : FuncId) (f3_ c3_ : List (Nat × Nat)) : Tree :=
  .loop (gpins_b0 z dec zs S) [(.sc (.sl s0_)), (.sc (.i .i64 n1_)), (.sc (.i .i64 n2_)), (.sc (.fn g3_ f3_ c3_)), (.sc (.i .i64 (IntKind.wrap .i64 (n1_ + (1 : Int))))), (.sc (.i .i64 (0 : Int)))] (gpins_k0 z dec zs S)
def gpeq_b93 (z : Nat) (dec : Dec) (zs : List Sc) (S : SIds)  : List AV → Tree := fun l94 =>
  .asL (l94.getD 0 .un) fun o95 =>
  .asI .i64 (l94.getD 1 .un) fun n96 =>
  .asX (l94.getD 2 .un) fun v97 =>
  .asI .i64 (l94.getD 3 .un) fun n98 =>
  .asI .i64 (l94.getD 4 .un) fun n99 =>
  cond (decide (n98 ≤ n99))
    (.ixS z o95 n96 fun a100 a101 a102 =>
    .ld a100 (a101 + (a102 * z)) z fun l103 =>
    dec l103 fun r103 =>
    .ixS z o95 n99 fun a116 a117 a118 =>
    .ld a116 (a117 + (a118 * z)) z fun l119 =>
    dec l119 fun r119 =>
    .callv (.sc v97) [(.ag r103), (.ag r119)] fun v132 =>
    .asI .i64 v132 fun n133 =>
    cond (decide (n133 < (0 : Int)))
      (.ret 0 [(.sc (.sl o95)), (.sc (.i .i64 n96)), (.sc v97), (.sc (.i .i64 n98)), (.sc (.i .i64 (IntKind.wrap .i64 (n99 - (1 : Int)))))])
      (.ret 10 [(.sc (.sl o95)), (.sc (.i .i64 n96)), (.sc v97), (.sc (.i .i64 n98)), (.sc (.i .i64 n99))]))
    (.ret 10 [(.sc (.sl o95)), (.sc (.i .i64 n96)), (.sc v97), (.sc (.i .i64 n98)), (.sc (.i .i64 n99))])
def gpeq_k93 (z : Nat) (dec : Dec) (zs : List Sc) (S : SIds)  : Nat → List AV → Tree := fun a134 l135 =>
  .tg a134 10
    (.asL (l135.getD 0 .un) fun o136 =>
    .asI .i64 (l135.getD 1 .un) fun n137 =>
    .asX (l135.getD 2 .un) fun v138 =>
    .asI .i64 (l135.getD 3 .un) fun n139 =>
    .asI .i64 (l135.getD 4 .un) fun n140 =>
    cond (decide (n139 > n140))
      (.ret 2 [(.sc (.i .i64 n139))])
      (.ixS z o136 n140 fun a141 a142 a143 =>
      .ld a141 (a142 + (a143 * z)) z fun l144 =>
      dec l144 fun r144 =>
      .ixS z o136 n139 fun a157 a158 a159 =>
      .ld a157 (a158 + (a159 * z)) z fun l160 =>
      dec l160 fun r160 =>
      .ixS z o136 n139 fun a173 a174 a175 =>
      .st a173 (a174 + (a175 * z)) r144 (
      .ixS z o136 n140 fun a176 a177 a178 =>
      .st a176 (a177 + (a178 * z)) r160 (
      .ret 0 [(.sc (.sl o136)), (.sc (.i .i64 n137)), (.sc v138), (.sc (.i .i64 (IntKind.wrap .i64 (n139 + (1 : Int))))), (.sc (.i .i64 (IntKind.wrap .i64 (n140 - (1 : Int)))))]))))
    (.fail)
def gpeq_b45 (z : Nat) (dec : Dec) (zs : List Sc) (S : SIds)  : List AV → Tree := fun l46 =>
  .asL (l46.getD 0 .un) fun o47 =>
  .asI .i64 (l46.getD 1 .un) fun n48 =>
  .asX (l46.getD 2 .un) fun v49 =>
  .asI .i64 (l46.getD 3 .un) fun n50 =>
  .asI .i64 (l46.getD 4 .un) fun n51 =>
  cond (decide (n50 ≤ n51))
    (.ixS z o47 n48 fun a52 a53 a54 =>
    .ld a52 (a53 + (a54 * z)) z fun l55 =>
    dec l55 fun r55 =>
    .ixS z o47 n50 fun a68 a69 a70 =>
    .ld a68 (a69 + (a70 * z)) z fun l71 =>
    dec l71 fun r71 =>
    .callv (.sc v49) [(.ag r55), (.ag r71)] fun v84 =>
    .asI .i64 v84 fun n85 =>
    cond (!(decide (n85 < (0 : Int))))
      (.ret 0 [(.sc (.sl o47)), (.sc (.i .i64 n48)), (.sc v49), (.sc (.i .i64 (IntKind.wrap .i64 (n50 + (1 : Int))))), (.sc (.i .i64 n51))])
      (.ret 6 [(.sc (.sl o47)), (.sc (.i .i64 n48)), (.sc v49), (.sc (.i .i64 n50)), (.sc (.i .i64 n51))]))
    (.ret 6 [(.sc (.sl o47)), (.sc (.i .i64 n48)), (.sc v49), (.sc (.i .i64 n50)), (.sc (.i .i64 n51))])
def gpeq_k45 (z : Nat) (dec : Dec) (zs : List Sc) (S : SIds)  : Nat → List AV → Tree := fun a86 l87 =>
  .tg a86 6
    (.asL (l87.getD 0 .un) fun o88 =>
    .asI .i64 (l87.getD 1 .un) fun n89 =>
    .asX (l87.getD 2 .un) fun v90 =>
    .asI .i64 (l87.getD 3 .un) fun n91 =>
    .asI .i64 (l87.getD 4 .un) fun n92 =>
    .loop (gpeq_b93 z dec zs S) [(.sc (.sl o88)), (.sc (.i .i64 n89)), (.sc v90), (.sc (.i .i64 n91)), (.sc (.i .i64 n92))] (gpeq_k93 z dec zs S))
    (.fail)
def gpeq_b38 (z : Nat) (dec : Dec) (zs : List Sc) (S : SIds)  : List AV → Tree := fun l39 =>
  .asL (l39.getD 0 .un) fun o40 =>
  .asI .i64 (l39.getD 1 .un) fun n41 =>
  .asX (l39.getD 2 .un) fun v42 =>
  .asI .i64 (l39.getD 3 .un) fun n43 =>
  .asI .i64 (l39.getD 4 .un) fun n44 =>
  .loop (gpeq_b45 z dec zs S) [(.sc (.sl o40)), (.sc (.i .i64 n41)), (.sc v42), (.sc (.i .i64 n43)), (.sc (.i .i64 n44))] (gpeq_k45 z dec zs S)
def gpeq_k38 (z : Nat) (dec : Dec) (zs : List Sc) (S : SIds)  : Nat → List AV → Tree := fun a179 l180 =>
  .tg a179 2
    (.asI .i64 (l180.getD 0 .un) fun n181 =>
    .ret 0 [(.sc (.i .i64 n181))])
    (.fail)
def gpeq (z : Nat) (dec : Dec) (zs : List Sc) (S : SIds) (s0_ : Option SlD) (n1_ : Int) (n2_ : Int) (n3_ : Int) (g4_ : FuncId) (f4_ c4_ : List (Nat × Nat)) : Tree :=
  .ixS z s0_ n3_ fun a0 a1 a2 =>
  .ld a0 (a1 + (a2 * z)) z fun l3 =>
  dec l3 fun r3 =>
  .ixS z s0_ n1_ fun a16 a17 a18 =>
  .ld a16 (a17 + (a18 * z)) z fun l19 =>
  dec l19 fun r19 =>
  .ixS z s0_ n1_ fun a32 a33 a34 =>
  .st a32 (a33 + (a34 * z)) r3 (
  .ixS z s0_ n3_ fun a35 a36 a37 =>
  .st a35 (a36 + (a37 * z)) r19 (
  .loop (gpeq_b38 z dec zs S) [(.sc (.sl s0_)), (.sc (.i .i64 n1_)), (.sc (.fn g4_ f4_ c4_)), (.sc (.i .i64 (IntKind.wrap .i64 (n1_ + (1 : Int))))), (.sc (.i .i64 (IntKind.wrap .i64 (n2_ - (1 : Int)))))] (gpeq_k38 z dec zs S)))
def gpart_b265 (z : Nat) (dec : Dec) (zs : List Sc) (S : SIds)  : List AV → Tree := fun l266 =>
  .asL (l266.getD 0 .un) fun o267 =>
  .asI .i64 (l266.getD 1 .un) fun n268 =>
  .asX (l266.getD 2 .un) fun v269 =>
  .asI .i64 (l266.getD 3 .un) fun n270 =>
  .asI .i64 (l266.getD 4 .un) fun n271 =>
  cond (decide (n270 ≤ n271))
    (.ixS z o267 n271 fun a272 a273 a274 =>
    .ld a272 (a273 + (a274 * z)) z fun l275 =>
    dec l275 fun r275 =>
    .ixS z o267 n268 fun a288 a289 a290 =>
    .ld a288 (a289 + (a290 * z)) z fun l291 =>
    dec l291 fun r291 =>
    .callv (.sc v269) [(.ag r275), (.ag r291)] fun v304 =>
    .asI .i64 v304 fun n305 =>
    cond (!(decide (n305 < (0 : Int))))
      (.ret 0 [(.sc (.sl o267)), (.sc (.i .i64 n268)), (.sc v269), (.sc (.i .i64 n270)), (.sc (.i .i64 (IntKind.wrap .i64 (n271 - (1 : Int)))))])
      (.ret 18 [(.sc (.sl o267)), (.sc (.i .i64 n268)), (.sc v269), (.sc (.i .i64 n270)), (.sc (.i .i64 n271))]))
    (.ret 18 [(.sc (.sl o267)), (.sc (.i .i64 n268)), (.sc v269), (.sc (.i .i64 n270)), (.sc (.i .i64 n271))])
def gpart_k265 (z : Nat) (dec : Dec) (zs : List Sc) (S : SIds)  : Nat → List AV → Tree := fun a306 l307 =>
  .tg a306 18
    (.asL (l307.getD 0 .un) fun o308 =>
    .asI .i64 (l307.getD 1 .un) fun n309 =>
    .asX (l307.getD 2 .un) fun v310 =>
    .asI .i64 (l307.getD 3 .un) fun n311 =>
    .asI .i64 (l307.getD 4 .un) fun n312 =>
    cond (decide (n311 > n312))
      (.ret 10 [(.sc (.sl o308)), (.sc (.i .i64 n309)), (.sc (.i .i64 n312))])
      (.ixS z o308 n312 fun a313 a314 a315 =>
      .ld a313 (a314 + (a315 * z)) z fun l316 =>
      dec l316 fun r316 =>
      .ixS z o308 n311 fun a329 a330 a331 =>
      .ld a329 (a330 + (a331 * z)) z fun l332 =>
      dec l332 fun r332 =>
      .ixS z o308 n311 fun a345 a346 a347 =>
      .st a345 (a346 + (a347 * z)) r316 (
      .ixS z o308 n312 fun a348 a349 a350 =>
      .st a348 (a349 + (a350 * z)) r332 (
      .ret 0 [(.sc (.sl o308)), (.sc (.i .i64 n309)), (.sc v310), (.sc (.i .i64 (IntKind.wrap .i64 (n311 + (1 : Int))))), (.sc (.i .i64 (IntKind.wrap .i64 (n312 - (1 : Int)))))]))))
    (.fail)
def gpart_b217 (z : Nat) (dec : Dec) (zs : List Sc) (S : SIds)  : List AV → Tree := fun l218 =>
  .asL (l218.getD 0 .un) fun o219 =>
  .asI .i64 (l218.getD 1 .un) fun n220 =>
  .asX (l218.getD 2 .un) fun v221 =>
  .asI .i64 (l218.getD 3 .un) fun n222 =>
  .asI .i64 (l218.getD 4 .un) fun n223 =>
  cond (decide (n222 ≤ n223))
    (.ixS z o219 n222 fun a224 a225 a226 =>
    .ld a224 (a225 + (a226 * z)) z fun l227 =>
    dec l227 fun r227 =>
    .ixS z o219 n220 fun a240 a241 a242 =>
    .ld a240 (a241 + (a242 * z)) z fun l243 =>
    dec l243 fun r243 =>
    .callv (.sc v221) [(.ag r227), (.ag r243)] fun v256 =>
    .asI .i64 v256 fun n257 =>
    cond (decide (n257 < (0 : Int)))
      (.ret 0 [(.sc (.sl o219)), (.sc (.i .i64 n220)), (.sc v221), (.sc (.i .i64 (IntKind.wrap .i64 (n222 + (1 : Int))))), (.sc (.i .i64 n223))])
      (.ret 14 [(.sc (.sl o219)), (.sc (.i .i64 n220)), (.sc v221), (.sc (.i .i64 n222)), (.sc (.i .i64 n223))]))
    (.ret 14 [(.sc (.sl o219)), (.sc (.i .i64 n220)), (.sc v221), (.sc (.i .i64 n222)), (.sc (.i .i64 n223))])
def gpart_k217 (z : Nat) (dec : Dec) (zs : List Sc) (S : SIds)  : Nat → List AV → Tree := fun a258 l259 =>
  .tg a258 14
    (.asL (l259.getD 0 .un) fun o260 =>
    .asI .i64 (l259.getD 1 .un) fun n261 =>
    .asX (l259.getD 2 .un) fun v262 =>
    .asI .i64 (l259.getD 3 .un) fun n263 =>
    .asI .i64 (l259.getD 4 .un) fun n264 =>
    .loop (gpart_b265 z dec zs S) [(.sc (.sl o260)), (.sc (.i .i64 n261)), (.sc v262), (.sc (.i .i64 n263)), (.sc (.i .i64 n264))] (gpart_k265 z dec zs S))
    (.fail)
def gpart_b210 (z : Nat) (dec : Dec) (zs : List Sc) (S : SIds)  : List AV → Tree := fun l211 =>
  .asL (l211.getD 0 .un) fun o212 =>
  .asI .i64 (l211.getD 1 .un) fun n213 =>
  .asX (l211.getD 2 .un) fun v214 =>
  .asI .i64 (l211.getD 3 .un) fun n215 =>
  .asI .i64 (l211.getD 4 .un) fun n216 =>
  .loop (gpart_b217 z dec zs S) [(.sc (.sl o212)), (.sc (.i .i64 n213)), (.sc v214), (.sc (.i .i64 n215)), (.sc (.i .i64 n216))] (gpart_k217 z dec zs S)
def gpart_k210 (z : Nat) (dec : Dec) (zs : List Sc) (S : SIds)  : Nat → List AV → Tree := fun a351 l352 =>
  .tg a351 10
    (.asL (l352.getD 0 .un) fun o353 =>
    .asI .i64 (l352.getD 1 .un) fun n354 =>
    .asI .i64 (l352.getD 2 .un) fun n355 =>
    .ixS z o353 n354 fun a356 a357 a358 =>
    .ld a356 (a357 + (a358 * z)) z fun l359 =>
    dec l359 fun r359 =>
    .ixS z o353 n355 fun a372 a373 a374 =>
    .ld a372 (a373 + (a374 * z)) z fun l375 =>
    dec l375 fun r375 =>
    .ixS z o353 n355 fun a388 a389 a390 =>
    .st a388 (a389 + (a390 * z)) r359 (
    .ixS z o353 n354 fun a391 a392 a393 =>
    .st a391 (a392 + (a393 * z)) r375 (
    .ret 0 [(.tu [(.sc (.i .i64 n355)), (.sc (.b .false))])])))
    (.fail)
def gpart_b86 (z : Nat) (dec : Dec) (zs : List Sc) (S : SIds)  : List AV → Tree := fun l87 =>
  .asL (l87.getD 0 .un) fun o88 =>
  .asI .i64 (l87.getD 1 .un) fun n89 =>
  .asX (l87.getD 2 .un) fun v90 =>
  .asI .i64 (l87.getD 3 .un) fun n91 =>
  .asI .i64 (l87.getD 4 .un) fun n92 =>
  cond (decide (n91 ≤ n92))
    (.ixS z o88 n92 fun a93 a94 a95 =>
    .ld a93 (a94 + (a95 * z)) z fun l96 =>
    dec l96 fun r96 =>
    .ixS z o88 n89 fun a109 a110 a111 =>
    .ld a109 (a110 + (a111 * z)) z fun l112 =>
    dec l112 fun r112 =>
    .callv (.sc v90) [(.ag r96), (.ag r112)] fun v125 =>
    .asI .i64 v125 fun n126 =>
    cond (!(decide (n126 < (0 : Int))))
      (.ret 0 [(.sc (.sl o88)), (.sc (.i .i64 n89)), (.sc v90), (.sc (.i .i64 n91)), (.sc (.i .i64 (IntKind.wrap .i64 (n92 - (1 : Int)))))])
      (.ret 6 [(.sc (.sl o88)), (.sc (.i .i64 n89)), (.sc v90), (.sc (.i .i64 n91)), (.sc (.i .i64 n92))]))
    (.ret 6 [(.sc (.sl o88)), (.sc (.i .i64 n89)), (.sc v90), (.sc (.i .i64 n91)), (.sc (.i .i64 n92))])
def gpart_k86 (z : Nat) (dec : Dec) (zs : List Sc) (S : SIds)  : Nat → List AV → Tree := fun a127 l128 =>
  .tg a127 6
    (.asL (l128.getD 0 .un) fun o129 =>
    .asI .i64 (l128.getD 1 .un) fun n130 =>
    .asX (l128.getD 2 .un) fun v131 =>
    .asI .i64 (l128.getD 3 .un) fun n132 =>
    .asI .i64 (l128.getD 4 .un) fun n133 =>
    cond (decide (n132 > n133))
      (.ixS z o129 n130 fun a134 a135 a136 =>
      .ld a134 (a135 + (a136 * z)) z fun l137 =>
      dec l137 fun r137 =>
      .ixS z o129 n133 fun a150 a151 a152 =>
      .ld a150 (a151 + (a152 * z)) z fun l153 =>
      dec l153 fun r153 =>
      .ixS z o129 n133 fun a166 a167 a168 =>
      .st a166 (a167 + (a168 * z)) r137 (
      .ixS z o129 n130 fun a169 a170 a171 =>
      .st a169 (a170 + (a171 * z)) r153 (
      .ret 0 [(.tu [(.sc (.i .i64 n133)), (.sc (.b .true))])])))
      (.ixS z o129 n133 fun a172 a173 a174 =>
      .ld a172 (a173 + (a174 * z)) z fun l175 =>
      dec l175 fun r175 =>
      .ixS z o129 n132 fun a188 a189 a190 =>
      .ld a188 (a189 + (a190 * z)) z fun l191 =>
      dec l191 fun r191 =>
      .ixS z o129 n132 fun a204 a205 a206 =>
      .st a204 (a205 + (a206 * z)) r175 (
      .ixS z o129 n133 fun a207 a208 a209 =>
      .st a207 (a208 + (a209 * z)) r191 (
      .loop (gpart_b210 z dec zs S) [(.sc (.sl o129)), (.sc (.i .i64 n130)), (.sc v131), (.sc (.i .i64 (IntKind.wrap .i64 (n132 + (1 : Int))))), (.sc (.i .i64 (IntKind.wrap .i64 (n133 - (1 : Int)))))] (gpart_k210 z dec zs S)))))
    (.fail)
def gpart_b38 (z : Nat) (dec : Dec) (zs : List Sc) (S : SIds)  : List AV → Tree := fun l39 =>
  .asL (l39.getD 0 .un) fun o40 =>
  .asI .i64 (l39.getD 1 .un) fun n41 =>
  .asX (l39.getD 2 .un) fun v42 =>
  .asI .i64 (l39.getD 3 .un) fun n43 =>
  .asI .i64 (l39.getD 4 .un) fun n44 =>
  cond (decide (n43 ≤ n44))
    (.ixS z o40 n43 fun a45 a46 a47 =>
    .ld a45 (a46 + (a47 * z)) z fun l48 =>
    dec l48 fun r48 =>
    .ixS z o40 n41 fun a61 a62 a63 =>
    .ld a61 (a62 + (a63 * z)) z fun l64 =>
    dec l64 fun r64 =>
    .callv (.sc v42) [(.ag r48), (.ag r64)] fun v77 =>
    .asI .i64 v77 fun n78 =>
    cond (decide (n78 < (0 : Int)))
      (.ret 0 [(.sc (.sl o40)), (.sc (.i .i64 n41)), (.sc v42), (.sc (.i .i64 (IntKind.wrap .i64 (n43 + (1 : Int))))), (.sc (.i .i64 n44))])
      (.ret 2 [(.sc (.sl o40)), (.sc (.i .i64 n41)), (.sc v42), (.sc (.i .i64 n43)), (.sc (.i .i64 n44))]))
    (.ret 2 [(.sc (.sl o40)), (.sc (.i .i64 n41)), (.sc v42), (.sc (.i .i64 n43)), (.sc (.i .i64 n44))])
def gpart_k38 (z : Nat) (dec : Dec) (zs : List Sc) (S : SIds)  : Nat → List AV → Tree := fun a79 l80 =>
  .tg a79 2
    (.asL (l80.getD 0 .un) fun o81 =>
    .asI .i64 (l80.getD 1 .un) fun n82 =>
    .asX (l80.getD 2 .un) fun v83 =>
    .asI .i64 (l80.getD 3 .un) fun n84 =>
    .asI .i64 (l80.getD 4 .un) fun n85 =>
    .loop (gpart_b86 z dec zs S) [(.sc (.sl o81)), (.sc (.i .i64 n82)), (.sc v83), (.sc (.i .i64 n84)), (.sc (.i .i64 n85))] (gpart_k86 z dec zs S))
    (.fail)
def gpart (z : Nat) (dec : Dec) (zs : List Sc) (S : SIds) (s0_ : Option SlD) (n1_ : Int) (n2_ : Int) (n3_ : Int) (g4_ : FuncId) (f4_ c4_ : List (Nat × Nat)) : Tree :=
  .ixS z s0_ n3_ fun a0 a1 a2 =>
  .ld a0 (a1 + (a2 * z)) z fun l3 =>
  dec l3 fun r3 =>
  .ixS z s0_ n1_ fun a16 a17 a18 =>
  .ld a16 (a17 + (a18 * z)) z fun l19 =>
  dec l19 fun r19 =>
  .ixS z s0_ n1_ fun a32 a33 a34 =>
  .st a32 (a33 + (a34 * z)) r3 (
  .ixS z s0_ n3_ fun a35 a36 a37 =>
  .st a35 (a36 + (a37 * z)) r19 (
  .loop (gpart_b38 z dec zs S) [(.sc (.sl s0_)), (.sc (.i .i64 n1_)), (.sc (.fn g4_ f4_ c4_)), (.sc (.i .i64 (IntKind.wrap .i64 (n1_ + (1 : Int))))), (.sc (.i .i64 (IntKind.wrap .i64 (n2_ - (1 : Int)))))] (gpart_k38 z dec zs S)))
def gpdq_k43 (z : Nat) (dec : Dec) (zs : List Sc) (S : SIds)  : Nat → List AV → Tree := fun a46 l47 =>
  .tg a46 1
    (.ret 1 [])
    (.tg a46 0
      (.asL (l47.getD 0 .un) fun o48 =>
      .asI .i64 (l47.getD 1 .un) fun n49 =>
      .asI .i64 (l47.getD 2 .un) fun n50 =>
      .asI .i64 (l47.getD 3 .un) fun n51 =>
      .asX (l47.getD 4 .un) fun v52 =>
      .asB (l47.getD 5 .un) fun b53 =>
      .asB (l47.getD 6 .un) fun b54 =>
      .asI .i64 (l47.getD 7 .un) fun n55 =>
      .asI .i64 (l47.getD 8 .un) fun n56 =>
      cond (decide (n49 > (0 : Int)))
        (.ixS z o48 (IntKind.wrap .i64 (n49 - (1 : Int))) fun a57 a58 a59 =>
        .ld a57 (a58 + (a59 * z)) z fun l60 =>
        dec l60 fun r60 =>
        .ixS z o48 n56 fun a73 a74 a75 =>
        .ld a73 (a74 + (a75 * z)) z fun l76 =>
        dec l76 fun r76 =>
        .callv (.sc v52) [(.ag r60), (.ag r76)] fun v89 =>
        .asI .i64 v89 fun n90 =>
        cond (!(decide (n90 < (0 : Int))))
          (.call S.peq [(.sc (.sl o48)), (.sc (.i .i64 n49)), (.sc (.i .i64 n50)), (.sc (.i .i64 n56)), (.sc v52)] fun v91 =>
          .asI .i64 v91 fun n92 =>
          .ret 0 [(.sc (.sl o48)), (.sc (.i .i64 n92)), (.sc (.i .i64 n50)), (.sc (.i .i64 n51)), (.sc v52), (.sc (.b b53)), (.sc (.b b54))])
          (.call S.part [(.sc (.sl o48)), (.sc (.i .i64 n49)), (.sc (.i .i64 n50)), (.sc (.i .i64 n56)), (.sc v52)] fun v93 =>
          .asT 2 v93 fun l94 =>
          .nthC l94 0 fun v95 =>
          .asI .i64 (v95.av) fun n96 =>
          .nthC l94 1 fun v97 =>
          .asB (v97.av) fun b98 =>
          .br .true
            (cond (decide ((IntKind.wrap .i64 (n96 - n49)) < (IntKind.wrap .i64 (n50 - n96))))
              (.call S.pdq [(.sc (.sl o48)), (.sc (.i .i64 n49)), (.sc (.i .i64 n96)), (.sc (.i .i64 n51)), (.sc v52)] fun v99 =>
              .ret 0 [(.sc (.sl o48)), (.sc (.i .i64 (IntKind.wrap .i64 (n96 + (1 : Int))))), (.sc (.i .i64 n50)), (.sc (.i .i64 n51)), (.sc v52), (.sc (.b (decide ((IntKind.wrap .i64 (n96 - n49)) ≥ (IntKind.wrap .i64 (Int.tdiv n55 (8 : Int))))))), (.sc (.b b98))])
              (.call S.pdq [(.sc (.sl o48)), (.sc (.i .i64 (IntKind.wrap .i64 (n96 + (1 : Int))))), (.sc (.i .i64 n50)), (.sc (.i .i64 n51)), (.sc v52)] fun v100 =>
              .ret 0 [(.sc (.sl o48)), (.sc (.i .i64 n49)), (.sc (.i .i64 n96)), (.sc (.i .i64 n51)), (.sc v52), (.sc (.b (decide ((IntKind.wrap .i64 (n50 - n96)) ≥ (IntKind.wrap .i64 (Int.tdiv n55 (8 : Int))))))), (.sc (.b b98))]))
            (.fail)))
        (.call S.part [(.sc (.sl o48)), (.sc (.i .i64 n49)), (.sc (.i .i64 n50)), (.sc (.i .i64 n56)), (.sc v52)] fun v101 =>
        .asT 2 v101 fun l102 =>
        .nthC l102 0 fun v103 =>
        .asI .i64 (v103.av) fun n104 =>
        .nthC l102 1 fun v105 =>
        .asB (v105.av) fun b106 =>
        .br .true
          (cond (decide ((IntKind.wrap .i64 (n104 - n49)) < (IntKind.wrap .i64 (n50 - n104))))
            (.call S.pdq [(.sc (.sl o48)), (.sc (.i .i64 n49)), (.sc (.i .i64 n104)), (.sc (.i .i64 n51)), (.sc v52)] fun v107 =>
            .ret 0 [(.sc (.sl o48)), (.sc (.i .i64 (IntKind.wrap .i64 (n104 + (1 : Int))))), (.sc (.i .i64 n50)), (.sc (.i .i64 n51)), (.sc v52), (.sc (.b (decide ((IntKind.wrap .i64 (n104 - n49)) ≥ (IntKind.wrap .i64 (Int.tdiv n55 (8 : Int))))))), (.sc (.b b106))])
            (.call S.pdq [(.sc (.sl o48)), (.sc (.i .i64 (IntKind.wrap .i64 (n104 + (1 : Int))))), (.sc (.i .i64 n50)), (.sc (.i .i64 n51)), (.sc v52)] fun v108 =>
            .ret 0 [(.sc (.sl o48)), (.sc (.i .i64 n49)), (.sc (.i .i64 n104)), (.sc (.i .i64 n51)), (.sc v52), (.sc (.b (decide ((IntKind.wrap .i64 (n50 - n104)) ≥ (IntKind.wrap .i64 (Int.tdiv n55 (8 : Int))))))), (.sc (.b b106))]))
          (.fail)))
      (.fail))
def gpdq_k109 (z : Nat) (dec : Dec) (zs : List Sc) (S : SIds)  : Nat → List AV → Tree := fun a110 l111 =>
  .tg a110 1
    (.ret 1 [])
    (.tg a110 0
      (.asL (l111.getD 0 .un) fun o112 =>
      .asI .i64 (l111.getD 1 .un) fun n113 =>
      .asI .i64 (l111.getD 2 .un) fun n114 =>
      .asI .i64 (l111.getD 3 .un) fun n115 =>
      .asX (l111.getD 4 .un) fun v116 =>
      .asB (l111.getD 5 .un) fun b117 =>
      .asB (l111.getD 6 .un) fun b118 =>
      .asI .i64 (l111.getD 7 .un) fun n119 =>
      .asI .i64 (l111.getD 8 .un) fun n120 =>
      cond (decide (n113 > (0 : Int)))
        (.ixS z o112 (IntKind.wrap .i64 (n113 - (1 : Int))) fun a121 a122 a123 =>
        .ld a121 (a122 + (a123 * z)) z fun l124 =>
        dec l124 fun r124 =>
        .ixS z o112 n120 fun a137 a138 a139 =>
        .ld a137 (a138 + (a139 * z)) z fun l140 =>
        dec l140 fun r140 =>
        .callv (.sc v116) [(.ag r124), (.ag r140)] fun v153 =>
        .asI .i64 v153 fun n154 =>
        cond (!(decide (n154 < (0 : Int))))
          (.call S.peq [(.sc (.sl o112)), (.sc (.i .i64 n113)), (.sc (.i .i64 n114)), (.sc (.i .i64 n120)), (.sc v116)] fun v155 =>
          .asI .i64 v155 fun n156 =>
          .ret 0 [(.sc (.sl o112)), (.sc (.i .i64 n156)), (.sc (.i .i64 n114)), (.sc (.i .i64 n115)), (.sc v116), (.sc (.b b117)), (.sc (.b b118))])
          (.call S.part [(.sc (.sl o112)), (.sc (.i .i64 n113)), (.sc (.i .i64 n114)), (.sc (.i .i64 n120)), (.sc v116)] fun v157 =>
          .asT 2 v157 fun l158 =>
          .nthC l158 0 fun v159 =>
          .asI .i64 (v159.av) fun n160 =>
          .nthC l158 1 fun v161 =>
          .asB (v161.av) fun b162 =>
          .br .true
            (cond (decide ((IntKind.wrap .i64 (n160 - n113)) < (IntKind.wrap .i64 (n114 - n160))))
              (.call S.pdq [(.sc (.sl o112)), (.sc (.i .i64 n113)), (.sc (.i .i64 n160)), (.sc (.i .i64 n115)), (.sc v116)] fun v163 =>
              .ret 0 [(.sc (.sl o112)), (.sc (.i .i64 (IntKind.wrap .i64 (n160 + (1 : Int))))), (.sc (.i .i64 n114)), (.sc (.i .i64 n115)), (.sc v116), (.sc (.b (decide ((IntKind.wrap .i64 (n160 - n113)) ≥ (IntKind.wrap .i64 (Int.tdiv n119 (8 : Int))))))), (.sc (.b b162))])
              (.call S.pdq [(.sc (.sl o112)), (.sc (.i .i64 (IntKind.wrap .i64 (n160 + (1 : Int))))), (.sc (.i .i64 n114)), (.sc (.i .i64 n115)), (.sc v116)] fun v164 =>
              .ret 0 [(.sc (.sl o112)), (.sc (.i .i64 n113)), (.sc (.i .i64 n160)), (.sc (.i .i64 n115)), (.sc v116), (.sc (.b (decide ((IntKind.wrap .i64 (n114 - n160)) ≥ (IntKind.wrap .i64 (Int.tdiv n119 (8 : Int))))))), (.sc (.b b162))]))
            (.fail)))
        (.call S.part [(.sc (.sl o112)), (.sc (.i .i64 n113)), (.sc (.i .i64 n114)), (.sc (.i .i64 n120)), (.sc v116)] fun v165 =>
        .asT 2 v165 fun l166 =>
        .nthC l166 0 fun v167 =>
        .asI .i64 (v167.av) fun n168 =>
        .nthC l166 1 fun v169 =>
        .asB (v169.av) fun b170 =>
        .br .true
          (cond (decide ((IntKind.wrap .i64 (n168 - n113)) < (IntKind.wrap .i64 (n114 - n168))))
            (.call S.pdq [(.sc (.sl o112)), (.sc (.i .i64 n113)), (.sc (.i .i64 n168)), (.sc (.i .i64 n115)), (.sc v116)] fun v171 =>
            .ret 0 [(.sc (.sl o112)), (.sc (.i .i64 (IntKind.wrap .i64 (n168 + (1 : Int))))), (.sc (.i .i64 n114)), (.sc (.i .i64 n115)), (.sc v116), (.sc (.b (decide ((IntKind.wrap .i64 (n168 - n113)) ≥ (IntKind.wrap .i64 (Int.tdiv n119 (8 : Int))))))), (.sc (.b b170))])
            (.call S.pdq [(.sc (.sl o112)), (.sc (.i .i64 (IntKind.wrap .i64 (n168 + (1 : Int))))), (.sc (.i .i64 n114)), (.sc (.i .i64 n115)), (.sc v116)] fun v172 =>
            .ret 0 [(.sc (.sl o112)), (.sc (.i .i64 n113)), (.sc (.i .i64 n168)), (.sc (.i .i64 n115)), (.sc v116), (.sc (.b (decide ((IntKind.wrap .i64 (n114 - n168)) ≥ (IntKind.wrap .i64 (Int.tdiv n119 (8 : Int))))))), (.sc (.b b170))]))
          (.fail)))
      (.fail))
def gpdq_k173 (z : Nat) (dec : Dec) (zs : List Sc) (S : SIds)  : Nat → List AV → Tree := fun a174 l175 =>
  .tg a174 1
    (.ret 1 [])
    (.tg a174 0
      (.asL (l175.getD 0 .un) fun o176 =>
      .asI .i64 (l175.getD 1 .un) fun n177 =>
      .asI .i64 (l175.getD 2 .un) fun n178 =>
      .asI .i64 (l175.getD 3 .un) fun n179 =>
      .asX (l175.getD 4 .un) fun v180 =>
      .asB (l175.getD 5 .un) fun b181 =>
      .asB (l175.getD 6 .un) fun b182 =>
      .asI .i64 (l175.getD 7 .un) fun n183 =>
      .asI .i64 (l175.getD 8 .un) fun n184 =>
      cond (decide (n177 > (0 : Int)))
        (.ixS z o176 (IntKind.wrap .i64 (n177 - (1 : Int))) fun a185 a186 a187 =>
        .ld a185 (a186 + (a187 * z)) z fun l188 =>
        dec l188 fun r188 =>
        .ixS z o176 n184 fun a201 a202 a203 =>
        .ld a201 (a202 + (a203 * z)) z fun l204 =>
        dec l204 fun r204 =>
        .callv (.sc v180) [(.ag r188), (.ag r204)] fun v217 =>
        .asI .i64 v217 fun n218 =>
        cond (!(decide (n218 < (0 : Int))))
          (.call S.peq [(.sc (.sl o176)), (.sc (.i .i64 n177)), (.sc (.i .i64 n178)), (.sc (.i .i64 n184)), (.sc v180)] fun v219 =>
          .asI .i64 v219 fun n220 =>
          .ret 0 [(.sc (.sl o176)), (.sc (.i .i64 n220)), (.sc (.i .i64 n178)), (.sc (.i .i64 n179)), (.sc v180), (.sc (.b b181)), (.sc (.b b182))])
          (.call S.part [(.sc (.sl o176)), (.sc (.i .i64 n177)), (.sc (.i .i64 n178)), (.sc (.i .i64 n184)), (.sc v180)] fun v221 =>
          .asT 2 v221 fun l222 =>
          .nthC l222 0 fun v223 =>
          .asI .i64 (v223.av) fun n224 =>
          .nthC l222 1 fun v225 =>
          .asB (v225.av) fun b226 =>
          .br .true
            (cond (decide ((IntKind.wrap .i64 (n224 - n177)) < (IntKind.wrap .i64 (n178 - n224))))
              (.call S.pdq [(.sc (.sl o176)), (.sc (.i .i64 n177)), (.sc (.i .i64 n224)), (.sc (.i .i64 n179)), (.sc v180)] fun v227 =>
              .ret 0 [(.sc (.sl o176)), (.sc (.i .i64 (IntKind.wrap .i64 (n224 + (1 : Int))))), (.sc (.i .i64 n178)), (.sc (.i .i64 n179)), (.sc v180), (.sc (.b (decide ((IntKind.wrap .i64 (n224 - n177)) ≥ (IntKind.wrap .i64 (Int.tdiv n183 (8 : Int))))))), (.sc (.b b226))])
              (.call S.pdq [(.sc (.sl o176)), (.sc (.i .i64 (IntKind.wrap .i64 (n224 + (1 : Int))))), (.sc (.i .i64 n178)), (.sc (.i .i64 n179)), (.sc v180)] fun v228 =>
              .ret 0 [(.sc (.sl o176)), (.sc (.i .i64 n177)), (.sc (.i .i64 n224)), (.sc (.i .i64 n179)), (.sc v180), (.sc (.b (decide ((IntKind.wrap .i64 (n178 - n224)) ≥ (IntKind.wrap .i64 (Int.tdiv n183 (8 : Int))))))), (.sc (.b b226))]))
            (.fail)))
        (.call S.part [(.sc (.sl o176)), (.sc (.i .i64 n177)), (.sc (.i .i64 n178)), (.sc (.i .i64 n184)), (.sc v180)] fun v229 =>
        .asT 2 v229 fun l230 =>
        .nthC l230 0 fun v231 =>
        .asI .i64 (v231.av) fun n232 =>
        .nthC l230 1 fun v233 =>
        .asB (v233.av) fun b234 =>
        .br .true
          (cond (decide ((IntKind.wrap .i64 (n232 - n177)) < (IntKind.wrap .i64 (n178 - n232))))
            (.call S.pdq [(.sc (.sl o176)), (.sc (.i .i64 n177)), (.sc (.i .i64 n232)), (.sc (.i .i64 n179)), (.sc v180)] fun v235 =>
            .ret 0 [(.sc (.sl o176)), (.sc (.i .i64 (IntKind.wrap .i64 (n232 + (1 : Int))))), (.sc (.i .i64 n178)), (.sc (.i .i64 n179)), (.sc v180), (.sc (.b (decide ((IntKind.wrap .i64 (n232 - n177)) ≥ (IntKind.wrap .i64 (Int.tdiv n183 (8 : Int))))))), (.sc (.b b234))])
            (.call S.pdq [(.sc (.sl o176)), (.sc (.i .i64 (IntKind.wrap .i64 (n232 + (1 : Int))))), (.sc (.i .i64 n178)), (.sc (.i .i64 n179)), (.sc v180)] fun v236 =>
            .ret 0 [(.sc (.sl o176)), (.sc (.i .i64 n177)), (.sc (.i .i64 n232)), (.sc (.i .i64 n179)), (.sc v180), (.sc (.b (decide ((IntKind.wrap .i64 (n178 - n232)) ≥ (IntKind.wrap .i64 (Int.tdiv n183 (8 : Int))))))), (.sc (.b b234))]))
          (.fail)))
      (.fail))
def gpdq_k29 (z : Nat) (dec : Dec) (zs : List Sc) (S : SIds)  : Nat → List AV → Tree := fun a31 l32 =>
  .tg a31 0
    (.asL (l32.getD 0 .un) fun o33 =>
    .asI .i64 (l32.getD 1 .un) fun n34 =>
    .asI .i64 (l32.getD 2 .un) fun n35 =>
    .asI .i64 (l32.getD 3 .un) fun n36 =>
    .asX (l32.getD 4 .un) fun v37 =>
    .asB (l32.getD 5 .un) fun b38 =>
    .asB (l32.getD 6 .un) fun b39 =>
    .asI .i64 (l32.getD 7 .un) fun n40 =>
    .asI .i64 (l32.getD 8 .un) fun n41 =>
    .asI .i64 (l32.getD 9 .un) fun n42 =>
    cond b38
      (cond b39
        (.join (
          cond (n42 == (1 : Int))
            (.call S.pins [(.sc (.sl o33)), (.sc (.i .i64 n34)), (.sc (.i .i64 n35)), (.sc v37)] fun v44 =>
            .asB v44 fun b45 =>
            cond b45
              (.ret 1 [])
              (.ret 0 [(.sc (.sl o33)), (.sc (.i .i64 n34)), (.sc (.i .i64 n35)), (.sc (.i .i64 n36)), (.sc v37), (.sc (.b b38)), (.sc (.b b39)), (.sc (.i .i64 n40)), (.sc (.i .i64 n41))]))
            (.ret 0 [(.sc (.sl o33)), (.sc (.i .i64 n34)), (.sc (.i .i64 n35)), (.sc (.i .i64 n36)), (.sc v37), (.sc (.b b38)), (.sc (.b b39)), (.sc (.i .i64 n40)), (.sc (.i .i64 n41))])) (gpdq_k43 z dec zs S))
        (.join (
          .ret 0 [(.sc (.sl o33)), (.sc (.i .i64 n34)), (.sc (.i .i64 n35)), (.sc (.i .i64 n36)), (.sc v37), (.sc (.b b38)), (.sc (.b b39)), (.sc (.i .i64 n40)), (.sc (.i .i64 n41))]) (gpdq_k109 z dec zs S)))
      (.join (
        .ret 0 [(.sc (.sl o33)), (.sc (.i .i64 n34)), (.sc (.i .i64 n35)), (.sc (.i .i64 n36)), (.sc v37), (.sc (.b b38)), (.sc (.b b39)), (.sc (.i .i64 n40)), (.sc (.i .i64 n41))]) (gpdq_k173 z dec zs S)))
    (.fail)
def gpdq_k11 (z : Nat) (dec : Dec) (zs : List Sc) (S : SIds)  : Nat → List AV → Tree := fun a13 l14 =>
  .tg a13 0
    (.asL (l14.getD 0 .un) fun o15 =>
    .asI .i64 (l14.getD 1 .un) fun n16 =>
    .asI .i64 (l14.getD 2 .un) fun n17 =>
    .asI .i64 (l14.getD 3 .un) fun n18 =>
    .asX (l14.getD 4 .un) fun v19 =>
    .asB (l14.getD 5 .un) fun b20 =>
    .asB (l14.getD 6 .un) fun b21 =>
    .asI .i64 (l14.getD 7 .un) fun n22 =>
    .call S.piv [(.sc (.sl o15)), (.sc (.i .i64 n16)), (.sc (.i .i64 n17)), (.sc v19)] fun v23 =>
    .asT 2 v23 fun l24 =>
    .nthC l24 0 fun v25 =>
    .asI .i64 (v25.av) fun n26 =>
    .nthC l24 1 fun v27 =>
    .asI .i64 (v27.av) fun n28 =>
    .join (
      cond (n28 == (2 : Int))
        (.call S.rev [(.sc (.sl o15)), (.sc (.i .i64 n16)), (.sc (.i .i64 n17)), (.sc v19)] fun v30 =>
        .ret 0 [(.sc (.sl o15)), (.sc (.i .i64 n16)), (.sc (.i .i64 n17)), (.sc (.i .i64 n18)), (.sc v19), (.sc (.b b20)), (.sc (.b b21)), (.sc (.i .i64 n22)), (.sc (.i .i64 (IntKind.wrap .i64 ((IntKind.wrap .i64 (n17 - (1 : Int))) - (IntKind.wrap .i64 (n26 - n16)))))), (.sc (.i .i64 (1 : Int)))])
        (.ret 0 [(.sc (.sl o15)), (.sc (.i .i64 n16)), (.sc (.i .i64 n17)), (.sc (.i .i64 n18)), (.sc v19), (.sc (.b b20)), (.sc (.b b21)), (.sc (.i .i64 n22)), (.sc (.i .i64 n26)), (.sc (.i .i64 n28))])) (gpdq_k29 z dec zs S))
    (.fail)
def gpdq_b0 (z : Nat) (dec : Dec) (zs : List Sc) (S : SIds)  : List AV → Tree := fun l1 =>
  .asL (l1.getD 0 .un) fun o2 =>
  .asI .i64 (l1.getD 1 .un) fun n3 =>
  .asI .i64 (l1.getD 2 .un) fun n4 =>
  .asI .i64 (l1.getD 3 .un) fun n5 =>
  .asX (l1.getD 4 .un) fun v6 =>
  .asB (l1.getD 5 .un) fun b7 =>
  .asB (l1.getD 6 .un) fun b8 =>
  cond (decide ((IntKind.wrap .i64 (n4 - n3)) ≤ (12 : Int)))
    (.call S.ins [(.sc (.sl o2)), (.sc (.i .i64 n3)), (.sc (.i .i64 n4)), (.sc v6)] fun v9 =>
    .ret 1 [])
    (cond (n5 == (0 : Int))
      (.call S.heap [(.sc (.sl o2)), (.sc (.i .i64 n3)), (.sc (.i .i64 n4)), (.sc v6)] fun v10 =>
      .ret 1 [])
      (.join (
        cond (!b7)
          (.call S.brk [(.sc (.sl o2)), (.sc (.i .i64 n3)), (.sc (.i .i64 n4)), (.sc v6)] fun v12 =>
          .ret 0 [(.sc (.sl o2)), (.sc (.i .i64 n3)), (.sc (.i .i64 n4)), (.sc (.i .i64 (IntKind.wrap .i64 (n5 - (1 : Int))))), (.sc v6), (.sc (.b b7)), (.sc (.b b8)), (.sc (.i .i64 (IntKind.wrap .i64 (n4 - n3))))])
          (.ret 0 [(.sc (.sl o2)), (.sc (.i .i64 n3)), (.sc (.i .i64 n4)), (.sc (.i .i64 n5)), (.sc v6), (.sc (.b b7)), (.sc (.b b8)), (.sc (.i .i64 (IntKind.wrap .i64 (n4 - n3))))])) (gpdq_k11 z dec zs S)))
def gpdq_k0 (z : Nat) (dec : Dec) (zs : List Sc) (S : SIds)  : Nat → List AV → Tree := fun a237 l238 =>
  .tg a237 1
    (.ret 0 [(.tu [])])
    (.fail)
def gpdq (z : Nat) (dec : Dec) (zs : List Sc) (S : SIds) (s0_ : Option SlD) (n1_ : Int) (n2_ : Int) (n3_ : Int) (g4_ : FuncId) (f4_ c4_ : List (Nat × Nat)) : Tree :=
  .loop (gpdq_b0 z dec zs S) [(.sc (.sl s0_)), (.sc (.i .i64 n1_)), (.sc (.i .i64 n2_)), (.sc (.i .i64 n3_)), (.sc (.fn g4_ f4_ c4_)), (.sc (.b .true)), (.sc (.b .true))] (gpdq_k0 z dec zs S)
def gsortF (z : Nat) (dec : Dec) (zs : List Sc) (S : SIds) (s0_ : Option SlD) (g1_ : FuncId) (f1_ c1_ : List (Nat × Nat)) : Tree :=
  .call S.b.blen [(.sc (.i .u64 (IntKind.wrap .u64 (slLen s0_))))] fun v0 =>
  .asI .i64 v0 fun n1 =>
  .call S.pdq [(.sc (.sl s0_)), (.sc (.i .i64 (0 : Int))), (.sc (.i .i64 (slLen s0_))), (.sc (.i .i64 n1)), (.sc (.fn g1_ f1_ c1_))] fun v2 =>
  .ret 0 [(.tu [])]
/-- a function of the program, and what its tree is -/
def Fn (E : Env) (id : Nat) (p : (List AV → Tree) → Prop) : Prop := ∃ fn, E.P.funcs[id]? = some fn ∧ p (bodyK E.T (E.hs id) fn)
structure BOk (E : Env) (S : BIds) : Prop where
  len64 : Fn E S.len64 fun bk => ∀ (n0_ : Int), bk [.sc (.i .u64 n0_)] = glen64 S n0_
  blen : Fn E S.blen fun bk => ∀ (n0_ : Int), bk [.sc (.i .u64 n0_)] = gblen S n0_
  or_ : Fn E S.or_ fun bk => ∀ (s0_ : Option SlD), bk [.sc (.sl s0_)] = gor_ S s0_
structure DOk (E : Env) (z : Nat) (dec : Dec) (zs : List Sc) (D : DIds) : Prop where
  idxF : Fn E D.idxF fun bk => ∀ (s0_ : Option SlD) (g1_ : FuncId) (f1_ c1_ : List (Nat × Nat)), bk [.sc (.sl s0_), .sc (.fn g1_ f1_ c1_)] = gidxF z dec zs D s0_ g1_ f1_ c1_
  delF : Fn E D.delF fun bk => ∀ (s0_ : Option SlD) (g1_ : FuncId) (f1_ c1_ : List (Nat × Nat)), bk [.sc (.sl s0_), .sc (.fn g1_ f1_ c1_)] = gdelF z dec zs D s0_ g1_ f1_ c1_
structure SOk (E : Env) (z : Nat) (dec : Dec) (zs : List Sc) (S : SIds) : Prop where
  b : BOk E S.b
  ins : Fn E S.ins fun bk => ∀ (s0_ : Option SlD) (n1_ : Int) (n2_ : Int) (g3_ : FuncId) (f3_ c3_ : List (Nat × Nat)), bk [.sc (.sl s0_), .sc (.i .i64 n1_), .sc (.i .i64 n2_), .sc (.fn g3_ f3_ c3_)] = gins z dec zs S s0_ n1_ n2_ g3_ f3_ c3_
  sift : Fn E S.sift fun bk => ∀ (s0_ : Option SlD) (n1_ : Int) (n2_ : Int) (n3_ : Int) (g4_ : FuncId) (f4_ c4_ : List (Nat × Nat)), bk [.sc (.sl s0_), .sc (.i .i64 n1_), .sc (.i .i64 n2_), .sc (.i .i64 n3_), .sc (.fn g4_ f4_ c4_)] = gsift z dec zs S s0_ n1_ n2_ n3_ g4_ f4_ c4_
  heap : Fn E S.heap fun bk => ∀ (s0_ : Option SlD) (n1_ : Int) (n2_ : Int) (g3_ : FuncId) (f3_ c3_ : List (Nat × Nat)), bk [.sc (.sl s0_), .sc (.i .i64 n1_), .sc (.i .i64 n2_), .sc (.fn g3_ f3_ c3_)] = gheap z dec zs S s0_ n1_ n2_ g3_ f3_ c3_
  rev : Fn E S.rev fun bk => ∀ (s0_ : Option SlD) (n1_ : Int) (n2_ : Int) (g3_ : FuncId) (f3_ c3_ : List (Nat × Nat)), bk [.sc (.sl s0_), .sc (.i .i64 n1_), .sc (.i .i64 n2_), .sc (.fn g3_ f3_ c3_)] = grev z dec zs S s0_ n1_ n2_ g3_ f3_ c3_
  ord2 : Fn E S.ord2 fun bk => ∀ (s0_ : Option SlD) (n1_ : Int) (n2_ : Int) (p3_ q3_ : Nat) (g4_ : FuncId) (f4_ c4_ : List (Nat × Nat)), bk [.sc (.sl s0_), .sc (.i .i64 n1_), .sc (.i .i64 n2_), .sc (.p (some (p3_, q3_))), .sc (.fn g4_ f4_ c4_)] = gord2 z dec zs S s0_ n1_ n2_ p3_ q3_ g4_ f4_ c4_
  med : Fn E S.med fun bk => ∀ (s0_ : Option SlD) (n1_ : Int) (n2_ : Int) (n3_ : Int) (p4_ q4_ : Nat) (g5_ : FuncId) (f5_ c5_ : List (Nat × Nat)), bk [.sc (.sl s0_), .sc (.i .i64 n1_), .sc (.i .i64 n2_), .sc (.i .i64 n3_), .sc (.p (some (p4_, q4_))), .sc (.fn g5_ f5_ c5_)] = gmed z dec zs S s0_ n1_ n2_ n3_ p4_ q4_ g5_ f5_ c5_
  medA : Fn E S.medA fun bk => ∀ (s0_ : Option SlD) (n1_ : Int) (p2_ q2_ : Nat) (g3_ : FuncId) (f3_ c3_ : List (Nat × Nat)), bk [.sc (.sl s0_), .sc (.i .i64 n1_), .sc (.p (some (p2_, q2_))), .sc (.fn g3_ f3_ c3_)] = gmedA z dec zs S s0_ n1_ p2_ q2_ g3_ f3_ c3_
  piv : Fn E S.piv fun bk => ∀ (s0_ : Option SlD) (n1_ : Int) (n2_ : Int) (g3_ : FuncId) (f3_ c3_ : List (Nat × Nat)), bk [.sc (.sl s0_), .sc (.i .i64 n1_), .sc (.i .i64 n2_), .sc (.fn g3_ f3_ c3_)] = gpiv z dec zs S s0_ n1_ n2_ g3_ f3_ c3_
  xors : Fn E S.xors fun bk => ∀ (p0_ q0_ : Nat), bk [.sc (.p (some (p0_, q0_)))] = gxors z dec zs S p0_ q0_
  npow : Fn E S.npow fun bk => ∀ (n0_ : Int), bk [.sc (.i .i64 n0_)] = gnpow z dec zs S n0_
  brk : Fn E S.brk fun bk => ∀ (s0_ : Option SlD) (n1_ : Int) (n2_ : Int) (g3_ : FuncId) (f3_ c3_ : List (Nat × Nat)), bk [.sc (.sl s0_), .sc (.i .i64 n1_), .sc (.i .i64 n2_), .sc (.fn g3_ f3_ c3_)] = gbrk z dec zs S s0_ n1_ n2_ g3_ f3_ c3_
  pins : Fn E S.pins fun bk => ∀ (s0_ : Option SlD) (n1_ : Int) (n2_ : Int) (g3_ : FuncId) (f3_ c3_ : List (Nat × Nat)), bk [.sc (.sl s0_), .sc (.i .i64 n1_), .sc (.i .i64 n2_), .sc (.fn g3_ f3_ c3_)] = gpins z dec zs S s0_ n1_ n2_ g3_ f3_ c3_
  peq : Fn E S.peq fun bk => ∀ (s0_ : Option SlD) (n1_ : Int) (n2_ : Int) (n3_ : Int) (g4_ : FuncId) (f4_ c4_ : List (Nat × Nat)), bk [.sc (.sl s0_), .sc (.i .i64 n1_), .sc (.i .i64 n2_), .sc (.i .i64 n3_), .sc (.fn g4_ f4_ c4_)] = gpeq z dec zs S s0_ n1_ n2_ n3_ g4_ f4_ c4_
  part : Fn E S.part fun bk => ∀ (s0_ : Option SlD) (n1_ : Int) (n2_ : Int) (n3_ : Int) (g4_ : FuncId) (f4_ c4_ : List (Nat × Nat)), bk [.sc (.sl s0_), .sc (.i .i64 n1_), .sc (.i .i64 n2_), .sc (.i .i64 n3_), .sc (.fn g4_ f4_ c4_)] = gpart z dec zs S s0_ n1_ n2_ n3_ g4_ f4_ c4_
  pdq : Fn E S.pdq fun bk => ∀ (s0_ : Option SlD) (n1_ : Int) (n2_ : Int) (n3_ : Int) (g4_ : FuncId) (f4_ c4_ : List (Nat × Nat)), bk [.sc (.sl s0_), .sc (.i .i64 n1_), .sc (.i .i64 n2_), .sc (.i .i64 n3_), .sc (.fn g4_ f4_ c4_)] = gpdq z dec zs S s0_ n1_ n2_ n3_ g4_ f4_ c4_
  sortF : Fn E S.sortF fun bk => ∀ (s0_ : Option SlD) (g1_ : FuncId) (f1_ c1_ : List (Nat × Nat)), bk [.sc (.sl s0_), .sc (.fn g1_ f1_ c1_)] = gsortF z dec zs S s0_ g1_ f1_ c1_
end Go.Proofs.YtpbhfolaoccpkaaGreat.Fw
