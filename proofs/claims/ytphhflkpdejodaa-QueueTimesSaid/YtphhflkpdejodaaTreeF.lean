/- Trees of functions, printed by a program of mine; each is proved to be the function's. -/
import Derived.Test.YtphhflkpdejodaaGen
namespace Go.Proofs.Ytphhflkpdejodaa
open Go Go.Proofs.Ytphhflkpdejodaa.Fw
set_option linter.unusedVariables false
def t4_b63  : List AV → Tree := fun l64 =>
  .asL (l64.getD 0 .un) fun o65 =>
  .asL (l64.getD 1 .un) fun o66 =>
  .asB (l64.getD 2 .un) fun b67 =>
  .asP (l64.getD 3 .un) fun o68 =>
  .asI .i64 (l64.getD 4 .un) fun n69 =>
  .asL (l64.getD 5 .un) fun o70 =>
  .asI .i64 (l64.getD 6 .un) fun n71 =>
  .asL (l64.getD 7 .un) fun o72 =>
  .asL (l64.getD 8 .un) fun o73 =>
  .asI .i64 (l64.getD 9 .un) fun n74 =>
  cond (decide (n74 < (slLen o72)))
    (.ixS 5 o72 n74 fun a75 a76 a77 =>
    .ld a75 ((a76 + (a77 * 5)) + 0) 1 fun l78 =>
    .nth l78 0 fun v79 =>
    .asI .i64 (.sc v79) fun n80 =>
    cond (decide (n80 < (1 : Int)))
      (.ret 1 [(.sc (.b .false))])
      (cond (decide (n80 > (12 : Int)))
        (.ret 1 [(.sc (.b .false))])
        (.ixS 1 o73 n80 fun a81 a82 a83 =>
        .ld a81 (a82 + (a83 * 1)) 1 fun l84 =>
        .nth l84 0 fun v85 =>
        .asB (.sc v85) fun b86 =>
        cond b86
          (.ret 1 [(.sc (.b .false))])
          (.ixS 1 o73 n80 fun a87 a88 a89 =>
          .st a87 (a88 + (a89 * 1)) [(.b .true)] (
          .ixS 1 o70 n80 fun a90 a91 a92 =>
          .ld a90 (a91 + (a92 * 1)) 1 fun l93 =>
          .nth l93 0 fun v94 =>
          .asI .i64 (.sc v94) fun n95 =>
          .ixS 1 o70 n80 fun a96 a97 a98 =>
          .st a96 (a97 + (a98 * 1)) [(.i .i64 (IntKind.wrap .i64 (n95 + (1 : Int))))] (
          .ret 0 [(.sc (.sl o65)), (.sc (.sl o66)), (.sc (.b b67)), (.sc (.p o68)), (.sc (.i .i64 n69)), (.sc (.sl o70)), (.sc (.i .i64 n71)), (.sc (.sl o72)), (.sc (.sl o73)), (.sc (.i .i64 (IntKind.wrap .i64 (n74 + (1 : Int)))))]))))))
    (.ret 10 [(.sc (.sl o65)), (.sc (.sl o66)), (.sc (.b b67)), (.sc (.p o68)), (.sc (.i .i64 n69)), (.sc (.sl o70)), (.sc (.i .i64 n71))])
def t4_k63  : Nat → List AV → Tree := fun a99 l100 =>
  .tg a99 10
    (.asL (l100.getD 0 .un) fun o101 =>
    .asL (l100.getD 1 .un) fun o102 =>
    .asB (l100.getD 2 .un) fun b103 =>
    .asP (l100.getD 3 .un) fun o104 =>
    .asI .i64 (l100.getD 4 .un) fun n105 =>
    .asL (l100.getD 5 .un) fun o106 =>
    .asI .i64 (l100.getD 6 .un) fun n107 =>
    cond (decide (n107 > (200 : Int)))
      (.ret 1 [(.sc (.b .false))])
      (.ret 0 [(.sc (.sl o101)), (.sc (.sl o102)), (.sc (.b b103)), (.sc (.p o104)), (.sc (.i .i64 n105)), (.sc (.sl o106)), (.sc (.i .i64 (IntKind.wrap .i64 (n107 + (1 : Int)))))]))
    (.tg a99 1
      (.asB (l100.getD 0 .un) fun b108 =>
      .ret 1 [(.sc (.b b108))])
      (.fail))
def t4_k43  : Nat → List AV → Tree := fun a50 l51 =>
  .tg a50 0
    (.asL (l51.getD 0 .un) fun o52 =>
    .asL (l51.getD 1 .un) fun o53 =>
    .asB (l51.getD 2 .un) fun b54 =>
    .asP (l51.getD 3 .un) fun o55 =>
    .asI .i64 (l51.getD 4 .un) fun n56 =>
    .asL (l51.getD 5 .un) fun o57 =>
    .asI .i64 (l51.getD 6 .un) fun n58 =>
    .asI .i64 (l51.getD 7 .un) fun n59 =>
    .call 16 [(.sc (.p o55)), (.sc (.i .i64 n59))] fun v60 =>
    .asL v60 fun o61 =>
    cond (decide ((slLen o61) > n59))
      (.ret 1 [(.sc (.b .false))])
      (.br ((((decide ((0 : Int) ≤ (13 : Int))) && (decide ((13 : Int) ≤ (13 : Int)))) && (decide ((13 : Int) ≤ (70368744177664 : Int)))) && (decide ((13 : Int) ≤ (70368744177664 : Int))))
        (.al (zeros [(.b .false)] (Int.toNat (13 : Int))) fun a62 =>
        .loop t4_b63 [(.sc (.sl o52)), (.sc (.sl o53)), (.sc (.b b54)), (.sc (.p o55)), (.sc (.i .i64 n56)), (.sc (.sl o57)), (.sc (.i .i64 n58)), (.sc (.sl o61)), (.sc (.sl (.some (.mk a62 0 (Int.toNat (13 : Int)) (Int.toNat (13 : Int)) 1)))), (.sc (.i .i64 (0 : Int)))] t4_k63)
        (.fail)))
    (.fail)
def t4_b123  : List AV → Tree := fun l124 =>
  .asL (l124.getD 0 .un) fun o125 =>
  .asL (l124.getD 1 .un) fun o126 =>
  .asB (l124.getD 2 .un) fun b127 =>
  .asP (l124.getD 3 .un) fun o128 =>
  .asI .i64 (l124.getD 4 .un) fun n129 =>
  .asL (l124.getD 5 .un) fun o130 =>
  .asI .i64 (l124.getD 6 .un) fun n131 =>
  .asL (l124.getD 7 .un) fun o132 =>
  .asL (l124.getD 8 .un) fun o133 =>
  .asI .i64 (l124.getD 9 .un) fun n134 =>
  cond (decide (n134 < (slLen o132)))
    (.ixS 5 o132 n134 fun a135 a136 a137 =>
    .ld a135 ((a136 + (a137 * 5)) + 0) 1 fun l138 =>
    .nth l138 0 fun v139 =>
    .asI .i64 (.sc v139) fun n140 =>
    cond (decide (n140 < (1 : Int)))
      (.ret 1 [(.sc (.b .false))])
      (cond (decide (n140 > (12 : Int)))
        (.ret 1 [(.sc (.b .false))])
        (.ixS 1 o133 n140 fun a141 a142 a143 =>
        .ld a141 (a142 + (a143 * 1)) 1 fun l144 =>
        .nth l144 0 fun v145 =>
        .asB (.sc v145) fun b146 =>
        cond b146
          (.ret 1 [(.sc (.b .false))])
          (.ixS 1 o133 n140 fun a147 a148 a149 =>
          .st a147 (a148 + (a149 * 1)) [(.b .true)] (
          .ixS 1 o130 n140 fun a150 a151 a152 =>
          .ld a150 (a151 + (a152 * 1)) 1 fun l153 =>
          .nth l153 0 fun v154 =>
          .asI .i64 (.sc v154) fun n155 =>
          .ixS 1 o130 n140 fun a156 a157 a158 =>
          .st a156 (a157 + (a158 * 1)) [(.i .i64 (IntKind.wrap .i64 (n155 + (1 : Int))))] (
          .ret 0 [(.sc (.sl o125)), (.sc (.sl o126)), (.sc (.b b127)), (.sc (.p o128)), (.sc (.i .i64 n129)), (.sc (.sl o130)), (.sc (.i .i64 n131)), (.sc (.sl o132)), (.sc (.sl o133)), (.sc (.i .i64 (IntKind.wrap .i64 (n134 + (1 : Int)))))]))))))
    (.ret 10 [(.sc (.sl o125)), (.sc (.sl o126)), (.sc (.b b127)), (.sc (.p o128)), (.sc (.i .i64 n129)), (.sc (.sl o130)), (.sc (.i .i64 n131))])
def t4_k123  : Nat → List AV → Tree := fun a159 l160 =>
  .tg a159 10
    (.asL (l160.getD 0 .un) fun o161 =>
    .asL (l160.getD 1 .un) fun o162 =>
    .asB (l160.getD 2 .un) fun b163 =>
    .asP (l160.getD 3 .un) fun o164 =>
    .asI .i64 (l160.getD 4 .un) fun n165 =>
    .asL (l160.getD 5 .un) fun o166 =>
    .asI .i64 (l160.getD 6 .un) fun n167 =>
    cond (decide (n167 > (200 : Int)))
      (.ret 1 [(.sc (.b .false))])
      (.ret 0 [(.sc (.sl o161)), (.sc (.sl o162)), (.sc (.b b163)), (.sc (.p o164)), (.sc (.i .i64 n165)), (.sc (.sl o166)), (.sc (.i .i64 (IntKind.wrap .i64 (n167 + (1 : Int)))))]))
    (.tg a159 1
      (.asB (l160.getD 0 .un) fun b168 =>
      .ret 1 [(.sc (.b b168))])
      (.fail))
def t4_k109  : Nat → List AV → Tree := fun a110 l111 =>
  .tg a110 0
    (.asL (l111.getD 0 .un) fun o112 =>
    .asL (l111.getD 1 .un) fun o113 =>
    .asB (l111.getD 2 .un) fun b114 =>
    .asP (l111.getD 3 .un) fun o115 =>
    .asI .i64 (l111.getD 4 .un) fun n116 =>
    .asL (l111.getD 5 .un) fun o117 =>
    .asI .i64 (l111.getD 6 .un) fun n118 =>
    .asI .i64 (l111.getD 7 .un) fun n119 =>
    .call 16 [(.sc (.p o115)), (.sc (.i .i64 n119))] fun v120 =>
    .asL v120 fun o121 =>
    cond (decide ((slLen o121) > n119))
      (.ret 1 [(.sc (.b .false))])
      (.br ((((decide ((0 : Int) ≤ (13 : Int))) && (decide ((13 : Int) ≤ (13 : Int)))) && (decide ((13 : Int) ≤ (70368744177664 : Int)))) && (decide ((13 : Int) ≤ (70368744177664 : Int))))
        (.al (zeros [(.b .false)] (Int.toNat (13 : Int))) fun a122 =>
        .loop t4_b123 [(.sc (.sl o112)), (.sc (.sl o113)), (.sc (.b b114)), (.sc (.p o115)), (.sc (.i .i64 n116)), (.sc (.sl o117)), (.sc (.i .i64 n118)), (.sc (.sl o121)), (.sc (.sl (.some (.mk a122 0 (Int.toNat (13 : Int)) (Int.toNat (13 : Int)) 1)))), (.sc (.i .i64 (0 : Int)))] t4_k123)
        (.fail)))
    (.fail)
def t4_b175  : List AV → Tree := fun l176 =>
  .asL (l176.getD 0 .un) fun o177 =>
  .asB (l176.getD 1 .un) fun b178 =>
  .asI .i64 (l176.getD 2 .un) fun n179 =>
  .asL (l176.getD 3 .un) fun o180 =>
  .asI .i64 (l176.getD 4 .un) fun n181 =>
  cond (decide (n181 < n179))
    (.ixS 1 o180 (IntKind.wrap .i64 (n181 + (1 : Int))) fun a182 a183 a184 =>
    .ld a182 (a183 + (a184 * 1)) 1 fun l185 =>
    .nth l185 0 fun v186 =>
    .asI .i64 (.sc v186) fun n187 =>
    .ixS 1 o177 n181 fun a188 a189 a190 =>
    .ld a188 (a189 + (a190 * 1)) 1 fun l191 =>
    .nth l191 0 fun v192 =>
    .asI .u8 (.sc v192) fun n193 =>
    .br .true
      (cond (n187 != (IntKind.wrap .i64 ((1 : Int) + (IntKind.wrap .i64 (Int.tmod n193 (9 : Int))))))
        (.ret 1 [(.sc (.b .false))])
        (.ret 0 [(.sc (.sl o177)), (.sc (.b b178)), (.sc (.i .i64 n179)), (.sc (.sl o180)), (.sc (.i .i64 (IntKind.wrap .i64 (n181 + (1 : Int)))))]))
      (.fail))
    (.ret 14 [(.sc (.b b178))])
def t4_k175  : Nat → List AV → Tree := fun a194 l195 =>
  .tg a194 14
    (.asB (l195.getD 0 .un) fun b196 =>
    .ret 0 [(.sc (.b b196))])
    (.tg a194 1
      (.asB (l195.getD 0 .un) fun b197 =>
      .ret 0 [(.sc (.b b197))])
      (.fail))
def t4_b32  : List AV → Tree := fun l33 =>
  .asL (l33.getD 0 .un) fun o34 =>
  .asL (l33.getD 1 .un) fun o35 =>
  .asB (l33.getD 2 .un) fun b36 =>
  .asP (l33.getD 3 .un) fun o37 =>
  .asI .i64 (l33.getD 4 .un) fun n38 =>
  .asL (l33.getD 5 .un) fun o39 =>
  .asI .i64 (l33.getD 6 .un) fun n40 =>
  .call 22 [(.sc (.p o37))] fun v41 =>
  .asI .i64 v41 fun n42 =>
  cond (decide (n42 > (0 : Int)))
    (cond (decide (n40 < (slLen o35)))
      (.join (
        cond (decide (n40 < (60 : Int)))
          (.ixS 1 o35 n40 fun a44 a45 a46 =>
          .ld a44 (a45 + (a46 * 1)) 1 fun l47 =>
          .nth l47 0 fun v48 =>
          .asI .u8 (.sc v48) fun n49 =>
          .br .true
            (.ret 0 [(.sc (.sl o34)), (.sc (.sl o35)), (.sc (.b b36)), (.sc (.p o37)), (.sc (.i .i64 n38)), (.sc (.sl o39)), (.sc (.i .i64 n40)), (.sc (.i .i64 (IntKind.wrap .i64 (Int.tmod n49 (14 : Int)))))])
            (.fail))
          (.ret 0 [(.sc (.sl o34)), (.sc (.sl o35)), (.sc (.b b36)), (.sc (.p o37)), (.sc (.i .i64 n38)), (.sc (.sl o39)), (.sc (.i .i64 n40)), (.sc (.i .i64 (3 : Int)))])) t4_k43)
      (.join (
        .ret 0 [(.sc (.sl o34)), (.sc (.sl o35)), (.sc (.b b36)), (.sc (.p o37)), (.sc (.i .i64 n38)), (.sc (.sl o39)), (.sc (.i .i64 n40)), (.sc (.i .i64 (3 : Int)))]) t4_k109))
    (.ret 6 [(.sc (.sl o34)), (.sc (.b b36)), (.sc (.i .i64 n38)), (.sc (.sl o39))])
def t4_k32  : Nat → List AV → Tree := fun a169 l170 =>
  .tg a169 6
    (.asL (l170.getD 0 .un) fun o171 =>
    .asB (l170.getD 1 .un) fun b172 =>
    .asI .i64 (l170.getD 2 .un) fun n173 =>
    .asL (l170.getD 3 .un) fun o174 =>
    .loop t4_b175 [(.sc (.sl o171)), (.sc (.b b172)), (.sc (.i .i64 n173)), (.sc (.sl o174)), (.sc (.i .i64 (0 : Int)))] t4_k175)
    (.tg a169 1
      (.asB (l170.getD 0 .un) fun b198 =>
      .ret 0 [(.sc (.b b198))])
      (.fail))
def t4_b8  : List AV → Tree := fun l9 =>
  .asL (l9.getD 0 .un) fun o10 =>
  .asL (l9.getD 1 .un) fun o11 =>
  .asB (l9.getD 2 .un) fun b12 =>
  .asP (l9.getD 3 .un) fun o13 =>
  .asI .i64 (l9.getD 4 .un) fun n14 =>
  .asI .i64 (l9.getD 5 .un) fun n15 =>
  cond (decide (n15 < n14))
    (.ixS 1 o10 n15 fun a16 a17 a18 =>
    .ld a16 (a17 + (a18 * 1)) 1 fun l19 =>
    .nth l19 0 fun v20 =>
    .asI .u8 (.sc v20) fun n21 =>
    .br .true
      (.call 18 [(.sc (.p o13)), (.ag [(.i .i64 (IntKind.wrap .i64 (n15 + (1 : Int)))), (.i .i64 (0 : Int)), (.i .u32 (0 : Int)), (.i .u32 (1 : Int)), (.i .u16 (1 : Int))]), (.sc (.i .i64 (IntKind.wrap .i64 ((1 : Int) + (IntKind.wrap .i64 (Int.tmod n21 (9 : Int)))))))] fun v22 =>
      .asI .i64 v22 fun n23 =>
      cond (n23 != (0 : Int))
        (.ret 1 [(.sc (.b .false))])
        (.ret 0 [(.sc (.sl o10)), (.sc (.sl o11)), (.sc (.b b12)), (.sc (.p o13)), (.sc (.i .i64 n14)), (.sc (.i .i64 (IntKind.wrap .i64 (n15 + (1 : Int)))))]))
      (.fail))
    (.ret 2 [(.sc (.sl o10)), (.sc (.sl o11)), (.sc (.b b12)), (.sc (.p o13)), (.sc (.i .i64 n14))])
def t4_k8  : Nat → List AV → Tree := fun a24 l25 =>
  .tg a24 2
    (.asL (l25.getD 0 .un) fun o26 =>
    .asL (l25.getD 1 .un) fun o27 =>
    .asB (l25.getD 2 .un) fun b28 =>
    .asP (l25.getD 3 .un) fun o29 =>
    .asI .i64 (l25.getD 4 .un) fun n30 =>
    .br ((((decide ((0 : Int) ≤ (13 : Int))) && (decide ((13 : Int) ≤ (13 : Int)))) && (decide ((104 : Int) ≤ (70368744177664 : Int)))) && (decide ((13 : Int) ≤ (70368744177664 : Int))))
      (.al (zeros [(.i .i64 (0 : Int))] (Int.toNat (13 : Int))) fun a31 =>
      .loop t4_b32 [(.sc (.sl o26)), (.sc (.sl o27)), (.sc (.b b28)), (.sc (.p o29)), (.sc (.i .i64 n30)), (.sc (.sl (.some (.mk a31 0 (Int.toNat (13 : Int)) (Int.toNat (13 : Int)) 1)))), (.sc (.i .i64 (0 : Int)))] t4_k32)
      (.fail))
    (.tg a24 1
      (.asB (l25.getD 0 .un) fun b199 =>
      .ret 0 [(.sc (.b b199))])
      (.fail))
/-- scuttlebutt/scuttlebuttlaw12.QueueTimes -/
def t4 (s0_ : Option SlD) (s1_ : Option SlD) : Tree :=
  .call 9 [] fun v0 =>
  .asB v0 fun b1 =>
  cond (!b1)
    (.ret 0 [(.sc (.b .false))])
    (.call 10 [(.sc (.i .i64 (12 : Int)))] fun v2 =>
    .asT 2 v2 fun l3 =>
    .nthC l3 0 fun v4 =>
    .asP (v4.av) fun o5 =>
    .nthC l3 1 fun v6 =>
    .asI .i64 (v6.av) fun n7 =>
    cond (Option.isNone o5)
      (.ret 0 [(.sc (.b .false))])
      (cond (n7 != (0 : Int))
        (.ret 0 [(.sc (.b .false))])
        (.loop t4_b8 [(.sc (.sl s0_)), (.sc (.sl s1_)), (.sc (.b b1)), (.sc (.p o5)), (.sc (.i .i64 (minI (slLen s0_) (12 : Int)))), (.sc (.i .i64 (0 : Int)))] t4_k8)))
theorem t4_eq (s0_ : Option SlD) (s1_ : Option SlD) : bodyK T (hs 4) Try.f4 [.sc (.sl s0_), .sc (.sl s1_)] = t4 s0_ s1_ := by kernel_rfl
end Go.Proofs.Ytphhflkpdejodaa
