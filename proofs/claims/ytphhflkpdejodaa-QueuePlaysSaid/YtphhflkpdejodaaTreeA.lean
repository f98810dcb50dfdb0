/- Trees of functions, printed by a program of mine; each is proved to be the function's. -/
import Derived.Test.YtphhflkpdejodaaGen
namespace Go.Proofs.Ytphhflkpdejodaa
open Go Go.Proofs.Ytphhflkpdejodaa.Fw
set_option linter.unusedVariables false
/-- scuttlebutt/queue.New -/
def t10 (n0_ : Int) : Tree :=
  cond (decide (n0_ < (1 : Int)))
    (.ret 0 [(.tu [(.sc (.p .none)), (.sc (.i .i64 (1 : Int)))])])
    (cond (decide (n0_ > (64 : Int)))
      (.ret 0 [(.tu [(.sc (.p .none)), (.sc (.i .i64 (1 : Int)))])])
      (.al [(.sl .none), (.i .i64 n0_)] fun a0 =>
      .ret 0 [(.tu [(.sc (.p (.some (a0, 0)))), (.sc (.i .i64 (0 : Int)))])]))
theorem t10_eq (n0_ : Int) : bodyK T (hs 10) Try.f10 [.sc (.i .i64 n0_)] = t10 n0_ := by kernel_rfl
/-- scuttlebutt/queue.Times -/
def t12 (n0_ : Int) : Tree :=
  .call 25 [(.sc (.i .u64 (IntKind.wrap .u64 (maxI n0_ (1 : Int)))))] fun v0 =>
  .asI .i64 v0 fun n1 =>
  .ret 0 [(.sc (.i .i64 (IntKind.wrap .i64 ((3 : Int) * n1))))]
theorem t12_eq (n0_ : Int) : bodyK T (hs 12) Try.f12 [.sc (.i .i64 n0_)] = t12 n0_ := by kernel_rfl
def t16_b9  : List AV → Tree := fun l10 =>
  .asP (l10.getD 0 .un) fun o11 =>
  .asL (l10.getD 1 .un) fun o12 =>
  .asI .i64 (l10.getD 2 .un) fun n13 =>
  .asI .i64 (l10.getD 3 .un) fun n14 =>
  cond (decide (n14 < n13))
    (.nn o11 fun a15 a16 =>
    .ld a15 (a16 + 0) 1 fun l17 =>
    .nth l17 0 fun v18 =>
    .asL (.sc v18) fun o19 =>
    .ixS 6 o19 n14 fun a20 a21 a22 =>
    .ld a20 ((a21 + (a22 * 6)) + 5) 1 fun l23 =>
    .nth l23 0 fun v24 =>
    .asI .i64 (.sc v24) fun n25 =>
    .ixS 6 o19 n14 fun a26 a27 a28 =>
    .st a26 ((a27 + (a28 * 6)) + 5) [(.i .i64 (IntKind.wrap .i64 (n25 - (1 : Int))))] (
    .nn o11 fun a29 a30 =>
    .ld a29 (a30 + 0) 1 fun l31 =>
    .nth l31 0 fun v32 =>
    .asL (.sc v32) fun o33 =>
    .ixS 6 o33 n14 fun a34 a35 a36 =>
    .ld a34 ((a35 + (a36 * 6)) + 0) 5 fun l37 =>
    .nth l37 0 fun v38 =>
    .asI .i64 (.sc v38) fun n39 =>
    .nth l37 1 fun v40 =>
    .asI .i64 (.sc v40) fun n41 =>
    .nth l37 2 fun v42 =>
    .asI .u32 (.sc v42) fun n43 =>
    .nth l37 3 fun v44 =>
    .asI .u32 (.sc v44) fun n45 =>
    .nth l37 4 fun v46 =>
    .asI .u16 (.sc v46) fun n47 =>
    .al [(.i .i64 n39), (.i .i64 n41), (.i .u32 n43), (.i .u32 n45), (.i .u16 n47)] fun a48 =>
    .lds 5 (.some (.mk a48 0 1 1 5)) (slN (.some (.mk a48 0 1 1 5))) fun l49 =>
    .app 5 32 o12 l49 (slN (.some (.mk a48 0 1 1 5))) fun o50 =>
    .ret 0 [(.sc (.p o11)), (.sc (.sl o50)), (.sc (.i .i64 n13)), (.sc (.i .i64 (IntKind.wrap .i64 (n14 + (1 : Int)))))]))
    (.ret 2 [(.sc (.p o11)), (.sc (.sl o12))])
def t16_k9  : Nat → List AV → Tree := fun a51 l52 =>
  .tg a51 2
    (.asP (l52.getD 0 .un) fun o53 =>
    .asL (l52.getD 1 .un) fun o54 =>
    .nn o53 fun a55 a56 =>
    .ld a55 (a56 + 0) 1 fun l57 =>
    .nth l57 0 fun v58 =>
    .asL (.sc v58) fun o59 =>
    .call 26 [(.sc (.sl o59)), (.sc (.fn 27 [] []))] fun v60 =>
    .asL v60 fun o61 =>
    .nn o53 fun a62 a63 =>
    .st a62 (a63 + 0) [(.sl o61)] (
    .ret 0 [(.sc (.sl o54))]))
    (.fail)
/-- (*scuttlebutt/queue.Queue).Some -/
def t16 (p0_ q0_ : Nat) (n1_ : Int) : Tree :=
  .call 21 [(.sc (.p (.some (p0_, q0_))))] fun v0 =>
  .asL v0 fun o1 =>
  .nn (.some (p0_, q0_)) fun a2 a3 =>
  .st a2 (a3 + 0) [(.sl o1)] (
  .nn (.some (p0_, q0_)) fun a4 a5 =>
  .ld a4 (a5 + 0) 1 fun l6 =>
  .nth l6 0 fun v7 =>
  .asL (.sc v7) fun o8 =>
  .loop t16_b9 [(.sc (.p (.some (p0_, q0_)))), (.sc (.sl .none)), (.sc (.i .i64 (maxI (minI n1_ (slLen o8)) (0 : Int)))), (.sc (.i .i64 (0 : Int)))] t16_k9)
theorem t16_eq (p0_ q0_ : Nat) (n1_ : Int) : bodyK T (hs 16) Try.f16 [.sc (.p (some (p0_, q0_))), .sc (.i .i64 n1_)] = t16 p0_ q0_ n1_ := by kernel_rfl
def t18_b17  : List AV → Tree := fun l18 =>
  .asI .i64 (l18.getD 0 .un) fun n19 =>
  .br (n19 == (1 : Int))
    (.asP (l18.getD 1 .un) fun o20 =>
    .asI .i64 (l18.getD 2 .un) fun n21 =>
    .asP (l18.getD 3 .un) fun o22 =>
    .nn o22 fun a23 a24 =>
    .asI .i64 (l18.getD 4 .un) fun n25 =>
    .nn o20 fun a26 a27 =>
    .ld a26 (a27 + 0) 1 fun l28 =>
    .nth l28 0 fun v29 =>
    .asL (.sc v29) fun o30 =>
    cond (n25 == (slLen o30))
      (.ret 0 [(.sc (.i .i64 (0 : Int))), (.sc (.p o20)), (.sc (.i .i64 n21)), (.sc (.p (.some (a23, a24))))])
      (.nn o20 fun a31 a32 =>
      .ld a31 (a32 + 0) 1 fun l33 =>
      .nth l33 0 fun v34 =>
      .asL (.sc v34) fun o35 =>
      .ixS 6 o35 n25 fun a36 a37 a38 =>
      .ld a36 (((a37 + (a38 * 6)) + 0) + 0) 1 fun l39 =>
      .nth l39 0 fun v40 =>
      .asI .i64 (.sc v40) fun n41 =>
      .ld a23 (a24 + 0) 1 fun l42 =>
      .nth l42 0 fun v43 =>
      .asI .i64 (.sc v43) fun n44 =>
      cond (n41 != n44)
        (.ret 0 [(.sc (.i .i64 (1 : Int))), (.sc (.p o20)), (.sc (.i .i64 n21)), (.sc (.p (.some (a23, a24)))), (.sc (.i .i64 (IntKind.wrap .i64 (n25 + (1 : Int)))))])
        (.ld a23 a24 5 fun l45 =>
        .nth l45 0 fun v46 =>
        .asI .i64 (.sc v46) fun n47 =>
        .nth l45 1 fun v48 =>
        .asI .i64 (.sc v48) fun n49 =>
        .nth l45 2 fun v50 =>
        .asI .u32 (.sc v50) fun n51 =>
        .nth l45 3 fun v52 =>
        .asI .u32 (.sc v52) fun n53 =>
        .nth l45 4 fun v54 =>
        .asI .u16 (.sc v54) fun n55 =>
        .nn o20 fun a56 a57 =>
        .ld a56 (a57 + 0) 1 fun l58 =>
        .nth l58 0 fun v59 =>
        .asL (.sc v59) fun o60 =>
        .ixS 6 o60 n25 fun a61 a62 a63 =>
        .ld a61 ((a62 + (a63 * 6)) + 0) 5 fun l64 =>
        .nth l64 0 fun v65 =>
        .asI .i64 (.sc v65) fun n66 =>
        .nth l64 1 fun v67 =>
        .asI .i64 (.sc v67) fun n68 =>
        .nth l64 2 fun v69 =>
        .asI .u32 (.sc v69) fun n70 =>
        .nth l64 3 fun v71 =>
        .asI .u32 (.sc v71) fun n72 =>
        .nth l64 4 fun v73 =>
        .asI .u16 (.sc v73) fun n74 =>
        .call 23 [(.ag [(.i .i64 n47), (.i .i64 n49), (.i .u32 n51), (.i .u32 n53), (.i .u16 n55)]), (.ag [(.i .i64 n66), (.i .i64 n68), (.i .u32 n70), (.i .u32 n72), (.i .u16 n74)])] fun v75 =>
        .asB v75 fun b76 =>
        cond (!b76)
          (.ret 2 [(.sc (.i .i64 (6 : Int)))])
          (.nn o20 fun a77 a78 =>
          .ld a77 (a78 + 0) 1 fun l79 =>
          .nth l79 0 fun v80 =>
          .asL (.sc v80) fun o81 =>
          .call 29 [(.sc (.sl o81)), (.sc (.i .i64 n25)), (.sc (.i .i64 (IntKind.wrap .i64 (n25 + (1 : Int)))))] fun v82 =>
          .asL v82 fun o83 =>
          .nn o20 fun a84 a85 =>
          .st a84 (a85 + 0) [(.sl o83)] (
          .ret 0 [(.sc (.i .i64 (0 : Int))), (.sc (.p o20)), (.sc (.i .i64 n21)), (.sc (.p (.some (a23, a24))))])))))
    (.br (n19 == (0 : Int))
      (.asP (l18.getD 1 .un) fun o86 =>
      .asI .i64 (l18.getD 2 .un) fun n87 =>
      .asP (l18.getD 3 .un) fun o88 =>
      .nn o88 fun a89 a90 =>
      .nn o86 fun a91 a92 =>
      .ld a91 (a92 + 0) 1 fun l93 =>
      .nth l93 0 fun v94 =>
      .asL (.sc v94) fun o95 =>
      .ld a89 a90 5 fun l96 =>
      .nth l96 0 fun v97 =>
      .asI .i64 (.sc v97) fun n98 =>
      .nth l96 1 fun v99 =>
      .asI .i64 (.sc v99) fun n100 =>
      .nth l96 2 fun v101 =>
      .asI .u32 (.sc v101) fun n102 =>
      .nth l96 3 fun v103 =>
      .asI .u32 (.sc v103) fun n104 =>
      .nth l96 4 fun v105 =>
      .asI .u16 (.sc v105) fun n106 =>
      .al [(.i .i64 n98), (.i .i64 n100), (.i .u32 n102), (.i .u32 n104), (.i .u16 n106), (.i .i64 n87)] fun a107 =>
      .lds 6 (.some (.mk a107 0 1 1 6)) (slN (.some (.mk a107 0 1 1 6))) fun l108 =>
      .app 6 40 o95 l108 (slN (.some (.mk a107 0 1 1 6))) fun o109 =>
      .nn o86 fun a110 a111 =>
      .st a110 (a111 + 0) [(.sl o109)] (
      .call 21 [(.sc (.p o86))] fun v112 =>
      .asL v112 fun o113 =>
      .nn o86 fun a114 a115 =>
      .st a114 (a115 + 0) [(.sl o113)] (
      .nn o86 fun a116 a117 =>
      .ld a116 (a117 + 0) 1 fun l118 =>
      .nth l118 0 fun v119 =>
      .asL (.sc v119) fun o120 =>
      .nn o86 fun a121 a122 =>
      .ld a121 (a122 + 0) 1 fun l123 =>
      .nth l123 0 fun v124 =>
      .asL (.sc v124) fun o125 =>
      .nn o86 fun a126 a127 =>
      .ld a126 (a127 + 1) 1 fun l128 =>
      .nth l128 0 fun v129 =>
      .asI .i64 (.sc v129) fun n130 =>
      .slc 6 o120 .none (.some (minI (slLen o125) n130)) .none fun o131 =>
      .nn o86 fun a132 a133 =>
      .st a132 (a133 + 0) [(.sl o131)] (
      .ret 2 [(.sc (.i .i64 (0 : Int)))]))))
      (.fail))
def t18_k17  : Nat → List AV → Tree := fun a134 l135 =>
  .tg a134 2
    (.asI .i64 (l135.getD 0 .un) fun n136 =>
    .ret 0 [(.sc (.i .i64 n136))])
    (.fail)
def t18_b137  : List AV → Tree := fun l138 =>
  .asI .i64 (l138.getD 0 .un) fun n139 =>
  .br (n139 == (1 : Int))
    (.asP (l138.getD 1 .un) fun o140 =>
    .asI .i64 (l138.getD 2 .un) fun n141 =>
    .asP (l138.getD 3 .un) fun o142 =>
    .nn o142 fun a143 a144 =>
    .asI .i64 (l138.getD 4 .un) fun n145 =>
    .nn o140 fun a146 a147 =>
    .ld a146 (a147 + 0) 1 fun l148 =>
    .nth l148 0 fun v149 =>
    .asL (.sc v149) fun o150 =>
    cond (n145 == (slLen o150))
      (.ret 0 [(.sc (.i .i64 (0 : Int))), (.sc (.p o140)), (.sc (.i .i64 n141)), (.sc (.p (.some (a143, a144))))])
      (.nn o140 fun a151 a152 =>
      .ld a151 (a152 + 0) 1 fun l153 =>
      .nth l153 0 fun v154 =>
      .asL (.sc v154) fun o155 =>
      .ixS 6 o155 n145 fun a156 a157 a158 =>
      .ld a156 (((a157 + (a158 * 6)) + 0) + 0) 1 fun l159 =>
      .nth l159 0 fun v160 =>
      .asI .i64 (.sc v160) fun n161 =>
      .ld a143 (a144 + 0) 1 fun l162 =>
      .nth l162 0 fun v163 =>
      .asI .i64 (.sc v163) fun n164 =>
      cond (n161 != n164)
        (.ret 0 [(.sc (.i .i64 (1 : Int))), (.sc (.p o140)), (.sc (.i .i64 n141)), (.sc (.p (.some (a143, a144)))), (.sc (.i .i64 (IntKind.wrap .i64 (n145 + (1 : Int)))))])
        (.ld a143 a144 5 fun l165 =>
        .nth l165 0 fun v166 =>
        .asI .i64 (.sc v166) fun n167 =>
        .nth l165 1 fun v168 =>
        .asI .i64 (.sc v168) fun n169 =>
        .nth l165 2 fun v170 =>
        .asI .u32 (.sc v170) fun n171 =>
        .nth l165 3 fun v172 =>
        .asI .u32 (.sc v172) fun n173 =>
        .nth l165 4 fun v174 =>
        .asI .u16 (.sc v174) fun n175 =>
        .nn o140 fun a176 a177 =>
        .ld a176 (a177 + 0) 1 fun l178 =>
        .nth l178 0 fun v179 =>
        .asL (.sc v179) fun o180 =>
        .ixS 6 o180 n145 fun a181 a182 a183 =>
        .ld a181 ((a182 + (a183 * 6)) + 0) 5 fun l184 =>
        .nth l184 0 fun v185 =>
        .asI .i64 (.sc v185) fun n186 =>
        .nth l184 1 fun v187 =>
        .asI .i64 (.sc v187) fun n188 =>
        .nth l184 2 fun v189 =>
        .asI .u32 (.sc v189) fun n190 =>
        .nth l184 3 fun v191 =>
        .asI .u32 (.sc v191) fun n192 =>
        .nth l184 4 fun v193 =>
        .asI .u16 (.sc v193) fun n194 =>
        .call 23 [(.ag [(.i .i64 n167), (.i .i64 n169), (.i .u32 n171), (.i .u32 n173), (.i .u16 n175)]), (.ag [(.i .i64 n186), (.i .i64 n188), (.i .u32 n190), (.i .u32 n192), (.i .u16 n194)])] fun v195 =>
        .asB v195 fun b196 =>
        cond (!b196)
          (.ret 2 [(.sc (.i .i64 (6 : Int)))])
          (.nn o140 fun a197 a198 =>
          .ld a197 (a198 + 0) 1 fun l199 =>
          .nth l199 0 fun v200 =>
          .asL (.sc v200) fun o201 =>
          .call 29 [(.sc (.sl o201)), (.sc (.i .i64 n145)), (.sc (.i .i64 (IntKind.wrap .i64 (n145 + (1 : Int)))))] fun v202 =>
          .asL v202 fun o203 =>
          .nn o140 fun a204 a205 =>
          .st a204 (a205 + 0) [(.sl o203)] (
          .ret 0 [(.sc (.i .i64 (0 : Int))), (.sc (.p o140)), (.sc (.i .i64 n141)), (.sc (.p (.some (a143, a144))))])))))
    (.br (n139 == (0 : Int))
      (.asP (l138.getD 1 .un) fun o206 =>
      .asI .i64 (l138.getD 2 .un) fun n207 =>
      .asP (l138.getD 3 .un) fun o208 =>
      .nn o208 fun a209 a210 =>
      .nn o206 fun a211 a212 =>
      .ld a211 (a212 + 0) 1 fun l213 =>
      .nth l213 0 fun v214 =>
      .asL (.sc v214) fun o215 =>
      .ld a209 a210 5 fun l216 =>
      .nth l216 0 fun v217 =>
      .asI .i64 (.sc v217) fun n218 =>
      .nth l216 1 fun v219 =>
      .asI .i64 (.sc v219) fun n220 =>
      .nth l216 2 fun v221 =>
      .asI .u32 (.sc v221) fun n222 =>
      .nth l216 3 fun v223 =>
      .asI .u32 (.sc v223) fun n224 =>
      .nth l216 4 fun v225 =>
      .asI .u16 (.sc v225) fun n226 =>
      .al [(.i .i64 n218), (.i .i64 n220), (.i .u32 n222), (.i .u32 n224), (.i .u16 n226), (.i .i64 n207)] fun a227 =>
      .lds 6 (.some (.mk a227 0 1 1 6)) (slN (.some (.mk a227 0 1 1 6))) fun l228 =>
      .app 6 40 o215 l228 (slN (.some (.mk a227 0 1 1 6))) fun o229 =>
      .nn o206 fun a230 a231 =>
      .st a230 (a231 + 0) [(.sl o229)] (
      .call 21 [(.sc (.p o206))] fun v232 =>
      .asL v232 fun o233 =>
      .nn o206 fun a234 a235 =>
      .st a234 (a235 + 0) [(.sl o233)] (
      .nn o206 fun a236 a237 =>
      .ld a236 (a237 + 0) 1 fun l238 =>
      .nth l238 0 fun v239 =>
      .asL (.sc v239) fun o240 =>
      .nn o206 fun a241 a242 =>
      .ld a241 (a242 + 0) 1 fun l243 =>
      .nth l243 0 fun v244 =>
      .asL (.sc v244) fun o245 =>
      .nn o206 fun a246 a247 =>
      .ld a246 (a247 + 1) 1 fun l248 =>
      .nth l248 0 fun v249 =>
      .asI .i64 (.sc v249) fun n250 =>
      .slc 6 o240 .none (.some (minI (slLen o245) n250)) .none fun o251 =>
      .nn o206 fun a252 a253 =>
      .st a252 (a253 + 0) [(.sl o251)] (
      .ret 2 [(.sc (.i .i64 (0 : Int)))]))))
      (.fail))
def t18_k137  : Nat → List AV → Tree := fun a254 l255 =>
  .tg a254 2
    (.asI .i64 (l255.getD 0 .un) fun n256 =>
    .ret 0 [(.sc (.i .i64 n256))])
    (.fail)
def t18_k1  : Nat → List AV → Tree := fun a15 l16 =>
  .tg a15 5
    (.loop t18_b17 ((.sc (.i .i64 (1 : Int))) :: l16) t18_k17)
    (.tg a15 3
      (.loop t18_b137 ((.sc (.i .i64 (0 : Int))) :: l16) t18_k137)
      (.tg a15 1
        (.asI .i64 (l16.getD 0 .un) fun n257 =>
        .ret 0 [(.sc (.i .i64 n257))])
        (.fail)))
/-- (*scuttlebutt/queue.Queue).Add -/
def t18 (p0_ q0_ : Nat) (n1_0 : Int) (n1_1 : Int) (n1_2 : Int) (n1_3 : Int) (n1_4 : Int) (n2_ : Int) : Tree :=
  .al [(.i .i64 n1_0), (.i .i64 n1_1), (.i .u32 n1_2), (.i .u32 n1_3), (.i .u16 n1_4)] fun a0 =>
  .join (
    .ld a0 0 5 fun l2 =>
    .nth l2 0 fun v3 =>
    .asI .i64 (.sc v3) fun n4 =>
    .nth l2 1 fun v5 =>
    .asI .i64 (.sc v5) fun n6 =>
    .nth l2 2 fun v7 =>
    .asI .u32 (.sc v7) fun n8 =>
    .nth l2 3 fun v9 =>
    .asI .u32 (.sc v9) fun n10 =>
    .nth l2 4 fun v11 =>
    .asI .u16 (.sc v11) fun n12 =>
    .call 24 [(.ag [(.i .i64 n4), (.i .i64 n6), (.i .u32 n8), (.i .u32 n10), (.i .u16 n12)])] fun v13 =>
    .asB v13 fun b14 =>
    cond (!b14)
      (.ret 1 [(.sc (.i .i64 (1 : Int)))])
      (cond (decide (n2_ < (1 : Int)))
        (.ret 1 [(.sc (.i .i64 (1 : Int)))])
        (cond (decide (n2_ > (100 : Int)))
          (.ret 1 [(.sc (.i .i64 (1 : Int)))])
          (.ret 5 [(.sc (.p (.some (p0_, q0_)))), (.sc (.i .i64 n2_)), (.sc (.p (.some (a0, 0)))), (.sc (.i .i64 (0 : Int)))])))) t18_k1
theorem t18_eq (p0_ q0_ : Nat) (n1_0 : Int) (n1_1 : Int) (n1_2 : Int) (n1_3 : Int) (n1_4 : Int) (n2_ : Int) : bodyK T (hs 18) Try.f18 [.sc (.p (some (p0_, q0_))), .ag [.i .i64 n1_0, .i .i64 n1_1, .i .u32 n1_2, .i .u32 n1_3, .i .u16 n1_4], .sc (.i .i64 n2_)] = t18 p0_ q0_ n1_0 n1_1 n1_2 n1_3 n1_4 n2_ := by kernel_rfl
/-- (*scuttlebutt/queue.Queue).Items -/
def t21 (p0_ q0_ : Nat) : Tree :=
  .nn (.some (p0_, q0_)) fun a0 a1 =>
  .ld a0 (a1 + 0) 1 fun l2 =>
  .nth l2 0 fun v3 =>
  .asL (.sc v3) fun o4 =>
  .call 32 [(.sc (.sl o4))] fun v5 =>
  .asL v5 fun o6 =>
  .call 33 [(.sc (.sl o6)), (.sc (.fn 34 [] []))] fun v7 =>
  .ret 0 [(.sc (.sl o6))]
theorem t21_eq (p0_ q0_ : Nat) : bodyK T (hs 21) Try.f21 [.sc (.p (some (p0_, q0_)))] = t21 p0_ q0_ := by kernel_rfl
/-- (*scuttlebutt/queue.Queue).Len -/
def t22 (p0_ q0_ : Nat) : Tree :=
  .nn (.some (p0_, q0_)) fun a0 a1 =>
  .ld a0 (a1 + 0) 1 fun l2 =>
  .nth l2 0 fun v3 =>
  .asL (.sc v3) fun o4 =>
  .ret 0 [(.sc (.i .i64 (slLen o4)))]
theorem t22_eq (p0_ q0_ : Nat) : bodyK T (hs 22) Try.f22 [.sc (.p (some (p0_, q0_)))] = t22 p0_ q0_ := by kernel_rfl
/-- scuttlebutt/record.Over -/
def t23 (n0_0 : Int) (n0_1 : Int) (n0_2 : Int) (n0_3 : Int) (n0_4 : Int) (n1_0 : Int) (n1_1 : Int) (n1_2 : Int) (n1_3 : Int) (n1_4 : Int) : Tree :=
  .al [(.i .i64 n0_0), (.i .i64 n0_1), (.i .u32 n0_2), (.i .u32 n0_3), (.i .u16 n0_4)] fun a0 =>
  .al [(.i .i64 n1_0), (.i .i64 n1_1), (.i .u32 n1_2), (.i .u32 n1_3), (.i .u16 n1_4)] fun a1 =>
  .ld a0 0 5 fun l2 =>
  .nth l2 0 fun v3 =>
  .asI .i64 (.sc v3) fun n4 =>
  .nth l2 1 fun v5 =>
  .asI .i64 (.sc v5) fun n6 =>
  .nth l2 2 fun v7 =>
  .asI .u32 (.sc v7) fun n8 =>
  .nth l2 3 fun v9 =>
  .asI .u32 (.sc v9) fun n10 =>
  .nth l2 4 fun v11 =>
  .asI .u16 (.sc v11) fun n12 =>
  .ld a1 0 5 fun l13 =>
  .nth l13 0 fun v14 =>
  .asI .i64 (.sc v14) fun n15 =>
  .nth l13 1 fun v16 =>
  .asI .i64 (.sc v16) fun n17 =>
  .nth l13 2 fun v18 =>
  .asI .u32 (.sc v18) fun n19 =>
  .nth l13 3 fun v20 =>
  .asI .u32 (.sc v20) fun n21 =>
  .nth l13 4 fun v22 =>
  .asI .u16 (.sc v22) fun n23 =>
  .call 37 [(.ag [(.i .i64 n4), (.i .i64 n6), (.i .u32 n8), (.i .u32 n10), (.i .u16 n12)]), (.ag [(.i .i64 n15), (.i .i64 n17), (.i .u32 n19), (.i .u32 n21), (.i .u16 n23)])] fun v24 =>
  .asI .i64 v24 fun n25 =>
  .ret 0 [(.sc (.b (decide (n25 > (0 : Int)))))]
theorem t23_eq (n0_0 : Int) (n0_1 : Int) (n0_2 : Int) (n0_3 : Int) (n0_4 : Int) (n1_0 : Int) (n1_1 : Int) (n1_2 : Int) (n1_3 : Int) (n1_4 : Int) : bodyK T (hs 23) Try.f23 [.ag [.i .i64 n0_0, .i .i64 n0_1, .i .u32 n0_2, .i .u32 n0_3, .i .u16 n0_4], .ag [.i .i64 n1_0, .i .i64 n1_1, .i .u32 n1_2, .i .u32 n1_3, .i .u16 n1_4]] = t23 n0_0 n0_1 n0_2 n0_3 n0_4 n1_0 n1_1 n1_2 n1_3 n1_4 := by kernel_rfl
/-- scuttlebutt/record.Right -/
def t24 (n0_0 : Int) (n0_1 : Int) (n0_2 : Int) (n0_3 : Int) (n0_4 : Int) : Tree :=
  .al [(.i .i64 n0_0), (.i .i64 n0_1), (.i .u32 n0_2), (.i .u32 n0_3), (.i .u16 n0_4)] fun a0 =>
  .ld a0 (0 + 0) 1 fun l1 =>
  .nth l1 0 fun v2 =>
  .asI .i64 (.sc v2) fun n3 =>
  cond (decide (n3 ≥ (1 : Int)))
    (.ld a0 (0 + 0) 1 fun l4 =>
    .nth l4 0 fun v5 =>
    .asI .i64 (.sc v5) fun n6 =>
    cond (decide (n6 ≤ (32 : Int)))
      (.ld a0 (0 + 1) 1 fun l7 =>
      .nth l7 0 fun v8 =>
      .asI .i64 (.sc v8) fun n9 =>
      cond (decide (n9 ≥ (0 : Int)))
        (.ld a0 (0 + 1) 1 fun l10 =>
        .nth l10 0 fun v11 =>
        .asI .i64 (.sc v11) fun n12 =>
        cond (decide (n12 < (4 : Int)))
          (.ld a0 (0 + 3) 2 fun l13 =>
          .nth l13 0 fun v14 =>
          .asI .u32 (.sc v14) fun n15 =>
          .nth l13 1 fun v16 =>
          .asI .u16 (.sc v16) fun n17 =>
          .call 38 [(.ag [(.i .u32 n15), (.i .u16 n17)])] fun v18 =>
          .asB v18 fun b19 =>
          .ret 0 [(.sc (.b (!b19)))])
          (.ret 0 [(.sc (.b .false))]))
        (.ret 0 [(.sc (.b .false))]))
      (.ret 0 [(.sc (.b .false))]))
    (.ret 0 [(.sc (.b .false))])
theorem t24_eq (n0_0 : Int) (n0_1 : Int) (n0_2 : Int) (n0_3 : Int) (n0_4 : Int) : bodyK T (hs 24) Try.f24 [.ag [.i .i64 n0_0, .i .i64 n0_1, .i .u32 n0_2, .i .u32 n0_3, .i .u16 n0_4]] = t24 n0_0 n0_1 n0_2 n0_3 n0_4 := by kernel_rfl
/-- math/bits.Len -/
def t25 (n0_ : Int) : Tree :=
  .call 40 [(.sc (.i .u64 n0_))] fun v0 =>
  .asI .i64 v0 fun n1 =>
  .ret 0 [(.sc (.i .i64 n1))]
theorem t25_eq (n0_ : Int) : bodyK T (hs 25) Try.f25 [.sc (.i .u64 n0_)] = t25 n0_ := by kernel_rfl
def t26_b2  : List AV → Tree := fun l3 =>
  .asL (l3.getD 0 .un) fun o4 =>
  .asX (l3.getD 1 .un) fun v5 =>
  .asI .i64 (l3.getD 2 .un) fun n6 =>
  .asI .i64 (l3.getD 3 .un) fun n7 =>
  cond (decide (n7 < (slLen o4)))
    (.ixS 6 o4 n7 fun a8 a9 a10 =>
    .ld a8 (a9 + (a10 * 6)) 6 fun l11 =>
    .nth l11 0 fun v12 =>
    .asI .i64 (.sc v12) fun n13 =>
    .nth l11 1 fun v14 =>
    .asI .i64 (.sc v14) fun n15 =>
    .nth l11 2 fun v16 =>
    .asI .u32 (.sc v16) fun n17 =>
    .nth l11 3 fun v18 =>
    .asI .u32 (.sc v18) fun n19 =>
    .nth l11 4 fun v20 =>
    .asI .u16 (.sc v20) fun n21 =>
    .nth l11 5 fun v22 =>
    .asI .i64 (.sc v22) fun n23 =>
    .al [(.i .i64 (0 : Int)), (.i .i64 (0 : Int)), (.i .u32 (0 : Int)), (.i .u32 (0 : Int)), (.i .u16 (0 : Int)), (.i .i64 (0 : Int))] fun a24 =>
    .st a24 0 [(.i .i64 n13), (.i .i64 n15), (.i .u32 n17), (.i .u32 n19), (.i .u16 n21), (.i .i64 n23)] (
    .ld a24 0 6 fun l25 =>
    .nth l25 0 fun v26 =>
    .asI .i64 (.sc v26) fun n27 =>
    .nth l25 1 fun v28 =>
    .asI .i64 (.sc v28) fun n29 =>
    .nth l25 2 fun v30 =>
    .asI .u32 (.sc v30) fun n31 =>
    .nth l25 3 fun v32 =>
    .asI .u32 (.sc v32) fun n33 =>
    .nth l25 4 fun v34 =>
    .asI .u16 (.sc v34) fun n35 =>
    .nth l25 5 fun v36 =>
    .asI .i64 (.sc v36) fun n37 =>
    .callv (.sc v5) [(.ag [(.i .i64 n27), (.i .i64 n29), (.i .u32 n31), (.i .u32 n33), (.i .u16 n35), (.i .i64 n37)])] fun v38 =>
    .asB v38 fun b39 =>
    cond (!b39)
      (.ld a24 0 6 fun l40 =>
      .nth l40 0 fun v41 =>
      .asI .i64 (.sc v41) fun n42 =>
      .nth l40 1 fun v43 =>
      .asI .i64 (.sc v43) fun n44 =>
      .nth l40 2 fun v45 =>
      .asI .u32 (.sc v45) fun n46 =>
      .nth l40 3 fun v47 =>
      .asI .u32 (.sc v47) fun n48 =>
      .nth l40 4 fun v49 =>
      .asI .u16 (.sc v49) fun n50 =>
      .nth l40 5 fun v51 =>
      .asI .i64 (.sc v51) fun n52 =>
      .ixS 6 o4 n6 fun a53 a54 a55 =>
      .st a53 (a54 + (a55 * 6)) [(.i .i64 n42), (.i .i64 n44), (.i .u32 n46), (.i .u32 n48), (.i .u16 n50), (.i .i64 n52)] (
      .ret 0 [(.sc (.sl o4)), (.sc v5), (.sc (.i .i64 (IntKind.wrap .i64 (n6 + (1 : Int))))), (.sc (.i .i64 (IntKind.wrap .i64 (n7 + (1 : Int)))))]))
      (.ret 0 [(.sc (.sl o4)), (.sc v5), (.sc (.i .i64 n6)), (.sc (.i .i64 (IntKind.wrap .i64 (n7 + (1 : Int)))))])))
    (.ret 2 [(.sc (.sl o4)), (.sc (.i .i64 n6))])
def t26_k2  : Nat → List AV → Tree := fun a56 l57 =>
  .tg a56 2
    (.asL (l57.getD 0 .un) fun o58 =>
    .asI .i64 (l57.getD 1 .un) fun n59 =>
    .slc 6 o58 (.some n59) .none .none fun o60 =>
    .sts 6 o60 (zeros [(.i .i64 (0 : Int)), (.i .i64 (0 : Int)), (.i .u32 (0 : Int)), (.i .u32 (0 : Int)), (.i .u16 (0 : Int)), (.i .i64 (0 : Int))] (slN o60)) (
    .slc 6 o58 .none (.some n59) .none fun o61 =>
    .ret 0 [(.sc (.sl o61))]))
    (.fail)
/-- slices.DeleteFunc[[]scuttlebutt/queue.Item,scuttlebutt/queue.Item] -/
def t26 (s0_ : Option SlD) (g1_ : FuncId) (f1_ c1_ : List (Nat × Nat)) : Tree :=
  .call 41 [(.sc (.sl s0_)), (.sc (.fn g1_ f1_ c1_))] fun v0 =>
  .asI .i64 v0 fun n1 =>
  cond (n1 == (-1 : Int))
    (.ret 0 [(.sc (.sl s0_))])
    (.loop t26_b2 [(.sc (.sl s0_)), (.sc (.fn g1_ f1_ c1_)), (.sc (.i .i64 n1)), (.sc (.i .i64 (IntKind.wrap .i64 (n1 + (1 : Int)))))] t26_k2)
theorem t26_eq (s0_ : Option SlD) (g1_ : FuncId) (f1_ c1_ : List (Nat × Nat)) : bodyK T (hs 26) Try.f26 [.sc (.sl s0_), .sc (.fn g1_ f1_ c1_)] = t26 s0_ g1_ f1_ c1_ := by kernel_rfl
/-- (*scuttlebutt/queue.Queue).Some$1 -/
def t27 (n0_0 : Int) (n0_1 : Int) (n0_2 : Int) (n0_3 : Int) (n0_4 : Int) (n0_5 : Int) : Tree :=
  .al [(.i .i64 n0_0), (.i .i64 n0_1), (.i .u32 n0_2), (.i .u32 n0_3), (.i .u16 n0_4), (.i .i64 n0_5)] fun a0 =>
  .ld a0 (0 + 5) 1 fun l1 =>
  .nth l1 0 fun v2 =>
  .asI .i64 (.sc v2) fun n3 =>
  .ret 0 [(.sc (.b (decide (n3 < (1 : Int)))))]
theorem t27_eq (n0_0 : Int) (n0_1 : Int) (n0_2 : Int) (n0_3 : Int) (n0_4 : Int) (n0_5 : Int) : bodyK T (hs 27) Try.f27 [.ag [.i .i64 n0_0, .i .i64 n0_1, .i .u32 n0_2, .i .u32 n0_3, .i .u16 n0_4, .i .i64 n0_5]] = t27 n0_0 n0_1 n0_2 n0_3 n0_4 n0_5 := by kernel_rfl
/-- slices.Delete[[]scuttlebutt/queue.Item,scuttlebutt/queue.Item] -/
def t29 (s0_ : Option SlD) (n1_ : Int) (n2_ : Int) : Tree :=
  .slc 6 s0_ (.some n1_) (.some n2_) (.some (slLen s0_)) fun o0 =>
  cond (n1_ == n2_)
    (.ret 0 [(.sc (.sl s0_))])
    (.slc 6 s0_ .none (.some n1_) .none fun o1 =>
    .slc 6 s0_ (.some n2_) .none .none fun o2 =>
    .lds 6 o2 (slN o2) fun l3 =>
    .app 6 40 o1 l3 (slN o2) fun o4 =>
    .slc 6 o4 (.some (slLen o4)) (.some (slLen s0_)) .none fun o5 =>
    .sts 6 o5 (zeros [(.i .i64 (0 : Int)), (.i .i64 (0 : Int)), (.i .u32 (0 : Int)), (.i .u32 (0 : Int)), (.i .u16 (0 : Int)), (.i .i64 (0 : Int))] (slN o5)) (
    .ret 0 [(.sc (.sl o4))]))
theorem t29_eq (s0_ : Option SlD) (n1_ : Int) (n2_ : Int) : bodyK T (hs 29) Try.f29 [.sc (.sl s0_), .sc (.i .i64 n1_), .sc (.i .i64 n2_)] = t29 s0_ n1_ n2_ := by kernel_rfl
/-- slices.Clone[[]scuttlebutt/queue.Item,scuttlebutt/queue.Item] -/
def t32 (s0_ : Option SlD) : Tree :=
  cond (Option.isNone s0_)
    (.ret 0 [(.sc (.sl .none))])
    (.al (zeros [(.i .i64 (0 : Int)), (.i .i64 (0 : Int)), (.i .u32 (0 : Int)), (.i .u32 (0 : Int)), (.i .u16 (0 : Int)), (.i .i64 (0 : Int))] 0) fun a0 =>
    .lds 6 s0_ (slN s0_) fun l1 =>
    .app 6 40 (.some (.mk a0 0 0 0 6)) l1 (slN s0_) fun o2 =>
    .ret 0 [(.sc (.sl o2))])
theorem t32_eq (s0_ : Option SlD) : bodyK T (hs 32) Try.f32 [.sc (.sl s0_)] = t32 s0_ := by kernel_rfl
/-- slices.SortFunc[[]scuttlebutt/queue.Item,scuttlebutt/queue.Item] -/
def t33 (s0_ : Option SlD) (g1_ : FuncId) (f1_ c1_ : List (Nat × Nat)) : Tree :=
  .call 25 [(.sc (.i .u64 (IntKind.wrap .u64 (slLen s0_))))] fun v0 =>
  .asI .i64 v0 fun n1 =>
  .call 44 [(.sc (.sl s0_)), (.sc (.i .i64 (0 : Int))), (.sc (.i .i64 (slLen s0_))), (.sc (.i .i64 n1)), (.sc (.fn g1_ f1_ c1_))] fun v2 =>
  .ret 0 [(.tu [])]
theorem t33_eq (s0_ : Option SlD) (g1_ : FuncId) (f1_ c1_ : List (Nat × Nat)) : bodyK T (hs 33) Try.f33 [.sc (.sl s0_), .sc (.fn g1_ f1_ c1_)] = t33 s0_ g1_ f1_ c1_ := by kernel_rfl
/-- (*scuttlebutt/queue.Queue).Items$1 -/
def t34 (n0_0 : Int) (n0_1 : Int) (n0_2 : Int) (n0_3 : Int) (n0_4 : Int) (n0_5 : Int) (n1_0 : Int) (n1_1 : Int) (n1_2 : Int) (n1_3 : Int) (n1_4 : Int) (n1_5 : Int) : Tree :=
  .al [(.i .i64 n0_0), (.i .i64 n0_1), (.i .u32 n0_2), (.i .u32 n0_3), (.i .u16 n0_4), (.i .i64 n0_5)] fun a0 =>
  .al [(.i .i64 n1_0), (.i .i64 n1_1), (.i .u32 n1_2), (.i .u32 n1_3), (.i .u16 n1_4), (.i .i64 n1_5)] fun a1 =>
  .ld a1 (0 + 5) 1 fun l2 =>
  .nth l2 0 fun v3 =>
  .asI .i64 (.sc v3) fun n4 =>
  .ld a0 (0 + 5) 1 fun l5 =>
  .nth l5 0 fun v6 =>
  .asI .i64 (.sc v6) fun n7 =>
  .ld a0 ((0 + 0) + 0) 1 fun l8 =>
  .nth l8 0 fun v9 =>
  .asI .i64 (.sc v9) fun n10 =>
  .ld a1 ((0 + 0) + 0) 1 fun l11 =>
  .nth l11 0 fun v12 =>
  .asI .i64 (.sc v12) fun n13 =>
  .call 36 [(.sc (.i .i64 n4)), (.sc (.i .i64 n7))] fun v14 =>
  .asI .i64 v14 fun n15 =>
  .same a1 ((0 + 0) + 0) [(.i .i64 n13)] (
  .same a0 ((0 + 0) + 0) [(.i .i64 n10)] (
  .call 36 [(.sc (.i .i64 n10)), (.sc (.i .i64 n13))] fun v16 =>
  .asI .i64 v16 fun n17 =>
  .al [(.i .i64 n15), (.i .i64 n17)] fun a18 =>
  .call 35 [(.sc (.sl (.some (.mk a18 0 2 2 1))))] fun v19 =>
  .asI .i64 v19 fun n20 =>
  .ret 0 [(.sc (.i .i64 n20))]))
theorem t34_eq (n0_0 : Int) (n0_1 : Int) (n0_2 : Int) (n0_3 : Int) (n0_4 : Int) (n0_5 : Int) (n1_0 : Int) (n1_1 : Int) (n1_2 : Int) (n1_3 : Int) (n1_4 : Int) (n1_5 : Int) : bodyK T (hs 34) Try.f34 [.ag [.i .i64 n0_0, .i .i64 n0_1, .i .u32 n0_2, .i .u32 n0_3, .i .u16 n0_4, .i .i64 n0_5], .ag [.i .i64 n1_0, .i .i64 n1_1, .i .u32 n1_2, .i .u32 n1_3, .i .u16 n1_4, .i .i64 n1_5]] = t34 n0_0 n0_1 n0_2 n0_3 n0_4 n0_5 n1_0 n1_1 n1_2 n1_3 n1_4 n1_5 := by kernel_rfl
def t35_b0  : List AV → Tree := fun l1 =>
  .asI .i64 (l1.getD 0 .un) fun n2 =>
  .asL (l1.getD 1 .un) fun o3 =>
  .asI .i64 (l1.getD 2 .un) fun n4 =>
  .asI .i64 (l1.getD 3 .un) fun n5 =>
  cond (decide (n5 < n4))
    (.ixS 1 o3 n5 fun a6 a7 a8 =>
    .ld a6 (a7 + (a8 * 1)) 1 fun l9 =>
    .nth l9 0 fun v10 =>
    .asI .i64 (.sc v10) fun n11 =>
    cond (n11 != n2)
      (.ret 1 [(.sc (.i .i64 n11))])
      (.ret 0 [(.sc (.i .i64 n2)), (.sc (.sl o3)), (.sc (.i .i64 n4)), (.sc (.i .i64 (IntKind.wrap .i64 (n5 + (1 : Int)))))]))
    (.ret 2 [(.sc (.i .i64 n2))])
def t35_k0  : Nat → List AV → Tree := fun a12 l13 =>
  .tg a12 2
    (.asI .i64 (l13.getD 0 .un) fun n14 =>
    .ret 0 [(.sc (.i .i64 n14))])
    (.tg a12 1
      (.asI .i64 (l13.getD 0 .un) fun n15 =>
      .ret 0 [(.sc (.i .i64 n15))])
      (.fail))
/-- cmp.Or[int] -/
def t35 (s0_ : Option SlD) : Tree :=
  .loop t35_b0 [(.sc (.i .i64 (0 : Int))), (.sc (.sl s0_)), (.sc (.i .i64 (slLen s0_))), (.sc (.i .i64 (0 : Int)))] t35_k0
theorem t35_eq (s0_ : Option SlD) : bodyK T (hs 35) Try.f35 [.sc (.sl s0_)] = t35 s0_ := by kernel_rfl
/-- cmp.Compare[int] -/
def t36 (n0_ : Int) (n1_ : Int) : Tree :=
  .call 45 [(.sc (.i .i64 n0_))] fun v0 =>
  .asB v0 fun b1 =>
  .call 45 [(.sc (.i .i64 n1_))] fun v2 =>
  .asB v2 fun b3 =>
  cond b1
    (cond b3
      (.ret 0 [(.sc (.i .i64 (0 : Int)))])
      (.ret 0 [(.sc (.i .i64 (-1 : Int)))]))
    (cond b3
      (.ret 0 [(.sc (.i .i64 (1 : Int)))])
      (cond (decide (n0_ < n1_))
        (.ret 0 [(.sc (.i .i64 (-1 : Int)))])
        (cond (decide (n0_ > n1_))
          (.ret 0 [(.sc (.i .i64 (1 : Int)))])
          (.ret 0 [(.sc (.i .i64 (0 : Int)))]))))
theorem t36_eq (n0_ : Int) (n1_ : Int) : bodyK T (hs 36) Try.f36 [.sc (.i .i64 n0_), .sc (.i .i64 n1_)] = t36 n0_ n1_ := by kernel_rfl
/-- scuttlebutt/record.Order -/
def t37 (n0_0 : Int) (n0_1 : Int) (n0_2 : Int) (n0_3 : Int) (n0_4 : Int) (n1_0 : Int) (n1_1 : Int) (n1_2 : Int) (n1_3 : Int) (n1_4 : Int) : Tree :=
  .al [(.i .i64 n0_0), (.i .i64 n0_1), (.i .u32 n0_2), (.i .u32 n0_3), (.i .u16 n0_4)] fun a0 =>
  .al [(.i .i64 n1_0), (.i .i64 n1_1), (.i .u32 n1_2), (.i .u32 n1_3), (.i .u16 n1_4)] fun a1 =>
  .ld a0 (0 + 2) 1 fun l2 =>
  .nth l2 0 fun v3 =>
  .asI .u32 (.sc v3) fun n4 =>
  .ld a1 (0 + 2) 1 fun l5 =>
  .nth l5 0 fun v6 =>
  .asI .u32 (.sc v6) fun n7 =>
  .ld a0 (0 + 1) 1 fun l8 =>
  .nth l8 0 fun v9 =>
  .asI .i64 (.sc v9) fun n10 =>
  .ld a1 (0 + 1) 1 fun l11 =>
  .nth l11 0 fun v12 =>
  .asI .i64 (.sc v12) fun n13 =>
  .ld a0 (0 + 3) 2 fun l14 =>
  .nth l14 0 fun v15 =>
  .asI .u32 (.sc v15) fun n16 =>
  .nth l14 1 fun v17 =>
  .asI .u16 (.sc v17) fun n18 =>
  .ld a1 (0 + 3) 2 fun l19 =>
  .nth l19 0 fun v20 =>
  .asI .u32 (.sc v20) fun n21 =>
  .nth l19 1 fun v22 =>
  .asI .u16 (.sc v22) fun n23 =>
  .call 46 [(.sc (.i .u32 n4)), (.sc (.i .u32 n7))] fun v24 =>
  .asI .i64 v24 fun n25 =>
  .same a1 (0 + 3) [(.i .u32 n21), (.i .u16 n23)] (
  .same a0 (0 + 3) [(.i .u32 n16), (.i .u16 n18)] (
  .same a1 (0 + 1) [(.i .i64 n13)] (
  .same a0 (0 + 1) [(.i .i64 n10)] (
  .call 36 [(.sc (.i .i64 n10)), (.sc (.i .i64 n13))] fun v26 =>
  .asI .i64 v26 fun n27 =>
  .same a1 (0 + 3) [(.i .u32 n21), (.i .u16 n23)] (
  .same a0 (0 + 3) [(.i .u32 n16), (.i .u16 n18)] (
  .call 47 [(.ag [(.i .u32 n16), (.i .u16 n18)]), (.ag [(.i .u32 n21), (.i .u16 n23)])] fun v28 =>
  .asI .i64 v28 fun n29 =>
  .al [(.i .i64 n25), (.i .i64 n27), (.i .i64 n29)] fun a30 =>
  .call 35 [(.sc (.sl (.some (.mk a30 0 3 3 1))))] fun v31 =>
  .asI .i64 v31 fun n32 =>
  .ret 0 [(.sc (.i .i64 n32))]))))))
theorem t37_eq (n0_0 : Int) (n0_1 : Int) (n0_2 : Int) (n0_3 : Int) (n0_4 : Int) (n1_0 : Int) (n1_1 : Int) (n1_2 : Int) (n1_3 : Int) (n1_4 : Int) : bodyK T (hs 37) Try.f37 [.ag [.i .i64 n0_0, .i .i64 n0_1, .i .u32 n0_2, .i .u32 n0_3, .i .u16 n0_4], .ag [.i .i64 n1_0, .i .i64 n1_1, .i .u32 n1_2, .i .u32 n1_3, .i .u16 n1_4]] = t37 n0_0 n0_1 n0_2 n0_3 n0_4 n1_0 n1_1 n1_2 n1_3 n1_4 := by kernel_rfl
/-- (scuttlebutt/addr.Addr).None -/
def t38 (n0_0 : Int) (n0_1 : Int) : Tree :=
  .al [(.i .u32 n0_0), (.i .u16 n0_1)] fun a0 =>
  .ld a0 (0 + 0) 1 fun l1 =>
  .nth l1 0 fun v2 =>
  .asI .u32 (.sc v2) fun n3 =>
  cond (n3 == (0 : Int))
    (.ret 0 [(.sc (.b .true))])
    (.ld a0 (0 + 1) 1 fun l4 =>
    .nth l4 0 fun v5 =>
    .asI .u16 (.sc v5) fun n6 =>
    .ret 0 [(.sc (.b (n6 == (0 : Int))))])
theorem t38_eq (n0_0 : Int) (n0_1 : Int) : bodyK T (hs 38) Try.f38 [.ag [.i .u32 n0_0, .i .u16 n0_1]] = t38 n0_0 n0_1 := by kernel_rfl
def t39_k0  : Nat → List AV → Tree := fun a1 l2 =>
  .tg a1 0
    (.asI .u32 (l2.getD 0 .un) fun n3 =>
    .asI .i64 (l2.getD 1 .un) fun n4 =>
    cond (decide (n3 ≥ (256 : Int)))
      (.br (decide ((0 : Int) ≤ (8 : Int)))
        (.br ((decide ((0 : Int) ≤ (IntKind.wrap .u8 (Int.fdiv n3 (256 : Int))))) && (decide ((IntKind.wrap .u8 (Int.fdiv n3 (256 : Int))) < (256 : Int))))
          (.ret 0 [(.sc (.i .i64 (IntKind.wrap .i64 ((IntKind.wrap .i64 (n4 + (8 : Int))) + (IntKind.wrap .i64 (strAt (.mk (.mk [0, 1, 2, 2, 3, 3, 3, 3, 4, 4, 4, 4, 4, 4, 4, 4, 5, 5, 5, 5, 5, 5, 5, 5, 5, 5, 5, 5, 5, 5, 5, 5, 6, 6, 6, 6, 6, 6, 6, 6, 6, 6, 6, 6, 6, 6, 6, 6, 6, 6, 6, 6, 6, 6, 6, 6, 6, 6, 6, 6, 6, 6, 6, 6, 7, 7, 7, 7, 7, 7, 7, 7, 7, 7, 7, 7, 7, 7, 7, 7, 7, 7, 7, 7, 7, 7, 7, 7, 7, 7, 7, 7, 7, 7, 7, 7, 7, 7, 7, 7, 7, 7, 7, 7, 7, 7, 7, 7, 7, 7, 7, 7, 7, 7, 7, 7, 7, 7, 7, 7, 7, 7, 7, 7, 7, 7, 7, 7, 8, 8, 8, 8, 8, 8, 8, 8, 8, 8, 8, 8, 8, 8, 8, 8, 8, 8, 8, 8, 8, 8, 8, 8, 8, 8, 8, 8, 8, 8, 8, 8, 8, 8, 8, 8, 8, 8, 8, 8, 8, 8, 8, 8, 8, 8, 8, 8, 8, 8, 8, 8, 8, 8, 8, 8, 8, 8, 8, 8, 8, 8, 8, 8, 8, 8, 8, 8, 8, 8, 8, 8, 8, 8, 8, 8, 8, 8, 8, 8, 8, 8, 8, 8, 8, 8, 8, 8, 8, 8, 8, 8, 8, 8, 8, 8, 8, 8, 8, 8, 8, 8, 8, 8, 8, 8, 8, 8, 8, 8, 8, 8, 8, 8, 8, 8, 8, 8, 8, 8, 8, 8, 8, 8, 8, 8, 8, 8])) (Int.toNat (IntKind.wrap .u8 (Int.fdiv n3 (256 : Int))))))))))])
          (.fail))
        (.fail))
      (.br ((decide ((0 : Int) ≤ (IntKind.wrap .u8 n3))) && (decide ((IntKind.wrap .u8 n3) < (256 : Int))))
        (.ret 0 [(.sc (.i .i64 (IntKind.wrap .i64 (n4 + (IntKind.wrap .i64 (strAt (.mk (.mk [0, 1, 2, 2, 3, 3, 3, 3, 4, 4, 4, 4, 4, 4, 4, 4, 5, 5, 5, 5, 5, 5, 5, 5, 5, 5, 5, 5, 5, 5, 5, 5, 6, 6, 6, 6, 6, 6, 6, 6, 6, 6, 6, 6, 6, 6, 6, 6, 6, 6, 6, 6, 6, 6, 6, 6, 6, 6, 6, 6, 6, 6, 6, 6, 7, 7, 7, 7, 7, 7, 7, 7, 7, 7, 7, 7, 7, 7, 7, 7, 7, 7, 7, 7, 7, 7, 7, 7, 7, 7, 7, 7, 7, 7, 7, 7, 7, 7, 7, 7, 7, 7, 7, 7, 7, 7, 7, 7, 7, 7, 7, 7, 7, 7, 7, 7, 7, 7, 7, 7, 7, 7, 7, 7, 7, 7, 7, 7, 8, 8, 8, 8, 8, 8, 8, 8, 8, 8, 8, 8, 8, 8, 8, 8, 8, 8, 8, 8, 8, 8, 8, 8, 8, 8, 8, 8, 8, 8, 8, 8, 8, 8, 8, 8, 8, 8, 8, 8, 8, 8, 8, 8, 8, 8, 8, 8, 8, 8, 8, 8, 8, 8, 8, 8, 8, 8, 8, 8, 8, 8, 8, 8, 8, 8, 8, 8, 8, 8, 8, 8, 8, 8, 8, 8, 8, 8, 8, 8, 8, 8, 8, 8, 8, 8, 8, 8, 8, 8, 8, 8, 8, 8, 8, 8, 8, 8, 8, 8, 8, 8, 8, 8, 8, 8, 8, 8, 8, 8, 8, 8, 8, 8, 8, 8, 8, 8, 8, 8, 8, 8, 8, 8, 8, 8, 8, 8])) (Int.toNat (IntKind.wrap .u8 n3))))))))])
        (.fail)))
    (.fail)
/-- math/bits.Len32 -/
def t39 (n0_ : Int) : Tree :=
  .join (
    cond (decide (n0_ ≥ (65536 : Int)))
      (.br (decide ((0 : Int) ≤ (16 : Int)))
        (.ret 0 [(.sc (.i .u32 (Int.fdiv n0_ (65536 : Int)))), (.sc (.i .i64 (16 : Int)))])
        (.fail))
      (.ret 0 [(.sc (.i .u32 n0_)), (.sc (.i .i64 (0 : Int)))])) t39_k0
theorem t39_eq (n0_ : Int) : bodyK T (hs 39) Try.f39 [.sc (.i .u32 n0_)] = t39 n0_ := by kernel_rfl
def t40_k5  : Nat → List AV → Tree := fun a6 l7 =>
  .tg a6 0
    (.asI .u64 (l7.getD 0 .un) fun n8 =>
    .asI .i64 (l7.getD 1 .un) fun n9 =>
    cond (decide (n8 ≥ (256 : Int)))
      (.br (decide ((0 : Int) ≤ (8 : Int)))
        (.br ((decide ((0 : Int) ≤ (IntKind.wrap .u8 (Int.fdiv n8 (256 : Int))))) && (decide ((IntKind.wrap .u8 (Int.fdiv n8 (256 : Int))) < (256 : Int))))
          (.ret 0 [(.sc (.i .i64 (IntKind.wrap .i64 ((IntKind.wrap .i64 (n9 + (8 : Int))) + (IntKind.wrap .i64 (strAt (.mk (.mk [0, 1, 2, 2, 3, 3, 3, 3, 4, 4, 4, 4, 4, 4, 4, 4, 5, 5, 5, 5, 5, 5, 5, 5, 5, 5, 5, 5, 5, 5, 5, 5, 6, 6, 6, 6, 6, 6, 6, 6, 6, 6, 6, 6, 6, 6, 6, 6, 6, 6, 6, 6, 6, 6, 6, 6, 6, 6, 6, 6, 6, 6, 6, 6, 7, 7, 7, 7, 7, 7, 7, 7, 7, 7, 7, 7, 7, 7, 7, 7, 7, 7, 7, 7, 7, 7, 7, 7, 7, 7, 7, 7, 7, 7, 7, 7, 7, 7, 7, 7, 7, 7, 7, 7, 7, 7, 7, 7, 7, 7, 7, 7, 7, 7, 7, 7, 7, 7, 7, 7, 7, 7, 7, 7, 7, 7, 7, 7, 8, 8, 8, 8, 8, 8, 8, 8, 8, 8, 8, 8, 8, 8, 8, 8, 8, 8, 8, 8, 8, 8, 8, 8, 8, 8, 8, 8, 8, 8, 8, 8, 8, 8, 8, 8, 8, 8, 8, 8, 8, 8, 8, 8, 8, 8, 8, 8, 8, 8, 8, 8, 8, 8, 8, 8, 8, 8, 8, 8, 8, 8, 8, 8, 8, 8, 8, 8, 8, 8, 8, 8, 8, 8, 8, 8, 8, 8, 8, 8, 8, 8, 8, 8, 8, 8, 8, 8, 8, 8, 8, 8, 8, 8, 8, 8, 8, 8, 8, 8, 8, 8, 8, 8, 8, 8, 8, 8, 8, 8, 8, 8, 8, 8, 8, 8, 8, 8, 8, 8, 8, 8, 8, 8, 8, 8, 8, 8])) (Int.toNat (IntKind.wrap .u8 (Int.fdiv n8 (256 : Int))))))))))])
          (.fail))
        (.fail))
      (.br ((decide ((0 : Int) ≤ (IntKind.wrap .u8 n8))) && (decide ((IntKind.wrap .u8 n8) < (256 : Int))))
        (.ret 0 [(.sc (.i .i64 (IntKind.wrap .i64 (n9 + (IntKind.wrap .i64 (strAt (.mk (.mk [0, 1, 2, 2, 3, 3, 3, 3, 4, 4, 4, 4, 4, 4, 4, 4, 5, 5, 5, 5, 5, 5, 5, 5, 5, 5, 5, 5, 5, 5, 5, 5, 6, 6, 6, 6, 6, 6, 6, 6, 6, 6, 6, 6, 6, 6, 6, 6, 6, 6, 6, 6, 6, 6, 6, 6, 6, 6, 6, 6, 6, 6, 6, 6, 7, 7, 7, 7, 7, 7, 7, 7, 7, 7, 7, 7, 7, 7, 7, 7, 7, 7, 7, 7, 7, 7, 7, 7, 7, 7, 7, 7, 7, 7, 7, 7, 7, 7, 7, 7, 7, 7, 7, 7, 7, 7, 7, 7, 7, 7, 7, 7, 7, 7, 7, 7, 7, 7, 7, 7, 7, 7, 7, 7, 7, 7, 7, 7, 8, 8, 8, 8, 8, 8, 8, 8, 8, 8, 8, 8, 8, 8, 8, 8, 8, 8, 8, 8, 8, 8, 8, 8, 8, 8, 8, 8, 8, 8, 8, 8, 8, 8, 8, 8, 8, 8, 8, 8, 8, 8, 8, 8, 8, 8, 8, 8, 8, 8, 8, 8, 8, 8, 8, 8, 8, 8, 8, 8, 8, 8, 8, 8, 8, 8, 8, 8, 8, 8, 8, 8, 8, 8, 8, 8, 8, 8, 8, 8, 8, 8, 8, 8, 8, 8, 8, 8, 8, 8, 8, 8, 8, 8, 8, 8, 8, 8, 8, 8, 8, 8, 8, 8, 8, 8, 8, 8, 8, 8, 8, 8, 8, 8, 8, 8, 8, 8, 8, 8, 8, 8, 8, 8, 8, 8, 8, 8])) (Int.toNat (IntKind.wrap .u8 n8))))))))])
        (.fail)))
    (.fail)
def t40_k0  : Nat → List AV → Tree := fun a1 l2 =>
  .tg a1 0
    (.asI .u64 (l2.getD 0 .un) fun n3 =>
    .asI .i64 (l2.getD 1 .un) fun n4 =>
    .join (
      cond (decide (n3 ≥ (65536 : Int)))
        (.br (decide ((0 : Int) ≤ (16 : Int)))
          (.ret 0 [(.sc (.i .u64 (Int.fdiv n3 (65536 : Int)))), (.sc (.i .i64 (IntKind.wrap .i64 (n4 + (16 : Int)))))])
          (.fail))
        (.ret 0 [(.sc (.i .u64 n3)), (.sc (.i .i64 n4))])) t40_k5)
    (.fail)
/-- math/bits.Len64 -/
def t40 (n0_ : Int) : Tree :=
  .join (
    cond (decide (n0_ ≥ (4294967296 : Int)))
      (.br (decide ((0 : Int) ≤ (32 : Int)))
        (.ret 0 [(.sc (.i .u64 (Int.fdiv n0_ (4294967296 : Int)))), (.sc (.i .i64 (32 : Int)))])
        (.fail))
      (.ret 0 [(.sc (.i .u64 n0_)), (.sc (.i .i64 (0 : Int)))])) t40_k0
theorem t40_eq (n0_ : Int) : bodyK T (hs 40) Try.f40 [.sc (.i .u64 n0_)] = t40 n0_ := by kernel_rfl
def t41_b0  : List AV → Tree := fun l1 =>
  .asL (l1.getD 0 .un) fun o2 =>
  .asX (l1.getD 1 .un) fun v3 =>
  .asI .i64 (l1.getD 2 .un) fun n4 =>
  .asI .i64 (l1.getD 3 .un) fun n5 =>
  cond (decide (n5 < n4))
    (.ixS 6 o2 n5 fun a6 a7 a8 =>
    .ld a6 (a7 + (a8 * 6)) 6 fun l9 =>
    .nth l9 0 fun v10 =>
    .asI .i64 (.sc v10) fun n11 =>
    .nth l9 1 fun v12 =>
    .asI .i64 (.sc v12) fun n13 =>
    .nth l9 2 fun v14 =>
    .asI .u32 (.sc v14) fun n15 =>
    .nth l9 3 fun v16 =>
    .asI .u32 (.sc v16) fun n17 =>
    .nth l9 4 fun v18 =>
    .asI .u16 (.sc v18) fun n19 =>
    .nth l9 5 fun v20 =>
    .asI .i64 (.sc v20) fun n21 =>
    .callv (.sc v3) [(.ag [(.i .i64 n11), (.i .i64 n13), (.i .u32 n15), (.i .u32 n17), (.i .u16 n19), (.i .i64 n21)])] fun v22 =>
    .asB v22 fun b23 =>
    cond b23
      (.ret 1 [(.sc (.i .i64 n5))])
      (.ret 0 [(.sc (.sl o2)), (.sc v3), (.sc (.i .i64 n4)), (.sc (.i .i64 (IntKind.wrap .i64 (n5 + (1 : Int)))))]))
    (.ret 2 [])
def t41_k0  : Nat → List AV → Tree := fun a24 l25 =>
  .tg a24 2
    (.ret 0 [(.sc (.i .i64 (-1 : Int)))])
    (.tg a24 1
      (.asI .i64 (l25.getD 0 .un) fun n26 =>
      .ret 0 [(.sc (.i .i64 n26))])
      (.fail))
/-- slices.IndexFunc[[]scuttlebutt/queue.Item,scuttlebutt/queue.Item] -/
def t41 (s0_ : Option SlD) (g1_ : FuncId) (f1_ c1_ : List (Nat × Nat)) : Tree :=
  .loop t41_b0 [(.sc (.sl s0_)), (.sc (.fn g1_ f1_ c1_)), (.sc (.i .i64 (slLen s0_))), (.sc (.i .i64 (0 : Int)))] t41_k0
theorem t41_eq (s0_ : Option SlD) (g1_ : FuncId) (f1_ c1_ : List (Nat × Nat)) : bodyK T (hs 41) Try.f41 [.sc (.sl s0_), .sc (.fn g1_ f1_ c1_)] = t41 s0_ g1_ f1_ c1_ := by kernel_rfl
/-- cmp.isNaN[int] -/
def t45 (n0_ : Int) : Tree :=
  .ret 0 [(.sc (.b (n0_ != n0_)))]
theorem t45_eq (n0_ : Int) : bodyK T (hs 45) Try.f45 [.sc (.i .i64 n0_)] = t45 n0_ := by kernel_rfl
/-- cmp.Compare[uint32] -/
def t46 (n0_ : Int) (n1_ : Int) : Tree :=
  .call 57 [(.sc (.i .u32 n0_))] fun v0 =>
  .asB v0 fun b1 =>
  .call 57 [(.sc (.i .u32 n1_))] fun v2 =>
  .asB v2 fun b3 =>
  cond b1
    (cond b3
      (.ret 0 [(.sc (.i .i64 (0 : Int)))])
      (.ret 0 [(.sc (.i .i64 (-1 : Int)))]))
    (cond b3
      (.ret 0 [(.sc (.i .i64 (1 : Int)))])
      (cond (decide (n0_ < n1_))
        (.ret 0 [(.sc (.i .i64 (-1 : Int)))])
        (cond (decide (n0_ > n1_))
          (.ret 0 [(.sc (.i .i64 (1 : Int)))])
          (.ret 0 [(.sc (.i .i64 (0 : Int)))]))))
theorem t46_eq (n0_ : Int) (n1_ : Int) : bodyK T (hs 46) Try.f46 [.sc (.i .u32 n0_), .sc (.i .u32 n1_)] = t46 n0_ n1_ := by kernel_rfl
/-- scuttlebutt/addr.Order -/
def t47 (n0_0 : Int) (n0_1 : Int) (n1_0 : Int) (n1_1 : Int) : Tree :=
  .al [(.i .u32 n0_0), (.i .u16 n0_1)] fun a0 =>
  .al [(.i .u32 n1_0), (.i .u16 n1_1)] fun a1 =>
  .ld a0 (0 + 0) 1 fun l2 =>
  .nth l2 0 fun v3 =>
  .asI .u32 (.sc v3) fun n4 =>
  .ld a1 (0 + 0) 1 fun l5 =>
  .nth l5 0 fun v6 =>
  .asI .u32 (.sc v6) fun n7 =>
  .ld a0 (0 + 1) 1 fun l8 =>
  .nth l8 0 fun v9 =>
  .asI .u16 (.sc v9) fun n10 =>
  .ld a1 (0 + 1) 1 fun l11 =>
  .nth l11 0 fun v12 =>
  .asI .u16 (.sc v12) fun n13 =>
  .call 46 [(.sc (.i .u32 n4)), (.sc (.i .u32 n7))] fun v14 =>
  .asI .i64 v14 fun n15 =>
  .same a1 (0 + 1) [(.i .u16 n13)] (
  .same a0 (0 + 1) [(.i .u16 n10)] (
  .call 58 [(.sc (.i .u16 n10)), (.sc (.i .u16 n13))] fun v16 =>
  .asI .i64 v16 fun n17 =>
  .al [(.i .i64 n15), (.i .i64 n17)] fun a18 =>
  .call 35 [(.sc (.sl (.some (.mk a18 0 2 2 1))))] fun v19 =>
  .asI .i64 v19 fun n20 =>
  .ret 0 [(.sc (.i .i64 n20))]))
theorem t47_eq (n0_0 : Int) (n0_1 : Int) (n1_0 : Int) (n1_1 : Int) : bodyK T (hs 47) Try.f47 [.ag [.i .u32 n0_0, .i .u16 n0_1], .ag [.i .u32 n1_0, .i .u16 n1_1]] = t47 n0_0 n0_1 n1_0 n1_1 := by kernel_rfl
/-- cmp.isNaN[uint32] -/
def t57 (n0_ : Int) : Tree :=
  .ret 0 [(.sc (.b (n0_ != n0_)))]
theorem t57_eq (n0_ : Int) : bodyK T (hs 57) Try.f57 [.sc (.i .u32 n0_)] = t57 n0_ := by kernel_rfl
/-- cmp.Compare[uint16] -/
def t58 (n0_ : Int) (n1_ : Int) : Tree :=
  .call 64 [(.sc (.i .u16 n0_))] fun v0 =>
  .asB v0 fun b1 =>
  .call 64 [(.sc (.i .u16 n1_))] fun v2 =>
  .asB v2 fun b3 =>
  cond b1
    (cond b3
      (.ret 0 [(.sc (.i .i64 (0 : Int)))])
      (.ret 0 [(.sc (.i .i64 (-1 : Int)))]))
    (cond b3
      (.ret 0 [(.sc (.i .i64 (1 : Int)))])
      (cond (decide (n0_ < n1_))
        (.ret 0 [(.sc (.i .i64 (-1 : Int)))])
        (cond (decide (n0_ > n1_))
          (.ret 0 [(.sc (.i .i64 (1 : Int)))])
          (.ret 0 [(.sc (.i .i64 (0 : Int)))]))))
theorem t58_eq (n0_ : Int) (n1_ : Int) : bodyK T (hs 58) Try.f58 [.sc (.i .u16 n0_), .sc (.i .u16 n1_)] = t58 n0_ n1_ := by kernel_rfl
/-- cmp.isNaN[uint16] -/
def t64 (n0_ : Int) : Tree :=
  .ret 0 [(.sc (.b (n0_ != n0_)))]
theorem t64_eq (n0_ : Int) : bodyK T (hs 64) Try.f64 [.sc (.i .u16 n0_)] = t64 n0_ := by kernel_rfl
end Go.Proofs.Ytphhflkpdejodaa
