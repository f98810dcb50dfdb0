/- wire.Get's tree, where the test of what was put anew is a branch that may be advised. -/
import Derived.Test.YtpbhfolaoccpkaaGreatTV
import Derived.Test.YtpbhfolaoccpkaaGreatFwZr
import Derived.Test.YtpbhfolaoccpkaaGreatFwZh
import Derived.Test.YtpbhfolaoccpkaaGreatTreeU
namespace Go.Proofs.YtpbhfolaoccpkaaGreat
open Go Go.Proofs.YtpbhfolaoccpkaaGreat.Fw
set_option linter.unusedVariables false
set_option maxRecDepth 20000
def t25e_k26  : Nat → List AV → Tree := fun a41 l42 =>
  .tg a41 2
    (.asS (l42.getD 0 .un) fun x43 =>
    .asP (l42.getD 1 .un) fun o44 =>
    .nn o44 fun a45 a46 =>
    .asP (l42.getD 2 .un) fun o47 =>
    .nn o47 fun a48 a49 =>
    .asP (l42.getD 3 .un) fun o50 =>
    .nn o50 fun a51 a52 =>
    .ld a51 (a52 + 0) 2 fun l53 =>
    .nth l53 0 fun v54 =>
    .asS (.sc v54) fun x55 =>
    .nth l53 1 fun v56 =>
    .asB (.sc v56) fun b57 =>
    .call 102 [(.ag [(.s x55), (.b b57)])] fun v58 =>
    .asB v58 fun b59 =>
    cond (!b59)
      (.ret 3 [(.sc (.p (.some (a45, a46))))])
      (.ld a48 a49 10 fun l60 =>
      .nth l60 0 fun v61 =>
      .asI .i64 (.sc v61) fun n62 =>
      .nth l60 1 fun v63 =>
      .asI .i64 (.sc v63) fun n64 =>
      .nth l60 2 fun v65 =>
      .asI .u32 (.sc v65) fun n66 =>
      .nth l60 3 fun v67 =>
      .asI .i64 (.sc v67) fun n68 =>
      .nth l60 4 fun v69 =>
      .asI .u32 (.sc v69) fun n70 =>
      .nth l60 5 fun v71 =>
      .asI .u16 (.sc v71) fun n72 =>
      .nth l60 6 fun v73 =>
      .asC .f64 (.sc v73) fun a74 a75 =>
      .nth l60 7 fun v76 =>
      .asB (.sc v76) fun b77 =>
      .nth l60 8 fun v78 =>
      .asS (.sc v78) fun x79 =>
      .nth l60 9 fun v80 =>
      .asL (.sc v80) fun o81 =>
      .call 103 [(.ag [(.i .i64 n62), (.i .i64 n64), (.i .u32 n66), (.i .i64 n68), (.i .u32 n70), (.i .u16 n72), (.cx .f64 a74 a75), (.b b77), (.s x79), (.sl o81)])] fun v82 =>
      .asT 2 v82 fun l83 =>
      .nthC l83 0 fun v84 =>
      .asS (v84.av) fun x85 =>
      .nthC l83 1 fun v86 =>
      .asB (v86.av) fun b87 =>
      cond b87
        (.br ((ByteArray.toList x85) == (ByteArray.toList x43))
          (.ld a48 a49 10 fun l88 =>
          .nth l88 0 fun v89 =>
          .asI .i64 (.sc v89) fun n90 =>
          .nth l88 1 fun v91 =>
          .asI .i64 (.sc v91) fun n92 =>
          .nth l88 2 fun v93 =>
          .asI .u32 (.sc v93) fun n94 =>
          .nth l88 3 fun v95 =>
          .asI .i64 (.sc v95) fun n96 =>
          .nth l88 4 fun v97 =>
          .asI .u32 (.sc v97) fun n98 =>
          .nth l88 5 fun v99 =>
          .asI .u16 (.sc v99) fun n100 =>
          .nth l88 6 fun v101 =>
          .asC .f64 (.sc v101) fun a102 a103 =>
          .nth l88 7 fun v104 =>
          .asB (.sc v104) fun b105 =>
          .nth l88 8 fun v106 =>
          .asS (.sc v106) fun x107 =>
          .nth l88 9 fun v108 =>
          .asL (.sc v108) fun o109 =>
          .st a45 a46 [(.i .i64 n90), (.i .i64 n92), (.i .u32 n94), (.i .i64 n96), (.i .u32 n98), (.i .u16 n100), (.cx .f64 a102 a103), (.b b105), (.s x107), (.sl o109)] (
          .ret 1 [(.sc (.p (.some (a45, a46)))), (.sc (.i .i64 (0 : Int)))]))
          (.ret 3 [(.sc (.p (.some (a45, a46))))]))
        (.ret 3 [(.sc (.p (.some (a45, a46))))])))
    (.fail)
def t25e (x0_ : ByteArray) : Tree :=
  .al [(.i .i64 (0 : Int)), (.i .i64 (0 : Int)), (.i .u32 (0 : Int)), (.i .i64 (0 : Int)), (.i .u32 (0 : Int)), (.i .u16 (0 : Int)), (.cx .f64 0 0), (.b .false), (.s (.mk (.mk []))), (.sl .none)] fun a0 =>
  .join (
    .al [(.i .i64 (0 : Int)), (.i .i64 (0 : Int)), (.i .u32 (0 : Int)), (.i .i64 (0 : Int)), (.i .u32 (0 : Int)), (.i .u16 (0 : Int)), (.cx .f64 0 0), (.b .false), (.s (.mk (.mk []))), (.sl .none)] fun a2 =>
    .call 98 [(.sc (.s x0_))] fun v3 =>
    .asA 2 v3 fun l4 =>
    .nth l4 0 fun v5 =>
    .asS (.sc v5) fun x6 =>
    .nth l4 1 fun v7 =>
    .asB (.sc v7) fun b8 =>
    .al [(.s x6), (.b b8)] fun a9 =>
    cond (decide ((((ByteArray.size x0_) : Nat) : Int) > (1024 : Int)))
      (.st a0 0 [(.i .i64 (0 : Int)), (.i .i64 (0 : Int)), (.i .u32 (0 : Int)), (.i .i64 (0 : Int)), (.i .u32 (0 : Int)), (.i .u16 (0 : Int)), (.cx .f64 0 0), (.b .false), (.s (.mk (.mk []))), (.sl .none)] (
      .ret 1 [(.sc (.p (.some (a0, 0)))), (.sc (.i .i64 (3 : Int)))]))
      (.call 99 [(.sc (.p (.some (a9, 0)))), (.sc (.i .i64 (1 : Int)))] fun v10 =>
      .asI .i64 v10 fun n11 =>
      .call 99 [(.sc (.p (.some (a9, 0)))), (.sc (.i .i64 (1 : Int)))] fun v12 =>
      .asI .i64 v12 fun n13 =>
      .st a2 (0 + 0) [(.i .i64 n11)] (
      .st a2 (0 + 1) [(.i .i64 n13)] (
      .call 99 [(.sc (.p (.some (a9, 0)))), (.sc (.i .i64 (4 : Int)))] fun v14 =>
      .asI .i64 v14 fun n15 =>
      .st a2 (0 + 2) [(.i .u32 (IntKind.wrap .u32 n15))] (
      .ld a2 (0 + 0) 1 fun l16 =>
      .nth l16 0 fun v17 =>
      .asI .i64 (.sc v17) fun n18 =>
      .call 100 [(.sc (.i .i64 n18))] fun v19 =>
      .asT 2 v19 fun l20 =>
      .nthC l20 0 fun v21 =>
      .asS (v21.av) fun x22 =>
      .nthC l20 1 fun v23 =>
      .asB (v23.av) fun b24 =>
      cond (!b24)
        (.ret 3 [(.sc (.p (.some (a0, 0))))])
        (.itn x22 fun a25 =>
        .loop t25_b26 [(.sc (.s x0_)), (.sc (.p (.some (a0, 0)))), (.sc (.p (.some (a2, 0)))), (.sc (.p (.some (a9, 0)))), (.sc (.it a25))] t25e_k26)))))) t25_k1
theorem r25_k26 {C : Ora} {n a : Nat} {l : List AV} {H : AH} : run C n (t25e_k26 a l) H = run C n (t25_k26 a l) H := by simp only [t25e_k26, t25_k26, run, run_cond]
theorem r25 {C : Ora} {n : Nat} {x : ByteArray} {H : AH} : run C n (t25e x) H = run C n (t25 x) H := by simp only [t25e, t25, run, run_cond, r25_k26]
def a25e (args : List AV) : Tree := match args with | [.sc (.s x)] => t25e x | _ => .fail
theorem a25e_ok : TrOk2 E 25 a25e := ⟨Tryz.f25, Tryz.func25, fun args C n H r h => by
  unfold a25e at h
  split at h
  · rw [r25] at h; rw [show bodyK E.T (E.hs 25) Tryz.f25 _ = _ from t25_eq _]; exact h
  · simp [run] at h⟩
end Go.Proofs.YtpbhfolaoccpkaaGreat
namespace Go.Proofs.YtpbhfolaoccpkaaGreat
open Go Go.Proofs.YtpbhfolaoccpkaaGreat.Fw
/-- a byte of a number -/
def yB (n : Int) (s : Nat) : UInt8 := UInt8.ofNat (Int.toNat (IntKind.wrap .u8 (Int.fdiv (IntKind.wrap .u64 n) ((2 : Int) ^ s))))
/-- one byte more is read -/
def rB (a : Int) (b : UInt8) : Int := IntKind.wrap .u64 (((BitVec.toNat ((BitVec.ofInt 64 (IntKind.wrap .u64 (a * (256 : Int)))) ||| (BitVec.ofInt 64 (IntKind.wrap .u64 ((b.toNat : Nat) : Int)))) : Nat) : Int))
/-- a number that was put and read -/
def R4 (n : Int) : Int := IntKind.wrap .u32 (rB (rB (rB (rB 0 (yB n 24)) (yB n 16)) (yB n 8)) (yB n 0))
theorem wu64 {x : Int} (h0 : 0 ≤ x) (h1 : x < 18446744073709551616) : IntKind.wrap .u64 x = x := wr_u64 h0 h1
theorem wu32 {x : Int} (h0 : 0 ≤ x) (h1 : x < 4294967296) : IntKind.wrap .u32 x = x := wr_u32 h0 h1
theorem yB_nat {n s : Nat} (hn : n < 4294967296) : (yB (n : Int) s).toNat = n / 2 ^ s % 256 := by
  unfold yB
  rw [wu64 (by omega) (by omega)]
  have e : Int.fdiv (n : Int) ((2 : Int) ^ s) = ((n / 2 ^ s : Nat) : Int) := by
    rw [Int.fdiv_eq_ediv_of_nonneg _ (Int.le_of_lt (Int.pow_pos (by decide)))]; simp
  rw [e]
  have w : IntKind.wrap .u8 ((n / 2 ^ s : Nat) : Int) = ((n / 2 ^ s % 256 : Nat) : Int) := by
    simp [IntKind.wrap, IntKind.bits, IntKind.signed]
  rw [w, Int.toNat_natCast]
  simp
theorem rB_nat {a : Nat} {b : UInt8} (ha : a < 72057594037927936) : rB (a : Int) b = ((a * 256 + b.toNat : Nat) : Int) := by
  have hb : b.toNat < 256 := b.toNat_lt
  unfold rB
  have e1 : ((a : Int) * 256) = ((a * 256 : Nat) : Int) := by simp
  rw [e1, wu64 (x := ((a * 256 : Nat) : Int)) (by omega) (by omega), wu64 (x := ((b.toNat : Nat) : Int)) (by omega) (by omega)]
  rw [BitVec.ofInt_natCast, BitVec.ofInt_natCast, BitVec.toNat_or, BitVec.toNat_ofNat, BitVec.toNat_ofNat, Nat.mod_eq_of_lt (by omega), Nat.mod_eq_of_lt (by omega)]
  have e2 : a * 256 ||| b.toNat = a * 256 + b.toNat := by
    have := Nat.shiftLeft_add_eq_or_of_lt (a := a) (i := 8) (b := b.toNat) (by simpa using hb)
    simp only [Nat.shiftLeft_eq] at this
    exact this.symm
  rw [e2, wu64 (by omega) (by omega)]
theorem R4_eq {n : Int} (h0 : 0 ≤ n) (h1 : n < 4294967296) : R4 n = n := by
  obtain ⟨m, rfl⟩ : ∃ m : Nat, n = (m : Int) := ⟨n.toNat, by omega⟩
  have hm : m < 4294967296 := by omega
  have b0 := (yB (m : Int) 24).toNat_lt
  have b1 := (yB (m : Int) 16).toNat_lt
  have b2 := (yB (m : Int) 8).toNat_lt
  have b3 := (yB (m : Int) 0).toNat_lt
  have t0 := yB_nat (s := 24) hm
  have t1 := yB_nat (s := 16) hm
  have t2 := yB_nat (s := 8) hm
  have t3 := yB_nat (s := 0) hm
  unfold R4
  rw [show (0 : Int) = ((0 : Nat) : Int) from rfl, rB_nat (by omega), rB_nat (by omega), rB_nat (by omega), rB_nat (by omega), wu32 (by omega) (by omega)]
  rw [t0, t1, t2, t3]
  congr 1
  omega
end Go.Proofs.YtpbhfolaoccpkaaGreat
namespace Go.Proofs.YtpbhfolaoccpkaaGreat
open Go Go.Proofs.YtpbhfolaoccpkaaGreat.Fw
set_option linter.unusedVariables false
set_option maxRecDepth 20000
def t4e_b94  : List AV → Tree := fun l95 =>
  .asI .u8 (l95.getD 0 .un) fun n96 =>
  .asB (l95.getD 1 .un) fun b97 =>
  .asP (l95.getD 2 .un) fun o98 =>
  .asP (l95.getD 3 .un) fun o99 =>
  .asL (l95.getD 4 .un) fun o100 =>
  .asL (l95.getD 5 .un) fun o101 =>
  .asL (l95.getD 6 .un) fun o102 =>
  .asI .i64 (l95.getD 7 .un) fun n103 =>
  cond (decide (n103 < (slLen o101)))
    (.ixS 5 o101 n103 fun a104 a105 a106 =>
    .ld a104 (a105 + (a106 * 5)) 5 fun l107 =>
    .nth l107 0 fun v108 =>
    .asI .i64 (.sc v108) fun n109 =>
    .nth l107 1 fun v110 =>
    .asI .i64 (.sc v110) fun n111 =>
    .nth l107 2 fun v112 =>
    .asI .u32 (.sc v112) fun n113 =>
    .nth l107 3 fun v114 =>
    .asI .u32 (.sc v114) fun n115 =>
    .nth l107 4 fun v116 =>
    .asI .u16 (.sc v116) fun n117 =>
    .ixS 5 o102 n103 fun a118 a119 a120 =>
    .ld a118 (a119 + (a120 * 5)) 5 fun l121 =>
    .nth l121 0 fun v122 =>
    .asI .i64 (.sc v122) fun n123 =>
    .nth l121 1 fun v124 =>
    .asI .i64 (.sc v124) fun n125 =>
    .nth l121 2 fun v126 =>
    .asI .u32 (.sc v126) fun n127 =>
    .nth l121 3 fun v128 =>
    .asI .u32 (.sc v128) fun n129 =>
    .nth l121 4 fun v130 =>
    .asI .u16 (.sc v130) fun n131 =>
    .br (!((n109 == n123) && ((n111 == n125) && ((n113 == n127) && (((n115 == n129) && ((n117 == n131) && .true)) && .true)))))
      (.ret 1 [(.sc (.b .false))])
      (.ret 0 [(.sc (.i .u8 n96)), (.sc (.b b97)), (.sc (.p o98)), (.sc (.p o99)), (.sc (.sl o100)), (.sc (.sl o101)), (.sc (.sl o102)), (.sc (.i .i64 (IntKind.wrap .i64 (n103 + (1 : Int)))))]))
    (.ret 6 [(.sc (.i .u8 n96)), (.sc (.b b97)), (.sc (.p o98)), (.sc (.p o99)), (.sc (.sl o100)), (.sc (.sl o101))])
def t4e_k94  : Nat → List AV → Tree := fun a132 l133 =>
  .tg a132 6
    (.asI .u8 (l133.getD 0 .un) fun n134 =>
    .asB (l133.getD 1 .un) fun b135 =>
    .asP (l133.getD 2 .un) fun o136 =>
    .asP (l133.getD 3 .un) fun o137 =>
    .asL (l133.getD 4 .un) fun o138 =>
    .asL (l133.getD 5 .un) fun o139 =>
    cond b135
      (cond ((slLen o138) == (0 : Int))
        (.br .true
          (.br ((slLen o139) == (IntKind.wrap .i64 ((2 : Int) + (IntKind.wrap .i64 (Int.tmod n134 (6 : Int))))))
            (.ixS 5 o139 (1 : Int) fun a140 a141 a142 =>
            .ld a140 (a141 + (a142 * 5)) 5 fun l143 =>
            .nth l143 0 fun v144 =>
            .asI .i64 (.sc v144) fun n145 =>
            .nth l143 1 fun v146 =>
            .asI .i64 (.sc v146) fun n147 =>
            .nth l143 2 fun v148 =>
            .asI .u32 (.sc v148) fun n149 =>
            .nth l143 3 fun v150 =>
            .asI .u32 (.sc v150) fun n151 =>
            .nth l143 4 fun v152 =>
            .asI .u16 (.sc v152) fun n153 =>
            .call 22 [(.sc (.p o137))] fun v154 =>
            .asA 5 v154 fun l155 =>
            .nth l155 0 fun v156 =>
            .asI .i64 (.sc v156) fun n157 =>
            .nth l155 1 fun v158 =>
            .asI .i64 (.sc v158) fun n159 =>
            .nth l155 2 fun v160 =>
            .asI .u32 (.sc v160) fun n161 =>
            .nth l155 3 fun v162 =>
            .asI .u32 (.sc v162) fun n163 =>
            .nth l155 4 fun v164 =>
            .asI .u16 (.sc v164) fun n165 =>
            .same a140 (a141 + (a142 * 5)) [(.i .i64 n145), (.i .i64 n147), (.i .u32 n149), (.i .u32 n151), (.i .u16 n153)] (
            .br ((n145 == n157) && ((n147 == n159) && ((n149 == n161) && (((n151 == n163) && ((n153 == n165) && .true)) && .true))))
              (.call 11 [(.sc (.p o136)), (.sc (.i .u64 (5 : Int)))] fun v166 =>
              .asL v166 fun o167 =>
              .ret 0 [(.sc (.b ((slLen o167) == (0 : Int))))])
              (.ret 0 [(.sc (.b .false))])))
            (.ret 0 [(.sc (.b .false))]))
          (.fail))
        (.ret 0 [(.sc (.b .false))]))
      (.ret 0 [(.sc (.b .false))]))
    (.tg a132 1
      (.asB (l133.getD 0 .un) fun b168 =>
      .ret 0 [(.sc (.b b168))])
      (.fail))
def t4e_b15  : List AV → Tree := fun l16 =>
  .asI .u8 (l16.getD 0 .un) fun n17 =>
  .asB (l16.getD 1 .un) fun b18 =>
  .asL (l16.getD 2 .un) fun o19 =>
  .asP (l16.getD 3 .un) fun o20 =>
  .asP (l16.getD 4 .un) fun o21 =>
  .asI .i64 (l16.getD 5 .un) fun n22 =>
  .br .true
    (.br (decide (n22 < (IntKind.wrap .i64 (Int.tmod n17 (6 : Int)))))
      (.call 19 [(.sc (.p o20))] fun v23 =>
      .asP v23 fun o24 =>
      .call 20 [(.sc (.p o24)), (.ag [(.i .i64 (IntKind.wrap .i64 ((10 : Int) + n22))), (.i .i64 (0 : Int)), (.i .u32 (0 : Int)), (.i .u32 (9 : Int)), (.i .u16 (9 : Int))])] fun v25 =>
      .asT 2 v25 fun l26 =>
      .nthC l26 0 fun v27 =>
      .asB (v27.av) fun b28 =>
      .nthC l26 1 fun v29 =>
      .asI .i64 (v29.av) fun n30 =>
      .ret 0 [(.sc (.i .u8 n17)), (.sc (.b b18)), (.sc (.sl o19)), (.sc (.p o20)), (.sc (.p o21)), (.sc (.i .i64 (IntKind.wrap .i64 (n22 + (1 : Int)))))])
      (.ret 2 [(.sc (.i .u8 n17)), (.sc (.b b18)), (.sc (.sl o19)), (.sc (.p o20)), (.sc (.p o21))]))
    (.fail)
def t4e_k15  : Nat → List AV → Tree := fun a31 l32 =>
  .tg a31 2
    (.asI .u8 (l32.getD 0 .un) fun n33 =>
    .asB (l32.getD 1 .un) fun b34 =>
    .asL (l32.getD 2 .un) fun o35 =>
    .asP (l32.getD 3 .un) fun o36 =>
    .asP (l32.getD 4 .un) fun o37 =>
    .call 11 [(.sc (.p o37)), (.sc (.i .u64 (0 : Int)))] fun v38 =>
    .asL v38 fun o39 =>
    cond ((slLen o39) != (1 : Int))
      (.ret 0 [(.sc (.b .false))])
      (.ixS 3 o39 (0 : Int) fun a40 a41 a42 =>
      .ld a40 ((a41 + (a42 * 3)) + 0) 2 fun l43 =>
      .nth l43 0 fun v44 =>
      .asI .u32 (.sc v44) fun n45 =>
      .nth l43 1 fun v46 =>
      .asI .u16 (.sc v46) fun n47 =>
      .ixS 4 o35 (0 : Int) fun a48 a49 a50 =>
      .ld a48 ((a49 + (a50 * 4)) + 1) 2 fun l51 =>
      .nth l51 0 fun v52 =>
      .asI .u32 (.sc v52) fun n53 =>
      .nth l51 1 fun v54 =>
      .asI .u16 (.sc v54) fun n55 =>
      cond (!((n45 == n53) && ((n47 == n55) && .true)))
        (.ret 0 [(.sc (.b .false))])
        (.ixS 3 o39 (0 : Int) fun a56 a57 a58 =>
        .ld a56 ((a57 + (a58 * 3)) + 2) 1 fun l59 =>
        .nth l59 0 fun v60 =>
        .asS (.sc v60) fun x61 =>
        .call 15 [(.sc (.p o36)), (.sc (.i .u64 (1 : Int))), (.ag [(.i .u32 (2 : Int)), (.i .u16 (7 : Int))]), (.sc (.s x61))] fun v62 =>
        .asL v62 fun o63 =>
        cond ((slLen o63) != (1 : Int))
          (.ret 0 [(.sc (.b .false))])
          (.ixS 3 o63 (0 : Int) fun a64 a65 a66 =>
          .ld a64 (((a65 + (a66 * 3)) + 0) + 0) 1 fun l67 =>
          .nth l67 0 fun v68 =>
          .asI .u32 (.sc v68) fun n69 =>
          cond (n69 != (2 : Int))
            (.ret 0 [(.sc (.b .false))])
            (.ixS 4 o35 (0 : Int) fun a70 a71 a72 =>
            .ld a70 ((a71 + (a72 * 4)) + 1) 2 fun l73 =>
            .nth l73 0 fun v74 =>
            .asI .u32 (.sc v74) fun n75 =>
            .nth l73 1 fun v76 =>
            .asI .u16 (.sc v76) fun n77 =>
            .ixS 3 o63 (0 : Int) fun a78 a79 a80 =>
            .ld a78 ((a79 + (a80 * 3)) + 2) 1 fun l81 =>
            .nth l81 0 fun v82 =>
            .asS (.sc v82) fun x83 =>
            .call 15 [(.sc (.p o37)), (.sc (.i .u64 (2 : Int))), (.ag [(.i .u32 n75), (.i .u16 n77)]), (.sc (.s x83))] fun v84 =>
            .asL v84 fun o85 =>
            .call 19 [(.sc (.p o36))] fun v86 =>
            .asP v86 fun o87 =>
            .call 21 [(.sc (.p o87))] fun v88 =>
            .asL v88 fun o89 =>
            .call 19 [(.sc (.p o37))] fun v90 =>
            .asP v90 fun o91 =>
            .call 21 [(.sc (.p o91))] fun v92 =>
            .asL v92 fun o93 =>
            cond ((slLen o89) != (slLen o93))
              (.ret 0 [(.sc (.b .false))])
              (.loop t4e_b94 [(.sc (.i .u8 n33)), (.sc (.b b34)), (.sc (.p o36)), (.sc (.p o37)), (.sc (.sl o85)), (.sc (.sl o89)), (.sc (.sl o93)), (.sc (.i .i64 (0 : Int)))] t4e_k94))))))
    (.fail)
def t4e (n0_ : Int) (n1_ : Int) (n2_ : Int) : Tree :=
  .call 7 [] fun v0 =>
  .asB v0 fun b1 =>
  cond (!b1)
    (.ret 0 [(.sc (.b .false))])
    (.al [(.i .i64 (1 : Int)), (.i .u32 (1 : Int)), (.i .u16 (7 : Int)), (.cx .f64 0 0)] fun a2 =>
    .call 8 [(.ag [(.i .i64 (1 : Int)), (.i .u32 (1 : Int)), (.i .u16 (7 : Int)), (.cx .f64 0 0), (.i .u64 n0_), (.i .u32 (0 : Int)), (.sl (.some (.mk a2 0 1 1 4))), (.i .u64 (2 : Int)), (.i .u64 (9 : Int)), (.i .i64 (1 : Int))])] fun v3 =>
    .asT 2 v3 fun l4 =>
    .nthC l4 0 fun v5 =>
    .asP (v5.av) fun o6 =>
    .nthC l4 1 fun v7 =>
    .asI .i64 (v7.av) fun n8 =>
    .call 8 [(.ag [(.i .i64 (2 : Int)), (.i .u32 (2 : Int)), (.i .u16 (7 : Int)), (.cx .f64 0 0), (.i .u64 n0_), (.i .u32 n1_), (.sl (.some (.mk a2 0 1 1 4))), (.i .u64 (2 : Int)), (.i .u64 (9 : Int)), (.i .i64 (1 : Int))])] fun v9 =>
    .asT 2 v9 fun l10 =>
    .nthC l10 0 fun v11 =>
    .asP (v11.av) fun o12 =>
    .nthC l10 1 fun v13 =>
    .asI .i64 (v13.av) fun n14 =>
    cond (Option.isNone o6)
      (.ret 0 [(.sc (.b .false))])
      (cond (Option.isNone o12)
        (.ret 0 [(.sc (.b .false))])
        (cond (n8 != (0 : Int))
          (.ret 0 [(.sc (.b .false))])
          (cond (n14 != (0 : Int))
            (.ret 0 [(.sc (.b .false))])
            (.loop t4e_b15 [(.sc (.i .u8 n2_)), (.sc (.b b1)), (.sc (.sl (.some (.mk a2 0 1 1 4)))), (.sc (.p o6)), (.sc (.p o12)), (.sc (.i .i64 (0 : Int)))] t4e_k15)))))
theorem r4_b94 {C : Ora} {n : Nat} {l : List AV} {H : AH} : run C n (t4e_b94 l) H = run C n (t4_b94 l) H := by simp only [t4e_b94, t4_b94, run, run_cond]
theorem r4_k94 {C : Ora} {n a : Nat} {l : List AV} {H : AH} : run C n (t4e_k94 a l) H = run C n (t4_k94 a l) H := by simp only [t4e_k94, t4_k94, run, run_cond]
theorem r4_b15 {C : Ora} {n : Nat} {l : List AV} {H : AH} : run C n (t4e_b15 l) H = run C n (t4_b15 l) H := by simp only [t4e_b15, t4_b15, run, run_cond]
theorem r4_k15 {C : Ora} {n a : Nat} {l : List AV} {H : AH} : run C n (t4e_k15 a l) H = run C n (t4_k15 a l) H := by simp only [t4e_k15, t4_k15, run, run_cond, r4_b94, r4_k94]
theorem r4 {C : Ora} {n : Nat} {a b c : Int} {H : AH} : run C n (t4e a b c) H = run C n (t4 a b c) H := by simp only [t4e, t4, run, run_cond, r4_b15, r4_k15]
def a4e (args : List AV) : Tree := match args with | [.sc (.i .u64 a), .sc (.i .u32 b), .sc (.i .u8 c)] => t4e a b c | _ => .fail
theorem a4e_ok : TrOk2 E 4 a4e := ⟨Tryz.f4, Tryz.func4, fun args C n H r h => by
  unfold a4e at h
  split at h
  · rw [r4] at h; rw [show bodyK E.T (E.hs 4) Tryz.f4 _ = _ from t4_eq _ _ _]; exact h
  · simp [run] at h⟩
/-- the comparison of a number with itself -/
theorem isn_ok (a : Int) : ∀ (n : Nat) (G : AH), callA E.P E.T E.hs (n + 1) 315 [.sc (.i .u32 a)] G = some (.sc (.b false), G) := by
  intro n G
  have h : bodyK E.T (E.hs 315) Tryz.f315 [.sc (.i .u32 a)] = t315 a := t315_eq a
  simp only [callA, show E.P.funcs[315]? = some Tryz.f315 from Tryz.func315, h, t315, run, bne_self_eq_false]
theorem cmp_ok {a b : Int} (e : a = b) (m : Nat) : (PF.mk 270 m [.sc (.i .u32 a), .sc (.i .u32 b)] (.sc (.i .i64 0))).ok E := by
  subst e
  refine ⟨2, fun G => ?_⟩
  have h : bodyK E.T (E.hs 270) Tryz.f270 [.sc (.i .u32 a), .sc (.i .u32 a)] = t270 a a := t270_eq a a
  show callA E.P E.T E.hs (1 + 1) 270 _ G = _
  rw [callA]
  simp only [show E.P.funcs[270]? = some Tryz.f270 from Tryz.func270, h, t270, run, isn_ok a 0 G, obind, AV.asB, run_cond, Int.lt_irrefl, decide_false, Bool.false_eq_true, if_false, gt_iff_lt]
noncomputable def TBJ : Tbl := (25, a25e) :: (4, a4e) :: (11, c11) :: (21, c21) :: (22, c22) :: (88, c88) :: (89, c89) :: (128, c128) :: (143, c143) :: (185, c185) :: (192, c192) :: (195, c195) :: (198, c198) :: (200, c200) :: (205, c205) :: (206, c206) :: (207, c207) :: (208, c208) :: (209, c209) :: (217, c217) :: (218, c218) :: (221, c221) :: (242, c242) :: (281, c281) :: (282, c282) :: (285, c285) :: (286, c286) :: (287, c287) :: (288, c288) :: (302, c302) :: (320, c320) :: TBS
theorem TBJ_ok : TbOk2 E TBJ := ⟨a25e_ok, a4e_ok, c11_ok.two, c21_ok.two, c22_ok.two, c88_ok.two, c89_ok.two, c128_ok.two, c143_ok.two, c185_ok.two, c192_ok.two, c195_ok.two, c198_ok.two, c200_ok.two, c205_ok.two, c206_ok.two, c207_ok.two, c208_ok.two, c209_ok.two, c217_ok.two, c218_ok.two, c221_ok.two, c242_ok.two, c281_ok.two, c282_ok.two, c285_ok.two, c286_ok.two, c287_ok.two, c288_ok.two, c302_ok.two, c320_ok.two, TBS_ok⟩
end Go.Proofs.YtpbhfolaoccpkaaGreat
