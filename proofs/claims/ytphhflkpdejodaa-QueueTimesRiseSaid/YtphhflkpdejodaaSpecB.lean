/- How many bits a number has; how often something is told on. -/
import Derived.Test.YtphhflkpdejodaaFwZe
import Derived.Test.YtphhflkpdejodaaTreeA
namespace Go.Proofs.Ytphhflkpdejodaa
open Go Go.Proofs.Ytphhflkpdejodaa.Fw
set_option linter.unusedVariables false
set_option linter.unusedSimpArgs false

def bl (n : Nat) : Nat := if n = 0 then 0 else n.log2 + 1
theorem bl_le {n m : Nat} : bl n ≤ m ↔ n < 2 ^ m := by
  unfold bl
  by_cases h : n = 0
  · subst h; simp; exact Nat.pow_pos (by decide)
  · rw [if_neg h, ← Nat.log2_lt h]; omega
theorem bl_div {n k : Nat} (h : 2 ^ k ≤ n) : bl n = k + bl (n / 2 ^ k) := by
  have hp : 0 < 2 ^ k := Nat.pow_pos (by decide)
  have h1 : bl n ≤ k + bl (n / 2 ^ k) := by
    rw [bl_le, Nat.pow_add, Nat.mul_comm, ← Nat.div_lt_iff_lt_mul hp]
    exact bl_le.1 (Nat.le_refl _)
  have hk : ¬ bl n ≤ k := by rw [bl_le]; omega
  have h2 : bl (n / 2 ^ k) ≤ bl n - k := by
    rw [bl_le, Nat.div_lt_iff_lt_mul hp, ← Nat.pow_add, show bl n - k + k = bl n by omega]
    exact bl_le.1 (Nat.le_refl _)
  omega
theorem bl_div8 {n : Nat} (h : 256 ≤ n) : bl n = 8 + bl (n / 256) := bl_div (k := 8) h
theorem bl_div16 {n : Nat} (h : 65536 ≤ n) : bl n = 16 + bl (n / 65536) := bl_div (k := 16) h
theorem tab_eq {j : Nat} (h : j < 256) : strAt (.mk (.mk [0, 1, 2, 2, 3, 3, 3, 3, 4, 4, 4, 4, 4, 4, 4, 4, 5, 5, 5, 5, 5, 5, 5, 5, 5, 5, 5, 5, 5, 5, 5, 5, 6, 6, 6, 6, 6, 6, 6, 6, 6, 6, 6, 6, 6, 6, 6, 6, 6, 6, 6, 6, 6, 6, 6, 6, 6, 6, 6, 6, 6, 6, 6, 6, 7, 7, 7, 7, 7, 7, 7, 7, 7, 7, 7, 7, 7, 7, 7, 7, 7, 7, 7, 7, 7, 7, 7, 7, 7, 7, 7, 7, 7, 7, 7, 7, 7, 7, 7, 7, 7, 7, 7, 7, 7, 7, 7, 7, 7, 7, 7, 7, 7, 7, 7, 7, 7, 7, 7, 7, 7, 7, 7, 7, 7, 7, 7, 7, 8, 8, 8, 8, 8, 8, 8, 8, 8, 8, 8, 8, 8, 8, 8, 8, 8, 8, 8, 8, 8, 8, 8, 8, 8, 8, 8, 8, 8, 8, 8, 8, 8, 8, 8, 8, 8, 8, 8, 8, 8, 8, 8, 8, 8, 8, 8, 8, 8, 8, 8, 8, 8, 8, 8, 8, 8, 8, 8, 8, 8, 8, 8, 8, 8, 8, 8, 8, 8, 8, 8, 8, 8, 8, 8, 8, 8, 8, 8, 8, 8, 8, 8, 8, 8, 8, 8, 8, 8, 8, 8, 8, 8, 8, 8, 8, 8, 8, 8, 8, 8, 8, 8, 8, 8, 8, 8, 8, 8, 8, 8, 8, 8, 8, 8, 8, 8, 8, 8, 8, 8, 8, 8, 8, 8, 8, 8, 8])) j = (bl j : Int) := by
  have : ∀ x : Fin 256, strAt (.mk (.mk [0, 1, 2, 2, 3, 3, 3, 3, 4, 4, 4, 4, 4, 4, 4, 4, 5, 5, 5, 5, 5, 5, 5, 5, 5, 5, 5, 5, 5, 5, 5, 5, 6, 6, 6, 6, 6, 6, 6, 6, 6, 6, 6, 6, 6, 6, 6, 6, 6, 6, 6, 6, 6, 6, 6, 6, 6, 6, 6, 6, 6, 6, 6, 6, 7, 7, 7, 7, 7, 7, 7, 7, 7, 7, 7, 7, 7, 7, 7, 7, 7, 7, 7, 7, 7, 7, 7, 7, 7, 7, 7, 7, 7, 7, 7, 7, 7, 7, 7, 7, 7, 7, 7, 7, 7, 7, 7, 7, 7, 7, 7, 7, 7, 7, 7, 7, 7, 7, 7, 7, 7, 7, 7, 7, 7, 7, 7, 7, 8, 8, 8, 8, 8, 8, 8, 8, 8, 8, 8, 8, 8, 8, 8, 8, 8, 8, 8, 8, 8, 8, 8, 8, 8, 8, 8, 8, 8, 8, 8, 8, 8, 8, 8, 8, 8, 8, 8, 8, 8, 8, 8, 8, 8, 8, 8, 8, 8, 8, 8, 8, 8, 8, 8, 8, 8, 8, 8, 8, 8, 8, 8, 8, 8, 8, 8, 8, 8, 8, 8, 8, 8, 8, 8, 8, 8, 8, 8, 8, 8, 8, 8, 8, 8, 8, 8, 8, 8, 8, 8, 8, 8, 8, 8, 8, 8, 8, 8, 8, 8, 8, 8, 8, 8, 8, 8, 8, 8, 8, 8, 8, 8, 8, 8, 8, 8, 8, 8, 8, 8, 8, 8, 8, 8, 8, 8, 8])) x.1 = (bl x.1 : Int) := by decide +kernel
  exact this ⟨j, h⟩
theorem bl_small {n : Nat} (h : n < 18446744073709551616) : bl n ≤ 64 := bl_le.2 h
theorem len64_spec {n : Nat} (hn : n < 18446744073709551616) : FSpec E 40 [.sc (.i .u64 n)] [] (fun v L' => v = .sc (.i .i64 (bl n)) ∧ L' = []) := by
  refine FSpec.of (Try.func40 : Try.prog.funcs[40]? = some Try.f40) (t40_eq _) fun F => ?_
  unfold t40
  refine Tri.joinQ (fun tag l L => tag = 0 ∧ L = F ∧ ∃ x b : Nat, l = [.sc (.i .u64 x), .sc (.i .i64 b)] ∧ x < 4294967296 ∧ bl n = b + bl x ∧ b ≤ 32) ?_ ?_
  · refine Tri.cnd (fun h => ?_) (fun h => ?_)
    · have h : 4294967296 ≤ n := by simp at h; omega
      refine Tri.brT (by decide) ?_
      rw [Int.fdiv_eq_ediv_of_nonneg _ (by decide), show (n : Int) / 4294967296 = ((n / 4294967296 : Nat) : Int) by omega]
      exact Tri.ret ⟨rfl, rfl, n / 4294967296, 32, rfl, by omega, bl_div (k := 32) h, by omega⟩ (by repeat (first|exact Sub.refl _|exact Sub.nil _|(apply Sub.cons; (first|exact K0|exact K1|exact K2|exact K3|exact K4|exact K5|exact K6|exact K7|exact K8|exact K9|exact K10|exact K11))|apply Sub.skip))
    · have h : n < 4294967296 := by simp at h; omega
      exact Tri.ret ⟨rfl, rfl, n, 0, rfl, h, by omega, by omega⟩ (by repeat (first|exact Sub.refl _|exact Sub.nil _|(apply Sub.cons; (first|exact K0|exact K1|exact K2|exact K3|exact K4|exact K5|exact K6|exact K7|exact K8|exact K9|exact K10|exact K11))|apply Sub.skip))
  rintro tag l L ⟨rfl, rfl, x, b, rfl, hx, hb, hb32⟩
  unfold t40_k0
  repeat (first|refine wa ?_|refine wb ?_|refine wc ?_|refine wd ?_|refine we ?_|refine wf ?_|refine wg ?_|refine wh rfl ?_|refine wi rfl ?_|refine wj rfl ?_|refine wk rfl ?_|refine wl rfl ?_|refine wm (by decide) ?_|(apply Tri.ldE; (first|exact K0|exact K1|exact K2|exact K3|exact K4|exact K5|exact K6|exact K7|exact K8|exact K9|exact K10|exact K11); (exact rfl); (exact wz rfl))|(apply Tri.stE; (first|exact K0|exact K1|exact K2|exact K3|exact K4|exact K5|exact K6|exact K7|exact K8|exact K9|exact K10|exact K11); (exact rfl); (exact wz rfl))|(apply Tri.same; (first|exact K0|exact K1|exact K2|exact K3|exact K4|exact K5|exact K6|exact K7|exact K8|exact K9|exact K10|exact K11); (exact rfl); (exact wz rfl))|refine wq fun _ => ?_)
  refine Tri.joinQ (fun tag l L' => tag = 0 ∧ L' = L ∧ ∃ x b : Nat, l = [.sc (.i .u64 x), .sc (.i .i64 b)] ∧ x < 65536 ∧ bl n = b + bl x ∧ b ≤ 48) ?_ ?_
  · refine Tri.cnd (fun h => ?_) (fun h => ?_)
    · have h : 65536 ≤ x := by simp at h; omega
      refine Tri.brT (by decide) ?_
      rw [Int.fdiv_eq_ediv_of_nonneg _ (by decide), show (x : Int) / 65536 = ((x / 65536 : Nat) : Int) by omega, wr_i64 (by omega) (by omega), show (b : Int) + 16 = ((b + 16 : Nat) : Int) by omega]
      exact Tri.ret ⟨rfl, rfl, x / 65536, b + 16, rfl, by omega, by rw [hb, bl_div16 h]; omega, by omega⟩ (by repeat (first|exact Sub.refl _|exact Sub.nil _|(apply Sub.cons; (first|exact K0|exact K1|exact K2|exact K3|exact K4|exact K5|exact K6|exact K7|exact K8|exact K9|exact K10|exact K11))|apply Sub.skip))
    · have h : x < 65536 := by simp at h; omega
      exact Tri.ret ⟨rfl, rfl, x, b, rfl, h, hb, by omega⟩ (by repeat (first|exact Sub.refl _|exact Sub.nil _|(apply Sub.cons; (first|exact K0|exact K1|exact K2|exact K3|exact K4|exact K5|exact K6|exact K7|exact K8|exact K9|exact K10|exact K11))|apply Sub.skip))
  clear hx hb hb32
  rintro tag l L' ⟨rfl, rfl, x, b, rfl, hx, hb, hb48⟩
  have hs := bl_small hn
  unfold t40_k5
  repeat (first|refine wa ?_|refine wb ?_|refine wc ?_|refine wd ?_|refine we ?_|refine wf ?_|refine wg ?_|refine wh rfl ?_|refine wi rfl ?_|refine wj rfl ?_|refine wk rfl ?_|refine wl rfl ?_|refine wm (by decide) ?_|(apply Tri.ldE; (first|exact K0|exact K1|exact K2|exact K3|exact K4|exact K5|exact K6|exact K7|exact K8|exact K9|exact K10|exact K11); (exact rfl); (exact wz rfl))|(apply Tri.stE; (first|exact K0|exact K1|exact K2|exact K3|exact K4|exact K5|exact K6|exact K7|exact K8|exact K9|exact K10|exact K11); (exact rfl); (exact wz rfl))|(apply Tri.same; (first|exact K0|exact K1|exact K2|exact K3|exact K4|exact K5|exact K6|exact K7|exact K8|exact K9|exact K10|exact K11); (exact rfl); (exact wz rfl))|refine wq fun _ => ?_)
  refine Tri.cnd (fun h => ?_) (fun h => ?_)
  · have h : 256 ≤ x := by simp at h; omega
    refine Tri.brT (by decide) ?_
    rw [Int.fdiv_eq_ediv_of_nonneg _ (by decide), show (x : Int) / 256 = ((x / 256 : Nat) : Int) by omega, wr_u8 (by omega) (by omega)]
    refine Tri.brT (by simp; omega) ?_
    have hbl := bl_div8 h
    rw [Int.toNat_natCast, tab_eq (by omega), wr_i64 (n := (b : Int) + 8) (by omega) (by omega), wr_i64 (n := (bl (x / 256) : Int)) (by omega) (by omega), wr_i64 (by omega) (by omega)]
    refine Tri.retF ⟨?_, rfl⟩ (by repeat (first|exact Sub.refl _|exact Sub.nil _|(apply Sub.cons; (first|exact K0|exact K1|exact K2|exact K3|exact K4|exact K5|exact K6|exact K7|exact K8|exact K9|exact K10|exact K11))|apply Sub.skip))
    rw [hb, hbl]
    congr 3; omega
  · have h : x < 256 := by simp at h; omega
    rw [wr_u8 (n := (x : Int)) (by omega) (by omega)]
    refine Tri.brT (by simp; omega) ?_
    rw [Int.toNat_natCast, tab_eq h, wr_i64 (n := (bl x : Int)) (by omega) (by omega), wr_i64 (by omega) (by omega)]
    refine Tri.retF ⟨?_, rfl⟩ (by repeat (first|exact Sub.refl _|exact Sub.nil _|(apply Sub.cons; (first|exact K0|exact K1|exact K2|exact K3|exact K4|exact K5|exact K6|exact K7|exact K8|exact K9|exact K10|exact K11))|apply Sub.skip))
    rw [hb]
    congr 3
theorem len_bits_spec {n : Nat} (hn : n < 18446744073709551616) : FSpec E 25 [.sc (.i .u64 n)] [] (fun v L' => v = .sc (.i .i64 (bl n)) ∧ L' = []) := by
  refine FSpec.of (Try.func25 : Try.prog.funcs[25]? = some Try.f25) (t25_eq _) fun F => ?_
  unfold t25
  refine Tri.call (len64_spec hn) (by repeat (first|exact Picks.nil|(apply Picks.cons; (first|exact K0|exact K1|exact K2|exact K3|exact K4|exact K5|exact K6|exact K7|exact K8|exact K9|exact K10|exact K11)))) ?_
  rintro v L' ⟨rfl, rfl⟩
  simp only [List.cons_append, List.nil_append]
  repeat (first|refine wa ?_|refine wb ?_|refine wc ?_|refine wd ?_|refine we ?_|refine wf ?_|refine wg ?_|refine wh rfl ?_|refine wi rfl ?_|refine wj rfl ?_|refine wk rfl ?_|refine wl rfl ?_|refine wm (by decide) ?_|refine wn ?_|refine wo ?_|refine wp (by decide) ?_|(apply Tri.ldE; (first|exact K0|exact K1|exact K2|exact K3|exact K4|exact K5|exact K6|exact K7|exact K8|exact K9|exact K10|exact K11); (exact rfl); (exact wz rfl))|(apply Tri.stE; (first|exact K0|exact K1|exact K2|exact K3|exact K4|exact K5|exact K6|exact K7|exact K8|exact K9|exact K10|exact K11); (exact rfl); (exact wz rfl))|(apply Tri.same; (first|exact K0|exact K1|exact K2|exact K3|exact K4|exact K5|exact K6|exact K7|exact K8|exact K9|exact K10|exact K11); (exact rfl); (exact wz rfl))|refine wq fun _ => ?_)
  exact Tri.retF ⟨rfl, rfl⟩ (by repeat (first|exact Sub.refl _|exact Sub.nil _|(apply Sub.cons; (first|exact K0|exact K1|exact K2|exact K3|exact K4|exact K5|exact K6|exact K7|exact K8|exact K9|exact K10|exact K11))|apply Sub.skip))
/-- how often: three times the bits of the nodes' number -/
def times (n : Int) : Nat := 3 * bl (max n 1).toNat
theorem times_spec {n : Int} (hn : n < 9223372036854775808) : FSpec E 12 [.sc (.i .i64 n)] [] (fun v L' => v = .sc (.i .i64 (times n)) ∧ L' = []) := by
  refine FSpec.of (Try.func12 : Try.prog.funcs[12]? = some Try.f12) (t12_eq _) fun F => ?_
  unfold t12
  have hm : maxI n 1 = (((max n 1).toNat : Nat) : Int) := by unfold maxI; split <;> omega
  have hb : (max n 1).toNat < 18446744073709551616 := by omega
  rw [hm, wr_u64 (by omega) (by omega)]
  refine Tri.call (len_bits_spec hb) (by repeat (first|exact Picks.nil|(apply Picks.cons; (first|exact K0|exact K1|exact K2|exact K3|exact K4|exact K5|exact K6|exact K7|exact K8|exact K9|exact K10|exact K11)))) ?_
  rintro v L' ⟨rfl, rfl⟩
  simp only [List.cons_append, List.nil_append]
  repeat (first|refine wa ?_|refine wb ?_|refine wc ?_|refine wd ?_|refine we ?_|refine wf ?_|refine wg ?_|refine wh rfl ?_|refine wi rfl ?_|refine wj rfl ?_|refine wk rfl ?_|refine wl rfl ?_|refine wm (by decide) ?_|refine wn ?_|refine wo ?_|refine wp (by decide) ?_|(apply Tri.ldE; (first|exact K0|exact K1|exact K2|exact K3|exact K4|exact K5|exact K6|exact K7|exact K8|exact K9|exact K10|exact K11); (exact rfl); (exact wz rfl))|(apply Tri.stE; (first|exact K0|exact K1|exact K2|exact K3|exact K4|exact K5|exact K6|exact K7|exact K8|exact K9|exact K10|exact K11); (exact rfl); (exact wz rfl))|(apply Tri.same; (first|exact K0|exact K1|exact K2|exact K3|exact K4|exact K5|exact K6|exact K7|exact K8|exact K9|exact K10|exact K11); (exact rfl); (exact wz rfl))|refine wq fun _ => ?_)
  have := bl_small hb
  rw [wr_i64 (by omega) (by omega)]
  exact Tri.retF ⟨by unfold times; congr 3, rfl⟩ (by repeat (first|exact Sub.refl _|exact Sub.nil _|(apply Sub.cons; (first|exact K0|exact K1|exact K2|exact K3|exact K4|exact K5|exact K6|exact K7|exact K8|exact K9|exact K10|exact K11))|apply Sub.skip))
theorem bl_double {k b : Nat} (hk : 0 < k) (hb : b ≤ 1) : bl (2 * k + b) = bl k + 1 := by
  have := bl_div (n := 2 * k + b) (k := 1) (by omega)
  rw [this, show (2 * k + b) / 2 ^ 1 = k by omega]; omega
theorem bl_mono {a b : Nat} (h : a ≤ b) : bl a ≤ bl b := bl_le.2 (Nat.lt_of_le_of_lt h (bl_le.1 (Nat.le_refl _)))
end Go.Proofs.Ytphhflkpdejodaa
