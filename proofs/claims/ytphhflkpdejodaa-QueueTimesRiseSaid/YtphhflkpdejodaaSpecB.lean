/- How often something is told on. -/
import Derived.Test.YtphhflkpdejodaaQA
namespace Go.Proofs.Ytphhflkpdejodaa
open Go Go.Proofs.Ytphhflkpdejodaa.Fw
set_option linter.unusedVariables false
set_option linter.unusedSimpArgs false

/-- how often: three times the bits of the nodes' number -/
def times (n : Int) : Nat := 3 * bl (max n 1).toNat
theorem times_spec {n : Int} (hn : n < 9223372036854775808) : FSpec E 12 [.sc (.i .i64 n)] [] (fun v L' => v = .sc (.i .i64 (times n)) ∧ L' = []) := by
  refine FSpec.of (Try.func12 : Try.prog.funcs[12]? = some Try.f12) (t12_eq _) fun F => ?_
  unfold t12
  have hm : maxI n 1 = (((max n 1).toNat : Nat) : Int) := by unfold maxI; split <;> omega
  have hb : (max n 1).toNat < 18446744073709551616 := by omega
  rw [hm, wr_u64 (by omega) (by omega)]
  refine Tri.call (blen_spec bOk hb) (by repeat (first|exact Picks.nil|(apply Picks.cons; (first|exact K0|exact K1|exact K2|exact K3|exact K4|exact K5|exact K6|exact K7|exact K8|exact K9|exact K10|exact K11)))) ?_
  rintro v L' ⟨rfl, rfl⟩
  simp only [List.cons_append, List.nil_append]
  repeat (first|refine wa ?_|refine wb ?_|refine wc ?_|refine wd ?_|refine we ?_|refine wf ?_|refine wg ?_|refine wh rfl ?_|refine wi rfl ?_|refine wj rfl ?_|refine wk rfl ?_|refine wl rfl ?_|refine wm (by decide) ?_|refine wn ?_|refine wo ?_|refine wp (by decide) ?_|(apply Tri.ldE; (first|exact K0|exact K1|exact K2|exact K3|exact K4|exact K5|exact K6|exact K7|exact K8|exact K9|exact K10|exact K11); (exact rfl); (exact wz rfl))|(apply Tri.stE; (first|exact K0|exact K1|exact K2|exact K3|exact K4|exact K5|exact K6|exact K7|exact K8|exact K9|exact K10|exact K11); (exact rfl); (exact wz rfl))|(apply Tri.same; (first|exact K0|exact K1|exact K2|exact K3|exact K4|exact K5|exact K6|exact K7|exact K8|exact K9|exact K10|exact K11); (exact rfl); (exact wz rfl))|refine wq fun _ => ?_)
  have := bl_small hb
  rw [wr_i64 (by omega) (by omega)]
  exact Tri.retF ⟨by unfold times; congr 3, rfl⟩ (by repeat (first|exact Sub.refl _|exact Sub.nil _|(apply Sub.cons; (first|exact K0|exact K1|exact K2|exact K3|exact K4|exact K5|exact K6|exact K7|exact K8|exact K9|exact K10|exact K11))|apply Sub.skip))
end Go.Proofs.Ytphhflkpdejodaa
