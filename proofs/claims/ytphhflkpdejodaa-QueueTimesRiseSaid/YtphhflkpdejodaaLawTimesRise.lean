/- The law QueueTimesRise on the abstract machine. -/
import Derived.Test.YtphhflkpdejodaaSpecB
import Derived.Test.YtphhflkpdejodaaEx
import Derived.Test.YtphhflkpdejodaaTreeE
import Derived.Test.YtphhflkpdejodaaFwZb
namespace Go.Proofs.Ytphhflkpdejodaa
open Go Go.Proofs.Ytphhflkpdejodaa.Fw
set_option linter.unusedVariables false
set_option linter.unusedSimpArgs false

theorem rise_run (u : Int) (hu0 : 0 ≤ u) (hu1 : u < 65536) : ∃ n H1, callA Try.prog T hs n 8 [.sc (.i .u16 u)] H0 = some (.sc (.b true), H1) := by
  refine law_of (E := E) (L := []) (Try.func8 : Try.prog.funcs[8]? = some Try.f8) (t8_eq _) (ex_of ex0 fun _ _ _ => trivial) ?_
  obtain ⟨k, hk⟩ : ∃ k : Nat, u + 1 = (k : Int) := ⟨(u + 1).toNat, by omega⟩
  have hk0 : 0 < k := by omega
  have hk1 : k ≤ 65536 := by omega
  have w1 : IntKind.wrap .i64 u = u := wr_i64 (by omega) (by omega)
  have w2 : IntKind.wrap .i64 ((1 : Int) + u) = (k : Int) := by rw [wr_i64 (by omega) (by omega)]; omega
  have w3 : IntKind.wrap .i64 ((2 : Int) * (k : Int)) = 2 * (k : Int) := wr_i64 (by omega) (by omega)
  have w4 : IntKind.wrap .i64 ((2 : Int) * (k : Int) + 1) = 2 * (k : Int) + 1 := wr_i64 (by omega) (by omega)
  have w5 : IntKind.wrap .i64 ((k : Int) + 1) = (k : Int) + 1 := wr_i64 (by omega) (by omega)
  have w6 : IntKind.wrap .i64 (0 - (k : Int)) = 0 - (k : Int) := wr_i64 (by omega) (by omega)
  have b64 : bl k ≤ 64 := bl_small (by omega)
  have e1 : (times (k : Int) : Int) = 3 * (bl k : Int) := by
    unfold times; rw [show (max (k : Int) 1).toNat = k by omega]; omega
  have e2 : (times (2 * (k : Int)) : Int) = 3 * (bl k : Int) + 3 := by
    unfold times; rw [show (max (2 * (k : Int)) 1).toNat = 2 * k + 0 by omega, bl_double hk0 (by omega)]; omega
  have e3 : (times (2 * (k : Int) + 1) : Int) = 3 * (bl k : Int) + 3 := by
    unfold times; rw [show (max (2 * (k : Int) + 1) 1).toNat = 2 * k + 1 by omega, bl_double hk0 (by omega)]; omega
  have e4 : 3 * (bl k : Int) ≤ (times ((k : Int) + 1) : Int) := by
    unfold times; rw [show (max ((k : Int) + 1) 1).toNat = k + 1 by omega]
    have := bl_mono (show k ≤ k + 1 by omega); omega
  have e5 : (times (0 - (k : Int)) : Int) = 3 := by
    unfold times; rw [show (max (0 - (k : Int)) 1).toNat = 1 by omega]; decide
  have w7 : IntKind.wrap .i64 (3 * (bl k : Int) + 3) = 3 * (bl k : Int) + 3 := wr_i64 (by omega) (by omega)
  simp only [w1, w2, w3, w4, w5, w6]
  repeat (first|refine wa ?_|refine wb ?_|refine wc ?_|refine wd ?_|refine we ?_|refine wf ?_|refine wg ?_|refine wh rfl ?_|refine wi rfl ?_|refine wj rfl ?_|refine wk rfl ?_|refine wl rfl ?_|refine wm (by decide) ?_|(apply Tri.ldE; (first|exact K0|exact K1|exact K2|exact K3|exact K4|exact K5|exact K6|exact K7|exact K8|exact K9|exact K10|exact K11); (exact rfl); (exact wz rfl))|(apply Tri.stE; (first|exact K0|exact K1|exact K2|exact K3|exact K4|exact K5|exact K6|exact K7|exact K8|exact K9|exact K10|exact K11); (exact rfl); (exact wz rfl))|(apply Tri.same; (first|exact K0|exact K1|exact K2|exact K3|exact K4|exact K5|exact K6|exact K7|exact K8|exact K9|exact K10|exact K11); (exact rfl); (exact wz rfl))|refine wq fun _ => ?_)
  refine Tri.cndF rfl ?_
  refine Tri.call (times_spec (by omega)) (by repeat (first|exact Picks.nil|(apply Picks.cons; (first|exact K0|exact K1|exact K2|exact K3|exact K4|exact K5|exact K6|exact K7|exact K8|exact K9|exact K10|exact K11)))) ?_
  rintro v L' ⟨rfl, rfl⟩
  rw [e1]
  simp only [List.cons_append, List.nil_append]
  repeat (first|refine wa ?_|refine wb ?_|refine wc ?_|refine wd ?_|refine we ?_|refine wf ?_|refine wg ?_|refine wh rfl ?_|refine wi rfl ?_|refine wj rfl ?_|refine wk rfl ?_|refine wl rfl ?_|refine wm (by decide) ?_|(apply Tri.ldE; (first|exact K0|exact K1|exact K2|exact K3|exact K4|exact K5|exact K6|exact K7|exact K8|exact K9|exact K10|exact K11); (exact rfl); (exact wz rfl))|(apply Tri.stE; (first|exact K0|exact K1|exact K2|exact K3|exact K4|exact K5|exact K6|exact K7|exact K8|exact K9|exact K10|exact K11); (exact rfl); (exact wz rfl))|(apply Tri.same; (first|exact K0|exact K1|exact K2|exact K3|exact K4|exact K5|exact K6|exact K7|exact K8|exact K9|exact K10|exact K11); (exact rfl); (exact wz rfl))|refine wq fun _ => ?_)
  simp only [w7]
  refine Tri.cndT rfl ?_
  refine Tri.brT rfl ?_
  refine Tri.cndT (by simp) ?_
  refine Tri.call (times_spec (by omega)) (by repeat (first|exact Picks.nil|(apply Picks.cons; (first|exact K0|exact K1|exact K2|exact K3|exact K4|exact K5|exact K6|exact K7|exact K8|exact K9|exact K10|exact K11)))) ?_
  rintro v L' ⟨rfl, rfl⟩
  rw [e2]
  simp only [List.cons_append, List.nil_append]
  repeat (first|refine wa ?_|refine wb ?_|refine wc ?_|refine wd ?_|refine we ?_|refine wf ?_|refine wg ?_|refine wh rfl ?_|refine wi rfl ?_|refine wj rfl ?_|refine wk rfl ?_|refine wl rfl ?_|refine wm (by decide) ?_|(apply Tri.ldE; (first|exact K0|exact K1|exact K2|exact K3|exact K4|exact K5|exact K6|exact K7|exact K8|exact K9|exact K10|exact K11); (exact rfl); (exact wz rfl))|(apply Tri.stE; (first|exact K0|exact K1|exact K2|exact K3|exact K4|exact K5|exact K6|exact K7|exact K8|exact K9|exact K10|exact K11); (exact rfl); (exact wz rfl))|(apply Tri.same; (first|exact K0|exact K1|exact K2|exact K3|exact K4|exact K5|exact K6|exact K7|exact K8|exact K9|exact K10|exact K11); (exact rfl); (exact wz rfl))|refine wq fun _ => ?_)
  refine Tri.cndT (by simp) ?_
  refine Tri.call (times_spec (by omega)) (by repeat (first|exact Picks.nil|(apply Picks.cons; (first|exact K0|exact K1|exact K2|exact K3|exact K4|exact K5|exact K6|exact K7|exact K8|exact K9|exact K10|exact K11)))) ?_
  rintro v L' ⟨rfl, rfl⟩
  rw [e3]
  simp only [List.cons_append, List.nil_append]
  repeat (first|refine wa ?_|refine wb ?_|refine wc ?_|refine wd ?_|refine we ?_|refine wf ?_|refine wg ?_|refine wh rfl ?_|refine wi rfl ?_|refine wj rfl ?_|refine wk rfl ?_|refine wl rfl ?_|refine wm (by decide) ?_|(apply Tri.ldE; (first|exact K0|exact K1|exact K2|exact K3|exact K4|exact K5|exact K6|exact K7|exact K8|exact K9|exact K10|exact K11); (exact rfl); (exact wz rfl))|(apply Tri.stE; (first|exact K0|exact K1|exact K2|exact K3|exact K4|exact K5|exact K6|exact K7|exact K8|exact K9|exact K10|exact K11); (exact rfl); (exact wz rfl))|(apply Tri.same; (first|exact K0|exact K1|exact K2|exact K3|exact K4|exact K5|exact K6|exact K7|exact K8|exact K9|exact K10|exact K11); (exact rfl); (exact wz rfl))|refine wq fun _ => ?_)
  refine Tri.cndT (by simp) ?_
  refine Tri.call (times_spec (by omega)) (by repeat (first|exact Picks.nil|(apply Picks.cons; (first|exact K0|exact K1|exact K2|exact K3|exact K4|exact K5|exact K6|exact K7|exact K8|exact K9|exact K10|exact K11)))) ?_
  rintro v L' ⟨rfl, rfl⟩
  simp only [List.cons_append, List.nil_append]
  repeat (first|refine wa ?_|refine wb ?_|refine wc ?_|refine wd ?_|refine we ?_|refine wf ?_|refine wg ?_|refine wh rfl ?_|refine wi rfl ?_|refine wj rfl ?_|refine wk rfl ?_|refine wl rfl ?_|refine wm (by decide) ?_|(apply Tri.ldE; (first|exact K0|exact K1|exact K2|exact K3|exact K4|exact K5|exact K6|exact K7|exact K8|exact K9|exact K10|exact K11); (exact rfl); (exact wz rfl))|(apply Tri.stE; (first|exact K0|exact K1|exact K2|exact K3|exact K4|exact K5|exact K6|exact K7|exact K8|exact K9|exact K10|exact K11); (exact rfl); (exact wz rfl))|(apply Tri.same; (first|exact K0|exact K1|exact K2|exact K3|exact K4|exact K5|exact K6|exact K7|exact K8|exact K9|exact K10|exact K11); (exact rfl); (exact wz rfl))|refine wq fun _ => ?_)
  refine Tri.cndT (by simp; omega) ?_
  refine Tri.call (times_spec (by omega)) (by repeat (first|exact Picks.nil|(apply Picks.cons; (first|exact K0|exact K1|exact K2|exact K3|exact K4|exact K5|exact K6|exact K7|exact K8|exact K9|exact K10|exact K11)))) ?_
  rintro v L' ⟨rfl, rfl⟩
  rw [e5]
  simp only [List.cons_append, List.nil_append]
  repeat (first|refine wa ?_|refine wb ?_|refine wc ?_|refine wd ?_|refine we ?_|refine wf ?_|refine wg ?_|refine wh rfl ?_|refine wi rfl ?_|refine wj rfl ?_|refine wk rfl ?_|refine wl rfl ?_|refine wm (by decide) ?_|refine wn ?_|refine wo ?_|refine wp (by decide) ?_|(apply Tri.ldE; (first|exact K0|exact K1|exact K2|exact K3|exact K4|exact K5|exact K6|exact K7|exact K8|exact K9|exact K10|exact K11); (exact rfl); (exact wz rfl))|(apply Tri.stE; (first|exact K0|exact K1|exact K2|exact K3|exact K4|exact K5|exact K6|exact K7|exact K8|exact K9|exact K10|exact K11); (exact rfl); (exact wz rfl))|(apply Tri.same; (first|exact K0|exact K1|exact K2|exact K3|exact K4|exact K5|exact K6|exact K7|exact K8|exact K9|exact K10|exact K11); (exact rfl); (exact wz rfl))|refine wq fun _ => ?_)
  exact Tri.retF (L1 := []) rfl (Sub.nil _)
end Go.Proofs.Ytphhflkpdejodaa
