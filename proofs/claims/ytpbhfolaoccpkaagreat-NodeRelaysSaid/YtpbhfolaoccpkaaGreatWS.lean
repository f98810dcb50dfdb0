/- ref06's inner functions, and its Right of a relay's message. -/
import Derived.Test.YtpbhfolaoccpkaaGreatWQ
namespace Go.Proofs.YtpbhfolaoccpkaaGreat
open Go Go.Proofs.YtpbhfolaoccpkaaGreat.Fw
set_option linter.unusedVariables false
set_option linter.unusedSimpArgs false
set_option maxRecDepth 20000
def b1E : Enc Int where
  z := 1
  e n := [.i .u8 n]
  len _ := rfl
theorem b1_all : ∀ l : List Int, b1E.all l = l.map (Sc.i .u8)
  | [] => rfl
  | x :: l => by rw [Enc.all_cons, b1_all l]; rfl
def sNB : ByteArray := ⟨⟨[110, 98]⟩⟩
theorem has92 : FSpec E 92 [.sc (.i .i64 5)] [] (fun v L' => v = .tu [.sc (.s sNB), .sc (.b true)] ∧ L' = []) := by
  refine FSpec.of (Tryz.func92 : Tryz.prog.funcs[92]? = some Tryz.f92) (t92_eq _) fun F => ?_
  unfold t92
  refine Tri.cndF rfl ?_
  refine Tri.cndF rfl ?_
  refine wq fun a => ?_
  refine Tri.ixS rfl (by decide) (by show (5 : Int) < 17; decide) ?_
  repeat (first|refine wa ?_|refine wb ?_|refine wc ?_|refine wd ?_|refine we ?_|refine wf ?_|refine wg ?_|refine wh rfl ?_|refine wi rfl ?_|refine wj rfl ?_|refine wk rfl ?_|refine wl rfl ?_|refine wm (by decide) ?_|refine wr ?_|refine ws ?_|refine wt ?_|refine wn ?_|refine wo ?_|refine wp (by decide) ?_|(apply Tri.ldE; (first|exact K0|exact K1|exact K2|exact K3|exact K4|exact K5|exact K6|exact K7|exact K8|exact K9|exact K10|exact K11); (exact rfl); (exact wz rfl))|(apply Tri.stE; (first|exact K0|exact K1|exact K2|exact K3|exact K4|exact K5|exact K6|exact K7|exact K8|exact K9|exact K10|exact K11); (exact rfl); (exact wz rfl))|(apply Tri.same; (first|exact K0|exact K1|exact K2|exact K3|exact K4|exact K5|exact K6|exact K7|exact K8|exact K9|exact K10|exact K11); (exact rfl); (exact wz rfl))|refine wq fun _ => ?_)
  exact Tri.retF ⟨rfl, rfl⟩ (by repeat (first|exact Sub.refl _|exact Sub.nil _|(apply Sub.cons; (first|exact K0|exact K1|exact K2|exact K3|exact K4|exact K5|exact K6|exact K7|exact K8|exact K9|exact K10|exact K11))|apply Sub.skip))
theorem in_spec (c : Int) : FSpec E 186 [.sc (.s sNB), .sc (.i .u8 c)] [] (fun v L' => v = .sc (.b ((110 == c) || (98 == c))) ∧ L' = []) := by
  refine FSpec.of (Tryz.func186 : Tryz.prog.funcs[186]? = some Tryz.f186) (t186_eq _ _) fun F => ?_
  unfold t186
  refine Tri.loop (I := fun m l' L => ∃ j : Nat, m = 3 - j ∧ j ≤ 2 ∧ (1 ≤ j → (110 : Int) ≠ c) ∧ (2 ≤ j → (98 : Int) ≠ c) ∧ l' = [.sc (.s sNB), .sc (.i .u8 c), .sc (.i .i64 (j : Int))] ∧ L = F) (m := 3) (L0 := F) ⟨0, rfl, by omega, by omega, by omega, rfl, rfl⟩ (Sub.refl _) ?_
  rintro m l' L ⟨j, rfl, hj, h1, h2, rfl, rfl⟩
  unfold t186_b0
  repeat (first|refine wa ?_|refine wb ?_|refine wc ?_|refine wd ?_|refine we ?_|refine wf ?_|refine wg ?_|refine wh rfl ?_|refine wi rfl ?_|refine wj rfl ?_|refine wk rfl ?_|refine wl rfl ?_|refine wm (by decide) ?_|refine wr ?_|refine ws ?_|refine wt ?_|(apply Tri.ldE; (first|exact K0|exact K1|exact K2|exact K3|exact K4|exact K5|exact K6|exact K7|exact K8|exact K9|exact K10|exact K11); (exact rfl); (exact wz rfl))|(apply Tri.stE; (first|exact K0|exact K1|exact K2|exact K3|exact K4|exact K5|exact K6|exact K7|exact K8|exact K9|exact K10|exact K11); (exact rfl); (exact wz rfl))|(apply Tri.same; (first|exact K0|exact K1|exact K2|exact K3|exact K4|exact K5|exact K6|exact K7|exact K8|exact K9|exact K10|exact K11); (exact rfl); (exact wz rfl))|refine wq fun _ => ?_)
  rcases (by omega : j = 0 ∨ j = 1 ∨ j = 2) with rfl | rfl | rfl
  · refine Tri.cndT rfl ?_
    refine Tri.brT rfl ?_
    rw [show strAt sNB (Int.toNat ((0 : Nat) : Int)) = 110 from rfl]
    refine Tri.cnd (fun hc => ?_) (fun hc => ?_)
    · refine Tri.exit (by decide) ?_
      unfold t186_k0
      repeat (first|refine wa ?_|refine wb ?_|refine wc ?_|refine wd ?_|refine we ?_|refine wf ?_|refine wg ?_|refine wh rfl ?_|refine wi rfl ?_|refine wj rfl ?_|refine wk rfl ?_|refine wl rfl ?_|refine wm (by decide) ?_|refine wr ?_|refine ws ?_|refine wt ?_|(apply Tri.ldE; (first|exact K0|exact K1|exact K2|exact K3|exact K4|exact K5|exact K6|exact K7|exact K8|exact K9|exact K10|exact K11); (exact rfl); (exact wz rfl))|(apply Tri.stE; (first|exact K0|exact K1|exact K2|exact K3|exact K4|exact K5|exact K6|exact K7|exact K8|exact K9|exact K10|exact K11); (exact rfl); (exact wz rfl))|(apply Tri.same; (first|exact K0|exact K1|exact K2|exact K3|exact K4|exact K5|exact K6|exact K7|exact K8|exact K9|exact K10|exact K11); (exact rfl); (exact wz rfl))|refine wq fun _ => ?_)
      refine Tri.retF ⟨?_, rfl⟩ (Sub.refl _)
      have : (110 : Int) = c := by simpa using hc
      simp [this]
    · refine Tri.back (m' := 2) (by omega) ⟨1, rfl, by omega, fun _ => ?_, by omega, rfl, rfl⟩ (Sub.refl _)
      have : ¬ (110 : Int) = c := by simpa using hc
      exact this
  · refine Tri.cndT rfl ?_
    refine Tri.brT rfl ?_
    rw [show strAt sNB (Int.toNat ((1 : Nat) : Int)) = 98 from rfl]
    refine Tri.cnd (fun hc => ?_) (fun hc => ?_)
    · refine Tri.exit (by decide) ?_
      unfold t186_k0
      repeat (first|refine wa ?_|refine wb ?_|refine wc ?_|refine wd ?_|refine we ?_|refine wf ?_|refine wg ?_|refine wh rfl ?_|refine wi rfl ?_|refine wj rfl ?_|refine wk rfl ?_|refine wl rfl ?_|refine wm (by decide) ?_|refine wr ?_|refine ws ?_|refine wt ?_|(apply Tri.ldE; (first|exact K0|exact K1|exact K2|exact K3|exact K4|exact K5|exact K6|exact K7|exact K8|exact K9|exact K10|exact K11); (exact rfl); (exact wz rfl))|(apply Tri.stE; (first|exact K0|exact K1|exact K2|exact K3|exact K4|exact K5|exact K6|exact K7|exact K8|exact K9|exact K10|exact K11); (exact rfl); (exact wz rfl))|(apply Tri.same; (first|exact K0|exact K1|exact K2|exact K3|exact K4|exact K5|exact K6|exact K7|exact K8|exact K9|exact K10|exact K11); (exact rfl); (exact wz rfl))|refine wq fun _ => ?_)
      refine Tri.retF ⟨?_, rfl⟩ (Sub.refl _)
      have : (98 : Int) = c := by simpa using hc
      simp [this]
    · refine Tri.back (m' := 1) (by omega) ⟨2, rfl, by omega, fun _ => h1 (by omega), fun _ => ?_, rfl, rfl⟩ (Sub.refl _)
      have : ¬ (98 : Int) = c := by simpa using hc
      exact this
  · refine Tri.cndF rfl ?_
    refine Tri.exit (by decide) ?_
    unfold t186_k0
    repeat (first|refine wa ?_|refine wb ?_|refine wc ?_|refine wd ?_|refine we ?_|refine wf ?_|refine wg ?_|refine wh rfl ?_|refine wi rfl ?_|refine wj rfl ?_|refine wk rfl ?_|refine wl rfl ?_|refine wm (by decide) ?_|refine wr ?_|refine ws ?_|refine wt ?_|(apply Tri.ldE; (first|exact K0|exact K1|exact K2|exact K3|exact K4|exact K5|exact K6|exact K7|exact K8|exact K9|exact K10|exact K11); (exact rfl); (exact wz rfl))|(apply Tri.stE; (first|exact K0|exact K1|exact K2|exact K3|exact K4|exact K5|exact K6|exact K7|exact K8|exact K9|exact K10|exact K11); (exact rfl); (exact wz rfl))|(apply Tri.same; (first|exact K0|exact K1|exact K2|exact K3|exact K4|exact K5|exact K6|exact K7|exact K8|exact K9|exact K10|exact K11); (exact rfl); (exact wz rfl))|refine wq fun _ => ?_)
    refine Tri.retF ⟨?_, rfl⟩ (Sub.refl _)
    have a1 := h1 (by omega)
    have a2 := h2 (by omega)
    simp [a1, a2]
theorem none120 : FSpec E 120 [.ag [.i .u32 0, .i .u16 0]] [] (fun v L' => v = .sc (.b true) ∧ L' = []) := by
  refine FSpec.of (Tryz.func120 : Tryz.prog.funcs[120]? = some Tryz.f120) (t120_eq _ _) fun F => ?_
  unfold t120
  repeat (first|refine wa ?_|refine wb ?_|refine wc ?_|refine wd ?_|refine we ?_|refine wf ?_|refine wg ?_|refine wh rfl ?_|refine wi rfl ?_|refine wj rfl ?_|refine wk rfl ?_|refine wl rfl ?_|refine wm (by decide) ?_|refine wr ?_|refine ws ?_|refine wt ?_|refine wn ?_|refine wo ?_|refine wp (by decide) ?_|(apply Tri.ldE; (first|exact K0|exact K1|exact K2|exact K3|exact K4|exact K5|exact K6|exact K7|exact K8|exact K9|exact K10|exact K11); (exact rfl); (exact wz rfl))|(apply Tri.stE; (first|exact K0|exact K1|exact K2|exact K3|exact K4|exact K5|exact K6|exact K7|exact K8|exact K9|exact K10|exact K11); (exact rfl); (exact wz rfl))|(apply Tri.same; (first|exact K0|exact K1|exact K2|exact K3|exact K4|exact K5|exact K6|exact K7|exact K8|exact K9|exact K10|exact K11); (exact rfl); (exact wz rfl))|refine wq fun _ => ?_)
  refine Tri.cndT rfl ?_
  exact Tri.retF ⟨rfl, rfl⟩ (by repeat (first|exact Sub.refl _|exact Sub.nil _|(apply Sub.cons; (first|exact K0|exact K1|exact K2|exact K3|exact K4|exact K5|exact K6|exact K7|exact K8|exact K9|exact K10|exact K11))|apply Sub.skip))
theorem right121 : FSpec E 121 [.sc (.cx .f64 0 0)] [] (fun v L' => v = .sc (.b true) ∧ L' = []) := pure_run (n := 30) fun H => by kernel_rfl
theorem pos187 : FSpec E 187 [.sc (.cx .f64 0 0)] [] (fun v L' => v = .sc (.b true) ∧ L' = []) := pure_run (n := 30) fun H => by kernel_rfl
theorem right91 {k : Int} {X : ByteArray} (hk : kOk k) (h1 : 1 ≤ X.size) (h2 : X.size ≤ 900) : FSpec E 91 [.ag (mB k X)] [] (fun v L' => v = .sc (.b true) ∧ L' = []) := by
  refine FSpec.of (t := fd (T91 k X) []) (Tryz.func91 : Tryz.prog.funcs[91]? = some Tryz.f91) (fd_nil _).symm fun F => ?_
  refine Fd_al (s91_0 X hk) fun a => ?_
  simp only [List.cons_append, List.nil_append]
  refine Fd_ld (c := mB k X) (l := [.i .i64 5]) (s91_1 X hk a) (by first|exact K0|exact K1|exact K2|exact K3|exact K4|exact K5|exact K6|exact K7|exact K8|exact K9|exact K10|exact K11) rfl (by simp [mB]) ?_
  simp only [List.cons_append, List.nil_append]
  refine Fd_call (v0 := .tu [.sc (.s ⟨⟨[110, 98]⟩⟩), .sc (.b true)]) (s91_2 X hk a) has92 (fun v L' h => h) ?_
  simp only [List.cons_append, List.nil_append]
  refine Fd_ld (c := mB k X) (l := [.i .i64 9]) (s91_3 X hk a) (by first|exact K0|exact K1|exact K2|exact K3|exact K4|exact K5|exact K6|exact K7|exact K8|exact K9|exact K10|exact K11) rfl (by simp [mB]) ?_
  simp only [List.cons_append, List.nil_append]
  refine Fd_ld (c := mB k X) (l := [.i .i64 9]) (s91_4 X hk a) (by first|exact K0|exact K1|exact K2|exact K3|exact K4|exact K5|exact K6|exact K7|exact K8|exact K9|exact K10|exact K11) rfl (by simp [mB]) ?_
  simp only [List.cons_append, List.nil_append]
  refine Fd_call (v0 := .sc (.b true)) (s91_5 X hk a) (in_spec 110) (fun v L' h => h) ?_
  simp only [List.cons_append, List.nil_append]
  refine Fd_call (v0 := .sc (.b false)) (s91_6 X hk a) (in_spec 97) (fun v L' h => h) ?_
  simp only [List.cons_append, List.nil_append]
  refine Fd_call (v0 := .sc (.b false)) (s91_7 X hk a) (in_spec 112) (fun v L' h => h) ?_
  simp only [List.cons_append, List.nil_append]
  refine Fd_call (v0 := .sc (.b false)) (s91_8 X hk a) (in_spec 102) (fun v L' h => h) ?_
  simp only [List.cons_append, List.nil_append]
  refine Fd_call (v0 := .sc (.b true)) (s91_9 X hk a) (in_spec 98) (fun v L' h => h) ?_
  simp only [List.cons_append, List.nil_append]
  refine Fd_call (v0 := .sc (.b false)) (s91_10 X hk a) (in_spec 114) (fun v L' h => h) ?_
  simp only [List.cons_append, List.nil_append]
  refine Fd_ld (c := mB k X) (l := [.i .i64 k]) (s91_11 X hk a) (by first|exact K0|exact K1|exact K2|exact K3|exact K4|exact K5|exact K6|exact K7|exact K8|exact K9|exact K10|exact K11) rfl (by simp [mB]) ?_
  simp only [List.cons_append, List.nil_append]
  refine Fd_ld (c := mB k X) (l := [.i .i64 k]) (s91_12 X hk a) (by first|exact K0|exact K1|exact K2|exact K3|exact K4|exact K5|exact K6|exact K7|exact K8|exact K9|exact K10|exact K11) rfl (by simp [mB]) ?_
  simp only [List.cons_append, List.nil_append]
  refine Fd_ld (c := mB k X) (l := [.i .u32 0, .i .u16 0]) (s91_13 X hk a) (by first|exact K0|exact K1|exact K2|exact K3|exact K4|exact K5|exact K6|exact K7|exact K8|exact K9|exact K10|exact K11) rfl (by simp [mB]) ?_
  simp only [List.cons_append, List.nil_append]
  refine Fd_call (v0 := .sc (.b true)) (s91_14 X hk a) none120 (fun v L' h => h) ?_
  simp only [List.cons_append, List.nil_append]
  refine Fd_ld (c := mB k X) (l := [.i .u32 0, .i .u16 0]) (s91_15 X hk a) (by first|exact K0|exact K1|exact K2|exact K3|exact K4|exact K5|exact K6|exact K7|exact K8|exact K9|exact K10|exact K11) rfl (by simp [mB]) ?_
  simp only [List.cons_append, List.nil_append]
  refine Fd_ld (c := mB k X) (l := [.cx .f64 0 0]) (s91_16 X hk a) (by first|exact K0|exact K1|exact K2|exact K3|exact K4|exact K5|exact K6|exact K7|exact K8|exact K9|exact K10|exact K11) rfl (by simp [mB]) ?_
  simp only [List.cons_append, List.nil_append]
  refine Fd_call (v0 := .sc (.b true)) (s91_17 X hk a) right121 (fun v L' h => h) ?_
  simp only [List.cons_append, List.nil_append]
  refine Fd_ld (c := mB k X) (l := [.cx .f64 0 0]) (s91_18 X hk a) (by first|exact K0|exact K1|exact K2|exact K3|exact K4|exact K5|exact K6|exact K7|exact K8|exact K9|exact K10|exact K11) rfl (by simp [mB]) ?_
  simp only [List.cons_append, List.nil_append]
  refine Fd_call (v0 := .sc (.b true)) (s91_19 X hk a) pos187 (fun v L' h => h) ?_
  simp only [List.cons_append, List.nil_append]
  refine Fd_ld (c := mB k X) (l := [.cx .f64 0 0]) (s91_20 X hk a) (by first|exact K0|exact K1|exact K2|exact K3|exact K4|exact K5|exact K6|exact K7|exact K8|exact K9|exact K10|exact K11) rfl (by simp [mB]) ?_
  simp only [List.cons_append, List.nil_append]
  refine Fd_ld (c := mB k X) (l := [.b false]) (s91_21 X hk a) (by first|exact K0|exact K1|exact K2|exact K3|exact K4|exact K5|exact K6|exact K7|exact K8|exact K9|exact K10|exact K11) rfl (by simp [mB]) ?_
  simp only [List.cons_append, List.nil_append]
  refine Fd_ld (c := mB k X) (l := [.s X]) (s91_22 X hk a) (by first|exact K0|exact K1|exact K2|exact K3|exact K4|exact K5|exact K6|exact K7|exact K8|exact K9|exact K10|exact K11) rfl (by simp [mB]) ?_
  simp only [List.cons_append, List.nil_append]
  rw [s91_z X hk a]
  unfold t91z
  repeat (first|refine wa ?_|refine wb ?_|refine wc ?_|refine wd ?_|refine we ?_|refine wf ?_|refine wg ?_|refine wh rfl ?_|refine wi rfl ?_|refine wj rfl ?_|refine wk rfl ?_|refine wl rfl ?_|refine wm (by decide) ?_|refine wr ?_|refine ws ?_|refine wt ?_|(apply Tri.ldE; (first|exact K0|exact K1|exact K2|exact K3|exact K4|exact K5|exact K6|exact K7|exact K8|exact K9|exact K10|exact K11); (exact rfl); (exact wz rfl))|(apply Tri.stE; (first|exact K0|exact K1|exact K2|exact K3|exact K4|exact K5|exact K6|exact K7|exact K8|exact K9|exact K10|exact K11); (exact rfl); (exact wz rfl))|(apply Tri.same; (first|exact K0|exact K1|exact K2|exact K3|exact K4|exact K5|exact K6|exact K7|exact K8|exact K9|exact K10|exact K11); (exact rfl); (exact wz rfl))|refine wq fun _ => ?_)
  refine Tri.cndF (by simp; omega) ?_
  repeat (first|refine wa ?_|refine wb ?_|refine wc ?_|refine wd ?_|refine we ?_|refine wf ?_|refine wg ?_|refine wh rfl ?_|refine wi rfl ?_|refine wj rfl ?_|refine wk rfl ?_|refine wl rfl ?_|refine wm (by decide) ?_|refine wr ?_|refine ws ?_|refine wt ?_|refine wn ?_|refine wo ?_|refine wp (by decide) ?_|(apply Tri.ldE; (first|exact K0|exact K1|exact K2|exact K3|exact K4|exact K5|exact K6|exact K7|exact K8|exact K9|exact K10|exact K11); (exact rfl); (exact wz rfl))|(apply Tri.stE; (first|exact K0|exact K1|exact K2|exact K3|exact K4|exact K5|exact K6|exact K7|exact K8|exact K9|exact K10|exact K11); (exact rfl); (exact wz rfl))|(apply Tri.same; (first|exact K0|exact K1|exact K2|exact K3|exact K4|exact K5|exact K6|exact K7|exact K8|exact K9|exact K10|exact K11); (exact rfl); (exact wz rfl))|refine wq fun _ => ?_)
  refine Tri.cndF (by simp; omega) ?_
  repeat (first|refine wa ?_|refine wb ?_|refine wc ?_|refine wd ?_|refine we ?_|refine wf ?_|refine wg ?_|refine wh rfl ?_|refine wi rfl ?_|refine wj rfl ?_|refine wk rfl ?_|refine wl rfl ?_|refine wm (by decide) ?_|refine wr ?_|refine ws ?_|refine wt ?_|refine wn ?_|refine wo ?_|refine wp (by decide) ?_|(apply Tri.ldE; (first|exact K0|exact K1|exact K2|exact K3|exact K4|exact K5|exact K6|exact K7|exact K8|exact K9|exact K10|exact K11); (exact rfl); (exact wz rfl))|(apply Tri.stE; (first|exact K0|exact K1|exact K2|exact K3|exact K4|exact K5|exact K6|exact K7|exact K8|exact K9|exact K10|exact K11); (exact rfl); (exact wz rfl))|(apply Tri.same; (first|exact K0|exact K1|exact K2|exact K3|exact K4|exact K5|exact K6|exact K7|exact K8|exact K9|exact K10|exact K11); (exact rfl); (exact wz rfl))|refine wq fun _ => ?_)
  refine Tri.cndF rfl ?_
  refine Tri.loop (I := fun m l' L => l' = [.sc (.p (some (a, 0))), .sc (.i .i64 0)] ∧ L = pt a (mB k X) :: F) (m := 0) (L0 := pt a (mB k X) :: F) ⟨rfl, rfl⟩ (by repeat (first|exact Sub.refl _|exact Sub.nil _|(apply Sub.cons; (first|exact K0|exact K1|exact K2|exact K3|exact K4|exact K5|exact K6|exact K7|exact K8|exact K9|exact K10|exact K11))|apply Sub.skip)) ?_
  rintro m l' L ⟨rfl, rfl⟩
  unfold t91z_b69
  repeat (first|refine wa ?_|refine wb ?_|refine wc ?_|refine wd ?_|refine we ?_|refine wf ?_|refine wg ?_|refine wh rfl ?_|refine wi rfl ?_|refine wj rfl ?_|refine wk rfl ?_|refine wl rfl ?_|refine wm (by decide) ?_|refine wr ?_|refine ws ?_|refine wt ?_|refine wn ?_|refine wo ?_|refine wp (by decide) ?_|(apply Tri.ldE; (first|exact K0|exact K1|exact K2|exact K3|exact K4|exact K5|exact K6|exact K7|exact K8|exact K9|exact K10|exact K11); (exact rfl); (exact wz rfl))|(apply Tri.stE; (first|exact K0|exact K1|exact K2|exact K3|exact K4|exact K5|exact K6|exact K7|exact K8|exact K9|exact K10|exact K11); (exact rfl); (exact wz rfl))|(apply Tri.same; (first|exact K0|exact K1|exact K2|exact K3|exact K4|exact K5|exact K6|exact K7|exact K8|exact K9|exact K10|exact K11); (exact rfl); (exact wz rfl))|refine wq fun _ => ?_)
  exact Tri.retF ⟨rfl, rfl⟩ (by repeat (first|exact Sub.refl _|exact Sub.nil _|(apply Sub.cons; (first|exact K0|exact K1|exact K2|exact K3|exact K4|exact K5|exact K6|exact K7|exact K8|exact K9|exact K10|exact K11))|apply Sub.skip))
/-- Number: so many bytes, the high ones ahead -/
theorem num93 {n : Int} {z : Nat} (h1 : 1 ≤ z) (h2 : z ≤ 8) : FSpec E 93 [.sc (.i .u64 n), .sc (.i .i64 (z : Int))] [] (fun v L' => v = .sc (.s (bs (numL n z))) ∧ L' = []) := by
  refine FSpec.of (Tryz.func93 : Tryz.prog.funcs[93]? = some Tryz.f93) (t93_eq _ _) fun F => ?_
  unfold t93
  refine Tri.cndF (by simp; omega) ?_
  refine Tri.cndF (by simp; omega) ?_
  rw [wr_i64 (n := (z : Int) - 1) (by omega) (by omega)]
  refine Tri.mkN false b1E ?_
  refine Tri.loop (I := fun m l' L => ∃ (k : Nat) (o : Option SlD), m = z - k ∧ k ≤ z ∧ l' = [.sc (.i .u64 n), .sc (.sl o), .sc (.i .i64 ((z : Int) - 1 - k))] ∧ L = .sl false b1E o ((List.range k).map fun j => IntKind.wrap .u8 (Int.fdiv n ((2 : Int) ^ (8 * (z - 1 - j))))) :: F)
    (L0 := .sl false b1E none [] :: F) ⟨0, none, rfl, by omega, by simp, rfl⟩ (by repeat (first|exact Sub.refl _|exact Sub.nil _|(apply Sub.cons; (first|exact K0|exact K1|exact K2|exact K3|exact K4|exact K5|exact K6|exact K7|exact K8|exact K9|exact K10|exact K11))|apply Sub.skip)) ?_
  rintro m l' L ⟨k, o, rfl, hk, rfl, rfl⟩
  unfold t93_b0
  repeat (first|refine wa ?_|refine wb ?_|refine wc ?_|refine wd ?_|refine we ?_|refine wf ?_|refine wg ?_|refine wh rfl ?_|refine wi rfl ?_|refine wj rfl ?_|refine wk rfl ?_|refine wl rfl ?_|refine wm (by decide) ?_|refine wr ?_|refine ws ?_|refine wt ?_|(apply Tri.ldE; (first|exact K0|exact K1|exact K2|exact K3|exact K4|exact K5|exact K6|exact K7|exact K8|exact K9|exact K10|exact K11); (exact rfl); (exact wz rfl))|(apply Tri.stE; (first|exact K0|exact K1|exact K2|exact K3|exact K4|exact K5|exact K6|exact K7|exact K8|exact K9|exact K10|exact K11); (exact rfl); (exact wz rfl))|(apply Tri.same; (first|exact K0|exact K1|exact K2|exact K3|exact K4|exact K5|exact K6|exact K7|exact K8|exact K9|exact K10|exact K11); (exact rfl); (exact wz rfl))|refine wq fun _ => ?_)
  refine Tri.cnd (fun hc => ?_) (fun hc => ?_)
  · have hc : k < z := by simp at hc; omega
    rw [wr_i64 (n := (8 : Int) * ((z : Int) - 1 - k)) (by omega) (by omega), wr_i64 (n := (z : Int) - 1 - k - 1) (by omega) (by omega)]
    refine Tri.brT (by simp; omega) ?_
    rw [show min ((8 : Int) * ((z : Int) - 1 - k)).toNat 64 = 8 * (z - 1 - k) by omega]
    refine wq fun a => ?_
    refine Tri.ldsD (d := ⟨a, 0, 1, 1, 1⟩) (by first|exact K0|exact K1|exact K2|exact K3|exact K4|exact K5|exact K6|exact K7|exact K8|exact K9|exact K10|exact K11) rfl (Nat.le_refl _) (by simp [slN]) ?_
    refine Tri.app (T := b1E) [IntKind.wrap .u8 (Int.fdiv n ((2 : Int) ^ (8 * (z - 1 - k))))] (by first|exact K0|exact K1|exact K2|exact K3|exact K4|exact K5|exact K6|exact K7|exact K8|exact K9|exact K10|exact K11) rfl rfl rfl (by decide) (by decide) (by simp [appBound]; omega) ?_
    intro o'
    refine Tri.back (m' := z - (k + 1)) (by omega) ⟨k + 1, o', rfl, by omega, by rw [show (z : Int) - 1 - k - 1 = (z : Int) - 1 - ((k + 1 : Nat) : Int) by omega], rfl⟩ ?_
    rw [List.range_succ, List.map_append]
    exact (by repeat (first|exact Sub.refl _|exact Sub.nil _|(apply Sub.cons; (first|exact K0|exact K1|exact K2|exact K3|exact K4|exact K5|exact K6|exact K7|exact K8|exact K9|exact K10|exact K11))|apply Sub.skip))
  · have hc : k = z := by simp at hc; omega
    subst hc
    refine Tri.exit (by decide) ?_
    unfold t93_k0
    repeat (first|refine wa ?_|refine wb ?_|refine wc ?_|refine wd ?_|refine we ?_|refine wf ?_|refine wg ?_|refine wh rfl ?_|refine wi rfl ?_|refine wj rfl ?_|refine wk rfl ?_|refine wl rfl ?_|refine wm (by decide) ?_|refine wr ?_|refine ws ?_|refine wt ?_|(apply Tri.ldE; (first|exact K0|exact K1|exact K2|exact K3|exact K4|exact K5|exact K6|exact K7|exact K8|exact K9|exact K10|exact K11); (exact rfl); (exact wz rfl))|(apply Tri.stE; (first|exact K0|exact K1|exact K2|exact K3|exact K4|exact K5|exact K6|exact K7|exact K8|exact K9|exact K10|exact K11); (exact rfl); (exact wz rfl))|(apply Tri.same; (first|exact K0|exact K1|exact K2|exact K3|exact K4|exact K5|exact K6|exact K7|exact K8|exact K9|exact K10|exact K11); (exact rfl); (exact wz rfl))|refine wq fun _ => ?_)
    refine Tri.lds (by first|exact K0|exact K1|exact K2|exact K3|exact K4|exact K5|exact K6|exact K7|exact K8|exact K9|exact K10|exact K11) rfl rfl fun hn => ?_
    rw [show b1E.all ((List.range k).map fun j => IntKind.wrap .u8 (Int.fdiv n ((2 : Int) ^ (8 * (k - 1 - j))))) = ((List.range k).map fun j => IntKind.wrap .u8 (Int.fdiv n ((2 : Int) ^ (8 * (k - 1 - j))))).map (Sc.i .u8) from b1_all _]
    refine Tri.asBy (baOf_map _ []) ?_
    refine Tri.retF ⟨?_, rfl⟩ (by repeat (first|exact Sub.refl _|exact Sub.nil _|(apply Sub.cons; (first|exact K0|exact K1|exact K2|exact K3|exact K4|exact K5|exact K6|exact K7|exact K8|exact K9|exact K10|exact K11))|apply Sub.skip))
    rw [List.nil_append, List.map_map]; rfl
end Go.Proofs.YtpbhfolaoccpkaaGreat
namespace Go.Proofs.YtpbhfolaoccpkaaGreat
open Go Go.Proofs.YtpbhfolaoccpkaaGreat.Fw
set_option linter.unusedVariables false
set_option linter.unusedSimpArgs false
set_option maxRecDepth 20000
def hd5 : List UInt8 := numL 5 1 ++ (numL 9 1 ++ numL 0 4)
theorem hd5_len : hd5.length = 6 := by simp [hd5, numL_len]
/-- the string when so many letters are done -/
def acc5 (k : Int) (xl : List UInt8) : Nat → List UInt8
  | 0 => hd5
  | 1 => hd5 ++ numL k 1
  | _ => relL 9 k xl
theorem acc5_2 (k : Int) (xl : List UInt8) : ((hd5 ++ numL k 1) ++ numL (xl.length : Int) 2) ++ xl = relL 9 k xl := by simp [hd5, relL]
set_option maxHeartbeats 4000000 in
theorem put23 {k : Int} {X : ByteArray} (hk : kOk k) (h1 : 1 ≤ X.size) (h2 : X.size ≤ 900) : FSpec E 23 [.ag (mB k X)] [] (fun v L' => v = .tu [.sc (.s (bs (relL 9 k X.data.toList))), .sc (.b true)] ∧ L' = []) := by
  have hkr : 2 ≤ k ∧ k ≤ 5 := by rcases hk with rfl | rfl | rfl | rfl <;> decide
  refine FSpec.of (Tryz.func23 : Tryz.prog.funcs[23]? = some Tryz.f23) (t23_eq _ _ _ _ _ _ _ _ _ _ _) fun F => ?_
  unfold t23
  repeat (first|refine wa ?_|refine wb ?_|refine wc ?_|refine wd ?_|refine we ?_|refine wf ?_|refine wg ?_|refine wh rfl ?_|refine wi rfl ?_|refine wj rfl ?_|refine wk rfl ?_|refine wl rfl ?_|refine wm (by decide) ?_|refine wr ?_|refine ws ?_|refine wt ?_|refine wn ?_|refine wo ?_|refine wp (by decide) ?_|(apply Tri.ldE; (first|exact K0|exact K1|exact K2|exact K3|exact K4|exact K5|exact K6|exact K7|exact K8|exact K9|exact K10|exact K11); (exact rfl); (exact wz rfl))|(apply Tri.stE; (first|exact K0|exact K1|exact K2|exact K3|exact K4|exact K5|exact K6|exact K7|exact K8|exact K9|exact K10|exact K11); (exact rfl); (exact wz rfl))|(apply Tri.same; (first|exact K0|exact K1|exact K2|exact K3|exact K4|exact K5|exact K6|exact K7|exact K8|exact K9|exact K10|exact K11); (exact rfl); (exact wz rfl))|refine wq fun _ => ?_)
  refine Tri.call (right91 hk h1 h2) (by repeat (first|exact Picks.nil|(apply Picks.cons; (first|exact K0|exact K1|exact K2|exact K3|exact K4|exact K5|exact K6|exact K7|exact K8|exact K9|exact K10|exact K11)))) ?_
  rintro v L' ⟨rfl, rfl⟩
  simp only [List.cons_append, List.nil_append]
  repeat (first|refine wa ?_|refine wb ?_|refine wc ?_|refine wd ?_|refine we ?_|refine wf ?_|refine wg ?_|refine wh rfl ?_|refine wi rfl ?_|refine wj rfl ?_|refine wk rfl ?_|refine wl rfl ?_|refine wm (by decide) ?_|refine wr ?_|refine ws ?_|refine wt ?_|refine wn ?_|refine wo ?_|refine wp (by decide) ?_|(apply Tri.ldE; (first|exact K0|exact K1|exact K2|exact K3|exact K4|exact K5|exact K6|exact K7|exact K8|exact K9|exact K10|exact K11); (exact rfl); (exact wz rfl))|(apply Tri.stE; (first|exact K0|exact K1|exact K2|exact K3|exact K4|exact K5|exact K6|exact K7|exact K8|exact K9|exact K10|exact K11); (exact rfl); (exact wz rfl))|(apply Tri.same; (first|exact K0|exact K1|exact K2|exact K3|exact K4|exact K5|exact K6|exact K7|exact K8|exact K9|exact K10|exact K11); (exact rfl); (exact wz rfl))|refine wq fun _ => ?_)
  refine Tri.call has92 (by repeat (first|exact Picks.nil|(apply Picks.cons; (first|exact K0|exact K1|exact K2|exact K3|exact K4|exact K5|exact K6|exact K7|exact K8|exact K9|exact K10|exact K11)))) ?_
  rintro v L' ⟨rfl, rfl⟩
  simp only [List.cons_append, List.nil_append]
  repeat (first|refine wa ?_|refine wb ?_|refine wc ?_|refine wd ?_|refine we ?_|refine wf ?_|refine wg ?_|refine wh rfl ?_|refine wi rfl ?_|refine wj rfl ?_|refine wk rfl ?_|refine wl rfl ?_|refine wm (by decide) ?_|refine wr ?_|refine ws ?_|refine wt ?_|refine wn ?_|refine wo ?_|refine wp (by decide) ?_|(apply Tri.ldE; (first|exact K0|exact K1|exact K2|exact K3|exact K4|exact K5|exact K6|exact K7|exact K8|exact K9|exact K10|exact K11); (exact rfl); (exact wz rfl))|(apply Tri.stE; (first|exact K0|exact K1|exact K2|exact K3|exact K4|exact K5|exact K6|exact K7|exact K8|exact K9|exact K10|exact K11); (exact rfl); (exact wz rfl))|(apply Tri.same; (first|exact K0|exact K1|exact K2|exact K3|exact K4|exact K5|exact K6|exact K7|exact K8|exact K9|exact K10|exact K11); (exact rfl); (exact wz rfl))|refine wq fun _ => ?_)
  rw [wr_u64 (n := 5) (by decide) (by decide), wr_u64 (n := 9) (by decide) (by decide), wr_u64 (n := 0) (by decide) (by decide)]
  refine Tri.call (num93 (n := 5) (z := 1) (by decide) (by decide)) (by repeat (first|exact Picks.nil|(apply Picks.cons; (first|exact K0|exact K1|exact K2|exact K3|exact K4|exact K5|exact K6|exact K7|exact K8|exact K9|exact K10|exact K11)))) ?_
  rintro v L' ⟨rfl, rfl⟩
  simp only [List.cons_append, List.nil_append]
  repeat (first|refine wa ?_|refine wb ?_|refine wc ?_|refine wd ?_|refine we ?_|refine wf ?_|refine wg ?_|refine wh rfl ?_|refine wi rfl ?_|refine wj rfl ?_|refine wk rfl ?_|refine wl rfl ?_|refine wm (by decide) ?_|refine wr ?_|refine ws ?_|refine wt ?_|refine wn ?_|refine wo ?_|refine wp (by decide) ?_|(apply Tri.ldE; (first|exact K0|exact K1|exact K2|exact K3|exact K4|exact K5|exact K6|exact K7|exact K8|exact K9|exact K10|exact K11); (exact rfl); (exact wz rfl))|(apply Tri.stE; (first|exact K0|exact K1|exact K2|exact K3|exact K4|exact K5|exact K6|exact K7|exact K8|exact K9|exact K10|exact K11); (exact rfl); (exact wz rfl))|(apply Tri.same; (first|exact K0|exact K1|exact K2|exact K3|exact K4|exact K5|exact K6|exact K7|exact K8|exact K9|exact K10|exact K11); (exact rfl); (exact wz rfl))|refine wq fun _ => ?_)
  refine Tri.call (num93 (n := 9) (z := 1) (by decide) (by decide)) (by repeat (first|exact Picks.nil|(apply Picks.cons; (first|exact K0|exact K1|exact K2|exact K3|exact K4|exact K5|exact K6|exact K7|exact K8|exact K9|exact K10|exact K11)))) ?_
  rintro v L' ⟨rfl, rfl⟩
  simp only [List.cons_append, List.nil_append]
  repeat (first|refine wa ?_|refine wb ?_|refine wc ?_|refine wd ?_|refine we ?_|refine wf ?_|refine wg ?_|refine wh rfl ?_|refine wi rfl ?_|refine wj rfl ?_|refine wk rfl ?_|refine wl rfl ?_|refine wm (by decide) ?_|refine wr ?_|refine ws ?_|refine wt ?_|refine wn ?_|refine wo ?_|refine wp (by decide) ?_|(apply Tri.ldE; (first|exact K0|exact K1|exact K2|exact K3|exact K4|exact K5|exact K6|exact K7|exact K8|exact K9|exact K10|exact K11); (exact rfl); (exact wz rfl))|(apply Tri.stE; (first|exact K0|exact K1|exact K2|exact K3|exact K4|exact K5|exact K6|exact K7|exact K8|exact K9|exact K10|exact K11); (exact rfl); (exact wz rfl))|(apply Tri.same; (first|exact K0|exact K1|exact K2|exact K3|exact K4|exact K5|exact K6|exact K7|exact K8|exact K9|exact K10|exact K11); (exact rfl); (exact wz rfl))|refine wq fun _ => ?_)
  rw [bs_size, bs_size, numL_len, numL_len]
  refine Tri.brT (by decide) ?_
  refine Tri.call (num93 (n := 0) (z := 4) (by decide) (by decide)) (by repeat (first|exact Picks.nil|(apply Picks.cons; (first|exact K0|exact K1|exact K2|exact K3|exact K4|exact K5|exact K6|exact K7|exact K8|exact K9|exact K10|exact K11)))) ?_
  rintro v L' ⟨rfl, rfl⟩
  simp only [List.cons_append, List.nil_append]
  repeat (first|refine wa ?_|refine wb ?_|refine wc ?_|refine wd ?_|refine we ?_|refine wf ?_|refine wg ?_|refine wh rfl ?_|refine wi rfl ?_|refine wj rfl ?_|refine wk rfl ?_|refine wl rfl ?_|refine wm (by decide) ?_|refine wr ?_|refine ws ?_|refine wt ?_|refine wn ?_|refine wo ?_|refine wp (by decide) ?_|(apply Tri.ldE; (first|exact K0|exact K1|exact K2|exact K3|exact K4|exact K5|exact K6|exact K7|exact K8|exact K9|exact K10|exact K11); (exact rfl); (exact wz rfl))|(apply Tri.stE; (first|exact K0|exact K1|exact K2|exact K3|exact K4|exact K5|exact K6|exact K7|exact K8|exact K9|exact K10|exact K11); (exact rfl); (exact wz rfl))|(apply Tri.same; (first|exact K0|exact K1|exact K2|exact K3|exact K4|exact K5|exact K6|exact K7|exact K8|exact K9|exact K10|exact K11); (exact rfl); (exact wz rfl))|refine wq fun _ => ?_)
  rw [bs_app, bs_size, bs_size, List.length_append, numL_len, numL_len, numL_len, bs_app, List.append_assoc, show numL 5 1 ++ (numL 9 1 ++ numL 0 4) = hd5 from rfl]
  refine Tri.brT (by decide) ?_
  rename_i a
  refine Tri.loop (I := fun m l' L => ∃ j : Nat, m = 3 - j ∧ j ≤ 2 ∧ l' = [.sc (.p (some (a, 0))), .sc (.s sNB), .sc (.s (bs (acc5 k X.data.toList j))), .sc (.i .i64 (j : Int))] ∧ L = pt a (mB k X) :: F) (m := 3) (L0 := pt a (mB k X) :: F) ⟨0, rfl, by omega, rfl, rfl⟩ (by repeat (first|exact Sub.refl _|exact Sub.nil _|(apply Sub.cons; (first|exact K0|exact K1|exact K2|exact K3|exact K4|exact K5|exact K6|exact K7|exact K8|exact K9|exact K10|exact K11))|apply Sub.skip)) ?_
  rintro m l' L ⟨j, rfl, hj, rfl, rfl⟩
  unfold t23_b49
  repeat (first|refine wa ?_|refine wb ?_|refine wc ?_|refine wd ?_|refine we ?_|refine wf ?_|refine wg ?_|refine wh rfl ?_|refine wi rfl ?_|refine wj rfl ?_|refine wk rfl ?_|refine wl rfl ?_|refine wm (by decide) ?_|refine wr ?_|refine ws ?_|refine wt ?_|(apply Tri.ldE; (first|exact K0|exact K1|exact K2|exact K3|exact K4|exact K5|exact K6|exact K7|exact K8|exact K9|exact K10|exact K11); (exact rfl); (exact wz rfl))|(apply Tri.stE; (first|exact K0|exact K1|exact K2|exact K3|exact K4|exact K5|exact K6|exact K7|exact K8|exact K9|exact K10|exact K11); (exact rfl); (exact wz rfl))|(apply Tri.same; (first|exact K0|exact K1|exact K2|exact K3|exact K4|exact K5|exact K6|exact K7|exact K8|exact K9|exact K10|exact K11); (exact rfl); (exact wz rfl))|refine wq fun _ => ?_)
  rcases (by omega : j = 0 ∨ j = 1 ∨ j = 2) with rfl | rfl | rfl
  · refine Tri.cndT rfl ?_
    refine Tri.brT rfl ?_
    refine Tri.cndT rfl ?_
    repeat (first|refine wa ?_|refine wb ?_|refine wc ?_|refine wd ?_|refine we ?_|refine wf ?_|refine wg ?_|refine wh rfl ?_|refine wi rfl ?_|refine wj rfl ?_|refine wk rfl ?_|refine wl rfl ?_|refine wm (by decide) ?_|refine wr ?_|refine ws ?_|refine wt ?_|refine wn ?_|refine wo ?_|refine wp (by decide) ?_|(apply Tri.ldE; (first|exact K0|exact K1|exact K2|exact K3|exact K4|exact K5|exact K6|exact K7|exact K8|exact K9|exact K10|exact K11); (exact rfl); (exact wz rfl))|(apply Tri.stE; (first|exact K0|exact K1|exact K2|exact K3|exact K4|exact K5|exact K6|exact K7|exact K8|exact K9|exact K10|exact K11); (exact rfl); (exact wz rfl))|(apply Tri.same; (first|exact K0|exact K1|exact K2|exact K3|exact K4|exact K5|exact K6|exact K7|exact K8|exact K9|exact K10|exact K11); (exact rfl); (exact wz rfl))|refine wq fun _ => ?_)
    rw [wr_u64 (n := k) (by omega) (by omega)]
    refine Tri.call (num93 (n := k) (z := 1) (by decide) (by decide)) (by repeat (first|exact Picks.nil|(apply Picks.cons; (first|exact K0|exact K1|exact K2|exact K3|exact K4|exact K5|exact K6|exact K7|exact K8|exact K9|exact K10|exact K11)))) ?_
    rintro v L' ⟨rfl, rfl⟩
    simp only [List.cons_append, List.nil_append]
    repeat (first|refine wa ?_|refine wb ?_|refine wc ?_|refine wd ?_|refine we ?_|refine wf ?_|refine wg ?_|refine wh rfl ?_|refine wi rfl ?_|refine wj rfl ?_|refine wk rfl ?_|refine wl rfl ?_|refine wm (by decide) ?_|refine wr ?_|refine ws ?_|refine wt ?_|(apply Tri.ldE; (first|exact K0|exact K1|exact K2|exact K3|exact K4|exact K5|exact K6|exact K7|exact K8|exact K9|exact K10|exact K11); (exact rfl); (exact wz rfl))|(apply Tri.stE; (first|exact K0|exact K1|exact K2|exact K3|exact K4|exact K5|exact K6|exact K7|exact K8|exact K9|exact K10|exact K11); (exact rfl); (exact wz rfl))|(apply Tri.same; (first|exact K0|exact K1|exact K2|exact K3|exact K4|exact K5|exact K6|exact K7|exact K8|exact K9|exact K10|exact K11); (exact rfl); (exact wz rfl))|refine wq fun _ => ?_)
    rw [bs_size, bs_size, show (acc5 k X.data.toList 0) = hd5 from rfl, hd5_len, numL_len, bs_app]
    refine Tri.brT (by decide) ?_
    exact Tri.back (m' := 2) (by omega) ⟨1, rfl, by omega, rfl, rfl⟩ (by repeat (first|exact Sub.refl _|exact Sub.nil _|(apply Sub.cons; (first|exact K0|exact K1|exact K2|exact K3|exact K4|exact K5|exact K6|exact K7|exact K8|exact K9|exact K10|exact K11))|apply Sub.skip))
  · refine Tri.cndT rfl ?_
    refine Tri.brT rfl ?_
    refine Tri.cndF rfl ?_
    refine Tri.cndF rfl ?_
    refine Tri.cndF rfl ?_
    refine Tri.cndF rfl ?_
    refine Tri.cndT rfl ?_
    repeat (first|refine wa ?_|refine wb ?_|refine wc ?_|refine wd ?_|refine we ?_|refine wf ?_|refine wg ?_|refine wh rfl ?_|refine wi rfl ?_|refine wj rfl ?_|refine wk rfl ?_|refine wl rfl ?_|refine wm (by decide) ?_|refine wr ?_|refine ws ?_|refine wt ?_|refine wn ?_|refine wo ?_|refine wp (by decide) ?_|(apply Tri.ldE; (first|exact K0|exact K1|exact K2|exact K3|exact K4|exact K5|exact K6|exact K7|exact K8|exact K9|exact K10|exact K11); (exact rfl); (exact wz rfl))|(apply Tri.stE; (first|exact K0|exact K1|exact K2|exact K3|exact K4|exact K5|exact K6|exact K7|exact K8|exact K9|exact K10|exact K11); (exact rfl); (exact wz rfl))|(apply Tri.same; (first|exact K0|exact K1|exact K2|exact K3|exact K4|exact K5|exact K6|exact K7|exact K8|exact K9|exact K10|exact K11); (exact rfl); (exact wz rfl))|refine wq fun _ => ?_)
    rw [wr_len X h2]
    refine Tri.call (num93 (n := (X.size : Int)) (z := 2) (by decide) (by decide)) (by repeat (first|exact Picks.nil|(apply Picks.cons; (first|exact K0|exact K1|exact K2|exact K3|exact K4|exact K5|exact K6|exact K7|exact K8|exact K9|exact K10|exact K11)))) ?_
    rintro v L' ⟨rfl, rfl⟩
    simp only [List.cons_append, List.nil_append]
    repeat (first|refine wa ?_|refine wb ?_|refine wc ?_|refine wd ?_|refine we ?_|refine wf ?_|refine wg ?_|refine wh rfl ?_|refine wi rfl ?_|refine wj rfl ?_|refine wk rfl ?_|refine wl rfl ?_|refine wm (by decide) ?_|refine wr ?_|refine ws ?_|refine wt ?_|refine wn ?_|refine wo ?_|refine wp (by decide) ?_|(apply Tri.ldE; (first|exact K0|exact K1|exact K2|exact K3|exact K4|exact K5|exact K6|exact K7|exact K8|exact K9|exact K10|exact K11); (exact rfl); (exact wz rfl))|(apply Tri.stE; (first|exact K0|exact K1|exact K2|exact K3|exact K4|exact K5|exact K6|exact K7|exact K8|exact K9|exact K10|exact K11); (exact rfl); (exact wz rfl))|(apply Tri.same; (first|exact K0|exact K1|exact K2|exact K3|exact K4|exact K5|exact K6|exact K7|exact K8|exact K9|exact K10|exact K11); (exact rfl); (exact wz rfl))|refine wq fun _ => ?_)
    have hxl : X.data.toList.length = X.size := rfl
    have hX : X = bs X.data.toList := rfl
    rw [bs_size, bs_size, show (acc5 k X.data.toList 1) = hd5 ++ numL k 1 from rfl, List.length_append, hd5_len, numL_len, numL_len]
    refine Tri.brT (by decide) ?_
    rw [bs_app, bs_size, List.length_append, List.length_append, hd5_len, numL_len, numL_len]
    refine Tri.brT (by simp; omega) ?_
    refine Tri.back (m' := 1) (by omega) ⟨2, rfl, by omega, ?_, rfl⟩ (by repeat (first|exact Sub.refl _|exact Sub.nil _|(apply Sub.cons; (first|exact K0|exact K1|exact K2|exact K3|exact K4|exact K5|exact K6|exact K7|exact K8|exact K9|exact K10|exact K11))|apply Sub.skip))
    have e : bs (acc5 k X.data.toList 2) = bs (hd5 ++ numL k 1) ++ bs (numL (X.size : Int) 2) ++ X := by
      rw [show (acc5 k X.data.toList 2) = relL 9 k X.data.toList from rfl, ← acc5_2, ← bs_app, ← bs_app, ← hX, hxl]
    rw [e]
    rfl
  · refine Tri.cndF rfl ?_
    refine Tri.exit (by decide) ?_
    unfold t23_k49
    repeat (first|refine wa ?_|refine wb ?_|refine wc ?_|refine wd ?_|refine we ?_|refine wf ?_|refine wg ?_|refine wh rfl ?_|refine wi rfl ?_|refine wj rfl ?_|refine wk rfl ?_|refine wl rfl ?_|refine wm (by decide) ?_|refine wr ?_|refine ws ?_|refine wt ?_|(apply Tri.ldE; (first|exact K0|exact K1|exact K2|exact K3|exact K4|exact K5|exact K6|exact K7|exact K8|exact K9|exact K10|exact K11); (exact rfl); (exact wz rfl))|(apply Tri.stE; (first|exact K0|exact K1|exact K2|exact K3|exact K4|exact K5|exact K6|exact K7|exact K8|exact K9|exact K10|exact K11); (exact rfl); (exact wz rfl))|(apply Tri.same; (first|exact K0|exact K1|exact K2|exact K3|exact K4|exact K5|exact K6|exact K7|exact K8|exact K9|exact K10|exact K11); (exact rfl); (exact wz rfl))|refine wq fun _ => ?_)
    have hxl : X.data.toList.length = X.size := rfl
    refine Tri.cndF (by rw [bs_size, show (acc5 k X.data.toList 2) = relL 9 k X.data.toList from rfl, relL_len, hxl]; simp; omega) ?_
    exact Tri.retF ⟨rfl, rfl⟩ (by repeat (first|exact Sub.refl _|exact Sub.nil _|(apply Sub.cons; (first|exact K0|exact K1|exact K2|exact K3|exact K4|exact K5|exact K6|exact K7|exact K8|exact K9|exact K10|exact K11))|apply Sub.skip))
end Go.Proofs.YtpbhfolaoccpkaaGreat
