/- The library's stable sort, at the wheel's timers. -/
import Derived.Test.YtonohkjngmcbmaaSpecV
namespace Go.Proofs.Ytonohkjngmcbmaa
open Go Go.Proofs.Ytonohkjngmcbmaa.Fw
set_option linter.unusedVariables false
set_option linter.unusedSimpArgs false

theorem stable_spec {o : Option SlD} {l : List Tm} {n : Nat} {g : FuncId} {f c : List (Nat × Nat)} {κ : Tm → Int} (hcmp : IsCmp g f c κ) (hn : n = l.length) (hl : l.length ≤ 1000) :
    FSpec E 32 [.sc (.sl o), .sc (.i .i64 n), .sc (.fn g f c)] [.sl false tmE o l] (fun v L' => v = .tu [] ∧ L' = [.sl false tmE o (ssort κ l)]) := by
  refine FSpec.of (Try.func32 : Try.prog.funcs[32]? = some Try.f32) (t32_eq _ _ _ _ _) fun F => ?_
  unfold t32
  refine Tri.loop (I := fun k l' L => ∃ (P R : List Tm), k = R.length ∧ P.length + R.length = n ∧ (∀ R'', Chunks κ 20 R R'' → Chunks κ 20 l (P ++ R'')) ∧
    l' = [.sc (.sl o), .sc (.i .i64 n), .sc (.fn g f c), .sc (.i .i64 20), .sc (.i .i64 P.length), .sc (.i .i64 ((P.length + 20 : Nat) : Int))] ∧ L = .sl false tmE o (P ++ R) :: F)
    ⟨[], l, rfl, by simp [hn], fun R'' h => h, rfl, rfl⟩ (Sub.refl _) ?_
  rintro k l' L ⟨P, R, rfl, hPR, hch, rfl, rfl⟩
  repeat (first|refine wa ?_|refine wb ?_|refine wc ?_|refine wd ?_|refine we ?_|refine wf ?_|refine wg ?_|refine wh rfl ?_|refine wi rfl ?_|refine wj rfl ?_|refine wk rfl ?_|refine wl rfl ?_|refine wm (by decide) ?_|refine wn ?_|refine wo ?_|refine wp (by decide) ?_|(apply Tri.ldE; (first|exact K0|exact K1|exact K2|exact K3|exact K4|exact K5|exact K6|exact K7|exact K8|exact K9|exact K10|exact K11); (exact rfl); (exact wz rfl))|(apply Tri.stE; (first|exact K0|exact K1|exact K2|exact K3|exact K4|exact K5|exact K6|exact K7|exact K8|exact K9|exact K10|exact K11); (exact rfl); (exact wz rfl))|(apply Tri.same; (first|exact K0|exact K1|exact K2|exact K3|exact K4|exact K5|exact K6|exact K7|exact K8|exact K9|exact K10|exact K11); (exact rfl); (exact wz rfl))|refine wq fun _ => ?_)
  refine Tri.cnd (fun hc => ?_) (fun hc => ?_)
  · have hc : 20 ≤ R.length := by simp at hc; omega
    have hR : R = R.take 20 ++ R.drop 20 := (List.take_append_drop _ _).symm
    generalize e1 : R.take 20 = R1 at hR
    generalize e2 : R.drop 20 = R2 at hR
    have l1 : R1.length = 20 := by rw [← e1]; simp; omega
    clear e1 e2
    subst hR
    simp only [List.length_append] at hPR
    refine Tri.sub (L' := .sl false tmE o (P ++ R1 ++ R2) :: F) (by simpa using Sub.refl _) ?_
    refine Tri.call (insS_spec (A := P) (X := R1) (B := R2) hcmp rfl (by omega) (by simp; omega)) (by repeat (first|exact Picks.nil|(apply Picks.cons; (first|exact K0|exact K1|exact K2|exact K3|exact K4|exact K5|exact K6|exact K7|exact K8|exact K9|exact K10|exact K11)))) ?_
    rintro v L' ⟨rfl, rfl⟩
    simp only [List.cons_append, List.nil_append]
    have hs := ssort_length (κ := κ) R1
    refine Tri.back (m' := R2.length) (by simp; omega) ⟨P ++ ssort κ R1, R2, rfl, by simp; omega, fun R'' h => ?_, ?_, rfl⟩ (Sub.refl _)
    · have := hch _ (.cons l1 h)
      simpa using this
    · rw [wr_i64 (by omega) (by omega)]; simp [hs, l1, Int.add_assoc]
  · have hc : R.length < 20 := by simp at hc; omega
    repeat (first|refine wa ?_|refine wb ?_|refine wc ?_|refine wd ?_|refine we ?_|refine wf ?_|refine wg ?_|refine wh rfl ?_|refine wi rfl ?_|refine wj rfl ?_|refine wk rfl ?_|refine wl rfl ?_|refine wm (by decide) ?_|refine wn ?_|refine wo ?_|refine wp (by decide) ?_|(apply Tri.ldE; (first|exact K0|exact K1|exact K2|exact K3|exact K4|exact K5|exact K6|exact K7|exact K8|exact K9|exact K10|exact K11); (exact rfl); (exact wz rfl))|(apply Tri.stE; (first|exact K0|exact K1|exact K2|exact K3|exact K4|exact K5|exact K6|exact K7|exact K8|exact K9|exact K10|exact K11); (exact rfl); (exact wz rfl))|(apply Tri.same; (first|exact K0|exact K1|exact K2|exact K3|exact K4|exact K5|exact K6|exact K7|exact K8|exact K9|exact K10|exact K11); (exact rfl); (exact wz rfl))|refine wq fun _ => ?_)
    refine Tri.sub (L' := .sl false tmE o (P ++ R ++ []) :: F) (by simpa using Sub.refl _) ?_
    refine Tri.call (insS_spec (A := P) (X := R) (B := []) hcmp rfl (by omega) (by simp; omega)) (by repeat (first|exact Picks.nil|(apply Picks.cons; (first|exact K0|exact K1|exact K2|exact K3|exact K4|exact K5|exact K6|exact K7|exact K8|exact K9|exact K10|exact K11)))) ?_
    rintro v L' ⟨rfl, rfl⟩
    simp only [List.cons_append, List.nil_append]
    refine Tri.loop (I := fun k l' L => ∃ (D : List Tm) (bs : Nat), k = n - bs ∧ 0 < bs ∧ bs ≤ 2000 ∧ Chunks κ bs l D ∧
      l' = [.sc (.sl o), .sc (.i .i64 n), .sc (.fn g f c), .sc (.i .i64 bs)] ∧ L = .sl false tmE o D :: F)
      ⟨P ++ ssort κ R, 20, rfl, by omega, by omega, hch _ (.last (by omega)), rfl, rfl⟩ (by simpa using Sub.refl _) ?_
    clear hch hPR hc
    rintro k l' L ⟨D, bs, rfl, hb0, hb1, hD, rfl, rfl⟩
    repeat (first|refine wa ?_|refine wb ?_|refine wc ?_|refine wd ?_|refine we ?_|refine wf ?_|refine wg ?_|refine wh rfl ?_|refine wi rfl ?_|refine wj rfl ?_|refine wk rfl ?_|refine wl rfl ?_|refine wm (by decide) ?_|refine wn ?_|refine wo ?_|refine wp (by decide) ?_|(apply Tri.ldE; (first|exact K0|exact K1|exact K2|exact K3|exact K4|exact K5|exact K6|exact K7|exact K8|exact K9|exact K10|exact K11); (exact rfl); (exact wz rfl))|(apply Tri.stE; (first|exact K0|exact K1|exact K2|exact K3|exact K4|exact K5|exact K6|exact K7|exact K8|exact K9|exact K10|exact K11); (exact rfl); (exact wz rfl))|(apply Tri.same; (first|exact K0|exact K1|exact K2|exact K3|exact K4|exact K5|exact K6|exact K7|exact K8|exact K9|exact K10|exact K11); (exact rfl); (exact wz rfl))|refine wq fun _ => ?_)
    refine Tri.cnd (fun hc => ?_) (fun hc => ?_)
    · have hc : bs < n := by simp at hc; omega
      refine Tri.loop (I := fun k l' L => ∃ (P R R' : List Tm), k = R.length ∧ P.length + R.length = n ∧ Chunks κ bs R R' ∧ (∀ R'', Chunks κ (2 * bs) R R'' → Chunks κ (2 * bs) l (P ++ R'')) ∧
        l' = [.sc (.sl o), .sc (.i .i64 n), .sc (.fn g f c), .sc (.i .i64 bs), .sc (.i .i64 P.length), .sc (.i .i64 ((P.length + 2 * bs : Nat) : Int))] ∧ L = .sl false tmE o (P ++ R') :: F)
        ⟨[], l, D, rfl, by simp [hn], hD, fun R'' h => h, ?_, rfl⟩ (Sub.refl _) ?_
      · rw [wr_i64 (by omega) (by omega)]; simp
      rintro k l' L ⟨P, R, R', rfl, hPR, hR, hch, rfl, rfl⟩
      have hRl := hR.length
      repeat (first|refine wa ?_|refine wb ?_|refine wc ?_|refine wd ?_|refine we ?_|refine wf ?_|refine wg ?_|refine wh rfl ?_|refine wi rfl ?_|refine wj rfl ?_|refine wk rfl ?_|refine wl rfl ?_|refine wm (by decide) ?_|refine wn ?_|refine wo ?_|refine wp (by decide) ?_|(apply Tri.ldE; (first|exact K0|exact K1|exact K2|exact K3|exact K4|exact K5|exact K6|exact K7|exact K8|exact K9|exact K10|exact K11); (exact rfl); (exact wz rfl))|(apply Tri.stE; (first|exact K0|exact K1|exact K2|exact K3|exact K4|exact K5|exact K6|exact K7|exact K8|exact K9|exact K10|exact K11); (exact rfl); (exact wz rfl))|(apply Tri.same; (first|exact K0|exact K1|exact K2|exact K3|exact K4|exact K5|exact K6|exact K7|exact K8|exact K9|exact K10|exact K11); (exact rfl); (exact wz rfl))|refine wq fun _ => ?_)
      refine Tri.cnd (fun hd => ?_) (fun hd => ?_)
      · have hd : 2 * bs ≤ R.length := by simp at hd; omega
        obtain ⟨X, Y, R2, R2', rfl, hX, hY, rfl, hR2⟩ := hR.two hd hb0
        have s1 := ssort_length (κ := κ) X
        have s2 := ssort_length (κ := κ) Y
        have s3 := hR2.length
        simp only [List.length_append] at hPR hd hRl
        rw [show IntKind.wrap .i64 ((P.length : Int) + bs) = ((P.length + bs : Nat) : Int) by rw [wr_i64 (by omega) (by omega)]; omega]
        refine Tri.sub (L' := .sl false tmE o (P ++ ssort κ X ++ ssort κ Y ++ R2') :: F) (by simpa using Sub.refl _) ?_
        refine Tri.call (symm_spec hcmp (X.length + Y.length) (A := P) (X := ssort κ X) (Y := ssort κ Y) (B := R2') (by omega) rfl (by omega) (by omega) (by omega) (by omega) (srt_ssort _) (srt_ssort _) (by simp; omega)) (by repeat (first|exact Picks.nil|(apply Picks.cons; (first|exact K0|exact K1|exact K2|exact K3|exact K4|exact K5|exact K6|exact K7|exact K8|exact K9|exact K10|exact K11)))) ?_
        rintro v L' ⟨rfl, rfl⟩
        simp only [List.cons_append, List.nil_append]
        rw [ssort_idem, ssort_idem']
        have s4 := ssort_length (κ := κ) (X ++ Y)
        simp only [List.length_append] at s4
        refine Tri.back (m' := R2.length) (by simp; omega) ⟨P ++ ssort κ (X ++ Y), R2, R2', rfl, by simp; omega, hR2, fun R'' h => ?_, ?_, rfl⟩ (Sub.refl _)
        · have := hch _ (.cons (X := X ++ Y) (by simp; omega) h)
          simpa using this
        · rw [wr_i64 (n := (2 : Int) * bs) (by omega) (by omega), wr_i64 (by omega) (by omega)]
          simp only [List.length_append, s4, hX, hY]
          congr 5
          · congr 3; omega
          · congr 4; omega
      · have hd : R.length < 2 * bs := by simp at hd; omega
        repeat (first|refine wa ?_|refine wb ?_|refine wc ?_|refine wd ?_|refine we ?_|refine wf ?_|refine wg ?_|refine wh rfl ?_|refine wi rfl ?_|refine wj rfl ?_|refine wk rfl ?_|refine wl rfl ?_|refine wm (by decide) ?_|refine wn ?_|refine wo ?_|refine wp (by decide) ?_|(apply Tri.ldE; (first|exact K0|exact K1|exact K2|exact K3|exact K4|exact K5|exact K6|exact K7|exact K8|exact K9|exact K10|exact K11); (exact rfl); (exact wz rfl))|(apply Tri.stE; (first|exact K0|exact K1|exact K2|exact K3|exact K4|exact K5|exact K6|exact K7|exact K8|exact K9|exact K10|exact K11); (exact rfl); (exact wz rfl))|(apply Tri.same; (first|exact K0|exact K1|exact K2|exact K3|exact K4|exact K5|exact K6|exact K7|exact K8|exact K9|exact K10|exact K11); (exact rfl); (exact wz rfl))|refine wq fun _ => ?_)
        rw [show IntKind.wrap .i64 ((P.length : Int) + bs) = ((P.length + bs : Nat) : Int) by rw [wr_i64 (by omega) (by omega)]; omega]
        have back : ∀ D', Chunks κ (2 * bs) l D' → Tri E (.sl false tmE o D' :: F) (.ret 0 [.sc (.sl o), .sc (.i .i64 n), .sc (.fn g f c), .sc (.i .i64 (IntKind.wrap .i64 ((bs : Int) * (2 : Int))))])
            (LQ E (fun k l' L => ∃ (D : List Tm) (bs : Nat), k = n - bs ∧ 0 < bs ∧ bs ≤ 2000 ∧ Chunks κ bs l D ∧
              l' = [.sc (.sl o), .sc (.i .i64 n), .sc (.fn g f c), .sc (.i .i64 bs)] ∧ L = .sl false tmE o D :: F) (n - bs) (fun a37 l38 => .tg a37 6 (.ret 0 [(.tu [])]) (.fail)) (RQ F fun v L' => v = .tu [] ∧ L' = [.sl false tmE o (ssort κ l)])) := by
          intro D' hD'
          refine Tri.back (m' := n - 2 * bs) (by omega) ⟨D', 2 * bs, rfl, by omega, by omega, hD', ?_, rfl⟩ (Sub.refl _)
          rw [wr_i64 (by omega) (by omega), Int.mul_comm]; rfl
        refine Tri.cnd (fun he => ?_) (fun he => ?_)
        · have he : bs < R.length := by simp at he; omega
          obtain ⟨X, R2, R2', rfl, hX, rfl, hR2⟩ := hR.one (by omega) hb0
          simp only [List.length_append] at hPR hd hRl he
          have hR2s := hR2.small (by omega) hb0
          subst hR2s
          have s1 := ssort_length (κ := κ) X
          have s2 := ssort_length (κ := κ) R2
          refine Tri.sub (L' := .sl false tmE o (P ++ ssort κ X ++ ssort κ R2 ++ []) :: F) (by simpa using Sub.refl _) ?_
          refine Tri.call (symm_spec hcmp (X.length + R2.length) (A := P) (X := ssort κ X) (Y := ssort κ R2) (B := []) (by omega) rfl (by omega) (by omega) (by omega) (by omega) (srt_ssort _) (srt_ssort _) (by simp; omega)) (by repeat (first|exact Picks.nil|(apply Picks.cons; (first|exact K0|exact K1|exact K2|exact K3|exact K4|exact K5|exact K6|exact K7|exact K8|exact K9|exact K10|exact K11)))) ?_
          rintro v L' ⟨rfl, rfl⟩
          simp only [List.cons_append, List.nil_append]
          rw [ssort_idem, ssort_idem', List.append_nil]
          exact back _ (hch _ (.last (by simp; omega)))
        · have he : R.length ≤ bs := by simp at he; omega
          have := hR.small he hb0
          subst this
          exact back _ (hch _ (.last (by omega)))
    · have hc : n ≤ bs := by simp at hc; omega
      have := hD.small (by omega) hb0
      subst this
      repeat (first|refine wa ?_|refine wb ?_|refine wc ?_|refine wd ?_|refine we ?_|refine wf ?_|refine wg ?_|refine wh rfl ?_|refine wi rfl ?_|refine wj rfl ?_|refine wk rfl ?_|refine wl rfl ?_|refine wm (by decide) ?_|refine wn ?_|refine wo ?_|refine wp (by decide) ?_|(apply Tri.ldE; (first|exact K0|exact K1|exact K2|exact K3|exact K4|exact K5|exact K6|exact K7|exact K8|exact K9|exact K10|exact K11); (exact rfl); (exact wz rfl))|(apply Tri.stE; (first|exact K0|exact K1|exact K2|exact K3|exact K4|exact K5|exact K6|exact K7|exact K8|exact K9|exact K10|exact K11); (exact rfl); (exact wz rfl))|(apply Tri.same; (first|exact K0|exact K1|exact K2|exact K3|exact K4|exact K5|exact K6|exact K7|exact K8|exact K9|exact K10|exact K11); (exact rfl); (exact wz rfl))|refine wq fun _ => ?_)
      exact Tri.retF ⟨rfl, rfl⟩ (Sub.refl _)

theorem sortS_spec {o : Option SlD} {l : List Tm} {g : FuncId} {f c : List (Nat × Nat)} {κ : Tm → Int} (hcmp : IsCmp g f c κ) (hl : l.length ≤ 1000) :
    FSpec E 28 [.sc (.sl o), .sc (.fn g f c)] [.sl false tmE o l] (fun v L' => v = .tu [] ∧ L' = [.sl false tmE o (ssort κ l)]) := by
  refine FSpec.of (Try.func28 : Try.prog.funcs[28]? = some Try.f28) (t28_eq _ _ _ _) fun F => ?_
  unfold t28
  refine Tri.slLen (l := l) (o := o) (ro := false) (T := tmE) (by first|exact K0|exact K1|exact K2|exact K3|exact K4|exact K5|exact K6|exact K7|exact K8|exact K9|exact K10|exact K11) fun e1 e2 => ?_
  rw [e2]
  refine Tri.call (stable_spec hcmp rfl hl) (by repeat (first|exact Picks.nil|(apply Picks.cons; (first|exact K0|exact K1|exact K2|exact K3|exact K4|exact K5|exact K6|exact K7|exact K8|exact K9|exact K10|exact K11)))) ?_
  rintro v L' ⟨rfl, rfl⟩
  simp only [List.cons_append, List.nil_append]
  exact Tri.retF ⟨rfl, rfl⟩ (Sub.refl _)
end Go.Proofs.Ytonohkjngmcbmaa
