/- The library's insertion sort, at the wheel's timers. -/
import Derived.Test.YtonohkjngmcbmaaSpecS
namespace Go.Proofs.Ytonohkjngmcbmaa
open Go Go.Proofs.Ytonohkjngmcbmaa.Fw
set_option linter.unusedVariables false
set_option linter.unusedSimpArgs false

theorem insS_spec {o : Option SlD} {A X B : List Tm} {a b : Nat} {g : FuncId} {f c : List (Nat × Nat)} {κ : Tm → Int} (hcmp : IsCmp g f c κ) (ha : a = A.length) (hb : b = A.length + X.length)
    (hl : (A ++ X ++ B).length ≤ 1000) : FSpec E 34 [.sc (.sl o), .sc (.i .i64 a), .sc (.i .i64 b), .sc (.fn g f c)] [.sl false tmE o (A ++ X ++ B)]
    (fun v L' => v = .tu [] ∧ L' = [.sl false tmE o (A ++ ssort κ X ++ B)]) := by
  refine FSpec.of (Try.func34 : Try.prog.funcs[34]? = some Try.f34) (t34_eq _ _ _ _ _ _) fun F => ?_
  simp only [List.length_append] at hl
  unfold t34
  rw [show IntKind.wrap .i64 ((a : Int) + 1) = ((a + 1 : Nat) : Int) by rw [wr_i64 (by omega) (by omega)]; omega]
  refine Tri.loop (I := fun m l' L => ∃ (i : Nat) (D R : List Tm), m = R.length ∧ X = D ++ R ∧ (i = a + D.length ∧ 0 < D.length ∨ X = [] ∧ i = a + 1) ∧
    l' = [.sc (.sl o), .sc (.i .i64 a), .sc (.i .i64 b), .sc (.fn g f c), .sc (.i .i64 i)] ∧ L = .sl false tmE o (A ++ ssort κ D ++ R ++ B) :: F)
    (m := X.length - 1) (L0 := .sl false tmE o (A ++ X ++ B) :: F) ?_ (Sub.refl _) ?_
  · cases X with
    | nil => exact ⟨a + 1, [], [], rfl, rfl, .inr ⟨rfl, rfl⟩, rfl, by simp [ssort]⟩
    | cons x X => exact ⟨a + 1, [x], X, by simp, rfl, .inl ⟨rfl, by simp⟩, rfl, by simp [ssort, ins]⟩
  rintro m l' L ⟨i, D, R, rfl, rfl, hi, rfl, rfl⟩
  simp only [List.length_append] at hb hl
  repeat (first|refine wa ?_|refine wb ?_|refine wc ?_|refine wd ?_|refine we ?_|refine wf ?_|refine wg ?_|refine wh rfl ?_|refine wi rfl ?_|refine wj rfl ?_|refine wk rfl ?_|refine wl rfl ?_|refine wm (by decide) ?_|refine wn ?_|refine wo ?_|refine wp (by decide) ?_|(apply Tri.ldE; (first|exact K0|exact K1|exact K2|exact K3|exact K4|exact K5|exact K6|exact K7|exact K8|exact K9|exact K10|exact K11); (exact rfl); (exact wz rfl))|(apply Tri.stE; (first|exact K0|exact K1|exact K2|exact K3|exact K4|exact K5|exact K6|exact K7|exact K8|exact K9|exact K10|exact K11); (exact rfl); (exact wz rfl))|(apply Tri.same; (first|exact K0|exact K1|exact K2|exact K3|exact K4|exact K5|exact K6|exact K7|exact K8|exact K9|exact K10|exact K11); (exact rfl); (exact wz rfl))|refine wq fun _ => ?_)
  refine Tri.cnd (fun hc => ?_) (fun hc => ?_)
  · have hc : i < b := by simp at hc; omega
    rcases hi with ⟨hi, hD⟩ | ⟨hX, _⟩
    case inr => simp at hX; obtain ⟨rfl, rfl⟩ := hX; simp at hb; omega
    cases R with
    | nil => simp at hb; omega
    | cons x R =>
      simp only [List.length_cons] at hb hl
      have hsl := ssort_length (κ := κ) D
      refine Tri.loop (I := fun m l' L => ∃ (j : Nat) (S1 S2 : List Tm), m = S1.length ∧ ssort κ D = S1 ++ S2 ∧ j = a + S1.length ∧ (∀ y ∈ S2, κ x < κ y) ∧
        l' = [.sc (.sl o), .sc (.i .i64 a), .sc (.i .i64 b), .sc (.fn g f c), .sc (.i .i64 i), .sc (.i .i64 j)] ∧ L = .sl false tmE o (A ++ S1 ++ x :: (S2 ++ R ++ B)) :: F)
        ⟨i, ssort κ D, [], rfl, by simp, by omega, by simp, rfl, rfl⟩ (by simpa using Sub.refl _) ?_
      rintro m l' L ⟨j, S1, S2, rfl, hS, rfl, h2, rfl, rfl⟩
      have hSl := congrArg List.length hS
      simp only [List.length_append] at hSl
      have hsrt : Srt κ (S1 ++ S2) := hS ▸ srt_ssort D
      have fin : (∀ y ∈ S1, κ y ≤ κ x) → ssort κ (D ++ [x]) = S1 ++ x :: S2 := fun h1 => by rw [ssort_snoc, hS, (srt_ins hsrt h1 h2).2]
      repeat (first|refine wa ?_|refine wb ?_|refine wc ?_|refine wd ?_|refine we ?_|refine wf ?_|refine wg ?_|refine wh rfl ?_|refine wi rfl ?_|refine wj rfl ?_|refine wk rfl ?_|refine wl rfl ?_|refine wm (by decide) ?_|refine wn ?_|refine wo ?_|refine wp (by decide) ?_|(apply Tri.ldE; (first|exact K0|exact K1|exact K2|exact K3|exact K4|exact K5|exact K6|exact K7|exact K8|exact K9|exact K10|exact K11); (exact rfl); (exact wz rfl))|(apply Tri.stE; (first|exact K0|exact K1|exact K2|exact K3|exact K4|exact K5|exact K6|exact K7|exact K8|exact K9|exact K10|exact K11); (exact rfl); (exact wz rfl))|(apply Tri.same; (first|exact K0|exact K1|exact K2|exact K3|exact K4|exact K5|exact K6|exact K7|exact K8|exact K9|exact K10|exact K11); (exact rfl); (exact wz rfl))|refine wq fun _ => ?_)
      have outer : (∀ y ∈ S1, κ y ≤ κ x) → ∀ t : Tree, t = .ret 0 [.sc (.sl o), .sc (.i .i64 a), .sc (.i .i64 b), .sc (.fn g f c), .sc (.i .i64 (IntKind.wrap .i64 ((i : Int) + 1)))] → ∀ Q : Post,
          Q = (LQ E (fun m l' L => ∃ (i : Nat) (D' R' : List Tm), m = R'.length ∧ D ++ x :: R = D' ++ R' ∧ (i = a + D'.length ∧ 0 < D'.length ∨ D ++ x :: R = [] ∧ i = a + 1) ∧
            l' = [.sc (.sl o), .sc (.i .i64 a), .sc (.i .i64 b), .sc (.fn g f c), .sc (.i .i64 i)] ∧ L = .sl false tmE o (A ++ ssort κ D' ++ R' ++ B) :: F) (x :: R).length
            (fun a68 l69 => .tg a68 2 (.ret 0 [(.tu [])]) (.fail)) (RQ F fun v L' => v = .tu [] ∧ L' = [.sl false tmE o (A ++ ssort κ (D ++ x :: R) ++ B)])) →
          Tri E (.sl false tmE o (A ++ S1 ++ x :: (S2 ++ R ++ B)) :: F) t Q := by
        rintro h1 t rfl Q rfl
        refine Tri.back (m' := R.length) (by simp) ⟨i + 1, D ++ [x], R, rfl, by simp, .inl ⟨by simp; omega, by simp⟩, ?_, rfl⟩ ?_
        · rw [wr_i64 (by omega) (by omega)]; rfl
        · rw [fin h1]; simpa using Sub.refl _
      refine Tri.cnd (fun hj => ?_) (fun hj => ?_)
      · have hj : 0 < S1.length := by simp at hj; omega
        obtain ⟨S1, y, rfl⟩ : ∃ S y, S1 = S ++ [y] := ⟨S1.dropLast, S1.getLast (by intro e; simp [e] at hj), (List.dropLast_concat_getLast _).symm⟩
        simp only [List.length_append, List.length_cons, List.length_nil] at hSl
        rw [show IntKind.wrap .i64 (((a + (S1 ++ [y]).length : Nat) : Int) - 1) = ((a + S1.length : Nat) : Int) by rw [wr_i64 (by simp; omega) (by simp; omega)]; simp; omega]
        have e1 : A ++ (S1 ++ [y]) ++ x :: (S2 ++ R ++ B) = (A ++ S1 ++ [y]) ++ x :: (S2 ++ R ++ B) := by simp
        have e2 : A ++ (S1 ++ [y]) ++ x :: (S2 ++ R ++ B) = (A ++ S1) ++ y :: (x :: (S2 ++ R ++ B)) := by simp
        have hp1 : a + (S1 ++ [y]).length = (A ++ S1 ++ [y]).length := by simp; omega
        have hp2 : a + S1.length = (A ++ S1).length := by simp; omega
        refine Tri.ixld (T := tmE) (by first|exact K0|exact K1|exact K2|exact K3|exact K4|exact K5|exact K6|exact K7|exact K8|exact K9|exact K10|exact K11) rfl (by omega) (by simp; omega) fun x' hx' => ?_
        rw [Int.toNat_natCast, e1, get_mid' hp1] at hx'; cases hx'
        repeat (first|refine wa ?_|refine wb ?_|refine wc ?_|refine wd ?_|refine we ?_|refine wf ?_|refine wg ?_|refine wh rfl ?_|refine wi rfl ?_|refine wj rfl ?_|refine wk rfl ?_|refine wl rfl ?_|refine wm (by decide) ?_|refine wn ?_|refine wo ?_|refine wp (by decide) ?_|(apply Tri.ldE; (first|exact K0|exact K1|exact K2|exact K3|exact K4|exact K5|exact K6|exact K7|exact K8|exact K9|exact K10|exact K11); (exact rfl); (exact wz rfl))|(apply Tri.stE; (first|exact K0|exact K1|exact K2|exact K3|exact K4|exact K5|exact K6|exact K7|exact K8|exact K9|exact K10|exact K11); (exact rfl); (exact wz rfl))|(apply Tri.same; (first|exact K0|exact K1|exact K2|exact K3|exact K4|exact K5|exact K6|exact K7|exact K8|exact K9|exact K10|exact K11); (exact rfl); (exact wz rfl))|refine wq fun _ => ?_)
        refine Tri.ixld (T := tmE) (by first|exact K0|exact K1|exact K2|exact K3|exact K4|exact K5|exact K6|exact K7|exact K8|exact K9|exact K10|exact K11) rfl (by omega) (by simp; omega) fun y' hy' => ?_
        rw [Int.toNat_natCast, e2, get_mid' hp2] at hy'; cases hy'
        repeat (first|refine wa ?_|refine wb ?_|refine wc ?_|refine wd ?_|refine we ?_|refine wf ?_|refine wg ?_|refine wh rfl ?_|refine wi rfl ?_|refine wj rfl ?_|refine wk rfl ?_|refine wl rfl ?_|refine wm (by decide) ?_|refine wn ?_|refine wo ?_|refine wp (by decide) ?_|(apply Tri.ldE; (first|exact K0|exact K1|exact K2|exact K3|exact K4|exact K5|exact K6|exact K7|exact K8|exact K9|exact K10|exact K11); (exact rfl); (exact wz rfl))|(apply Tri.stE; (first|exact K0|exact K1|exact K2|exact K3|exact K4|exact K5|exact K6|exact K7|exact K8|exact K9|exact K10|exact K11); (exact rfl); (exact wz rfl))|(apply Tri.same; (first|exact K0|exact K1|exact K2|exact K3|exact K4|exact K5|exact K6|exact K7|exact K8|exact K9|exact K10|exact K11); (exact rfl); (exact wz rfl))|refine wq fun _ => ?_)
        refine Tri.callv rfl (hcmp x y) (by repeat (first|exact Picks.nil|(apply Picks.cons; (first|exact K0|exact K1|exact K2|exact K3|exact K4|exact K5|exact K6|exact K7|exact K8|exact K9|exact K10|exact K11)))) ?_
        rintro v L' ⟨rfl, rfl⟩
        simp only [List.cons_append, List.nil_append]
        repeat (first|refine wa ?_|refine wb ?_|refine wc ?_|refine wd ?_|refine we ?_|refine wf ?_|refine wg ?_|refine wh rfl ?_|refine wi rfl ?_|refine wj rfl ?_|refine wk rfl ?_|refine wl rfl ?_|refine wm (by decide) ?_|refine wn ?_|refine wo ?_|refine wp (by decide) ?_|(apply Tri.ldE; (first|exact K0|exact K1|exact K2|exact K3|exact K4|exact K5|exact K6|exact K7|exact K8|exact K9|exact K10|exact K11); (exact rfl); (exact wz rfl))|(apply Tri.stE; (first|exact K0|exact K1|exact K2|exact K3|exact K4|exact K5|exact K6|exact K7|exact K8|exact K9|exact K10|exact K11); (exact rfl); (exact wz rfl))|(apply Tri.same; (first|exact K0|exact K1|exact K2|exact K3|exact K4|exact K5|exact K6|exact K7|exact K8|exact K9|exact K10|exact K11); (exact rfl); (exact wz rfl))|refine wq fun _ => ?_)
        rw [cmpI_neg]
        refine Tri.cnd (fun hk => ?_) (fun hk => ?_)
        · have hk : κ x < κ y := by simpa using hk
          refine Tri.ixld (T := tmE) (by first|exact K0|exact K1|exact K2|exact K3|exact K4|exact K5|exact K6|exact K7|exact K8|exact K9|exact K10|exact K11) rfl (by omega) (by simp; omega) fun y' hy' => ?_
          rw [Int.toNat_natCast, e2, get_mid' hp2] at hy'; cases hy'
          repeat (first|refine wa ?_|refine wb ?_|refine wc ?_|refine wd ?_|refine we ?_|refine wf ?_|refine wg ?_|refine wh rfl ?_|refine wi rfl ?_|refine wj rfl ?_|refine wk rfl ?_|refine wl rfl ?_|refine wm (by decide) ?_|refine wn ?_|refine wo ?_|refine wp (by decide) ?_|(apply Tri.ldE; (first|exact K0|exact K1|exact K2|exact K3|exact K4|exact K5|exact K6|exact K7|exact K8|exact K9|exact K10|exact K11); (exact rfl); (exact wz rfl))|(apply Tri.stE; (first|exact K0|exact K1|exact K2|exact K3|exact K4|exact K5|exact K6|exact K7|exact K8|exact K9|exact K10|exact K11); (exact rfl); (exact wz rfl))|(apply Tri.same; (first|exact K0|exact K1|exact K2|exact K3|exact K4|exact K5|exact K6|exact K7|exact K8|exact K9|exact K10|exact K11); (exact rfl); (exact wz rfl))|refine wq fun _ => ?_)
          refine Tri.ixld (T := tmE) (by first|exact K0|exact K1|exact K2|exact K3|exact K4|exact K5|exact K6|exact K7|exact K8|exact K9|exact K10|exact K11) rfl (by omega) (by simp; omega) fun x' hx' => ?_
          rw [Int.toNat_natCast, e1, get_mid' hp1] at hx'; cases hx'
          repeat (first|refine wa ?_|refine wb ?_|refine wc ?_|refine wd ?_|refine we ?_|refine wf ?_|refine wg ?_|refine wh rfl ?_|refine wi rfl ?_|refine wj rfl ?_|refine wk rfl ?_|refine wl rfl ?_|refine wm (by decide) ?_|refine wn ?_|refine wo ?_|refine wp (by decide) ?_|(apply Tri.ldE; (first|exact K0|exact K1|exact K2|exact K3|exact K4|exact K5|exact K6|exact K7|exact K8|exact K9|exact K10|exact K11); (exact rfl); (exact wz rfl))|(apply Tri.stE; (first|exact K0|exact K1|exact K2|exact K3|exact K4|exact K5|exact K6|exact K7|exact K8|exact K9|exact K10|exact K11); (exact rfl); (exact wz rfl))|(apply Tri.same; (first|exact K0|exact K1|exact K2|exact K3|exact K4|exact K5|exact K6|exact K7|exact K8|exact K9|exact K10|exact K11); (exact rfl); (exact wz rfl))|refine wq fun _ => ?_)
          refine Tri.ixst (T := tmE) y (by first|exact K0|exact K1|exact K2|exact K3|exact K4|exact K5|exact K6|exact K7|exact K8|exact K9|exact K10|exact K11) rfl (by omega) (by simp; omega) rfl ?_
          rw [Int.toNat_natCast, e1, set_mid' hp1]
          refine Tri.ixst (T := tmE) x (by first|exact K0|exact K1|exact K2|exact K3|exact K4|exact K5|exact K6|exact K7|exact K8|exact K9|exact K10|exact K11) rfl (by omega) (by simp; omega) rfl ?_
          rw [Int.toNat_natCast, show (A ++ S1 ++ [y]) ++ y :: (S2 ++ R ++ B) = (A ++ S1) ++ y :: (y :: (S2 ++ R ++ B)) by simp, set_mid' hp2]
          refine Tri.back (m' := S1.length) (by simp) ⟨a + S1.length, S1, y :: S2, rfl, by rw [hS]; simp, rfl, ?_, rfl, rfl⟩ (by simpa using Sub.refl _)
          intro z hz
          cases hz with
          | head => exact hk
          | tail _ hm => exact h2 z hm
        · have hk : κ y ≤ κ x := by simpa using hk
          repeat (first|refine wa ?_|refine wb ?_|refine wc ?_|refine wd ?_|refine we ?_|refine wf ?_|refine wg ?_|refine wh rfl ?_|refine wi rfl ?_|refine wj rfl ?_|refine wk rfl ?_|refine wl rfl ?_|refine wm (by decide) ?_|refine wn ?_|refine wo ?_|refine wp (by decide) ?_|(apply Tri.ldE; (first|exact K0|exact K1|exact K2|exact K3|exact K4|exact K5|exact K6|exact K7|exact K8|exact K9|exact K10|exact K11); (exact rfl); (exact wz rfl))|(apply Tri.stE; (first|exact K0|exact K1|exact K2|exact K3|exact K4|exact K5|exact K6|exact K7|exact K8|exact K9|exact K10|exact K11); (exact rfl); (exact wz rfl))|(apply Tri.same; (first|exact K0|exact K1|exact K2|exact K3|exact K4|exact K5|exact K6|exact K7|exact K8|exact K9|exact K10|exact K11); (exact rfl); (exact wz rfl))|refine wq fun _ => ?_)
          refine outer ?_ _ rfl _ rfl
          intro z hz
          rcases List.mem_append.1 hz with hz | hz
          · have := (List.pairwise_append.1 (List.pairwise_append.1 hsrt).1).2.2 z hz y (by simp)
            omega
          · simp at hz; subst hz; exact hk
      · have hj : S1 = [] := List.length_eq_zero_iff.1 (by simp at hj; omega)
        subst hj
        repeat (first|refine wa ?_|refine wb ?_|refine wc ?_|refine wd ?_|refine we ?_|refine wf ?_|refine wg ?_|refine wh rfl ?_|refine wi rfl ?_|refine wj rfl ?_|refine wk rfl ?_|refine wl rfl ?_|refine wm (by decide) ?_|refine wn ?_|refine wo ?_|refine wp (by decide) ?_|(apply Tri.ldE; (first|exact K0|exact K1|exact K2|exact K3|exact K4|exact K5|exact K6|exact K7|exact K8|exact K9|exact K10|exact K11); (exact rfl); (exact wz rfl))|(apply Tri.stE; (first|exact K0|exact K1|exact K2|exact K3|exact K4|exact K5|exact K6|exact K7|exact K8|exact K9|exact K10|exact K11); (exact rfl); (exact wz rfl))|(apply Tri.same; (first|exact K0|exact K1|exact K2|exact K3|exact K4|exact K5|exact K6|exact K7|exact K8|exact K9|exact K10|exact K11); (exact rfl); (exact wz rfl))|refine wq fun _ => ?_)
        exact outer (by simp) _ rfl _ rfl
  · have hc : b ≤ i := by simp at hc; omega
    have hR : R = [] := by
      rcases hi with ⟨hi, hD⟩ | ⟨hX, _⟩
      · exact List.length_eq_zero_iff.1 (by omega)
      · simp at hX; exact hX.2
    subst hR
    repeat (first|refine wa ?_|refine wb ?_|refine wc ?_|refine wd ?_|refine we ?_|refine wf ?_|refine wg ?_|refine wh rfl ?_|refine wi rfl ?_|refine wj rfl ?_|refine wk rfl ?_|refine wl rfl ?_|refine wm (by decide) ?_|refine wn ?_|refine wo ?_|refine wp (by decide) ?_|(apply Tri.ldE; (first|exact K0|exact K1|exact K2|exact K3|exact K4|exact K5|exact K6|exact K7|exact K8|exact K9|exact K10|exact K11); (exact rfl); (exact wz rfl))|(apply Tri.stE; (first|exact K0|exact K1|exact K2|exact K3|exact K4|exact K5|exact K6|exact K7|exact K8|exact K9|exact K10|exact K11); (exact rfl); (exact wz rfl))|(apply Tri.same; (first|exact K0|exact K1|exact K2|exact K3|exact K4|exact K5|exact K6|exact K7|exact K8|exact K9|exact K10|exact K11); (exact rfl); (exact wz rfl))|refine wq fun _ => ?_)
    exact Tri.retF ⟨rfl, rfl⟩ (by simpa using Sub.refl _)
end Go.Proofs.Ytonohkjngmcbmaa
