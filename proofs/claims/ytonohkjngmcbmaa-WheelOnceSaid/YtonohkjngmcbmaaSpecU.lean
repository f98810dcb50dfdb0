/- The library's symMerge, at the wheel's timers: of one ahead of a run, and of one behind a run. -/
import Derived.Test.YtonohkjngmcbmaaSpecS
namespace Go.Proofs.Ytonohkjngmcbmaa
open Go Go.Proofs.Ytonohkjngmcbmaa.Fw
set_option linter.unusedVariables false
set_option linter.unusedSimpArgs false

theorem get_in {α : Type} {P Y B : List α} {j h : Nat} {y : α} (hj : j = P.length + h) (hy : Y[h]? = some y) : (P ++ Y ++ B)[j]? = some y := by
  obtain ⟨hlt, _⟩ := List.getElem?_eq_some_iff.1 hy
  rw [hj, List.append_assoc, List.getElem?_append_right (by omega), Nat.add_sub_cancel_left, List.getElem?_append_left hlt, hy]
theorem half {i j : Nat} (h : i + j ≤ 4000) : IntKind.wrap .i64 (Int.fdiv (IntKind.wrap .u64 (IntKind.wrap .i64 ((i : Int) + j))) (2 : Int)) = (((i + j) / 2 : Nat) : Int) := by
  rw [wr_i64 (n := (i : Int) + j) (by omega) (by omega), wr_u64 (by omega) (by omega)]
  have : Int.fdiv ((i : Int) + j) 2 = (((i + j) / 2 : Nat) : Int) := by
    rw [Int.fdiv_eq_ediv_of_nonneg _ (by omega)]; omega
  rw [this, wr_i64 (by omega) (by omega)]
theorem take_succ_all {α : Type} {p : α → Prop} {Y : List α} {h : Nat} (hh : ∀ i y, i < h + 1 → Y[i]? = some y → p y) : ∀ y ∈ Y.take (h + 1), p y := by
  intro y hy
  obtain ⟨i, hi, e⟩ := of_take hy
  exact hh i y hi e

theorem symm1_spec {o : Option SlD} {A Y B : List Tm} {x : Tm} {a m b : Nat} {g : FuncId} {f c : List (Nat × Nat)} {κ : Tm → Int} (hcmp : IsCmp g f c κ) (ha : a = A.length) (hm : m = A.length + 1) (hb : b = A.length + 1 + Y.length)
    (hy : Srt κ Y) (hl : (A ++ [x] ++ Y ++ B).length ≤ 1000) : FSpec E 35 [.sc (.sl o), .sc (.i .i64 a), .sc (.i .i64 m), .sc (.i .i64 b), .sc (.fn g f c)] [.sl false tmE o (A ++ [x] ++ Y ++ B)]
    (fun v L' => v = .tu [] ∧ L' = [.sl false tmE o (A ++ ssort κ ([x] ++ Y) ++ B)]) := by
  refine FSpec.of (Try.func35 : Try.prog.funcs[35]? = some Try.f35) (t35_eq _ _ _ _ _ _ _) fun F => ?_
  simp only [List.length_append, List.length_cons, List.length_nil] at hl
  unfold t35
  rw [show IntKind.wrap .i64 ((m : Int) - a) = 1 by rw [wr_i64 (by omega) (by omega)]; omega]
  refine Tri.cndT rfl ?_
  refine Tri.loop (I := fun k l' L => ∃ (i j : Nat), k = j - i ∧ i ≤ j ∧ j ≤ Y.length ∧ (∀ y ∈ Y.take i, κ y < κ x) ∧ (∀ y ∈ Y.drop j, κ x ≤ κ y) ∧
    l' = [.sc (.sl o), .sc (.i .i64 a), .sc (.fn g f c), .sc (.i .i64 ((m + i : Nat) : Int)), .sc (.i .i64 ((m + j : Nat) : Int))] ∧ L = .sl false tmE o (A ++ [x] ++ Y ++ B) :: F)
    ⟨0, Y.length, rfl, Nat.zero_le _, Nat.le_refl _, by simp, by simp, by simp [hm, hb], rfl⟩ (Sub.refl _) ?_
  rintro k l' L ⟨i, j, rfl, hij, hj, h1, h2, rfl, rfl⟩
  repeat (first|refine wa ?_|refine wb ?_|refine wc ?_|refine wd ?_|refine we ?_|refine wf ?_|refine wg ?_|refine wh rfl ?_|refine wi rfl ?_|refine wj rfl ?_|refine wk rfl ?_|refine wl rfl ?_|refine wm (by decide) ?_|refine wn ?_|refine wo ?_|refine wp (by decide) ?_|(apply Tri.ldE; (first|exact K0|exact K1|exact K2|exact K3|exact K4|exact K5|exact K6|exact K7|exact K8|exact K9|exact K10|exact K11); (exact rfl); (exact wz rfl))|(apply Tri.stE; (first|exact K0|exact K1|exact K2|exact K3|exact K4|exact K5|exact K6|exact K7|exact K8|exact K9|exact K10|exact K11); (exact rfl); (exact wz rfl))|(apply Tri.same; (first|exact K0|exact K1|exact K2|exact K3|exact K4|exact K5|exact K6|exact K7|exact K8|exact K9|exact K10|exact K11); (exact rfl); (exact wz rfl))|refine wq fun _ => ?_)
  refine Tri.cnd (fun hc => ?_) (fun hc => ?_)
  · have hc : i < j := by simp at hc; omega
    refine Tri.brT (by decide) ?_
    rw [half (by omega)]
    have eh : (m + i + (m + j)) / 2 = m + (i + j) / 2 := by omega
    rw [eh]
    generalize hh : (i + j) / 2 = h
    have hh1 : h < j := by omega
    have hh2 : i ≤ h := by omega
    obtain ⟨y, hy1⟩ : ∃ y, Y[h]? = some y := ⟨_, List.getElem?_eq_getElem (by omega)⟩
    refine Tri.ixld (T := tmE) (by first|exact K0|exact K1|exact K2|exact K3|exact K4|exact K5|exact K6|exact K7|exact K8|exact K9|exact K10|exact K11) rfl (by omega) (by simp; omega) fun y' hy' => ?_
    rw [Int.toNat_natCast, get_in (P := A ++ [x]) (by simp; omega) hy1] at hy'; cases hy'
    repeat (first|refine wa ?_|refine wb ?_|refine wc ?_|refine wd ?_|refine we ?_|refine wf ?_|refine wg ?_|refine wh rfl ?_|refine wi rfl ?_|refine wj rfl ?_|refine wk rfl ?_|refine wl rfl ?_|refine wm (by decide) ?_|refine wn ?_|refine wo ?_|refine wp (by decide) ?_|(apply Tri.ldE; (first|exact K0|exact K1|exact K2|exact K3|exact K4|exact K5|exact K6|exact K7|exact K8|exact K9|exact K10|exact K11); (exact rfl); (exact wz rfl))|(apply Tri.stE; (first|exact K0|exact K1|exact K2|exact K3|exact K4|exact K5|exact K6|exact K7|exact K8|exact K9|exact K10|exact K11); (exact rfl); (exact wz rfl))|(apply Tri.same; (first|exact K0|exact K1|exact K2|exact K3|exact K4|exact K5|exact K6|exact K7|exact K8|exact K9|exact K10|exact K11); (exact rfl); (exact wz rfl))|refine wq fun _ => ?_)
    refine Tri.ixld (T := tmE) (by first|exact K0|exact K1|exact K2|exact K3|exact K4|exact K5|exact K6|exact K7|exact K8|exact K9|exact K10|exact K11) rfl (by omega) (by simp; omega) fun x' hx' => ?_
    rw [Int.toNat_natCast, show A ++ [x] ++ Y ++ B = A ++ x :: (Y ++ B) by simp, get_mid' ha] at hx'; cases hx'
    repeat (first|refine wa ?_|refine wb ?_|refine wc ?_|refine wd ?_|refine we ?_|refine wf ?_|refine wg ?_|refine wh rfl ?_|refine wi rfl ?_|refine wj rfl ?_|refine wk rfl ?_|refine wl rfl ?_|refine wm (by decide) ?_|refine wn ?_|refine wo ?_|refine wp (by decide) ?_|(apply Tri.ldE; (first|exact K0|exact K1|exact K2|exact K3|exact K4|exact K5|exact K6|exact K7|exact K8|exact K9|exact K10|exact K11); (exact rfl); (exact wz rfl))|(apply Tri.stE; (first|exact K0|exact K1|exact K2|exact K3|exact K4|exact K5|exact K6|exact K7|exact K8|exact K9|exact K10|exact K11); (exact rfl); (exact wz rfl))|(apply Tri.same; (first|exact K0|exact K1|exact K2|exact K3|exact K4|exact K5|exact K6|exact K7|exact K8|exact K9|exact K10|exact K11); (exact rfl); (exact wz rfl))|refine wq fun _ => ?_)
    refine Tri.callv rfl (hcmp y x) (by repeat (first|exact Picks.nil|(apply Picks.cons; (first|exact K0|exact K1|exact K2|exact K3|exact K4|exact K5|exact K6|exact K7|exact K8|exact K9|exact K10|exact K11)))) ?_
    rintro v L' ⟨rfl, rfl⟩
    simp only [List.cons_append, List.nil_append]
    repeat (first|refine wa ?_|refine wb ?_|refine wc ?_|refine wd ?_|refine we ?_|refine wf ?_|refine wg ?_|refine wh rfl ?_|refine wi rfl ?_|refine wj rfl ?_|refine wk rfl ?_|refine wl rfl ?_|refine wm (by decide) ?_|refine wn ?_|refine wo ?_|refine wp (by decide) ?_|(apply Tri.ldE; (first|exact K0|exact K1|exact K2|exact K3|exact K4|exact K5|exact K6|exact K7|exact K8|exact K9|exact K10|exact K11); (exact rfl); (exact wz rfl))|(apply Tri.stE; (first|exact K0|exact K1|exact K2|exact K3|exact K4|exact K5|exact K6|exact K7|exact K8|exact K9|exact K10|exact K11); (exact rfl); (exact wz rfl))|(apply Tri.same; (first|exact K0|exact K1|exact K2|exact K3|exact K4|exact K5|exact K6|exact K7|exact K8|exact K9|exact K10|exact K11); (exact rfl); (exact wz rfl))|refine wq fun _ => ?_)
    rw [cmpI_neg]
    refine Tri.cnd (fun hk => ?_) (fun hk => ?_)
    · have hk : κ y < κ x := by simpa using hk
      refine Tri.back (m' := j - (h + 1)) (by omega) ⟨h + 1, j, rfl, by omega, hj, ?_, h2, ?_, rfl⟩ (Sub.refl _)
      · intro z hz
        obtain ⟨q, hq, e⟩ := of_take hz
        have := hy.le (by omega : q ≤ h) e hy1
        omega
      · rw [wr_i64 (by omega) (by omega)]; rfl
    · have hk : κ x ≤ κ y := by simpa using hk
      refine Tri.back (m' := h - i) (by omega) ⟨i, h, rfl, hh2, by omega, h1, ?_, rfl, rfl⟩ (Sub.refl _)
      intro z hz
      obtain ⟨q, hq, e⟩ := of_drop hz
      have := hy.le hq hy1 e
      omega
  · have hc : i = j := by simp at hc; omega
    subst hc
    repeat (first|refine wa ?_|refine wb ?_|refine wc ?_|refine wd ?_|refine we ?_|refine wf ?_|refine wg ?_|refine wh rfl ?_|refine wi rfl ?_|refine wj rfl ?_|refine wk rfl ?_|refine wl rfl ?_|refine wm (by decide) ?_|refine wn ?_|refine wo ?_|refine wp (by decide) ?_|(apply Tri.ldE; (first|exact K0|exact K1|exact K2|exact K3|exact K4|exact K5|exact K6|exact K7|exact K8|exact K9|exact K10|exact K11); (exact rfl); (exact wz rfl))|(apply Tri.stE; (first|exact K0|exact K1|exact K2|exact K3|exact K4|exact K5|exact K6|exact K7|exact K8|exact K9|exact K10|exact K11); (exact rfl); (exact wz rfl))|(apply Tri.same; (first|exact K0|exact K1|exact K2|exact K3|exact K4|exact K5|exact K6|exact K7|exact K8|exact K9|exact K10|exact K11); (exact rfl); (exact wz rfl))|refine wq fun _ => ?_)
    have hY : Y = Y.take i ++ Y.drop i := (List.take_append_drop _ _).symm
    generalize e1 : Y.take i = Y1 at *
    generalize e2 : Y.drop i = Y2 at *
    have hl1 : Y1.length = i := by rw [← e1]; simp; omega
    clear e1 e2
    subst hY
    rw [ssort_front hy h1 h2]
    simp only [List.length_append] at hl
    refine Tri.loop (I := fun k l' L => ∃ (Ya Yb : List Tm), k = Yb.length ∧ Y1 = Ya ++ Yb ∧
      l' = [.sc (.sl o), .sc (.i .i64 ((m + i : Nat) : Int)), .sc (.i .i64 ((a + Ya.length : Nat) : Int))] ∧ L = .sl false tmE o (A ++ Ya ++ x :: (Yb ++ Y2 ++ B)) :: F)
      ⟨[], Y1, rfl, rfl, rfl, rfl⟩ (by simpa using Sub.refl _) ?_
    rintro k l' L ⟨Ya, Yb, rfl, rfl, rfl, rfl⟩
    simp only [List.length_append] at hl hl1
    repeat (first|refine wa ?_|refine wb ?_|refine wc ?_|refine wd ?_|refine we ?_|refine wf ?_|refine wg ?_|refine wh rfl ?_|refine wi rfl ?_|refine wj rfl ?_|refine wk rfl ?_|refine wl rfl ?_|refine wm (by decide) ?_|refine wn ?_|refine wo ?_|refine wp (by decide) ?_|(apply Tri.ldE; (first|exact K0|exact K1|exact K2|exact K3|exact K4|exact K5|exact K6|exact K7|exact K8|exact K9|exact K10|exact K11); (exact rfl); (exact wz rfl))|(apply Tri.stE; (first|exact K0|exact K1|exact K2|exact K3|exact K4|exact K5|exact K6|exact K7|exact K8|exact K9|exact K10|exact K11); (exact rfl); (exact wz rfl))|(apply Tri.same; (first|exact K0|exact K1|exact K2|exact K3|exact K4|exact K5|exact K6|exact K7|exact K8|exact K9|exact K10|exact K11); (exact rfl); (exact wz rfl))|refine wq fun _ => ?_)
    rw [show IntKind.wrap .i64 (((m + i : Nat) : Int) - 1) = ((a + i : Nat) : Int) by rw [wr_i64 (by omega) (by omega)]; omega]
    refine Tri.cnd (fun hc => ?_) (fun hc => ?_)
    · have hc : Ya.length < i := by simp at hc; omega
      cases Yb with
      | nil => simp at hl1; omega
      | cons y Yb =>
        simp only [List.length_cons] at hl hl1
        rw [show IntKind.wrap .i64 (((a + Ya.length : Nat) : Int) + 1) = ((a + Ya.length + 1 : Nat) : Int) by rw [wr_i64 (by omega) (by omega)]; omega]
        have e1 : A ++ Ya ++ x :: (y :: Yb ++ Y2 ++ B) = (A ++ Ya ++ [x]) ++ y :: (Yb ++ Y2 ++ B) := by simp
        have e2 : A ++ Ya ++ x :: (y :: Yb ++ Y2 ++ B) = (A ++ Ya) ++ x :: (y :: Yb ++ Y2 ++ B) := by simp
        have hp1 : a + Ya.length + 1 = (A ++ Ya ++ [x]).length := by simp; omega
        have hp2 : a + Ya.length = (A ++ Ya).length := by simp; omega
        refine Tri.ixld (T := tmE) (by first|exact K0|exact K1|exact K2|exact K3|exact K4|exact K5|exact K6|exact K7|exact K8|exact K9|exact K10|exact K11) rfl (by omega) (by simp; omega) fun y' hy' => ?_
        rw [Int.toNat_natCast, e1, get_mid' hp1] at hy'; cases hy'
        repeat (first|refine wa ?_|refine wb ?_|refine wc ?_|refine wd ?_|refine we ?_|refine wf ?_|refine wg ?_|refine wh rfl ?_|refine wi rfl ?_|refine wj rfl ?_|refine wk rfl ?_|refine wl rfl ?_|refine wm (by decide) ?_|refine wn ?_|refine wo ?_|refine wp (by decide) ?_|(apply Tri.ldE; (first|exact K0|exact K1|exact K2|exact K3|exact K4|exact K5|exact K6|exact K7|exact K8|exact K9|exact K10|exact K11); (exact rfl); (exact wz rfl))|(apply Tri.stE; (first|exact K0|exact K1|exact K2|exact K3|exact K4|exact K5|exact K6|exact K7|exact K8|exact K9|exact K10|exact K11); (exact rfl); (exact wz rfl))|(apply Tri.same; (first|exact K0|exact K1|exact K2|exact K3|exact K4|exact K5|exact K6|exact K7|exact K8|exact K9|exact K10|exact K11); (exact rfl); (exact wz rfl))|refine wq fun _ => ?_)
        refine Tri.ixld (T := tmE) (by first|exact K0|exact K1|exact K2|exact K3|exact K4|exact K5|exact K6|exact K7|exact K8|exact K9|exact K10|exact K11) rfl (by omega) (by simp; omega) fun x' hx' => ?_
        rw [Int.toNat_natCast, e2, get_mid' hp2] at hx'; cases hx'
        repeat (first|refine wa ?_|refine wb ?_|refine wc ?_|refine wd ?_|refine we ?_|refine wf ?_|refine wg ?_|refine wh rfl ?_|refine wi rfl ?_|refine wj rfl ?_|refine wk rfl ?_|refine wl rfl ?_|refine wm (by decide) ?_|refine wn ?_|refine wo ?_|refine wp (by decide) ?_|(apply Tri.ldE; (first|exact K0|exact K1|exact K2|exact K3|exact K4|exact K5|exact K6|exact K7|exact K8|exact K9|exact K10|exact K11); (exact rfl); (exact wz rfl))|(apply Tri.stE; (first|exact K0|exact K1|exact K2|exact K3|exact K4|exact K5|exact K6|exact K7|exact K8|exact K9|exact K10|exact K11); (exact rfl); (exact wz rfl))|(apply Tri.same; (first|exact K0|exact K1|exact K2|exact K3|exact K4|exact K5|exact K6|exact K7|exact K8|exact K9|exact K10|exact K11); (exact rfl); (exact wz rfl))|refine wq fun _ => ?_)
        refine Tri.ixst (T := tmE) y (by first|exact K0|exact K1|exact K2|exact K3|exact K4|exact K5|exact K6|exact K7|exact K8|exact K9|exact K10|exact K11) rfl (by omega) (by simp; omega) rfl ?_
        rw [Int.toNat_natCast, e2, set_mid' hp2]
        refine Tri.ixst (T := tmE) x (by first|exact K0|exact K1|exact K2|exact K3|exact K4|exact K5|exact K6|exact K7|exact K8|exact K9|exact K10|exact K11) rfl (by omega) (by simp; omega) rfl ?_
        have hp3 : a + Ya.length + 1 = (A ++ Ya ++ [y]).length := by simp; omega
        rw [Int.toNat_natCast, show (A ++ Ya) ++ y :: (y :: Yb ++ Y2 ++ B) = (A ++ Ya ++ [y]) ++ y :: (Yb ++ Y2 ++ B) by simp, set_mid' hp3]
        refine Tri.back (m' := Yb.length) (by simp) ⟨Ya ++ [y], Yb, rfl, by simp, ?_, rfl⟩ (by simpa using Sub.refl _)
        simp [Nat.add_assoc]
    · have hc : Yb = [] := List.length_eq_zero_iff.1 (by simp at hc; omega)
      subst hc
      repeat (first|refine wa ?_|refine wb ?_|refine wc ?_|refine wd ?_|refine we ?_|refine wf ?_|refine wg ?_|refine wh rfl ?_|refine wi rfl ?_|refine wj rfl ?_|refine wk rfl ?_|refine wl rfl ?_|refine wm (by decide) ?_|refine wn ?_|refine wo ?_|refine wp (by decide) ?_|(apply Tri.ldE; (first|exact K0|exact K1|exact K2|exact K3|exact K4|exact K5|exact K6|exact K7|exact K8|exact K9|exact K10|exact K11); (exact rfl); (exact wz rfl))|(apply Tri.stE; (first|exact K0|exact K1|exact K2|exact K3|exact K4|exact K5|exact K6|exact K7|exact K8|exact K9|exact K10|exact K11); (exact rfl); (exact wz rfl))|(apply Tri.same; (first|exact K0|exact K1|exact K2|exact K3|exact K4|exact K5|exact K6|exact K7|exact K8|exact K9|exact K10|exact K11); (exact rfl); (exact wz rfl))|refine wq fun _ => ?_)
      exact Tri.retF ⟨rfl, rfl⟩ (by simpa using Sub.refl _)

theorem symm2_spec {o : Option SlD} {A X B : List Tm} {y : Tm} {a m b : Nat} {g : FuncId} {f c : List (Nat × Nat)} {κ : Tm → Int} (hcmp : IsCmp g f c κ) (ha : a = A.length) (hm : m = A.length + X.length) (hb : b = A.length + X.length + 1)
    (hx0 : X.length ≠ 1) (hx : Srt κ X) (hl : (A ++ X ++ [y] ++ B).length ≤ 1000) : FSpec E 35 [.sc (.sl o), .sc (.i .i64 a), .sc (.i .i64 m), .sc (.i .i64 b), .sc (.fn g f c)] [.sl false tmE o (A ++ X ++ [y] ++ B)]
    (fun v L' => v = .tu [] ∧ L' = [.sl false tmE o (A ++ ssort κ (X ++ [y]) ++ B)]) := by
  refine FSpec.of (Try.func35 : Try.prog.funcs[35]? = some Try.f35) (t35_eq _ _ _ _ _ _ _) fun F => ?_
  simp only [List.length_append, List.length_cons, List.length_nil] at hl
  unfold t35
  refine Tri.cndF (by rw [wr_i64 (by omega) (by omega)]; simp; omega) ?_
  rw [show IntKind.wrap .i64 ((b : Int) - m) = 1 by rw [wr_i64 (by omega) (by omega)]; omega]
  refine Tri.cndT rfl ?_
  refine Tri.loop (I := fun k l' L => ∃ (i j : Nat), k = j - i ∧ i ≤ j ∧ j ≤ X.length ∧ (∀ x ∈ X.take i, κ x ≤ κ y) ∧ (∀ x ∈ X.drop j, κ y < κ x) ∧
    l' = [.sc (.sl o), .sc (.i .i64 m), .sc (.fn g f c), .sc (.i .i64 ((a + i : Nat) : Int)), .sc (.i .i64 ((a + j : Nat) : Int))] ∧ L = .sl false tmE o (A ++ X ++ [y] ++ B) :: F)
    ⟨0, X.length, rfl, Nat.zero_le _, Nat.le_refl _, by simp, by simp, by simp [hm, ha], rfl⟩ (Sub.refl _) ?_
  rintro k l' L ⟨i, j, rfl, hij, hj, h1, h2, rfl, rfl⟩
  repeat (first|refine wa ?_|refine wb ?_|refine wc ?_|refine wd ?_|refine we ?_|refine wf ?_|refine wg ?_|refine wh rfl ?_|refine wi rfl ?_|refine wj rfl ?_|refine wk rfl ?_|refine wl rfl ?_|refine wm (by decide) ?_|refine wn ?_|refine wo ?_|refine wp (by decide) ?_|(apply Tri.ldE; (first|exact K0|exact K1|exact K2|exact K3|exact K4|exact K5|exact K6|exact K7|exact K8|exact K9|exact K10|exact K11); (exact rfl); (exact wz rfl))|(apply Tri.stE; (first|exact K0|exact K1|exact K2|exact K3|exact K4|exact K5|exact K6|exact K7|exact K8|exact K9|exact K10|exact K11); (exact rfl); (exact wz rfl))|(apply Tri.same; (first|exact K0|exact K1|exact K2|exact K3|exact K4|exact K5|exact K6|exact K7|exact K8|exact K9|exact K10|exact K11); (exact rfl); (exact wz rfl))|refine wq fun _ => ?_)
  refine Tri.cnd (fun hc => ?_) (fun hc => ?_)
  · have hc : i < j := by simp at hc; omega
    refine Tri.brT (by decide) ?_
    rw [half (by omega)]
    have eh : (a + i + (a + j)) / 2 = a + (i + j) / 2 := by omega
    rw [eh]
    generalize hh : (i + j) / 2 = h
    have hh1 : h < j := by omega
    have hh2 : i ≤ h := by omega
    obtain ⟨x, hx1⟩ : ∃ x, X[h]? = some x := ⟨_, List.getElem?_eq_getElem (by omega)⟩
    refine Tri.ixld (T := tmE) (by first|exact K0|exact K1|exact K2|exact K3|exact K4|exact K5|exact K6|exact K7|exact K8|exact K9|exact K10|exact K11) rfl (by omega) (by simp; omega) fun y' hy' => ?_
    rw [Int.toNat_natCast, show A ++ X ++ [y] ++ B = (A ++ X) ++ y :: B by simp, get_mid' (by simp; omega)] at hy'; cases hy'
    repeat (first|refine wa ?_|refine wb ?_|refine wc ?_|refine wd ?_|refine we ?_|refine wf ?_|refine wg ?_|refine wh rfl ?_|refine wi rfl ?_|refine wj rfl ?_|refine wk rfl ?_|refine wl rfl ?_|refine wm (by decide) ?_|refine wn ?_|refine wo ?_|refine wp (by decide) ?_|(apply Tri.ldE; (first|exact K0|exact K1|exact K2|exact K3|exact K4|exact K5|exact K6|exact K7|exact K8|exact K9|exact K10|exact K11); (exact rfl); (exact wz rfl))|(apply Tri.stE; (first|exact K0|exact K1|exact K2|exact K3|exact K4|exact K5|exact K6|exact K7|exact K8|exact K9|exact K10|exact K11); (exact rfl); (exact wz rfl))|(apply Tri.same; (first|exact K0|exact K1|exact K2|exact K3|exact K4|exact K5|exact K6|exact K7|exact K8|exact K9|exact K10|exact K11); (exact rfl); (exact wz rfl))|refine wq fun _ => ?_)
    refine Tri.ixld (T := tmE) (by first|exact K0|exact K1|exact K2|exact K3|exact K4|exact K5|exact K6|exact K7|exact K8|exact K9|exact K10|exact K11) rfl (by omega) (by simp; omega) fun x' hx' => ?_
    rw [Int.toNat_natCast, show A ++ X ++ [y] ++ B = A ++ X ++ ([y] ++ B) by simp, get_in (P := A) (by omega) hx1] at hx'; cases hx'
    repeat (first|refine wa ?_|refine wb ?_|refine wc ?_|refine wd ?_|refine we ?_|refine wf ?_|refine wg ?_|refine wh rfl ?_|refine wi rfl ?_|refine wj rfl ?_|refine wk rfl ?_|refine wl rfl ?_|refine wm (by decide) ?_|refine wn ?_|refine wo ?_|refine wp (by decide) ?_|(apply Tri.ldE; (first|exact K0|exact K1|exact K2|exact K3|exact K4|exact K5|exact K6|exact K7|exact K8|exact K9|exact K10|exact K11); (exact rfl); (exact wz rfl))|(apply Tri.stE; (first|exact K0|exact K1|exact K2|exact K3|exact K4|exact K5|exact K6|exact K7|exact K8|exact K9|exact K10|exact K11); (exact rfl); (exact wz rfl))|(apply Tri.same; (first|exact K0|exact K1|exact K2|exact K3|exact K4|exact K5|exact K6|exact K7|exact K8|exact K9|exact K10|exact K11); (exact rfl); (exact wz rfl))|refine wq fun _ => ?_)
    refine Tri.callv rfl (hcmp y x) (by repeat (first|exact Picks.nil|(apply Picks.cons; (first|exact K0|exact K1|exact K2|exact K3|exact K4|exact K5|exact K6|exact K7|exact K8|exact K9|exact K10|exact K11)))) ?_
    rintro v L' ⟨rfl, rfl⟩
    simp only [List.cons_append, List.nil_append]
    repeat (first|refine wa ?_|refine wb ?_|refine wc ?_|refine wd ?_|refine we ?_|refine wf ?_|refine wg ?_|refine wh rfl ?_|refine wi rfl ?_|refine wj rfl ?_|refine wk rfl ?_|refine wl rfl ?_|refine wm (by decide) ?_|refine wn ?_|refine wo ?_|refine wp (by decide) ?_|(apply Tri.ldE; (first|exact K0|exact K1|exact K2|exact K3|exact K4|exact K5|exact K6|exact K7|exact K8|exact K9|exact K10|exact K11); (exact rfl); (exact wz rfl))|(apply Tri.stE; (first|exact K0|exact K1|exact K2|exact K3|exact K4|exact K5|exact K6|exact K7|exact K8|exact K9|exact K10|exact K11); (exact rfl); (exact wz rfl))|(apply Tri.same; (first|exact K0|exact K1|exact K2|exact K3|exact K4|exact K5|exact K6|exact K7|exact K8|exact K9|exact K10|exact K11); (exact rfl); (exact wz rfl))|refine wq fun _ => ?_)
    rw [cmpI_neg]
    refine Tri.cnd (fun hk => ?_) (fun hk => ?_)
    · have hk : κ x ≤ κ y := by simpa using hk
      refine Tri.back (m' := j - (h + 1)) (by omega) ⟨h + 1, j, rfl, by omega, hj, ?_, h2, ?_, rfl⟩ (Sub.refl _)
      · intro z hz
        obtain ⟨q, hq, e⟩ := of_take hz
        have := hx.le (by omega : q ≤ h) e hx1
        omega
      · rw [wr_i64 (by omega) (by omega)]; rfl
    · have hk : κ y < κ x := by simpa using hk
      refine Tri.back (m' := h - i) (by omega) ⟨i, h, rfl, hh2, by omega, h1, ?_, rfl, rfl⟩ (Sub.refl _)
      intro z hz
      obtain ⟨q, hq, e⟩ := of_drop hz
      have := hx.le hq hx1 e
      omega
  · have hc : i = j := by simp at hc; omega
    subst hc
    repeat (first|refine wa ?_|refine wb ?_|refine wc ?_|refine wd ?_|refine we ?_|refine wf ?_|refine wg ?_|refine wh rfl ?_|refine wi rfl ?_|refine wj rfl ?_|refine wk rfl ?_|refine wl rfl ?_|refine wm (by decide) ?_|refine wn ?_|refine wo ?_|refine wp (by decide) ?_|(apply Tri.ldE; (first|exact K0|exact K1|exact K2|exact K3|exact K4|exact K5|exact K6|exact K7|exact K8|exact K9|exact K10|exact K11); (exact rfl); (exact wz rfl))|(apply Tri.stE; (first|exact K0|exact K1|exact K2|exact K3|exact K4|exact K5|exact K6|exact K7|exact K8|exact K9|exact K10|exact K11); (exact rfl); (exact wz rfl))|(apply Tri.same; (first|exact K0|exact K1|exact K2|exact K3|exact K4|exact K5|exact K6|exact K7|exact K8|exact K9|exact K10|exact K11); (exact rfl); (exact wz rfl))|refine wq fun _ => ?_)
    have hX : X = X.take i ++ X.drop i := (List.take_append_drop _ _).symm
    generalize e1 : X.take i = X1 at *
    generalize e2 : X.drop i = X2 at *
    have hl1 : X1.length = i := by rw [← e1]; simp; omega
    clear e1 e2
    subst hX
    rw [ssort_back hx h1 h2]
    simp only [List.length_append] at hl hm
    refine Tri.loop (I := fun k l' L => ∃ (Xa Xb : List Tm), k = Xa.length ∧ X2 = Xa ++ Xb ∧
      l' = [.sc (.sl o), .sc (.i .i64 ((a + i : Nat) : Int)), .sc (.i .i64 ((a + i + Xa.length : Nat) : Int))] ∧ L = .sl false tmE o (A ++ X1 ++ Xa ++ y :: (Xb ++ B)) :: F)
      ⟨X2, [], rfl, by simp, by rw [show m = a + i + X2.length by omega], rfl⟩ (by simpa using Sub.refl _) ?_
    rintro k l' L ⟨Xa, Xb, rfl, rfl, rfl, rfl⟩
    simp only [List.length_append] at hl hm
    repeat (first|refine wa ?_|refine wb ?_|refine wc ?_|refine wd ?_|refine we ?_|refine wf ?_|refine wg ?_|refine wh rfl ?_|refine wi rfl ?_|refine wj rfl ?_|refine wk rfl ?_|refine wl rfl ?_|refine wm (by decide) ?_|refine wn ?_|refine wo ?_|refine wp (by decide) ?_|(apply Tri.ldE; (first|exact K0|exact K1|exact K2|exact K3|exact K4|exact K5|exact K6|exact K7|exact K8|exact K9|exact K10|exact K11); (exact rfl); (exact wz rfl))|(apply Tri.stE; (first|exact K0|exact K1|exact K2|exact K3|exact K4|exact K5|exact K6|exact K7|exact K8|exact K9|exact K10|exact K11); (exact rfl); (exact wz rfl))|(apply Tri.same; (first|exact K0|exact K1|exact K2|exact K3|exact K4|exact K5|exact K6|exact K7|exact K8|exact K9|exact K10|exact K11); (exact rfl); (exact wz rfl))|refine wq fun _ => ?_)
    refine Tri.cnd (fun hc => ?_) (fun hc => ?_)
    · have hc : 0 < Xa.length := by simp at hc; omega
      obtain ⟨Xa, z, rfl⟩ : ∃ S y, Xa = S ++ [y] := ⟨Xa.dropLast, Xa.getLast (by intro e; simp [e] at hc), (List.dropLast_concat_getLast _).symm⟩
      simp only [List.length_append, List.length_cons, List.length_nil] at hl hm
      rw [show IntKind.wrap .i64 (((a + i + (Xa ++ [z]).length : Nat) : Int) - 1) = ((a + i + Xa.length : Nat) : Int) by rw [wr_i64 (by simp; omega) (by simp; omega)]; simp; omega]
      have e1 : A ++ X1 ++ (Xa ++ [z]) ++ y :: (Xb ++ B) = (A ++ X1 ++ Xa ++ [z]) ++ y :: (Xb ++ B) := by simp
      have e2 : A ++ X1 ++ (Xa ++ [z]) ++ y :: (Xb ++ B) = (A ++ X1 ++ Xa) ++ z :: (y :: (Xb ++ B)) := by simp
      have hp1 : a + i + (Xa ++ [z]).length = (A ++ X1 ++ Xa ++ [z]).length := by simp; omega
      have hp2 : a + i + Xa.length = (A ++ X1 ++ Xa).length := by simp; omega
      refine Tri.ixld (T := tmE) (by first|exact K0|exact K1|exact K2|exact K3|exact K4|exact K5|exact K6|exact K7|exact K8|exact K9|exact K10|exact K11) rfl (by omega) (by simp; omega) fun y' hy' => ?_
      rw [Int.toNat_natCast, e2, get_mid' hp2] at hy'; cases hy'
      repeat (first|refine wa ?_|refine wb ?_|refine wc ?_|refine wd ?_|refine we ?_|refine wf ?_|refine wg ?_|refine wh rfl ?_|refine wi rfl ?_|refine wj rfl ?_|refine wk rfl ?_|refine wl rfl ?_|refine wm (by decide) ?_|refine wn ?_|refine wo ?_|refine wp (by decide) ?_|(apply Tri.ldE; (first|exact K0|exact K1|exact K2|exact K3|exact K4|exact K5|exact K6|exact K7|exact K8|exact K9|exact K10|exact K11); (exact rfl); (exact wz rfl))|(apply Tri.stE; (first|exact K0|exact K1|exact K2|exact K3|exact K4|exact K5|exact K6|exact K7|exact K8|exact K9|exact K10|exact K11); (exact rfl); (exact wz rfl))|(apply Tri.same; (first|exact K0|exact K1|exact K2|exact K3|exact K4|exact K5|exact K6|exact K7|exact K8|exact K9|exact K10|exact K11); (exact rfl); (exact wz rfl))|refine wq fun _ => ?_)
      refine Tri.ixld (T := tmE) (by first|exact K0|exact K1|exact K2|exact K3|exact K4|exact K5|exact K6|exact K7|exact K8|exact K9|exact K10|exact K11) rfl (by omega) (by simp; omega) fun x' hx' => ?_
      rw [Int.toNat_natCast, e1, get_mid' hp1] at hx'; cases hx'
      repeat (first|refine wa ?_|refine wb ?_|refine wc ?_|refine wd ?_|refine we ?_|refine wf ?_|refine wg ?_|refine wh rfl ?_|refine wi rfl ?_|refine wj rfl ?_|refine wk rfl ?_|refine wl rfl ?_|refine wm (by decide) ?_|refine wn ?_|refine wo ?_|refine wp (by decide) ?_|(apply Tri.ldE; (first|exact K0|exact K1|exact K2|exact K3|exact K4|exact K5|exact K6|exact K7|exact K8|exact K9|exact K10|exact K11); (exact rfl); (exact wz rfl))|(apply Tri.stE; (first|exact K0|exact K1|exact K2|exact K3|exact K4|exact K5|exact K6|exact K7|exact K8|exact K9|exact K10|exact K11); (exact rfl); (exact wz rfl))|(apply Tri.same; (first|exact K0|exact K1|exact K2|exact K3|exact K4|exact K5|exact K6|exact K7|exact K8|exact K9|exact K10|exact K11); (exact rfl); (exact wz rfl))|refine wq fun _ => ?_)
      refine Tri.ixst (T := tmE) z (by first|exact K0|exact K1|exact K2|exact K3|exact K4|exact K5|exact K6|exact K7|exact K8|exact K9|exact K10|exact K11) rfl (by omega) (by simp; omega) rfl ?_
      rw [Int.toNat_natCast, e1, set_mid' hp1]
      refine Tri.ixst (T := tmE) y (by first|exact K0|exact K1|exact K2|exact K3|exact K4|exact K5|exact K6|exact K7|exact K8|exact K9|exact K10|exact K11) rfl (by omega) (by simp; omega) rfl ?_
      rw [Int.toNat_natCast, show (A ++ X1 ++ Xa ++ [z]) ++ z :: (Xb ++ B) = (A ++ X1 ++ Xa) ++ z :: (z :: (Xb ++ B)) by simp, set_mid' hp2]
      exact Tri.back (m' := Xa.length) (by simp) ⟨Xa, z :: Xb, rfl, by simp, rfl, rfl⟩ (by simpa using Sub.refl _)
    · have hc : Xa = [] := List.length_eq_zero_iff.1 (by simp at hc; omega)
      subst hc
      repeat (first|refine wa ?_|refine wb ?_|refine wc ?_|refine wd ?_|refine we ?_|refine wf ?_|refine wg ?_|refine wh rfl ?_|refine wi rfl ?_|refine wj rfl ?_|refine wk rfl ?_|refine wl rfl ?_|refine wm (by decide) ?_|refine wn ?_|refine wo ?_|refine wp (by decide) ?_|(apply Tri.ldE; (first|exact K0|exact K1|exact K2|exact K3|exact K4|exact K5|exact K6|exact K7|exact K8|exact K9|exact K10|exact K11); (exact rfl); (exact wz rfl))|(apply Tri.stE; (first|exact K0|exact K1|exact K2|exact K3|exact K4|exact K5|exact K6|exact K7|exact K8|exact K9|exact K10|exact K11); (exact rfl); (exact wz rfl))|(apply Tri.same; (first|exact K0|exact K1|exact K2|exact K3|exact K4|exact K5|exact K6|exact K7|exact K8|exact K9|exact K10|exact K11); (exact rfl); (exact wz rfl))|refine wq fun _ => ?_)
      exact Tri.retF ⟨rfl, rfl⟩ (by simpa using Sub.refl _)
end Go.Proofs.Ytonohkjngmcbmaa
