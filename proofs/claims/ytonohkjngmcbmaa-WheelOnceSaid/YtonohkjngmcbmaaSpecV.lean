/- The library's symMerge, at the wheel's timers, and its stable sort. -/
import Derived.Test.YtonohkjngmcbmaaSpecU
import Derived.Test.YtonohkjngmcbmaaSpecT
namespace Go.Proofs.Ytonohkjngmcbmaa
open Go Go.Proofs.Ytonohkjngmcbmaa.Fw
set_option linter.unusedVariables false
set_option linter.unusedSimpArgs false

set_option maxHeartbeats 4000000 in
theorem symm_spec {g : FuncId} {f c : List (Nat × Nat)} {κ : Tm → Int} (hcmp : IsCmp g f c κ) : ∀ (N : Nat) {o : Option SlD} {A X Y B : List Tm} {a m b : Nat}, X.length + Y.length ≤ N → a = A.length → m = A.length + X.length → b = A.length + X.length + Y.length →
    0 < X.length → 0 < Y.length → Srt κ X → Srt κ Y → (A ++ X ++ Y ++ B).length ≤ 1000 → FSpec E 35 [.sc (.sl o), .sc (.i .i64 a), .sc (.i .i64 m), .sc (.i .i64 b), .sc (.fn g f c)] [.sl false tmE o (A ++ X ++ Y ++ B)]
    (fun v L' => v = .tu [] ∧ L' = [.sl false tmE o (A ++ ssort κ (X ++ Y) ++ B)]) := by
  intro N
  induction N with
  | zero => intro o A X Y B a m b hN _ _ _ hx; omega
  | succ N ih =>
  intro o A X Y B a m b hN ha hm hb hx0 hy0 hx hy hl
  by_cases hX1 : X.length = 1
  · obtain ⟨x, rfl⟩ := List.length_eq_one_iff.1 hX1
    exact symm1_spec hcmp ha (by simpa using hm) (by simpa using hb) hy hl
  by_cases hY1 : Y.length = 1
  · obtain ⟨y, rfl⟩ := List.length_eq_one_iff.1 hY1
    exact symm2_spec hcmp ha hm (by simpa using hb) hX1 hx hl
  refine FSpec.of (Try.func35 : Try.prog.funcs[35]? = some Try.f35) (t35_eq _ _ _ _ _ _ _) fun F => ?_
  have hl' := hl
  simp only [List.length_append] at hl
  unfold t35
  refine Tri.cndF (by rw [wr_i64 (by omega) (by omega)]; simp; omega) ?_
  refine Tri.cndF (by rw [wr_i64 (by omega) (by omega)]; simp; omega) ?_
  refine Tri.brT (by decide) ?_
  rw [half (by omega)]
  generalize hmid : (a + b) / 2 = mid
  rw [show IntKind.wrap .i64 ((mid : Int) + m) = ((mid + m : Nat) : Int) by rw [wr_i64 (by omega) (by omega)]; omega]
  -- where the search begins and ends
  refine Tri.joinQ (fun tag l L => tag = 0 ∧ L = .sl false tmE o (A ++ X ++ Y ++ B) :: F ∧ ∃ s0 r0 : Nat, (m > mid ∧ s0 + b = mid + m ∧ r0 = mid ∨ m ≤ mid ∧ s0 = a ∧ r0 = m) ∧
    l = [.sc (.sl o), .sc (.i .i64 a), .sc (.i .i64 m), .sc (.i .i64 b), .sc (.fn g f c), .sc (.i .i64 mid), .sc (.i .i64 ((mid + m : Nat) : Int)), .sc (.i .i64 s0), .sc (.i .i64 r0)]) ?_ ?_
  · refine Tri.cnd (fun hc => ?_) (fun hc => ?_)
    · have hc : mid < m := by simp at hc; omega
      rw [show IntKind.wrap .i64 (((mid + m : Nat) : Int) - b) = ((mid + m - b : Nat) : Int) by rw [wr_i64 (by omega) (by omega)]; omega]
      exact Tri.ret ⟨rfl, rfl, mid + m - b, mid, .inl ⟨hc, by omega, rfl⟩, rfl⟩ (Sub.refl _)
    · have hc : m ≤ mid := by simp at hc; omega
      exact Tri.ret ⟨rfl, rfl, a, m, .inr ⟨hc, rfl, rfl⟩, rfl⟩ (Sub.refl _)
  rintro tag l L ⟨rfl, rfl, s0, r0, h0, rfl⟩
  have hs0 : a ≤ s0 ∧ s0 ≤ r0 ∧ r0 ≤ m ∧ r0 ≤ mid ∧ mid + m ≤ b + s0 := by omega
  repeat (first|refine wa ?_|refine wb ?_|refine wc ?_|refine wd ?_|refine we ?_|refine wf ?_|refine wg ?_|refine wh rfl ?_|refine wi rfl ?_|refine wj rfl ?_|refine wk rfl ?_|refine wl rfl ?_|refine wm (by decide) ?_|refine wn ?_|refine wo ?_|refine wp (by decide) ?_|(apply Tri.ldE; (first|exact K0|exact K1|exact K2|exact K3|exact K4|exact K5|exact K6|exact K7|exact K8|exact K9|exact K10|exact K11); (exact rfl); (exact wz rfl))|(apply Tri.stE; (first|exact K0|exact K1|exact K2|exact K3|exact K4|exact K5|exact K6|exact K7|exact K8|exact K9|exact K10|exact K11); (exact rfl); (exact wz rfl))|(apply Tri.same; (first|exact K0|exact K1|exact K2|exact K3|exact K4|exact K5|exact K6|exact K7|exact K8|exact K9|exact K10|exact K11); (exact rfl); (exact wz rfl))|refine wq fun _ => ?_)
  rw [show IntKind.wrap .i64 (((mid + m : Nat) : Int) - 1) = ((mid + m - 1 : Nat) : Int) by rw [wr_i64 (by omega) (by omega)]; omega]
  refine Tri.loop (I := fun k l' L => ∃ (s r : Nat), k = r - s ∧ s0 ≤ s ∧ s ≤ r ∧ r ≤ r0 ∧
    (s0 < s → ∃ x y, X[s - 1 - a]? = some x ∧ Y[mid - s]? = some y ∧ κ x ≤ κ y) ∧
    (r < r0 → ∃ x y, X[r - a]? = some x ∧ Y[mid - 1 - r]? = some y ∧ κ y < κ x) ∧
    l' = [.sc (.sl o), .sc (.i .i64 a), .sc (.i .i64 m), .sc (.i .i64 b), .sc (.fn g f c), .sc (.i .i64 mid), .sc (.i .i64 ((mid + m : Nat) : Int)), .sc (.i .i64 s), .sc (.i .i64 r), .sc (.i .i64 ((mid + m - 1 : Nat) : Int))] ∧
    L = .sl false tmE o (A ++ X ++ Y ++ B) :: F)
    ⟨s0, r0, rfl, Nat.le_refl _, by omega, Nat.le_refl _, fun h => by omega, fun h => by omega, rfl, rfl⟩ (Sub.refl _) ?_
  rintro k l' L ⟨s, r, rfl, hs, hsr, hr, h1, h2, rfl, rfl⟩
  repeat (first|refine wa ?_|refine wb ?_|refine wc ?_|refine wd ?_|refine we ?_|refine wf ?_|refine wg ?_|refine wh rfl ?_|refine wi rfl ?_|refine wj rfl ?_|refine wk rfl ?_|refine wl rfl ?_|refine wm (by decide) ?_|refine wn ?_|refine wo ?_|refine wp (by decide) ?_|(apply Tri.ldE; (first|exact K0|exact K1|exact K2|exact K3|exact K4|exact K5|exact K6|exact K7|exact K8|exact K9|exact K10|exact K11); (exact rfl); (exact wz rfl))|(apply Tri.stE; (first|exact K0|exact K1|exact K2|exact K3|exact K4|exact K5|exact K6|exact K7|exact K8|exact K9|exact K10|exact K11); (exact rfl); (exact wz rfl))|(apply Tri.same; (first|exact K0|exact K1|exact K2|exact K3|exact K4|exact K5|exact K6|exact K7|exact K8|exact K9|exact K10|exact K11); (exact rfl); (exact wz rfl))|refine wq fun _ => ?_)
  refine Tri.cnd (fun hc => ?_) (fun hc => ?_)
  · have hc : s < r := by simp at hc; omega
    refine Tri.brT (by decide) ?_
    rw [half (by omega)]
    generalize hh : (s + r) / 2 = h
    have hh1 : h < r := by omega
    have hh2 : s ≤ h := by omega
    rw [show IntKind.wrap .i64 (((mid + m - 1 : Nat) : Int) - h) = ((mid + m - 1 - h : Nat) : Int) by rw [wr_i64 (by omega) (by omega)]; omega]
    obtain ⟨x, hx1⟩ : ∃ x, X[h - a]? = some x := ⟨_, List.getElem?_eq_getElem (by omega)⟩
    obtain ⟨y, hy1⟩ : ∃ y, Y[mid - 1 - h]? = some y := ⟨_, List.getElem?_eq_getElem (by omega)⟩
    refine Tri.ixld (T := tmE) (by first|exact K0|exact K1|exact K2|exact K3|exact K4|exact K5|exact K6|exact K7|exact K8|exact K9|exact K10|exact K11) rfl (by omega) (by simp; omega) fun y' hy' => ?_
    rw [Int.toNat_natCast, get_in (P := A ++ X) (h := mid - 1 - h) (by simp; omega) hy1] at hy'; cases hy'
    repeat (first|refine wa ?_|refine wb ?_|refine wc ?_|refine wd ?_|refine we ?_|refine wf ?_|refine wg ?_|refine wh rfl ?_|refine wi rfl ?_|refine wj rfl ?_|refine wk rfl ?_|refine wl rfl ?_|refine wm (by decide) ?_|refine wn ?_|refine wo ?_|refine wp (by decide) ?_|(apply Tri.ldE; (first|exact K0|exact K1|exact K2|exact K3|exact K4|exact K5|exact K6|exact K7|exact K8|exact K9|exact K10|exact K11); (exact rfl); (exact wz rfl))|(apply Tri.stE; (first|exact K0|exact K1|exact K2|exact K3|exact K4|exact K5|exact K6|exact K7|exact K8|exact K9|exact K10|exact K11); (exact rfl); (exact wz rfl))|(apply Tri.same; (first|exact K0|exact K1|exact K2|exact K3|exact K4|exact K5|exact K6|exact K7|exact K8|exact K9|exact K10|exact K11); (exact rfl); (exact wz rfl))|refine wq fun _ => ?_)
    refine Tri.ixld (T := tmE) (by first|exact K0|exact K1|exact K2|exact K3|exact K4|exact K5|exact K6|exact K7|exact K8|exact K9|exact K10|exact K11) rfl (by omega) (by simp; omega) fun x' hx' => ?_
    rw [Int.toNat_natCast, show A ++ X ++ Y ++ B = A ++ X ++ (Y ++ B) by simp, get_in (P := A) (h := h - a) (by omega) hx1] at hx'; cases hx'
    repeat (first|refine wa ?_|refine wb ?_|refine wc ?_|refine wd ?_|refine we ?_|refine wf ?_|refine wg ?_|refine wh rfl ?_|refine wi rfl ?_|refine wj rfl ?_|refine wk rfl ?_|refine wl rfl ?_|refine wm (by decide) ?_|refine wn ?_|refine wo ?_|refine wp (by decide) ?_|(apply Tri.ldE; (first|exact K0|exact K1|exact K2|exact K3|exact K4|exact K5|exact K6|exact K7|exact K8|exact K9|exact K10|exact K11); (exact rfl); (exact wz rfl))|(apply Tri.stE; (first|exact K0|exact K1|exact K2|exact K3|exact K4|exact K5|exact K6|exact K7|exact K8|exact K9|exact K10|exact K11); (exact rfl); (exact wz rfl))|(apply Tri.same; (first|exact K0|exact K1|exact K2|exact K3|exact K4|exact K5|exact K6|exact K7|exact K8|exact K9|exact K10|exact K11); (exact rfl); (exact wz rfl))|refine wq fun _ => ?_)
    refine Tri.callv rfl (hcmp y x) (by repeat (first|exact Picks.nil|(apply Picks.cons; (first|exact K0|exact K1|exact K2|exact K3|exact K4|exact K5|exact K6|exact K7|exact K8|exact K9|exact K10|exact K11)))) ?_
    rintro v L' ⟨rfl, rfl⟩
    simp only [List.cons_append, List.nil_append]
    repeat (first|refine wa ?_|refine wb ?_|refine wc ?_|refine wd ?_|refine we ?_|refine wf ?_|refine wg ?_|refine wh rfl ?_|refine wi rfl ?_|refine wj rfl ?_|refine wk rfl ?_|refine wl rfl ?_|refine wm (by decide) ?_|refine wn ?_|refine wo ?_|refine wp (by decide) ?_|(apply Tri.ldE; (first|exact K0|exact K1|exact K2|exact K3|exact K4|exact K5|exact K6|exact K7|exact K8|exact K9|exact K10|exact K11); (exact rfl); (exact wz rfl))|(apply Tri.stE; (first|exact K0|exact K1|exact K2|exact K3|exact K4|exact K5|exact K6|exact K7|exact K8|exact K9|exact K10|exact K11); (exact rfl); (exact wz rfl))|(apply Tri.same; (first|exact K0|exact K1|exact K2|exact K3|exact K4|exact K5|exact K6|exact K7|exact K8|exact K9|exact K10|exact K11); (exact rfl); (exact wz rfl))|refine wq fun _ => ?_)
    rw [cmpI_neg]
    refine Tri.cnd (fun hk => ?_) (fun hk => ?_)
    · have hk : κ x ≤ κ y := by simpa using hk
      refine Tri.back (m' := r - (h + 1)) (by omega) ⟨h + 1, r, rfl, by omega, by omega, hr, fun _ => ⟨x, y, by rw [show h + 1 - 1 - a = h - a by omega]; exact hx1, by rw [show mid - (h + 1) = mid - 1 - h by omega]; exact hy1, hk⟩, h2, ?_, rfl⟩ (Sub.refl _)
      rw [wr_i64 (by omega) (by omega)]; rfl
    · have hk : κ y < κ x := by simpa using hk
      exact Tri.back (m' := h - s) (by omega) ⟨s, h, rfl, hs, hh2, by omega, h1, fun _ => ⟨x, y, hx1, hy1, hk⟩, rfl, rfl⟩ (Sub.refl _)
  · have hc : s = r := by simp at hc; omega
    subst hc
    repeat (first|refine wa ?_|refine wb ?_|refine wc ?_|refine wd ?_|refine we ?_|refine wf ?_|refine wg ?_|refine wh rfl ?_|refine wi rfl ?_|refine wj rfl ?_|refine wk rfl ?_|refine wl rfl ?_|refine wm (by decide) ?_|refine wn ?_|refine wo ?_|refine wp (by decide) ?_|(apply Tri.ldE; (first|exact K0|exact K1|exact K2|exact K3|exact K4|exact K5|exact K6|exact K7|exact K8|exact K9|exact K10|exact K11); (exact rfl); (exact wz rfl))|(apply Tri.stE; (first|exact K0|exact K1|exact K2|exact K3|exact K4|exact K5|exact K6|exact K7|exact K8|exact K9|exact K10|exact K11); (exact rfl); (exact wz rfl))|(apply Tri.same; (first|exact K0|exact K1|exact K2|exact K3|exact K4|exact K5|exact K6|exact K7|exact K8|exact K9|exact K10|exact K11); (exact rfl); (exact wz rfl))|refine wq fun _ => ?_)
    rw [show IntKind.wrap .i64 (((mid + m : Nat) : Int) - s) = ((mid + m - s : Nat) : Int) by rw [wr_i64 (by omega) (by omega)]; omega]
    have hlt : ∀ y ∈ Y.take (mid - s), ∀ x ∈ X.drop (s - a), κ y < κ x := by
      by_cases hq : s < r0
      · obtain ⟨x, y, e1, e2, e3⟩ := h2 hq
        have := part_lt hx hy e1 e2 e3
        rwa [show mid - 1 - s + 1 = mid - s by omega] at this
      · intro y hyt x hxt
        rcases h0 with ⟨_, _, h0⟩ | ⟨_, _, h0⟩
        · rw [show mid - s = 0 by omega] at hyt; simp at hyt
        · rw [List.drop_eq_nil_of_le (by omega)] at hxt; simp at hxt
    have hle : ∀ x ∈ X.take (s - a), ∀ y ∈ Y.drop (mid - s), κ x ≤ κ y := by
      by_cases hq : s0 < s
      · obtain ⟨x, y, e1, e2, e3⟩ := h1 hq
        have := part_le hx hy e1 e2 e3
        rwa [show s - 1 - a + 1 = s - a by omega] at this
      · intro x hxt y hyt
        rcases h0 with ⟨_, h0, _⟩ | ⟨_, h0, _⟩
        · rw [List.drop_eq_nil_of_le (by omega)] at hyt; simp at hyt
        · rw [show s - a = 0 by omega] at hxt; simp at hxt
    have hXe : X = X.take (s - a) ++ X.drop (s - a) := (List.take_append_drop _ _).symm
    have hYe : Y = Y.take (mid - s) ++ Y.drop (mid - s) := (List.take_append_drop _ _).symm
    generalize e1 : X.take (s - a) = X1 at *
    generalize e2 : X.drop (s - a) = X2 at *
    generalize e3 : Y.take (mid - s) = Y1 at *
    generalize e4 : Y.drop (mid - s) = Y2 at *
    have l1 : X1.length = s - a := by rw [← e1]; simp; omega
    have l3 : Y1.length = mid - s := by rw [← e3]; simp; omega
    clear e1 e2 e3 e4 h1 h2
    subst hXe; subst hYe
    simp only [List.length_append] at *
    have sx := List.pairwise_append.1 hx
    have sy := List.pairwise_append.1 hy
    rw [ssort_parts hx hy hlt hle]
    have S3 : Tri E (.sl false tmE o (A ++ ssort κ (X1 ++ Y1) ++ X2 ++ Y2 ++ B) :: F) (cond (decide ((mid : Int) < ((mid + m - s : Nat) : Int))) (cond (decide (((mid + m - s : Nat) : Int) < (b : Int)))
        (.call 35 [.sc (.sl o), .sc (.i .i64 mid), .sc (.i .i64 ((mid + m - s : Nat) : Int)), .sc (.i .i64 b), .sc (.fn g f c)] fun v => .ret 0 [.tu []]) (.ret 0 [.tu []])) (.ret 0 [.tu []]))
        (RQ F fun v L' => v = .tu [] ∧ L' = [.sl false tmE o (A ++ (ssort κ (X1 ++ Y1) ++ ssort κ (X2 ++ Y2)) ++ B)]) := by
      have hsl := ssort_length (κ := κ) (X1 ++ Y1)
      simp only [List.length_append] at hsl
      refine Tri.cnd (fun q1 => ?_) (fun q1 => ?_)
      · have q1 : mid < mid + m - s := by simp at q1; omega
        refine Tri.cnd (fun q2 => ?_) (fun q2 => ?_)
        · have q2 : mid + m - s < b := by simp at q2; omega
          refine Tri.call (ih (A := A ++ ssort κ (X1 ++ Y1)) (X := X2) (Y := Y2) (B := B) (by omega) (by simp; omega) (by simp; omega) (by simp; omega) (by omega) (by omega) sx.2.1 sy.2.1 (by simp; omega)) (by repeat (first|exact Picks.nil|(apply Picks.cons; (first|exact K0|exact K1|exact K2|exact K3|exact K4|exact K5|exact K6|exact K7|exact K8|exact K9|exact K10|exact K11)))) ?_
          rintro v L' ⟨rfl, rfl⟩
          simp only [List.cons_append, List.nil_append]
          exact Tri.retF ⟨rfl, rfl⟩ (by simpa using Sub.refl _)
        · have : Y2 = [] := List.length_eq_zero_iff.1 (by simp at q2; omega)
          have hsame : ssort κ (X2 ++ Y2) = X2 ++ Y2 := by subst this; rw [List.append_nil]; exact ssort_of_srt sx.2.1
          refine Tri.retF ⟨rfl, rfl⟩ ?_
          rw [hsame]; simpa using Sub.refl _
      · have : X2 = [] := List.length_eq_zero_iff.1 (by simp at q1; omega)
        have hsame : ssort κ (X2 ++ Y2) = X2 ++ Y2 := by subst this; exact ssort_of_srt sy.2.1
        refine Tri.retF ⟨rfl, rfl⟩ ?_
        rw [hsame]; simpa using Sub.refl _
    refine Tri.cnd (fun p1 => ?_) (fun p1 => ?_)
    · have p1 : s < m := by simp at p1; omega
      repeat (first|refine wa ?_|refine wb ?_|refine wc ?_|refine wd ?_|refine we ?_|refine wf ?_|refine wg ?_|refine wh rfl ?_|refine wi rfl ?_|refine wj rfl ?_|refine wk rfl ?_|refine wl rfl ?_|refine wm (by decide) ?_|refine wn ?_|refine wo ?_|refine wp (by decide) ?_|(apply Tri.ldE; (first|exact K0|exact K1|exact K2|exact K3|exact K4|exact K5|exact K6|exact K7|exact K8|exact K9|exact K10|exact K11); (exact rfl); (exact wz rfl))|(apply Tri.stE; (first|exact K0|exact K1|exact K2|exact K3|exact K4|exact K5|exact K6|exact K7|exact K8|exact K9|exact K10|exact K11); (exact rfl); (exact wz rfl))|(apply Tri.same; (first|exact K0|exact K1|exact K2|exact K3|exact K4|exact K5|exact K6|exact K7|exact K8|exact K9|exact K10|exact K11); (exact rfl); (exact wz rfl))|refine wq fun _ => ?_)
      refine Tri.cnd (fun p2 => ?_) (fun p2 => ?_)
      · have p2 : m < mid + m - s := by simp at p2; omega
        refine Tri.sub (L' := .sl false tmE o (A ++ X1 ++ X2 ++ Y1 ++ (Y2 ++ B)) :: F) (by simpa using Sub.refl _) ?_
        refine Tri.call (rotate_spec (A := A ++ X1) (X := X2) (Y := Y1) (B := Y2 ++ B) (by simp; omega) (by simp; omega) (by simp; omega) (by omega) (by omega) (by simp; omega)) (by repeat (first|exact Picks.nil|(apply Picks.cons; (first|exact K0|exact K1|exact K2|exact K3|exact K4|exact K5|exact K6|exact K7|exact K8|exact K9|exact K10|exact K11)))) ?_
        rintro v L' ⟨rfl, rfl⟩
        simp only [List.cons_append, List.nil_append]
        repeat (first|refine wa ?_|refine wb ?_|refine wc ?_|refine wd ?_|refine we ?_|refine wf ?_|refine wg ?_|refine wh rfl ?_|refine wi rfl ?_|refine wj rfl ?_|refine wk rfl ?_|refine wl rfl ?_|refine wm (by decide) ?_|refine wn ?_|refine wo ?_|refine wp (by decide) ?_|(apply Tri.ldE; (first|exact K0|exact K1|exact K2|exact K3|exact K4|exact K5|exact K6|exact K7|exact K8|exact K9|exact K10|exact K11); (exact rfl); (exact wz rfl))|(apply Tri.stE; (first|exact K0|exact K1|exact K2|exact K3|exact K4|exact K5|exact K6|exact K7|exact K8|exact K9|exact K10|exact K11); (exact rfl); (exact wz rfl))|(apply Tri.same; (first|exact K0|exact K1|exact K2|exact K3|exact K4|exact K5|exact K6|exact K7|exact K8|exact K9|exact K10|exact K11); (exact rfl); (exact wz rfl))|refine wq fun _ => ?_)
        refine Tri.cnd (fun q1 => ?_) (fun q1 => ?_)
        · have q1 : a < s := by simp at q1; omega
          repeat (first|refine wa ?_|refine wb ?_|refine wc ?_|refine wd ?_|refine we ?_|refine wf ?_|refine wg ?_|refine wh rfl ?_|refine wi rfl ?_|refine wj rfl ?_|refine wk rfl ?_|refine wl rfl ?_|refine wm (by decide) ?_|refine wn ?_|refine wo ?_|refine wp (by decide) ?_|(apply Tri.ldE; (first|exact K0|exact K1|exact K2|exact K3|exact K4|exact K5|exact K6|exact K7|exact K8|exact K9|exact K10|exact K11); (exact rfl); (exact wz rfl))|(apply Tri.stE; (first|exact K0|exact K1|exact K2|exact K3|exact K4|exact K5|exact K6|exact K7|exact K8|exact K9|exact K10|exact K11); (exact rfl); (exact wz rfl))|(apply Tri.same; (first|exact K0|exact K1|exact K2|exact K3|exact K4|exact K5|exact K6|exact K7|exact K8|exact K9|exact K10|exact K11); (exact rfl); (exact wz rfl))|refine wq fun _ => ?_)
          refine Tri.cnd (fun q2 => ?_) (fun q2 => ?_)
          · have q2 : s < mid := by simp at q2; omega
            refine Tri.sub (L' := .sl false tmE o (A ++ X1 ++ Y1 ++ (X2 ++ Y2 ++ B)) :: F) (by simpa using Sub.refl _) ?_
            refine Tri.call (ih (A := A) (X := X1) (Y := Y1) (B := X2 ++ Y2 ++ B) (by omega) ha (by omega) (by omega) (by omega) (by omega) sx.1 sy.1 (by simp; omega)) (by repeat (first|exact Picks.nil|(apply Picks.cons; (first|exact K0|exact K1|exact K2|exact K3|exact K4|exact K5|exact K6|exact K7|exact K8|exact K9|exact K10|exact K11)))) ?_
            rintro v L' ⟨rfl, rfl⟩
            simp only [List.cons_append, List.nil_append]
            repeat (first|refine wa ?_|refine wb ?_|refine wc ?_|refine wd ?_|refine we ?_|refine wf ?_|refine wg ?_|refine wh rfl ?_|refine wi rfl ?_|refine wj rfl ?_|refine wk rfl ?_|refine wl rfl ?_|refine wm (by decide) ?_|refine wn ?_|refine wo ?_|refine wp (by decide) ?_|(apply Tri.ldE; (first|exact K0|exact K1|exact K2|exact K3|exact K4|exact K5|exact K6|exact K7|exact K8|exact K9|exact K10|exact K11); (exact rfl); (exact wz rfl))|(apply Tri.stE; (first|exact K0|exact K1|exact K2|exact K3|exact K4|exact K5|exact K6|exact K7|exact K8|exact K9|exact K10|exact K11); (exact rfl); (exact wz rfl))|(apply Tri.same; (first|exact K0|exact K1|exact K2|exact K3|exact K4|exact K5|exact K6|exact K7|exact K8|exact K9|exact K10|exact K11); (exact rfl); (exact wz rfl))|refine wq fun _ => ?_)
            exact Tri.sub (by simpa using Sub.refl _) S3
          · have q2 : mid ≤ s := by simp at q2; omega
            have : Y1 = [] := List.length_eq_zero_iff.1 (by omega)
            have hsame : ssort κ (X1 ++ Y1) = X1 ++ Y1 := by subst this; rw [List.append_nil]; exact ssort_of_srt sx.1
            repeat (first|refine wa ?_|refine wb ?_|refine wc ?_|refine wd ?_|refine we ?_|refine wf ?_|refine wg ?_|refine wh rfl ?_|refine wi rfl ?_|refine wj rfl ?_|refine wk rfl ?_|refine wl rfl ?_|refine wm (by decide) ?_|refine wn ?_|refine wo ?_|refine wp (by decide) ?_|(apply Tri.ldE; (first|exact K0|exact K1|exact K2|exact K3|exact K4|exact K5|exact K6|exact K7|exact K8|exact K9|exact K10|exact K11); (exact rfl); (exact wz rfl))|(apply Tri.stE; (first|exact K0|exact K1|exact K2|exact K3|exact K4|exact K5|exact K6|exact K7|exact K8|exact K9|exact K10|exact K11); (exact rfl); (exact wz rfl))|(apply Tri.same; (first|exact K0|exact K1|exact K2|exact K3|exact K4|exact K5|exact K6|exact K7|exact K8|exact K9|exact K10|exact K11); (exact rfl); (exact wz rfl))|refine wq fun _ => ?_)
            exact Tri.sub (by rw [hsame]; simpa using Sub.refl _) S3
        · have q1 : X1 = [] := List.length_eq_zero_iff.1 (by simp at q1; omega)
          have hsame : ssort κ (X1 ++ Y1) = X1 ++ Y1 := by subst q1; exact ssort_of_srt sy.1
          repeat (first|refine wa ?_|refine wb ?_|refine wc ?_|refine wd ?_|refine we ?_|refine wf ?_|refine wg ?_|refine wh rfl ?_|refine wi rfl ?_|refine wj rfl ?_|refine wk rfl ?_|refine wl rfl ?_|refine wm (by decide) ?_|refine wn ?_|refine wo ?_|refine wp (by decide) ?_|(apply Tri.ldE; (first|exact K0|exact K1|exact K2|exact K3|exact K4|exact K5|exact K6|exact K7|exact K8|exact K9|exact K10|exact K11); (exact rfl); (exact wz rfl))|(apply Tri.stE; (first|exact K0|exact K1|exact K2|exact K3|exact K4|exact K5|exact K6|exact K7|exact K8|exact K9|exact K10|exact K11); (exact rfl); (exact wz rfl))|(apply Tri.same; (first|exact K0|exact K1|exact K2|exact K3|exact K4|exact K5|exact K6|exact K7|exact K8|exact K9|exact K10|exact K11); (exact rfl); (exact wz rfl))|refine wq fun _ => ?_)
          exact Tri.sub (by rw [hsame]; simpa using Sub.refl _) S3
      · have p2 : Y1 = [] := List.length_eq_zero_iff.1 (by simp at p2; omega)
        refine Tri.sub (L' := .sl false tmE o (A ++ X1 ++ Y1 ++ X2 ++ (Y2 ++ B)) :: F) (by subst p2; simpa using Sub.refl _) ?_
        repeat (first|refine wa ?_|refine wb ?_|refine wc ?_|refine wd ?_|refine we ?_|refine wf ?_|refine wg ?_|refine wh rfl ?_|refine wi rfl ?_|refine wj rfl ?_|refine wk rfl ?_|refine wl rfl ?_|refine wm (by decide) ?_|refine wn ?_|refine wo ?_|refine wp (by decide) ?_|(apply Tri.ldE; (first|exact K0|exact K1|exact K2|exact K3|exact K4|exact K5|exact K6|exact K7|exact K8|exact K9|exact K10|exact K11); (exact rfl); (exact wz rfl))|(apply Tri.stE; (first|exact K0|exact K1|exact K2|exact K3|exact K4|exact K5|exact K6|exact K7|exact K8|exact K9|exact K10|exact K11); (exact rfl); (exact wz rfl))|(apply Tri.same; (first|exact K0|exact K1|exact K2|exact K3|exact K4|exact K5|exact K6|exact K7|exact K8|exact K9|exact K10|exact K11); (exact rfl); (exact wz rfl))|refine wq fun _ => ?_)
        refine Tri.cnd (fun q1 => ?_) (fun q1 => ?_)
        · have q1 : a < s := by simp at q1; omega
          repeat (first|refine wa ?_|refine wb ?_|refine wc ?_|refine wd ?_|refine we ?_|refine wf ?_|refine wg ?_|refine wh rfl ?_|refine wi rfl ?_|refine wj rfl ?_|refine wk rfl ?_|refine wl rfl ?_|refine wm (by decide) ?_|refine wn ?_|refine wo ?_|refine wp (by decide) ?_|(apply Tri.ldE; (first|exact K0|exact K1|exact K2|exact K3|exact K4|exact K5|exact K6|exact K7|exact K8|exact K9|exact K10|exact K11); (exact rfl); (exact wz rfl))|(apply Tri.stE; (first|exact K0|exact K1|exact K2|exact K3|exact K4|exact K5|exact K6|exact K7|exact K8|exact K9|exact K10|exact K11); (exact rfl); (exact wz rfl))|(apply Tri.same; (first|exact K0|exact K1|exact K2|exact K3|exact K4|exact K5|exact K6|exact K7|exact K8|exact K9|exact K10|exact K11); (exact rfl); (exact wz rfl))|refine wq fun _ => ?_)
          refine Tri.cnd (fun q2 => ?_) (fun q2 => ?_)
          · have q2 : s < mid := by simp at q2; omega
            refine Tri.sub (L' := .sl false tmE o (A ++ X1 ++ Y1 ++ (X2 ++ Y2 ++ B)) :: F) (by simpa using Sub.refl _) ?_
            refine Tri.call (ih (A := A) (X := X1) (Y := Y1) (B := X2 ++ Y2 ++ B) (by omega) ha (by omega) (by omega) (by omega) (by omega) sx.1 sy.1 (by simp; omega)) (by repeat (first|exact Picks.nil|(apply Picks.cons; (first|exact K0|exact K1|exact K2|exact K3|exact K4|exact K5|exact K6|exact K7|exact K8|exact K9|exact K10|exact K11)))) ?_
            rintro v L' ⟨rfl, rfl⟩
            simp only [List.cons_append, List.nil_append]
            repeat (first|refine wa ?_|refine wb ?_|refine wc ?_|refine wd ?_|refine we ?_|refine wf ?_|refine wg ?_|refine wh rfl ?_|refine wi rfl ?_|refine wj rfl ?_|refine wk rfl ?_|refine wl rfl ?_|refine wm (by decide) ?_|refine wn ?_|refine wo ?_|refine wp (by decide) ?_|(apply Tri.ldE; (first|exact K0|exact K1|exact K2|exact K3|exact K4|exact K5|exact K6|exact K7|exact K8|exact K9|exact K10|exact K11); (exact rfl); (exact wz rfl))|(apply Tri.stE; (first|exact K0|exact K1|exact K2|exact K3|exact K4|exact K5|exact K6|exact K7|exact K8|exact K9|exact K10|exact K11); (exact rfl); (exact wz rfl))|(apply Tri.same; (first|exact K0|exact K1|exact K2|exact K3|exact K4|exact K5|exact K6|exact K7|exact K8|exact K9|exact K10|exact K11); (exact rfl); (exact wz rfl))|refine wq fun _ => ?_)
            exact Tri.sub (by simpa using Sub.refl _) S3
          · have q2 : mid ≤ s := by simp at q2; omega
            have : Y1 = [] := List.length_eq_zero_iff.1 (by omega)
            have hsame : ssort κ (X1 ++ Y1) = X1 ++ Y1 := by subst this; rw [List.append_nil]; exact ssort_of_srt sx.1
            repeat (first|refine wa ?_|refine wb ?_|refine wc ?_|refine wd ?_|refine we ?_|refine wf ?_|refine wg ?_|refine wh rfl ?_|refine wi rfl ?_|refine wj rfl ?_|refine wk rfl ?_|refine wl rfl ?_|refine wm (by decide) ?_|refine wn ?_|refine wo ?_|refine wp (by decide) ?_|(apply Tri.ldE; (first|exact K0|exact K1|exact K2|exact K3|exact K4|exact K5|exact K6|exact K7|exact K8|exact K9|exact K10|exact K11); (exact rfl); (exact wz rfl))|(apply Tri.stE; (first|exact K0|exact K1|exact K2|exact K3|exact K4|exact K5|exact K6|exact K7|exact K8|exact K9|exact K10|exact K11); (exact rfl); (exact wz rfl))|(apply Tri.same; (first|exact K0|exact K1|exact K2|exact K3|exact K4|exact K5|exact K6|exact K7|exact K8|exact K9|exact K10|exact K11); (exact rfl); (exact wz rfl))|refine wq fun _ => ?_)
            exact Tri.sub (by rw [hsame]; simpa using Sub.refl _) S3
        · have q1 : X1 = [] := List.length_eq_zero_iff.1 (by simp at q1; omega)
          have hsame : ssort κ (X1 ++ Y1) = X1 ++ Y1 := by subst q1; exact ssort_of_srt sy.1
          repeat (first|refine wa ?_|refine wb ?_|refine wc ?_|refine wd ?_|refine we ?_|refine wf ?_|refine wg ?_|refine wh rfl ?_|refine wi rfl ?_|refine wj rfl ?_|refine wk rfl ?_|refine wl rfl ?_|refine wm (by decide) ?_|refine wn ?_|refine wo ?_|refine wp (by decide) ?_|(apply Tri.ldE; (first|exact K0|exact K1|exact K2|exact K3|exact K4|exact K5|exact K6|exact K7|exact K8|exact K9|exact K10|exact K11); (exact rfl); (exact wz rfl))|(apply Tri.stE; (first|exact K0|exact K1|exact K2|exact K3|exact K4|exact K5|exact K6|exact K7|exact K8|exact K9|exact K10|exact K11); (exact rfl); (exact wz rfl))|(apply Tri.same; (first|exact K0|exact K1|exact K2|exact K3|exact K4|exact K5|exact K6|exact K7|exact K8|exact K9|exact K10|exact K11); (exact rfl); (exact wz rfl))|refine wq fun _ => ?_)
          exact Tri.sub (by rw [hsame]; simpa using Sub.refl _) S3
    · have p1 : X2 = [] := List.length_eq_zero_iff.1 (by simp at p1; omega)
      refine Tri.sub (L' := .sl false tmE o (A ++ X1 ++ Y1 ++ X2 ++ (Y2 ++ B)) :: F) (by subst p1; simpa using Sub.refl _) ?_
      repeat (first|refine wa ?_|refine wb ?_|refine wc ?_|refine wd ?_|refine we ?_|refine wf ?_|refine wg ?_|refine wh rfl ?_|refine wi rfl ?_|refine wj rfl ?_|refine wk rfl ?_|refine wl rfl ?_|refine wm (by decide) ?_|refine wn ?_|refine wo ?_|refine wp (by decide) ?_|(apply Tri.ldE; (first|exact K0|exact K1|exact K2|exact K3|exact K4|exact K5|exact K6|exact K7|exact K8|exact K9|exact K10|exact K11); (exact rfl); (exact wz rfl))|(apply Tri.stE; (first|exact K0|exact K1|exact K2|exact K3|exact K4|exact K5|exact K6|exact K7|exact K8|exact K9|exact K10|exact K11); (exact rfl); (exact wz rfl))|(apply Tri.same; (first|exact K0|exact K1|exact K2|exact K3|exact K4|exact K5|exact K6|exact K7|exact K8|exact K9|exact K10|exact K11); (exact rfl); (exact wz rfl))|refine wq fun _ => ?_)
      refine Tri.cnd (fun q1 => ?_) (fun q1 => ?_)
      · have q1 : a < s := by simp at q1; omega
        repeat (first|refine wa ?_|refine wb ?_|refine wc ?_|refine wd ?_|refine we ?_|refine wf ?_|refine wg ?_|refine wh rfl ?_|refine wi rfl ?_|refine wj rfl ?_|refine wk rfl ?_|refine wl rfl ?_|refine wm (by decide) ?_|refine wn ?_|refine wo ?_|refine wp (by decide) ?_|(apply Tri.ldE; (first|exact K0|exact K1|exact K2|exact K3|exact K4|exact K5|exact K6|exact K7|exact K8|exact K9|exact K10|exact K11); (exact rfl); (exact wz rfl))|(apply Tri.stE; (first|exact K0|exact K1|exact K2|exact K3|exact K4|exact K5|exact K6|exact K7|exact K8|exact K9|exact K10|exact K11); (exact rfl); (exact wz rfl))|(apply Tri.same; (first|exact K0|exact K1|exact K2|exact K3|exact K4|exact K5|exact K6|exact K7|exact K8|exact K9|exact K10|exact K11); (exact rfl); (exact wz rfl))|refine wq fun _ => ?_)
        refine Tri.cnd (fun q2 => ?_) (fun q2 => ?_)
        · have q2 : s < mid := by simp at q2; omega
          refine Tri.sub (L' := .sl false tmE o (A ++ X1 ++ Y1 ++ (X2 ++ Y2 ++ B)) :: F) (by simpa using Sub.refl _) ?_
          refine Tri.call (ih (A := A) (X := X1) (Y := Y1) (B := X2 ++ Y2 ++ B) (by omega) ha (by omega) (by omega) (by omega) (by omega) sx.1 sy.1 (by simp; omega)) (by repeat (first|exact Picks.nil|(apply Picks.cons; (first|exact K0|exact K1|exact K2|exact K3|exact K4|exact K5|exact K6|exact K7|exact K8|exact K9|exact K10|exact K11)))) ?_
          rintro v L' ⟨rfl, rfl⟩
          simp only [List.cons_append, List.nil_append]
          repeat (first|refine wa ?_|refine wb ?_|refine wc ?_|refine wd ?_|refine we ?_|refine wf ?_|refine wg ?_|refine wh rfl ?_|refine wi rfl ?_|refine wj rfl ?_|refine wk rfl ?_|refine wl rfl ?_|refine wm (by decide) ?_|refine wn ?_|refine wo ?_|refine wp (by decide) ?_|(apply Tri.ldE; (first|exact K0|exact K1|exact K2|exact K3|exact K4|exact K5|exact K6|exact K7|exact K8|exact K9|exact K10|exact K11); (exact rfl); (exact wz rfl))|(apply Tri.stE; (first|exact K0|exact K1|exact K2|exact K3|exact K4|exact K5|exact K6|exact K7|exact K8|exact K9|exact K10|exact K11); (exact rfl); (exact wz rfl))|(apply Tri.same; (first|exact K0|exact K1|exact K2|exact K3|exact K4|exact K5|exact K6|exact K7|exact K8|exact K9|exact K10|exact K11); (exact rfl); (exact wz rfl))|refine wq fun _ => ?_)
          exact Tri.sub (by simpa using Sub.refl _) S3
        · have q2 : mid ≤ s := by simp at q2; omega
          have : Y1 = [] := List.length_eq_zero_iff.1 (by omega)
          have hsame : ssort κ (X1 ++ Y1) = X1 ++ Y1 := by subst this; rw [List.append_nil]; exact ssort_of_srt sx.1
          repeat (first|refine wa ?_|refine wb ?_|refine wc ?_|refine wd ?_|refine we ?_|refine wf ?_|refine wg ?_|refine wh rfl ?_|refine wi rfl ?_|refine wj rfl ?_|refine wk rfl ?_|refine wl rfl ?_|refine wm (by decide) ?_|refine wn ?_|refine wo ?_|refine wp (by decide) ?_|(apply Tri.ldE; (first|exact K0|exact K1|exact K2|exact K3|exact K4|exact K5|exact K6|exact K7|exact K8|exact K9|exact K10|exact K11); (exact rfl); (exact wz rfl))|(apply Tri.stE; (first|exact K0|exact K1|exact K2|exact K3|exact K4|exact K5|exact K6|exact K7|exact K8|exact K9|exact K10|exact K11); (exact rfl); (exact wz rfl))|(apply Tri.same; (first|exact K0|exact K1|exact K2|exact K3|exact K4|exact K5|exact K6|exact K7|exact K8|exact K9|exact K10|exact K11); (exact rfl); (exact wz rfl))|refine wq fun _ => ?_)
          exact Tri.sub (by rw [hsame]; simpa using Sub.refl _) S3
      · have q1 : X1 = [] := List.length_eq_zero_iff.1 (by simp at q1; omega)
        have hsame : ssort κ (X1 ++ Y1) = X1 ++ Y1 := by subst q1; exact ssort_of_srt sy.1
        repeat (first|refine wa ?_|refine wb ?_|refine wc ?_|refine wd ?_|refine we ?_|refine wf ?_|refine wg ?_|refine wh rfl ?_|refine wi rfl ?_|refine wj rfl ?_|refine wk rfl ?_|refine wl rfl ?_|refine wm (by decide) ?_|refine wn ?_|refine wo ?_|refine wp (by decide) ?_|(apply Tri.ldE; (first|exact K0|exact K1|exact K2|exact K3|exact K4|exact K5|exact K6|exact K7|exact K8|exact K9|exact K10|exact K11); (exact rfl); (exact wz rfl))|(apply Tri.stE; (first|exact K0|exact K1|exact K2|exact K3|exact K4|exact K5|exact K6|exact K7|exact K8|exact K9|exact K10|exact K11); (exact rfl); (exact wz rfl))|(apply Tri.same; (first|exact K0|exact K1|exact K2|exact K3|exact K4|exact K5|exact K6|exact K7|exact K8|exact K9|exact K10|exact K11); (exact rfl); (exact wz rfl))|refine wq fun _ => ?_)
        exact Tri.sub (by rw [hsame]; simpa using Sub.refl _) S3
end Go.Proofs.Ytonohkjngmcbmaa
