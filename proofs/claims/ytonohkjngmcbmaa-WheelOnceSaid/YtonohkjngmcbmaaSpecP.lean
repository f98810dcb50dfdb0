/- What the document's Due comes to, where no timer is there twice. -/
import Derived.Test.YtonohkjngmcbmaaSpecQ
namespace Go.Proofs.Ytonohkjngmcbmaa
open Go Go.Proofs.Ytonohkjngmcbmaa.Fw
set_option linter.unusedVariables false
set_option linter.unusedSimpArgs false

def NodK (l : List Tm) : Prop := l.Pairwise fun a b => isT a.k a.id b = false
theorem isT_iff {k id : Int} {t : Tm} : isT k id t = true ↔ t.k = k ∧ t.id = id := by simp [isT]
theorem rmv_filter {k id : Int} : ∀ {l : List Tm}, NodK l → rmv l k id = l.filter fun t => !isT k id t
  | [], _ => by simp [rmv]
  | t :: l, h => by
    obtain ⟨h1, h2⟩ := List.pairwise_cons.1 h
    have ih := rmv_filter (k := k) (id := id) h2
    unfold rmv idx at ih ⊢
    rw [List.findIdx_cons]
    cases ht : isT k id t with
    | true =>
      obtain ⟨rfl, rfl⟩ := isT_iff.1 ht
      rw [List.filter_cons, if_neg (by simp [ht])]
      simp only [cond_true, List.eraseIdx_cons_zero]
      exact (List.filter_eq_self.2 fun x hx => by simp [h1 x hx]).symm
    | false =>
      rw [List.filter_cons, if_pos (by simp [ht])]
      simp only [cond_false, List.eraseIdx_cons_succ]
      rw [ih]
theorem NodK.filter {l : List Tm} (h : NodK l) (p : Tm → Bool) : NodK (l.filter p) := List.Pairwise.filter p h
theorem NodK.rmv {l : List Tm} (h : NodK l) (k id : Int) : NodK (rmv l k id) := by rw [rmv_filter h]; exact h.filter _
theorem NodK.setT {l : List Tm} (h : NodK l) (k id a : Int) : NodK (setT l k id a).2 := by
  unfold Go.Proofs.Ytonohkjngmcbmaa.setT
  split
  · exact h
  · split
    · exact h
    · refine List.pairwise_append.2 ⟨h.rmv k id, by simp, fun x hx y hy => ?_⟩
      simp at hy; subst hy
      rw [rmv_filter h] at hx
      have := (List.mem_filter.1 hx).2
      simp only [Bool.not_eq_true'] at this
      cases hq : isT x.k x.id ⟨k, id, a⟩ with
      | false => rfl
      | true => obtain ⟨h1, h2⟩ := isT_iff.1 hq; simp only at h1 h2; subst h1; subst h2; simp [isT] at this
theorem NodK.eq {l : List Tm} (h : NodK l) : ∀ {x t : Tm}, x ∈ l → t ∈ l → isT x.k x.id t = true → x = t := by
  induction l with
  | nil => intro x t hx; cases hx
  | cons a l ih =>
    obtain ⟨h1, h2⟩ := List.pairwise_cons.1 h
    intro x t hx ht he
    cases hx with
    | head =>
      cases ht with
      | head => rfl
      | tail _ ht => rw [h1 t ht] at he; cases he
    | tail _ hx =>
      cases ht with
      | head =>
        have := h1 x hx
        obtain ⟨e1, e2⟩ := isT_iff.1 he
        rw [isT_iff.2 ⟨e1.symm, e2.symm⟩] at this; cases this
      | tail _ ht => exact ih h2 hx ht he
theorem left_any {l D R : List Tm} {now : Int} (h : NodK l) (hS : ssort Tm.at_ l = D ++ R) (h1 : ∀ x ∈ D, x.at_ ≤ now) (h2 : ∀ x ∈ R, now < x.at_) :
    (l.filter fun t => !D.any fun x => isT x.k x.id t) = leftL l now ∧ dueL l now = D := by
  have hm : ∀ x, x ∈ D ++ R ↔ x ∈ l := fun x => by rw [← hS]; exact (stb_ssort l).mem x
  constructor
  · unfold leftL
    refine List.filter_congr fun t ht => ?_
    congr 1
    rw [Bool.eq_iff_iff, List.any_eq_true]
    simp only [decide_eq_true_eq]
    constructor
    · rintro ⟨x, hx, he⟩
      have := h.eq ((hm x).1 (List.mem_append_left _ hx)) ht he
      subst this; exact h1 x hx
    · intro hle
      rcases List.mem_append.1 ((hm t).2 ht) with hd | hr
      · exact ⟨t, hd, by simp [isT]⟩
      · have := h2 t hr; omega
  · unfold dueL
    rw [hS, List.filter_append, List.filter_eq_self.2 (fun x hx => by simpa using h1 x hx), List.filter_eq_nil_iff.2 (fun x hx => by have := h2 x hx; simp; omega), List.append_nil]

theorem rdue_spec {p : Nat} {l : List Tm} {now : Int} (hl : l.length ≤ 1000) (hn : NodK l) : FSpec E 13 [.sc (.p (some (p, 0))), .sc (.i .u64 now)] [Wh p l]
    (fun v L' => ∃ o', v = .sc (.sl o') ∧ L' = [Wh p (leftL l now), .sl false tmE o' (dueL l now)]) := by
  refine FSpec.of (Try.func13 : Try.prog.funcs[13]? = some Try.f13) (t13_eq _ _ _) fun F => ?_
  unfold t13
  refine Tri.call (rall_spec hl) (by repeat (first|exact Picks.nil|(apply Picks.cons; (first|exact K0|exact K1|exact K2|exact K3|exact K4|exact K5|exact K6|exact K7|exact K8|exact K9|exact K10|exact K11)))) ?_
  rintro v L' ⟨o, rfl, rfl⟩
  simp only [List.cons_append, List.nil_append]
  repeat (first|refine wa ?_|refine wb ?_|refine wc ?_|refine wd ?_|refine we ?_|refine wf ?_|refine wg ?_|refine wh rfl ?_|refine wi rfl ?_|refine wj rfl ?_|refine wk rfl ?_|refine wl rfl ?_|refine wm (by decide) ?_|refine wn ?_|refine wo ?_|refine wp (by decide) ?_|(apply Tri.ldE; (first|exact K0|exact K1|exact K2|exact K3|exact K4|exact K5|exact K6|exact K7|exact K8|exact K9|exact K10|exact K11); (exact rfl); (exact wz rfl))|(apply Tri.stE; (first|exact K0|exact K1|exact K2|exact K3|exact K4|exact K5|exact K6|exact K7|exact K8|exact K9|exact K10|exact K11); (exact rfl); (exact wz rfl))|(apply Tri.same; (first|exact K0|exact K1|exact K2|exact K3|exact K4|exact K5|exact K6|exact K7|exact K8|exact K9|exact K10|exact K11); (exact rfl); (exact wz rfl))|refine wq fun _ => ?_)
  have hsl := ssort_length (κ := Tm.at_) l
  refine Tri.loop (I := fun m l' L => ∃ (D R : List Tm), m = R.length ∧ ssort Tm.at_ l = D ++ R ∧ (∀ x ∈ D, x.at_ ≤ now) ∧
    l' = [.sc (.p (some (p, 0))), .sc (.i .u64 now), .sc (.sl o), .sc (.i .i64 D.length)] ∧ L = Wh p (l.filter fun t => !D.any fun x => isT x.k x.id t) :: .sl false tmE o (ssort Tm.at_ l) :: F)
    ⟨[], ssort Tm.at_ l, rfl, rfl, by simp, rfl, rfl⟩ (by rw [List.filter_eq_self.2 (by simp)]; exact Sub.refl _) ?_
  rintro m l' L ⟨D, R, rfl, hS, h1, rfl, rfl⟩
  have hSl := congrArg List.length hS
  simp only [List.length_append] at hSl
  repeat (first|refine wa ?_|refine wb ?_|refine wc ?_|refine wd ?_|refine we ?_|refine wf ?_|refine wg ?_|refine wh rfl ?_|refine wi rfl ?_|refine wj rfl ?_|refine wk rfl ?_|refine wl rfl ?_|refine wm (by decide) ?_|refine wn ?_|refine wo ?_|refine wp (by decide) ?_|(apply Tri.ldE; (first|exact K0|exact K1|exact K2|exact K3|exact K4|exact K5|exact K6|exact K7|exact K8|exact K9|exact K10|exact K11); (exact rfl); (exact wz rfl))|(apply Tri.stE; (first|exact K0|exact K1|exact K2|exact K3|exact K4|exact K5|exact K6|exact K7|exact K8|exact K9|exact K10|exact K11); (exact rfl); (exact wz rfl))|(apply Tri.same; (first|exact K0|exact K1|exact K2|exact K3|exact K4|exact K5|exact K6|exact K7|exact K8|exact K9|exact K10|exact K11); (exact rfl); (exact wz rfl))|refine wq fun _ => ?_)
  refine Tri.slLen (T := tmE) (ro := false) (o := o) (l := ssort Tm.at_ l) (by first|exact K0|exact K1|exact K2|exact K3|exact K4|exact K5|exact K6|exact K7|exact K8|exact K9|exact K10|exact K11) fun e3 e4 => ?_
  rw [e4]
  refine Tri.cnd (fun hc => ?_) (fun hc => ?_)
  · cases R with
    | nil => simp [hS] at hc
    | cons x R =>
      simp only [List.length_cons] at hSl
      have hx : (ssort Tm.at_ l)[D.length]? = some x := by rw [hS]; exact get_mid _ _ _
      refine Tri.ixld1 (T := tmE) (o := o) (l := ssort Tm.at_ l) (by first|exact K0|exact K1|exact K2|exact K3|exact K4|exact K5|exact K6|exact K7|exact K8|exact K9|exact K10|exact K11) rfl (by decide) (by omega) (by omega) fun y hy z hz => ?_
      rw [Int.toNat_natCast, hx] at hy; cases hy
      cases hz
      repeat (first|refine wa ?_|refine wb ?_|refine wc ?_|refine wd ?_|refine we ?_|refine wf ?_|refine wg ?_|refine wh rfl ?_|refine wi rfl ?_|refine wj rfl ?_|refine wk rfl ?_|refine wl rfl ?_|refine wm (by decide) ?_|refine wn ?_|refine wo ?_|refine wp (by decide) ?_|(apply Tri.ldE; (first|exact K0|exact K1|exact K2|exact K3|exact K4|exact K5|exact K6|exact K7|exact K8|exact K9|exact K10|exact K11); (exact rfl); (exact wz rfl))|(apply Tri.stE; (first|exact K0|exact K1|exact K2|exact K3|exact K4|exact K5|exact K6|exact K7|exact K8|exact K9|exact K10|exact K11); (exact rfl); (exact wz rfl))|(apply Tri.same; (first|exact K0|exact K1|exact K2|exact K3|exact K4|exact K5|exact K6|exact K7|exact K8|exact K9|exact K10|exact K11); (exact rfl); (exact wz rfl))|refine wq fun _ => ?_)
      refine Tri.cnd (fun hk => ?_) (fun hk => ?_)
      · have hk : x.at_ ≤ now := by simpa using hk
        refine Tri.ixld1 (T := tmE) (o := o) (l := ssort Tm.at_ l) (by first|exact K0|exact K1|exact K2|exact K3|exact K4|exact K5|exact K6|exact K7|exact K8|exact K9|exact K10|exact K11) rfl (by decide) (by omega) (by omega) fun y hy z hz => ?_
        rw [Int.toNat_natCast, hx] at hy; cases hy
        cases hz
        repeat (first|refine wa ?_|refine wb ?_|refine wc ?_|refine wd ?_|refine we ?_|refine wf ?_|refine wg ?_|refine wh rfl ?_|refine wi rfl ?_|refine wj rfl ?_|refine wk rfl ?_|refine wl rfl ?_|refine wm (by decide) ?_|refine wn ?_|refine wo ?_|refine wp (by decide) ?_|(apply Tri.ldE; (first|exact K0|exact K1|exact K2|exact K3|exact K4|exact K5|exact K6|exact K7|exact K8|exact K9|exact K10|exact K11); (exact rfl); (exact wz rfl))|(apply Tri.stE; (first|exact K0|exact K1|exact K2|exact K3|exact K4|exact K5|exact K6|exact K7|exact K8|exact K9|exact K10|exact K11); (exact rfl); (exact wz rfl))|(apply Tri.same; (first|exact K0|exact K1|exact K2|exact K3|exact K4|exact K5|exact K6|exact K7|exact K8|exact K9|exact K10|exact K11); (exact rfl); (exact wz rfl))|refine wq fun _ => ?_)
        refine Tri.ixld1 (T := tmE) (o := o) (l := ssort Tm.at_ l) (by first|exact K0|exact K1|exact K2|exact K3|exact K4|exact K5|exact K6|exact K7|exact K8|exact K9|exact K10|exact K11) rfl (by decide) (by omega) (by omega) fun y hy z hz => ?_
        rw [Int.toNat_natCast, hx] at hy; cases hy
        cases hz
        repeat (first|refine wa ?_|refine wb ?_|refine wc ?_|refine wd ?_|refine we ?_|refine wf ?_|refine wg ?_|refine wh rfl ?_|refine wi rfl ?_|refine wj rfl ?_|refine wk rfl ?_|refine wl rfl ?_|refine wm (by decide) ?_|refine wn ?_|refine wo ?_|refine wp (by decide) ?_|(apply Tri.ldE; (first|exact K0|exact K1|exact K2|exact K3|exact K4|exact K5|exact K6|exact K7|exact K8|exact K9|exact K10|exact K11); (exact rfl); (exact wz rfl))|(apply Tri.stE; (first|exact K0|exact K1|exact K2|exact K3|exact K4|exact K5|exact K6|exact K7|exact K8|exact K9|exact K10|exact K11); (exact rfl); (exact wz rfl))|(apply Tri.same; (first|exact K0|exact K1|exact K2|exact K3|exact K4|exact K5|exact K6|exact K7|exact K8|exact K9|exact K10|exact K11); (exact rfl); (exact wz rfl))|refine wq fun _ => ?_)
        refine Tri.call (rstop_spec (l := l.filter fun t => !D.any fun x => isT x.k x.id t) (Nat.le_trans (List.length_filter_le _ _) hl)) (by repeat (first|exact Picks.nil|(apply Picks.cons; (first|exact K0|exact K1|exact K2|exact K3|exact K4|exact K5|exact K6|exact K7|exact K8|exact K9|exact K10|exact K11)))) ?_
        rintro v L' ⟨rfl, rfl⟩
        simp only [List.cons_append, List.nil_append]
        repeat (first|refine wa ?_|refine wb ?_|refine wc ?_|refine wd ?_|refine we ?_|refine wf ?_|refine wg ?_|refine wh rfl ?_|refine wi rfl ?_|refine wj rfl ?_|refine wk rfl ?_|refine wl rfl ?_|refine wm (by decide) ?_|refine wn ?_|refine wo ?_|refine wp (by decide) ?_|(apply Tri.ldE; (first|exact K0|exact K1|exact K2|exact K3|exact K4|exact K5|exact K6|exact K7|exact K8|exact K9|exact K10|exact K11); (exact rfl); (exact wz rfl))|(apply Tri.stE; (first|exact K0|exact K1|exact K2|exact K3|exact K4|exact K5|exact K6|exact K7|exact K8|exact K9|exact K10|exact K11); (exact rfl); (exact wz rfl))|(apply Tri.same; (first|exact K0|exact K1|exact K2|exact K3|exact K4|exact K5|exact K6|exact K7|exact K8|exact K9|exact K10|exact K11); (exact rfl); (exact wz rfl))|refine wq fun _ => ?_)
        rw [rmv_filter (hn.filter _), List.filter_filter]
        refine Tri.back (m' := R.length) (by simp) ⟨D ++ [x], R, rfl, by rw [hS]; simp, ?_, ?_, rfl⟩ ?_
        · intro y hy
          rcases List.mem_append.1 hy with hy | hy
          · exact h1 y hy
          · simp at hy; subst hy; exact hk
        · rw [wr_i64 (by omega) (by omega)]; simp
        · have : (l.filter fun t => !isT x.k x.id t && !D.any fun x => isT x.k x.id t) = l.filter fun t => !(D ++ [x]).any fun x => isT x.k x.id t := by
            refine List.filter_congr fun t ht => ?_
            simp [Bool.and_comm]
          rw [this]
          exact (by repeat (first|exact Sub.refl _|exact Sub.nil _|(apply Sub.cons; (first|exact K0|exact K1|exact K2|exact K3|exact K4|exact K5|exact K6|exact K7|exact K8|exact K9|exact K10|exact K11))|apply Sub.skip))
      · have hk : now < x.at_ := by simpa using hk
        have h2 : ∀ y ∈ x :: R, now < y.at_ := by
          have hs : Srt Tm.at_ (D ++ x :: R) := hS ▸ srt_ssort l
          intro y hy
          cases hy with
          | head => exact hk
          | tail _ hm =>
            have := (List.pairwise_cons.1 (List.pairwise_append.1 hs).2.1).1 y hm
            omega
        obtain ⟨f1, f2⟩ := left_any hn hS h1 h2
        repeat (first|refine wa ?_|refine wb ?_|refine wc ?_|refine wd ?_|refine we ?_|refine wf ?_|refine wg ?_|refine wh rfl ?_|refine wi rfl ?_|refine wj rfl ?_|refine wk rfl ?_|refine wl rfl ?_|refine wm (by decide) ?_|refine wn ?_|refine wo ?_|refine wp (by decide) ?_|(apply Tri.ldE; (first|exact K0|exact K1|exact K2|exact K3|exact K4|exact K5|exact K6|exact K7|exact K8|exact K9|exact K10|exact K11); (exact rfl); (exact wz rfl))|(apply Tri.stE; (first|exact K0|exact K1|exact K2|exact K3|exact K4|exact K5|exact K6|exact K7|exact K8|exact K9|exact K10|exact K11); (exact rfl); (exact wz rfl))|(apply Tri.same; (first|exact K0|exact K1|exact K2|exact K3|exact K4|exact K5|exact K6|exact K7|exact K8|exact K9|exact K10|exact K11); (exact rfl); (exact wz rfl))|refine wq fun _ => ?_)
        refine Tri.slc (T := tmE) (o := o) (l := ssort Tm.at_ l) 0 D.length (by first|exact K0|exact K1|exact K2|exact K3|exact K4|exact K5|exact K6|exact K7|exact K8|exact K9|exact K10|exact K11) rfl (by simp) (by simp) (by omega) (by omega) fun o' => ?_
        rw [f1, List.drop_zero, hS, List.take_left, ← f2]
        exact Tri.retF ⟨o', rfl, rfl⟩ (by repeat (first|exact Sub.refl _|exact Sub.nil _|(apply Sub.cons; (first|exact K0|exact K1|exact K2|exact K3|exact K4|exact K5|exact K6|exact K7|exact K8|exact K9|exact K10|exact K11))|apply Sub.skip))
  · have hR : R = [] := List.length_eq_zero_iff.1 (by simp at hc; omega)
    subst hR
    have h2 : ∀ y ∈ ([] : List Tm), now < y.at_ := by simp
    obtain ⟨f1, f2⟩ := left_any hn hS h1 h2
    repeat (first|refine wa ?_|refine wb ?_|refine wc ?_|refine wd ?_|refine we ?_|refine wf ?_|refine wg ?_|refine wh rfl ?_|refine wi rfl ?_|refine wj rfl ?_|refine wk rfl ?_|refine wl rfl ?_|refine wm (by decide) ?_|refine wn ?_|refine wo ?_|refine wp (by decide) ?_|(apply Tri.ldE; (first|exact K0|exact K1|exact K2|exact K3|exact K4|exact K5|exact K6|exact K7|exact K8|exact K9|exact K10|exact K11); (exact rfl); (exact wz rfl))|(apply Tri.stE; (first|exact K0|exact K1|exact K2|exact K3|exact K4|exact K5|exact K6|exact K7|exact K8|exact K9|exact K10|exact K11); (exact rfl); (exact wz rfl))|(apply Tri.same; (first|exact K0|exact K1|exact K2|exact K3|exact K4|exact K5|exact K6|exact K7|exact K8|exact K9|exact K10|exact K11); (exact rfl); (exact wz rfl))|refine wq fun _ => ?_)
    refine Tri.slc (T := tmE) (o := o) (l := ssort Tm.at_ l) 0 D.length (by first|exact K0|exact K1|exact K2|exact K3|exact K4|exact K5|exact K6|exact K7|exact K8|exact K9|exact K10|exact K11) rfl (by simp) (by simp) (by omega) (by omega) fun o' => ?_
    rw [f1, List.drop_zero, hS, List.take_left, ← f2]
    exact Tri.retF ⟨o', rfl, rfl⟩ (by repeat (first|exact Sub.refl _|exact Sub.nil _|(apply Sub.cons; (first|exact K0|exact K1|exact K2|exact K3|exact K4|exact K5|exact K6|exact K7|exact K8|exact K9|exact K10|exact K11))|apply Sub.skip))
end Go.Proofs.Ytonohkjngmcbmaa
