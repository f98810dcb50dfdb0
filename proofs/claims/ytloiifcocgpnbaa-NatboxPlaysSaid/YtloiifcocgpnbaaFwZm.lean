/- The library's sort in place, over any element. -/
import Derived.Test.YtloiifcocgpnbaaFwZk
set_option linter.unusedVariables false
set_option linter.unusedSimpArgs false
namespace Go.Proofs.Ytloiifcocgpnbaa.Fw
open Go
section
variable {E : Env} {α : Type} {T : Enc α} {z : Nat} {dec : Dec} {zs : List Sc} {S : SIds}
/-- [a', b') in order is all that lacks to [a, b) in order -/
def Lack (lt : α → α → Prop) (a b a' b' : Nat) (l1 : List α) : Prop := ∀ l2, Rng a' b' l1 l2 → Inc lt a' b' l2 → Inc lt a b l2
theorem Lack.rng {lt : α → α → Prop} {a b a' b' : Nat} {l1 l2 : List α} (h : Lack lt a b a' b' l1) (hr : Rng a' b' l1 l2) : Lack lt a b a' b' l2 := fun l3 h3 hi => h l3 (hr.trans h3) hi
theorem Parted.rest {lt : α → α → Prop} {a b m : Nat} {l : List α} (h : Parted lt a b m l) : Pre lt (m + 1) b l := .inr fun k x y h1 h2 hx hy => h.hi k x y (by omega) h2 hx hy
/-- the smaller part on the left was put in order -/
theorem Lack.left {lt : α → α → Prop} (ho : Ord lt) {a b a' b' m : Nat} {l1 l2 : List α} (h : Lack lt a b a' b' l1) (hp : Parted lt a' b' m l1) (hr : Rng a' m l1 l2) (hi : Inc lt a' m l2) (hb : b' ≤ l1.length) : Lack lt a b (m + 1) b' l2 := by
  intro l3 h3 hi3
  have ham := hp.am
  have hmb := hp.mb
  have hl2 := hr.len
  have p2 := hp.left hr hb
  have p3 := p2.right h3 (by omega)
  have i3 : Inc lt a' m l3 := fun p q x y k1 k2 k3 hx hy => hi p q x y k1 k2 k3 (by rw [← h3.lo p (by omega)]; exact hx) (by rw [← h3.lo q (by omega)]; exact hy)
  exact h l3 ((hr.wide (Nat.le_refl _) (by omega)).trans (h3.wide (by omega) (Nat.le_refl _))) (p3.join ho i3 hi3 (by rw [h3.len]; omega))
theorem Lack.right {lt : α → α → Prop} (ho : Ord lt) {a b a' b' m : Nat} {l1 l2 : List α} (h : Lack lt a b a' b' l1) (hp : Parted lt a' b' m l1) (hr : Rng (m + 1) b' l1 l2) (hi : Inc lt (m + 1) b' l2) (hb : b' ≤ l1.length) : Lack lt a b a' m l2 := by
  intro l3 h3 hi3
  have ham := hp.am
  have hmb := hp.mb
  have hl2 := hr.len
  have p2 := hp.right hr hb
  have p3 := p2.left h3 (by omega)
  have i3 : Inc lt (m + 1) b' l3 := fun p q x y k1 k2 k3 hx hy => hi p q x y k1 k2 k3 (by rw [← h3.hi p (by omega)]; exact hx) (by rw [← h3.hi q (by omega)]; exact hy)
  exact h l3 ((hr.wide (by omega) (Nat.le_refl _)).trans (h3.wide (Nat.le_refl _) (by omega))) (p3.join ho hi3 i3 (by rw [h3.len]; omega))
/-- all that is alike the pivot lies ahead: what is left lies behind -/
theorem Lack.eq {lt : α → α → Prop} (ho : Ord lt) {a b a' b' m : Nat} {l1 l2 : List α} {u : α} (h : Lack lt a b a' b' l1) (hp : Prq lt a' b' m m l2) (hr : Rng a' b' l1 l2) (hu : l2[a']? = some u) (hlo : ∀ k x, a' ≤ k → k < b' → l2[k]? = some x → ¬ lt x u) (hb : b' ≤ l1.length) :
    Lack lt a b m b' l2 ∧ Pre lt m b' l2 := by
  have hai := hp.ai
  have hjb := hp.jb
  have hl2 := hr.len
  refine ⟨fun l3 h3 hi3 => ?_, .inr fun k x y h1 h2 hx hy => ?_⟩
  · refine h l3 (hr.trans (h3.wide (by omega) (Nat.le_refl _))) fun p q x y k1 k2 k3 hx hy => ?_
    have eu : ∀ k v, a' ≤ k → k < m → l3[k]? = some v → ¬ lt u v ∧ ¬ lt v u := by
      intro k v j1 j2 hv
      rw [h3.lo k j2] at hv
      refine ⟨?_, hlo k v j1 (by omega) hv⟩
      by_cases e : k = a'
      · subst e; rw [hu] at hv; cases hv; exact ho.irr _
      · exact hp.lo k v u (by omega) j2 hv hu
    have gu : ∀ k v, m ≤ k → k < b' → l3[k]? = some v → lt u v := by
      intro k v j1 j2 hv
      obtain ⟨i, i1, i2, hi⟩ := h3.mem hjb (by omega) hv j1 j2
      exact hp.hi i v u i1 i2 hi hu
    rcases Nat.lt_or_ge p m with hpm | hpm
    · have e1 := eu p x k1 hpm hx
      rcases Nat.lt_or_ge q m with hqm | hqm
      · have e2 := eu q y (by omega) hqm hy
        exact ho.ng e2.2 e1.1
      · have e2 := gu q y hqm k3 hy
        exact ho.asy (ho.nl e1.1 e2)
    · exact hi3 p q x y hpm k2 k3 hx hy
  · have e2 := hp.hi k x u h1 h2 hx hu
    by_cases e : m - 1 = a'
    · rw [e, hu] at hy; cases hy; exact ho.asy e2
    · have e1 := hp.lo (m - 1) y u (by omega) (by omega) hy hu
      exact fun h' => e1 (ho.tr e2 h')

set_option maxRecDepth 20000 in
set_option maxHeartbeats 4000000 in
theorem pdq_spec (B : SOk E z dec zs S) (el : ElOk E T z dec zs) {g : FuncId} {f c : List (Nat × Nat)} {lt : α → α → Prop} (hcmp : IsCmp E T g f c lt) (ho : Ord lt) : ∀ (N : Nat) {o : Option SlD} {l : List α} {a b : Nat} {lim : Int}, b - a ≤ N → a ≤ b → b ≤ l.length → l.length < 1000 → 0 ≤ lim → lim ≤ 1000 → Pre lt a b l →
    FSpec E S.pdq [.sc (.sl o), .sc (.i .i64 a), .sc (.i .i64 b), .sc (.i .i64 lim), .sc (.fn g f c)] [.sl false T o l]
    (fun v L' => ∃ l' : List α, v = .tu [] ∧ L' = [.sl false T o l'] ∧ Rng a b l l' ∧ Inc lt a b l') := by
  intro N
  induction N with
  | zero =>
    intro o l a b lim hN hab hb hl h0 h1 hpre
    have hdec := el.hd
    have hz := el.hz
    subst hz
    obtain ⟨fn, hf, hbk⟩ := B.pdq
    refine FSpec.of hf (hbk _ _ _ _ _ _ _) fun F => ?_
    unfold gpdq
    refine Tri.loop (I := fun m l' L => l' = [.sc (.sl o), .sc (.i .i64 a), .sc (.i .i64 b), .sc (.i .i64 lim), .sc (.fn g f c), .sc (.b true), .sc (.b true)] ∧ L = .sl false T o l :: F) (m := 0) ⟨rfl, rfl⟩ (Sub.refl _) ?_
    rintro m l' L ⟨rfl, rfl⟩
    unfold gpdq_b0
    repeat (first|refine wa ?_|refine wb ?_|refine wc ?_|refine wd ?_|refine we ?_|refine wf ?_|refine wg ?_|refine wh rfl ?_|refine wi rfl ?_|refine wj rfl ?_|refine wk rfl ?_|refine wl rfl ?_|refine wm (by decide) ?_|refine hdec _ _ _ _ ?_|(apply Tri.ldE; (first|exact K0|exact K1|exact K2|exact K3|exact K4|exact K5|exact K6|exact K7|exact K8|exact K9|exact K10|exact K11); (exact rfl); (exact wz rfl))|(apply Tri.stE; (first|exact K0|exact K1|exact K2|exact K3|exact K4|exact K5|exact K6|exact K7|exact K8|exact K9|exact K10|exact K11); (exact rfl); (exact wz rfl))|(apply Tri.same; (first|exact K0|exact K1|exact K2|exact K3|exact K4|exact K5|exact K6|exact K7|exact K8|exact K9|exact K10|exact K11); (exact rfl); (exact wz rfl))|refine wq fun _ => ?_)
    rw [wr_i64 (by omega) (by omega)]
    refine Tri.cndT (by simp; omega) ?_
    refine Tri.call (ins_spec B el (l := l) (a := a) (b := b) hcmp ho hab hb (by omega)) (by repeat (first|exact Picks.nil|(apply Picks.cons; (first|exact K0|exact K1|exact K2|exact K3|exact K4|exact K5|exact K6|exact K7|exact K8|exact K9|exact K10|exact K11)))) ?_
    rintro v L' ⟨l', rfl, rfl, h1, h2⟩
    simp only [List.cons_append, List.nil_append]
    refine Tri.exit (by decide) ?_
    unfold gpdq_k0
    repeat (first|refine wa ?_|refine wb ?_|refine wc ?_|refine wd ?_|refine we ?_|refine wf ?_|refine wg ?_|refine wh rfl ?_|refine wi rfl ?_|refine wj rfl ?_|refine wk rfl ?_|refine wl rfl ?_|refine wm (by decide) ?_|refine hdec _ _ _ _ ?_|(apply Tri.ldE; (first|exact K0|exact K1|exact K2|exact K3|exact K4|exact K5|exact K6|exact K7|exact K8|exact K9|exact K10|exact K11); (exact rfl); (exact wz rfl))|(apply Tri.stE; (first|exact K0|exact K1|exact K2|exact K3|exact K4|exact K5|exact K6|exact K7|exact K8|exact K9|exact K10|exact K11); (exact rfl); (exact wz rfl))|(apply Tri.same; (first|exact K0|exact K1|exact K2|exact K3|exact K4|exact K5|exact K6|exact K7|exact K8|exact K9|exact K10|exact K11); (exact rfl); (exact wz rfl))|refine wq fun _ => ?_)
    exact Tri.retF ⟨l', rfl, rfl, h1, h2⟩ (Sub.refl _)
  | succ N ih =>
    intro o l a b lim hN hab hb hl h0 h1 hpre
    have hdec := el.hd
    have hz := el.hz
    subst hz
    obtain ⟨fn, hf, hbk⟩ := B.pdq
    refine FSpec.of hf (hbk _ _ _ _ _ _ _) fun F => ?_
    unfold gpdq
    refine Tri.loop (I := fun m l' L => ∃ (a' b' : Nat) (l1 : List α) (lim : Int) (q1 q2 : Bool), m = b' - a' ∧ a ≤ a' ∧ a' ≤ b' ∧ b' ≤ b ∧ 0 ≤ lim ∧ lim ≤ 1000 ∧ Rng a b l l1 ∧ Pre lt a' b' l1 ∧ Lack lt a b a' b' l1 ∧
      l' = [.sc (.sl o), .sc (.i .i64 a'), .sc (.i .i64 b'), .sc (.i .i64 lim), .sc (.fn g f c), .sc (.b q1), .sc (.b q2)] ∧ L = .sl false T o l1 :: F)
      ⟨a, b, l, lim, true, true, rfl, by omega, hab, by omega, h0, h1, Rng.refl _ _ _, hpre, (fun l2 _ hi => hi), rfl, rfl⟩ (Sub.refl _) ?_
    clear h0 h1 hpre lim
    rintro m l' L ⟨a', b', l1, lim, q1, q2, rfl, haa, hab', hbb, h0, h1, hr, hpre, hlack, rfl, rfl⟩
    have hlen := hr.len
    unfold gpdq_b0
    repeat (first|refine wa ?_|refine wb ?_|refine wc ?_|refine wd ?_|refine we ?_|refine wf ?_|refine wg ?_|refine wh rfl ?_|refine wi rfl ?_|refine wj rfl ?_|refine wk rfl ?_|refine wl rfl ?_|refine wm (by decide) ?_|refine hdec _ _ _ _ ?_|(apply Tri.ldE; (first|exact K0|exact K1|exact K2|exact K3|exact K4|exact K5|exact K6|exact K7|exact K8|exact K9|exact K10|exact K11); (exact rfl); (exact wz rfl))|(apply Tri.stE; (first|exact K0|exact K1|exact K2|exact K3|exact K4|exact K5|exact K6|exact K7|exact K8|exact K9|exact K10|exact K11); (exact rfl); (exact wz rfl))|(apply Tri.same; (first|exact K0|exact K1|exact K2|exact K3|exact K4|exact K5|exact K6|exact K7|exact K8|exact K9|exact K10|exact K11); (exact rfl); (exact wz rfl))|refine wq fun _ => ?_)
    rw [wr_i64 (n := (b' : Int) - a') (by omega) (by omega)]
    refine Tri.cnd (fun h12 => ?_) (fun h12 => ?_)
    · refine Tri.call (ins_spec B el (l := l1) (a := a') (b := b') hcmp ho hab' (by omega) (by omega)) (by repeat (first|exact Picks.nil|(apply Picks.cons; (first|exact K0|exact K1|exact K2|exact K3|exact K4|exact K5|exact K6|exact K7|exact K8|exact K9|exact K10|exact K11)))) ?_
      rintro v L' ⟨l', rfl, rfl, e1, e2⟩
      simp only [List.cons_append, List.nil_append]
      refine Tri.exit (by decide) ?_
      unfold gpdq_k0
      repeat (first|refine wa ?_|refine wb ?_|refine wc ?_|refine wd ?_|refine we ?_|refine wf ?_|refine wg ?_|refine wh rfl ?_|refine wi rfl ?_|refine wj rfl ?_|refine wk rfl ?_|refine wl rfl ?_|refine wm (by decide) ?_|refine hdec _ _ _ _ ?_|(apply Tri.ldE; (first|exact K0|exact K1|exact K2|exact K3|exact K4|exact K5|exact K6|exact K7|exact K8|exact K9|exact K10|exact K11); (exact rfl); (exact wz rfl))|(apply Tri.stE; (first|exact K0|exact K1|exact K2|exact K3|exact K4|exact K5|exact K6|exact K7|exact K8|exact K9|exact K10|exact K11); (exact rfl); (exact wz rfl))|(apply Tri.same; (first|exact K0|exact K1|exact K2|exact K3|exact K4|exact K5|exact K6|exact K7|exact K8|exact K9|exact K10|exact K11); (exact rfl); (exact wz rfl))|refine wq fun _ => ?_)
      exact Tri.retF ⟨l', rfl, rfl, hr.trans (e1.wide haa hbb), hlack l' e1 e2⟩ (Sub.refl _)
    have h12 : a' + 12 < b' := by simp at h12; omega
    refine Tri.cnd (fun hlim => ?_) (fun hlim => ?_)
    · refine Tri.call (heap_spec B el (l := l1) (a := a') (b := b') hcmp ho (by omega) (by omega) (by omega)) (by repeat (first|exact Picks.nil|(apply Picks.cons; (first|exact K0|exact K1|exact K2|exact K3|exact K4|exact K5|exact K6|exact K7|exact K8|exact K9|exact K10|exact K11)))) ?_
      rintro v L' ⟨l', rfl, rfl, e1, e2⟩
      simp only [List.cons_append, List.nil_append]
      refine Tri.exit (by decide) ?_
      unfold gpdq_k0
      repeat (first|refine wa ?_|refine wb ?_|refine wc ?_|refine wd ?_|refine we ?_|refine wf ?_|refine wg ?_|refine wh rfl ?_|refine wi rfl ?_|refine wj rfl ?_|refine wk rfl ?_|refine wl rfl ?_|refine wm (by decide) ?_|refine hdec _ _ _ _ ?_|(apply Tri.ldE; (first|exact K0|exact K1|exact K2|exact K3|exact K4|exact K5|exact K6|exact K7|exact K8|exact K9|exact K10|exact K11); (exact rfl); (exact wz rfl))|(apply Tri.stE; (first|exact K0|exact K1|exact K2|exact K3|exact K4|exact K5|exact K6|exact K7|exact K8|exact K9|exact K10|exact K11); (exact rfl); (exact wz rfl))|(apply Tri.same; (first|exact K0|exact K1|exact K2|exact K3|exact K4|exact K5|exact K6|exact K7|exact K8|exact K9|exact K10|exact K11); (exact rfl); (exact wz rfl))|refine wq fun _ => ?_)
      exact Tri.retF ⟨l', rfl, rfl, hr.trans (e1.wide haa hbb), hlack l' e1 e2⟩ (Sub.refl _)
    have hlim : lim ≠ 0 := by simpa using hlim
    refine Tri.joinQ (fun tag l' L => tag = 0 ∧ ∃ (l2 : List α) (lim2 : Int), 0 ≤ lim2 ∧ lim2 ≤ 1000 ∧ Rng a' b' l1 l2 ∧
      l' = [.sc (.sl o), .sc (.i .i64 a'), .sc (.i .i64 b'), .sc (.i .i64 lim2), .sc (.fn g f c), .sc (.b q1), .sc (.b q2), .sc (.i .i64 ((b' : Int) - a'))] ∧ L = .sl false T o l2 :: F) ?_ ?_
    · refine Tri.cnd (fun hq => ?_) (fun hq => ?_)
      · refine Tri.call (break_spec B el (l := l1) (a := a') (b := b') (by omega) (by omega) (by omega)) (by repeat (first|exact Picks.nil|(apply Picks.cons; (first|exact K0|exact K1|exact K2|exact K3|exact K4|exact K5|exact K6|exact K7|exact K8|exact K9|exact K10|exact K11)))) ?_
        rintro v L' ⟨l', rfl, rfl, e1⟩
        simp only [List.cons_append, List.nil_append]
        rw [wr_i64 (n := lim - 1) (by omega) (by omega)]
        exact Tri.ret ⟨rfl, l', lim - 1, by omega, by omega, e1, rfl, rfl⟩ (Sub.refl _)
      · exact Tri.ret ⟨rfl, l1, lim, h0, h1, Rng.refl _ _ _, rfl, rfl⟩ (Sub.refl _)
    rintro tag l' L ⟨rfl, l2, lim2, h2, h3, e2, rfl, rfl⟩
    have hr2 := hr.trans (e2.wide haa hbb)
    have hpre2 := hpre.rng e2 (by omega) (by omega)
    have hlack2 := hlack.rng e2
    have hlen2 := hr2.len
    clear hr hpre hlack hlen h0 h1 hlim e2
    unfold gpdq_k11
    repeat (first|refine wa ?_|refine wb ?_|refine wc ?_|refine wd ?_|refine we ?_|refine wf ?_|refine wg ?_|refine wh rfl ?_|refine wi rfl ?_|refine wj rfl ?_|refine wk rfl ?_|refine wl rfl ?_|refine wm (by decide) ?_|refine hdec _ _ _ _ ?_|(apply Tri.ldE; (first|exact K0|exact K1|exact K2|exact K3|exact K4|exact K5|exact K6|exact K7|exact K8|exact K9|exact K10|exact K11); (exact rfl); (exact wz rfl))|(apply Tri.stE; (first|exact K0|exact K1|exact K2|exact K3|exact K4|exact K5|exact K6|exact K7|exact K8|exact K9|exact K10|exact K11); (exact rfl); (exact wz rfl))|(apply Tri.same; (first|exact K0|exact K1|exact K2|exact K3|exact K4|exact K5|exact K6|exact K7|exact K8|exact K9|exact K10|exact K11); (exact rfl); (exact wz rfl))|refine wq fun _ => ?_)
    refine Tri.call (pivot_spec B el (l := l2) (a := a') (b := b') hcmp (by omega) (by omega) (by omega)) (by repeat (first|exact Picks.nil|(apply Picks.cons; (first|exact K0|exact K1|exact K2|exact K3|exact K4|exact K5|exact K6|exact K7|exact K8|exact K9|exact K10|exact K11)))) ?_
    rintro v L' ⟨p, hint, hp1, hp2, rfl, rfl⟩
    simp only [List.cons_append, List.nil_append]
    repeat (first|refine wa ?_|refine wb ?_|refine wc ?_|refine wd ?_|refine we ?_|refine wf ?_|refine wg ?_|refine wh rfl ?_|refine wi rfl ?_|refine wj rfl ?_|refine wk rfl ?_|refine wl rfl ?_|refine wm (by decide) ?_|refine hdec _ _ _ _ ?_|(apply Tri.ldE; (first|exact K0|exact K1|exact K2|exact K3|exact K4|exact K5|exact K6|exact K7|exact K8|exact K9|exact K10|exact K11); (exact rfl); (exact wz rfl))|(apply Tri.stE; (first|exact K0|exact K1|exact K2|exact K3|exact K4|exact K5|exact K6|exact K7|exact K8|exact K9|exact K10|exact K11); (exact rfl); (exact wz rfl))|(apply Tri.same; (first|exact K0|exact K1|exact K2|exact K3|exact K4|exact K5|exact K6|exact K7|exact K8|exact K9|exact K10|exact K11); (exact rfl); (exact wz rfl))|refine wq fun _ => ?_)
    refine Tri.joinQ (fun tag l' L => tag = 0 ∧ ∃ (l3 : List α) (p : Nat) (hint : Int), a' ≤ p ∧ p < b' ∧ Rng a' b' l2 l3 ∧
      l' = [.sc (.sl o), .sc (.i .i64 a'), .sc (.i .i64 b'), .sc (.i .i64 lim2), .sc (.fn g f c), .sc (.b q1), .sc (.b q2), .sc (.i .i64 ((b' : Int) - a')), .sc (.i .i64 p), .sc (.i .i64 hint)] ∧ L = .sl false T o l3 :: F) ?_ ?_
    · refine Tri.cnd (fun hq => ?_) (fun hq => ?_)
      · refine Tri.call (rev_spec B el (l := l2) (a := a') (b := b') (by omega) (by omega) (by omega)) (by repeat (first|exact Picks.nil|(apply Picks.cons; (first|exact K0|exact K1|exact K2|exact K3|exact K4|exact K5|exact K6|exact K7|exact K8|exact K9|exact K10|exact K11)))) ?_
        rintro v L' ⟨l', rfl, rfl, e1⟩
        simp only [List.cons_append, List.nil_append]
        rw [wr_i64 (n := (b' : Int) - 1) (by omega) (by omega), wr_i64 (n := (p : Int) - a') (by omega) (by omega), wr_i64 (by omega) (by omega), show (b' : Int) - 1 - ((p : Int) - a') = ((b' - 1 - (p - a') : Nat) : Int) by omega]
        exact Tri.ret ⟨rfl, l', b' - 1 - (p - a'), 1, by omega, by omega, e1, rfl, rfl⟩ (Sub.refl _)
      · exact Tri.ret ⟨rfl, l2, p, hint, hp1, hp2, Rng.refl _ _ _, rfl, rfl⟩ (Sub.refl _)
    clear hp1 hp2 hint p
    rintro tag l' L ⟨rfl, l3, p, hint, hp1, hp2, e3, rfl, rfl⟩
    have hr := hr2.trans (e3.wide haa hbb)
    have hpre := hpre2.rng e3 (by omega) (by omega)
    have hlack := hlack2.rng e3
    have hlen := hr.len
    clear hr2 hpre2 hlack2 hlen2 e3 l2 l1
    have rest : ∀ l4, Rng a' b' l3 l4 → Tri E (.sl false T o l4 :: F) (gpdq_k43 T.z dec zs S 0 [.sc (.sl o), .sc (.i .i64 a'), .sc (.i .i64 b'), .sc (.i .i64 lim2), .sc (.fn g f c), .sc (.b q1), .sc (.b q2), .sc (.i .i64 ((b' : Int) - a')), .sc (.i .i64 p)])
        (LQ E (fun m l' L => ∃ (a' b' : Nat) (l1 : List α) (lim : Int) (q1 q2 : Bool), m = b' - a' ∧ a ≤ a' ∧ a' ≤ b' ∧ b' ≤ b ∧ 0 ≤ lim ∧ lim ≤ 1000 ∧ Rng a b l l1 ∧ Pre lt a' b' l1 ∧ Lack lt a b a' b' l1 ∧
          l' = [.sc (.sl o), .sc (.i .i64 a'), .sc (.i .i64 b'), .sc (.i .i64 lim), .sc (.fn g f c), .sc (.b q1), .sc (.b q2)] ∧ L = .sl false T o l1 :: F) (b' - a') (gpdq_k0 T.z dec zs S)
          (RQ F fun v L' => ∃ l' : List α, v = .tu [] ∧ L' = [.sl false T o l'] ∧ Rng a b l l' ∧ Inc lt a b l')) := by
      intro l4 e4
      have hr := hr.trans (e4.wide haa hbb)
      have hpre := hpre.rng e4 (by omega) (by omega)
      have hlack := hlack.rng e4
      have hlen := hr.len
      clear e4
      unfold gpdq_k43
      repeat (first|refine wa ?_|refine wb ?_|refine wc ?_|refine wd ?_|refine we ?_|refine wf ?_|refine wg ?_|refine wh rfl ?_|refine wi rfl ?_|refine wj rfl ?_|refine wk rfl ?_|refine wl rfl ?_|refine wm (by decide) ?_|refine hdec _ _ _ _ ?_|(apply Tri.ldE; (first|exact K0|exact K1|exact K2|exact K3|exact K4|exact K5|exact K6|exact K7|exact K8|exact K9|exact K10|exact K11); (exact rfl); (exact wz rfl))|(apply Tri.stE; (first|exact K0|exact K1|exact K2|exact K3|exact K4|exact K5|exact K6|exact K7|exact K8|exact K9|exact K10|exact K11); (exact rfl); (exact wz rfl))|(apply Tri.same; (first|exact K0|exact K1|exact K2|exact K3|exact K4|exact K5|exact K6|exact K7|exact K8|exact K9|exact K10|exact K11); (exact rfl); (exact wz rfl))|refine wq fun _ => ?_)
      refine Tri.cnd (fun ha0 => ?_) (fun ha0 => ?_)
      · have ha0 : 0 < a' := by simp at ha0; omega
        rw [show IntKind.wrap .i64 ((a' : Int) - 1) = ((a' - 1 : Nat) : Int) by rw [wr_i64 (by omega) (by omega)]; omega]
        refine Tri.ixld (T := T) (by first|exact K0|exact K1|exact K2|exact K3|exact K4|exact K5|exact K6|exact K7|exact K8|exact K9|exact K10|exact K11) rfl (by omega) (by omega) fun x hx => ?_
        rw [Int.toNat_natCast] at hx
        repeat (first|refine wa ?_|refine wb ?_|refine wc ?_|refine wd ?_|refine we ?_|refine wf ?_|refine wg ?_|refine wh rfl ?_|refine wi rfl ?_|refine wj rfl ?_|refine wk rfl ?_|refine wl rfl ?_|refine wm (by decide) ?_|refine hdec _ _ _ _ ?_|refine wn ?_|refine wo ?_|refine wp (by decide) ?_|(apply Tri.ldE; (first|exact K0|exact K1|exact K2|exact K3|exact K4|exact K5|exact K6|exact K7|exact K8|exact K9|exact K10|exact K11); (exact rfl); (exact wz rfl))|(apply Tri.stE; (first|exact K0|exact K1|exact K2|exact K3|exact K4|exact K5|exact K6|exact K7|exact K8|exact K9|exact K10|exact K11); (exact rfl); (exact wz rfl))|(apply Tri.same; (first|exact K0|exact K1|exact K2|exact K3|exact K4|exact K5|exact K6|exact K7|exact K8|exact K9|exact K10|exact K11); (exact rfl); (exact wz rfl))|refine wq fun _ => ?_)
        refine Tri.ixld (T := T) (by first|exact K0|exact K1|exact K2|exact K3|exact K4|exact K5|exact K6|exact K7|exact K8|exact K9|exact K10|exact K11) rfl (by omega) (by omega) fun y hy => ?_
        rw [Int.toNat_natCast] at hy
        repeat (first|refine wa ?_|refine wb ?_|refine wc ?_|refine wd ?_|refine we ?_|refine wf ?_|refine wg ?_|refine wh rfl ?_|refine wi rfl ?_|refine wj rfl ?_|refine wk rfl ?_|refine wl rfl ?_|refine wm (by decide) ?_|refine hdec _ _ _ _ ?_|refine wn ?_|refine wo ?_|refine wp (by decide) ?_|(apply Tri.ldE; (first|exact K0|exact K1|exact K2|exact K3|exact K4|exact K5|exact K6|exact K7|exact K8|exact K9|exact K10|exact K11); (exact rfl); (exact wz rfl))|(apply Tri.stE; (first|exact K0|exact K1|exact K2|exact K3|exact K4|exact K5|exact K6|exact K7|exact K8|exact K9|exact K10|exact K11); (exact rfl); (exact wz rfl))|(apply Tri.same; (first|exact K0|exact K1|exact K2|exact K3|exact K4|exact K5|exact K6|exact K7|exact K8|exact K9|exact K10|exact K11); (exact rfl); (exact wz rfl))|refine wq fun _ => ?_)
        refine Tri.callv rfl (hcmp x y) (by repeat (first|exact Picks.nil|(apply Picks.cons; (first|exact K0|exact K1|exact K2|exact K3|exact K4|exact K5|exact K6|exact K7|exact K8|exact K9|exact K10|exact K11)))) ?_
        rintro v L' ⟨n, rfl, hn, rfl⟩
        simp only [List.cons_append, List.nil_append]
        repeat (first|refine wa ?_|refine wb ?_|refine wc ?_|refine wd ?_|refine we ?_|refine wf ?_|refine wg ?_|refine wh rfl ?_|refine wi rfl ?_|refine wj rfl ?_|refine wk rfl ?_|refine wl rfl ?_|refine wm (by decide) ?_|refine hdec _ _ _ _ ?_|(apply Tri.ldE; (first|exact K0|exact K1|exact K2|exact K3|exact K4|exact K5|exact K6|exact K7|exact K8|exact K9|exact K10|exact K11); (exact rfl); (exact wz rfl))|(apply Tri.stE; (first|exact K0|exact K1|exact K2|exact K3|exact K4|exact K5|exact K6|exact K7|exact K8|exact K9|exact K10|exact K11); (exact rfl); (exact wz rfl))|(apply Tri.same; (first|exact K0|exact K1|exact K2|exact K3|exact K4|exact K5|exact K6|exact K7|exact K8|exact K9|exact K10|exact K11); (exact rfl); (exact wz rfl))|refine wq fun _ => ?_)
        refine Tri.cnd (fun hk => ?_) (fun hk => ?_)
        · have hk : ¬ lt x y := fun h => by have := hn.2 h; simp at hk; omega
          refine Tri.call (peq_spec B el (l := l4) (a := a') (b := b') (p := p) hcmp (by omega) (by omega) hp1 hp2 (by omega)) (by repeat (first|exact Picks.nil|(apply Picks.cons; (first|exact K0|exact K1|exact K2|exact K3|exact K4|exact K5|exact K6|exact K7|exact K8|exact K9|exact K10|exact K11)))) ?_
          rintro v L' ⟨l5, m, rfl, rfl, e5, hq, hap⟩
          have hmi := hq.ai
          have hmj := hq.jb
          have hr5 := hr.trans (e5.wide haa hbb)
          have hpre5 := hpre.rng e5 (by omega) (by omega)
          have hx5 : l5[a' - 1]? = some x := by rw [e5.lo _ (by omega)]; exact hx
          have hlo : ∀ k u, a' ≤ k → k < b' → l5[k]? = some u → ¬ lt u y := by
            intro k u k1 k2 hu
            rcases hpre5 with hp0 | hp0
            · omega
            · exact ho.ng (hp0 k u x k1 k2 hu hx5) hk
          obtain ⟨hl5, hp5⟩ := hlack.eq ho hq e5 (by rw [hap, hy]) hlo (by omega)
          simp only [List.cons_append, List.nil_append]
          repeat (first|refine wa ?_|refine wb ?_|refine wc ?_|refine wd ?_|refine we ?_|refine wf ?_|refine wg ?_|refine wh rfl ?_|refine wi rfl ?_|refine wj rfl ?_|refine wk rfl ?_|refine wl rfl ?_|refine wm (by decide) ?_|refine hdec _ _ _ _ ?_|(apply Tri.ldE; (first|exact K0|exact K1|exact K2|exact K3|exact K4|exact K5|exact K6|exact K7|exact K8|exact K9|exact K10|exact K11); (exact rfl); (exact wz rfl))|(apply Tri.stE; (first|exact K0|exact K1|exact K2|exact K3|exact K4|exact K5|exact K6|exact K7|exact K8|exact K9|exact K10|exact K11); (exact rfl); (exact wz rfl))|(apply Tri.same; (first|exact K0|exact K1|exact K2|exact K3|exact K4|exact K5|exact K6|exact K7|exact K8|exact K9|exact K10|exact K11); (exact rfl); (exact wz rfl))|refine wq fun _ => ?_)
          exact Tri.back (m' := b' - m) (by omega) ⟨m, b', l5, lim2, q1, q2, rfl, by omega, hmj, hbb, h2, h3, hr5, hp5, hl5, rfl, rfl⟩ (Sub.refl _)
        · refine Tri.call (part_spec B el (l := l4) (a := a') (b := b') (p := p) hcmp (by omega) (by omega) hp1 hp2 (by omega)) (by repeat (first|exact Picks.nil|(apply Picks.cons; (first|exact K0|exact K1|exact K2|exact K3|exact K4|exact K5|exact K6|exact K7|exact K8|exact K9|exact K10|exact K11)))) ?_
          rintro v L' ⟨l5, m, q3, rfl, rfl, e5, hpart⟩
          have ham := hpart.am
          have hmb := hpart.mb
          have hr5 := hr.trans (e5.wide haa hbb)
          have hlack5 := hlack.rng e5
          have hpre5 := hpre.rng e5 (by omega) (by omega)
          have hlen5 := hr5.len
          simp only [List.cons_append, List.nil_append]
          repeat (first|refine wa ?_|refine wb ?_|refine wc ?_|refine wd ?_|refine we ?_|refine wf ?_|refine wg ?_|refine wh rfl ?_|refine wi rfl ?_|refine wj rfl ?_|refine wk rfl ?_|refine wl rfl ?_|refine wm (by decide) ?_|refine hdec _ _ _ _ ?_|(apply Tri.ldE; (first|exact K0|exact K1|exact K2|exact K3|exact K4|exact K5|exact K6|exact K7|exact K8|exact K9|exact K10|exact K11); (exact rfl); (exact wz rfl))|(apply Tri.stE; (first|exact K0|exact K1|exact K2|exact K3|exact K4|exact K5|exact K6|exact K7|exact K8|exact K9|exact K10|exact K11); (exact rfl); (exact wz rfl))|(apply Tri.same; (first|exact K0|exact K1|exact K2|exact K3|exact K4|exact K5|exact K6|exact K7|exact K8|exact K9|exact K10|exact K11); (exact rfl); (exact wz rfl))|refine wq fun _ => ?_)
          refine Tri.brT rfl ?_
          rw [show IntKind.wrap .i64 ((m : Int) + 1) = ((m + 1 : Nat) : Int) by rw [wr_i64 (by omega) (by omega)]; omega]
          refine Tri.cnd (fun hlr => ?_) (fun hlr => ?_)
          · refine Tri.call (ih (l := l5) (a := a') (b := m) (lim := lim2) (by omega) ham (by omega) (by omega) h2 h3 (hpre5.narrow (by omega))) (by repeat (first|exact Picks.nil|(apply Picks.cons; (first|exact K0|exact K1|exact K2|exact K3|exact K4|exact K5|exact K6|exact K7|exact K8|exact K9|exact K10|exact K11)))) ?_
            rintro v L' ⟨l6, rfl, rfl, e6, hi6⟩
            simp only [List.cons_append, List.nil_append]
            exact Tri.back (m' := b' - (m + 1)) (by omega) ⟨m + 1, b', l6, lim2, _, _, rfl, by omega, by omega, hbb, h2, h3, hr5.trans (e6.wide haa (by omega)), (hpart.left e6 (by omega)).rest, hlack5.left ho hpart e6 hi6 (by omega), rfl, rfl⟩ (Sub.refl _)
          · refine Tri.call (ih (l := l5) (a := m + 1) (b := b') (lim := lim2) (by omega) (by omega) (by omega) (by omega) h2 h3 hpart.rest) (by repeat (first|exact Picks.nil|(apply Picks.cons; (first|exact K0|exact K1|exact K2|exact K3|exact K4|exact K5|exact K6|exact K7|exact K8|exact K9|exact K10|exact K11)))) ?_
            rintro v L' ⟨l6, rfl, rfl, e6, hi6⟩
            simp only [List.cons_append, List.nil_append]
            refine Tri.back (m' := m - a') (by omega) ⟨a', m, l6, lim2, _, _, rfl, haa, ham, by omega, h2, h3, hr5.trans (e6.wide (by omega) hbb), ?_, hlack5.right ho hpart e6 hi6 (by omega), rfl, rfl⟩ (Sub.refl _)
            rcases hpre5 with hp0 | hp0
            · exact .inl hp0
            · refine .inr fun k u w k1 k2 hu hw => ?_
              rw [e6.lo k (by omega)] at hu
              rcases Nat.eq_zero_or_pos a' with ha0 | ha0
              · subst ha0
                rw [e6.lo 0 (by omega)] at hw
                exact hp0 k u w k1 (by omega) hu hw
              · rw [e6.lo (a' - 1) (by omega)] at hw
                exact hp0 k u w k1 (by omega) hu hw
      · refine Tri.call (part_spec B el (l := l4) (a := a') (b := b') (p := p) hcmp (by omega) (by omega) hp1 hp2 (by omega)) (by repeat (first|exact Picks.nil|(apply Picks.cons; (first|exact K0|exact K1|exact K2|exact K3|exact K4|exact K5|exact K6|exact K7|exact K8|exact K9|exact K10|exact K11)))) ?_
        rintro v L' ⟨l5, m, q3, rfl, rfl, e5, hpart⟩
        have ham := hpart.am
        have hmb := hpart.mb
        have hr5 := hr.trans (e5.wide haa hbb)
        have hlack5 := hlack.rng e5
        have hpre5 := hpre.rng e5 (by omega) (by omega)
        have hlen5 := hr5.len
        simp only [List.cons_append, List.nil_append]
        repeat (first|refine wa ?_|refine wb ?_|refine wc ?_|refine wd ?_|refine we ?_|refine wf ?_|refine wg ?_|refine wh rfl ?_|refine wi rfl ?_|refine wj rfl ?_|refine wk rfl ?_|refine wl rfl ?_|refine wm (by decide) ?_|refine hdec _ _ _ _ ?_|(apply Tri.ldE; (first|exact K0|exact K1|exact K2|exact K3|exact K4|exact K5|exact K6|exact K7|exact K8|exact K9|exact K10|exact K11); (exact rfl); (exact wz rfl))|(apply Tri.stE; (first|exact K0|exact K1|exact K2|exact K3|exact K4|exact K5|exact K6|exact K7|exact K8|exact K9|exact K10|exact K11); (exact rfl); (exact wz rfl))|(apply Tri.same; (first|exact K0|exact K1|exact K2|exact K3|exact K4|exact K5|exact K6|exact K7|exact K8|exact K9|exact K10|exact K11); (exact rfl); (exact wz rfl))|refine wq fun _ => ?_)
        refine Tri.brT rfl ?_
        rw [show IntKind.wrap .i64 ((m : Int) + 1) = ((m + 1 : Nat) : Int) by rw [wr_i64 (by omega) (by omega)]; omega]
        refine Tri.cnd (fun hlr => ?_) (fun hlr => ?_)
        · refine Tri.call (ih (l := l5) (a := a') (b := m) (lim := lim2) (by omega) ham (by omega) (by omega) h2 h3 (hpre5.narrow (by omega))) (by repeat (first|exact Picks.nil|(apply Picks.cons; (first|exact K0|exact K1|exact K2|exact K3|exact K4|exact K5|exact K6|exact K7|exact K8|exact K9|exact K10|exact K11)))) ?_
          rintro v L' ⟨l6, rfl, rfl, e6, hi6⟩
          simp only [List.cons_append, List.nil_append]
          exact Tri.back (m' := b' - (m + 1)) (by omega) ⟨m + 1, b', l6, lim2, _, _, rfl, by omega, by omega, hbb, h2, h3, hr5.trans (e6.wide haa (by omega)), (hpart.left e6 (by omega)).rest, hlack5.left ho hpart e6 hi6 (by omega), rfl, rfl⟩ (Sub.refl _)
        · refine Tri.call (ih (l := l5) (a := m + 1) (b := b') (lim := lim2) (by omega) (by omega) (by omega) (by omega) h2 h3 hpart.rest) (by repeat (first|exact Picks.nil|(apply Picks.cons; (first|exact K0|exact K1|exact K2|exact K3|exact K4|exact K5|exact K6|exact K7|exact K8|exact K9|exact K10|exact K11)))) ?_
          rintro v L' ⟨l6, rfl, rfl, e6, hi6⟩
          simp only [List.cons_append, List.nil_append]
          refine Tri.back (m' := m - a') (by omega) ⟨a', m, l6, lim2, _, _, rfl, haa, ham, by omega, h2, h3, hr5.trans (e6.wide (by omega) hbb), ?_, hlack5.right ho hpart e6 hi6 (by omega), rfl, rfl⟩ (Sub.refl _)
          rcases hpre5 with hp0 | hp0
          · exact .inl hp0
          · refine .inr fun k u w k1 k2 hu hw => ?_
            rw [e6.lo k (by omega)] at hu
            rcases Nat.eq_zero_or_pos a' with ha0 | ha0
            · subst ha0
              rw [e6.lo 0 (by omega)] at hw
              exact hp0 k u w k1 (by omega) hu hw
            · rw [e6.lo (a' - 1) (by omega)] at hw
              exact hp0 k u w k1 (by omega) hu hw
    unfold gpdq_k29
    repeat (first|refine wa ?_|refine wb ?_|refine wc ?_|refine wd ?_|refine we ?_|refine wf ?_|refine wg ?_|refine wh rfl ?_|refine wi rfl ?_|refine wj rfl ?_|refine wk rfl ?_|refine wl rfl ?_|refine wm (by decide) ?_|refine hdec _ _ _ _ ?_|(apply Tri.ldE; (first|exact K0|exact K1|exact K2|exact K3|exact K4|exact K5|exact K6|exact K7|exact K8|exact K9|exact K10|exact K11); (exact rfl); (exact wz rfl))|(apply Tri.stE; (first|exact K0|exact K1|exact K2|exact K3|exact K4|exact K5|exact K6|exact K7|exact K8|exact K9|exact K10|exact K11); (exact rfl); (exact wz rfl))|(apply Tri.same; (first|exact K0|exact K1|exact K2|exact K3|exact K4|exact K5|exact K6|exact K7|exact K8|exact K9|exact K10|exact K11); (exact rfl); (exact wz rfl))|refine wq fun _ => ?_)
    refine Tri.cnd (fun hq1 => ?_) (fun hq1 => ?_)
    · refine Tri.cnd (fun hq2 => ?_) (fun hq2 => ?_)
      · refine Tri.join ?_
        refine Tri.cnd (fun hh => ?_) (fun hh => ?_)
        · refine Tri.call (pins_spec B el (l := l3) (a := a') (b := b') hcmp ho (by omega) (by omega) (by omega) hpre) (by repeat (first|exact Picks.nil|(apply Picks.cons; (first|exact K0|exact K1|exact K2|exact K3|exact K4|exact K5|exact K6|exact K7|exact K8|exact K9|exact K10|exact K11)))) ?_
          rintro v L' ⟨l4, q, rfl, rfl, e4, hi4⟩
          simp only [List.cons_append, List.nil_append]
          repeat (first|refine wa ?_|refine wb ?_|refine wc ?_|refine wd ?_|refine we ?_|refine wf ?_|refine wg ?_|refine wh rfl ?_|refine wi rfl ?_|refine wj rfl ?_|refine wk rfl ?_|refine wl rfl ?_|refine wm (by decide) ?_|refine hdec _ _ _ _ ?_|(apply Tri.ldE; (first|exact K0|exact K1|exact K2|exact K3|exact K4|exact K5|exact K6|exact K7|exact K8|exact K9|exact K10|exact K11); (exact rfl); (exact wz rfl))|(apply Tri.stE; (first|exact K0|exact K1|exact K2|exact K3|exact K4|exact K5|exact K6|exact K7|exact K8|exact K9|exact K10|exact K11); (exact rfl); (exact wz rfl))|(apply Tri.same; (first|exact K0|exact K1|exact K2|exact K3|exact K4|exact K5|exact K6|exact K7|exact K8|exact K9|exact K10|exact K11); (exact rfl); (exact wz rfl))|refine wq fun _ => ?_)
          refine Tri.cnd (fun hq => ?_) (fun hq => ?_)
          · refine Tri.thru ?_
            unfold gpdq_k43
            repeat (first|refine wa ?_|refine wb ?_|refine wc ?_|refine wd ?_|refine we ?_|refine wf ?_|refine wg ?_|refine wh rfl ?_|refine wi rfl ?_|refine wj rfl ?_|refine wk rfl ?_|refine wl rfl ?_|refine wm (by decide) ?_|refine hdec _ _ _ _ ?_|(apply Tri.ldE; (first|exact K0|exact K1|exact K2|exact K3|exact K4|exact K5|exact K6|exact K7|exact K8|exact K9|exact K10|exact K11); (exact rfl); (exact wz rfl))|(apply Tri.stE; (first|exact K0|exact K1|exact K2|exact K3|exact K4|exact K5|exact K6|exact K7|exact K8|exact K9|exact K10|exact K11); (exact rfl); (exact wz rfl))|(apply Tri.same; (first|exact K0|exact K1|exact K2|exact K3|exact K4|exact K5|exact K6|exact K7|exact K8|exact K9|exact K10|exact K11); (exact rfl); (exact wz rfl))|refine wq fun _ => ?_)
            refine Tri.exit (by decide) ?_
            unfold gpdq_k0
            repeat (first|refine wa ?_|refine wb ?_|refine wc ?_|refine wd ?_|refine we ?_|refine wf ?_|refine wg ?_|refine wh rfl ?_|refine wi rfl ?_|refine wj rfl ?_|refine wk rfl ?_|refine wl rfl ?_|refine wm (by decide) ?_|refine hdec _ _ _ _ ?_|(apply Tri.ldE; (first|exact K0|exact K1|exact K2|exact K3|exact K4|exact K5|exact K6|exact K7|exact K8|exact K9|exact K10|exact K11); (exact rfl); (exact wz rfl))|(apply Tri.stE; (first|exact K0|exact K1|exact K2|exact K3|exact K4|exact K5|exact K6|exact K7|exact K8|exact K9|exact K10|exact K11); (exact rfl); (exact wz rfl))|(apply Tri.same; (first|exact K0|exact K1|exact K2|exact K3|exact K4|exact K5|exact K6|exact K7|exact K8|exact K9|exact K10|exact K11); (exact rfl); (exact wz rfl))|refine wq fun _ => ?_)
            exact Tri.retF ⟨l4, rfl, rfl, hr.trans (e4.wide haa hbb), hlack l4 e4 (hi4 hq)⟩ (Sub.refl _)
          · refine Tri.thru ?_
            exact rest l4 e4
        · refine Tri.thru ?_
          exact rest l3 (Rng.refl _ _ _)
      · refine Tri.join ?_
        refine Tri.thru ?_
        exact rest l3 (Rng.refl _ _ _)
    · refine Tri.join ?_
      refine Tri.thru ?_
      exact rest l3 (Rng.refl _ _ _)
/-- the sort -/
theorem sort_full (B : SOk E z dec zs S) (el : ElOk E T z dec zs) : SortOk E T S.sortF 999 := by
  intro o l g f c lt hcmp ho hl
  have hdec := el.hd
  have hz := el.hz
  subst hz
  obtain ⟨fn, hf, hbk⟩ := B.sortF
  refine FSpec.of hf (hbk _ _ _ _) fun F => ?_
  unfold gsortF
  refine Tri.slLen (l := l) (o := o) (ro := false) (T := T) (by first|exact K0|exact K1|exact K2|exact K3|exact K4|exact K5|exact K6|exact K7|exact K8|exact K9|exact K10|exact K11) fun e1 e2 => ?_
  rw [e2, wr_u64 (by omega) (by omega)]
  refine Tri.call (blen_spec B.b (n := l.length) (by omega)) (by repeat (first|exact Picks.nil|(apply Picks.cons; (first|exact K0|exact K1|exact K2|exact K3|exact K4|exact K5|exact K6|exact K7|exact K8|exact K9|exact K10|exact K11)))) ?_
  rintro v L' ⟨rfl, rfl⟩
  simp only [List.cons_append, List.nil_append]
  repeat (first|refine wa ?_|refine wb ?_|refine wc ?_|refine wd ?_|refine we ?_|refine wf ?_|refine wg ?_|refine wh rfl ?_|refine wi rfl ?_|refine wj rfl ?_|refine wk rfl ?_|refine wl rfl ?_|refine wm (by decide) ?_|refine hdec _ _ _ _ ?_|refine wn ?_|refine wo ?_|refine wp (by decide) ?_|(apply Tri.ldE; (first|exact K0|exact K1|exact K2|exact K3|exact K4|exact K5|exact K6|exact K7|exact K8|exact K9|exact K10|exact K11); (exact rfl); (exact wz rfl))|(apply Tri.stE; (first|exact K0|exact K1|exact K2|exact K3|exact K4|exact K5|exact K6|exact K7|exact K8|exact K9|exact K10|exact K11); (exact rfl); (exact wz rfl))|(apply Tri.same; (first|exact K0|exact K1|exact K2|exact K3|exact K4|exact K5|exact K6|exact K7|exact K8|exact K9|exact K10|exact K11); (exact rfl); (exact wz rfl))|refine wq fun _ => ?_)
  have hbl := bl_small (n := l.length) (by omega)
  refine Tri.call (pdq_spec B el hcmp ho l.length (l := l) (a := 0) (b := l.length) (lim := (bl l.length : Nat)) (by omega) (by omega) (by omega) (by omega) (by omega) (by omega) (.inl rfl)) (by repeat (first|exact Picks.nil|(apply Picks.cons; (first|exact K0|exact K1|exact K2|exact K3|exact K4|exact K5|exact K6|exact K7|exact K8|exact K9|exact K10|exact K11)))) ?_
  rintro v L' ⟨l', rfl, rfl, h1, h2⟩
  simp only [List.cons_append, List.nil_append]
  exact Tri.retF ⟨l', rfl, rfl, h1.perm, h2⟩ (Sub.refl _)
end
end Go.Proofs.Ytloiifcocgpnbaa.Fw
