/- Code and functions: the trees are sound. -/
import Derived.Test.YtpbhfolaoccpkaaGreatFwT
set_option linter.unusedSimpArgs false
set_option linter.unusedVariables false
set_option linter.unusedSectionVars false
namespace Go.Proofs.YtpbhfolaoccpkaaGreat.Fw
open Go
section
variable {P : Program} {T : TTab} {C : Ora} {n : Nat} {hs : Hints} {nt : Nat}

/-- what must hold where a piece of code is left -/
def QHyp (P : Program) (c : Code) (cut : List Nat) (x : Ex) (Q : Exit → Act → World → Prop) (a : Act) (w : World) : Prop :=
  Q (ExC x) a w ∧ ∀ l, x = .goto l → cut.contains l = true → hasLabel c l = true → RestWp P c l Q a w
def GoalC (P : Program) (c : Code) (fr : Option Nat) (Q : Exit → Act → World → Prop) (a : Act) (w : World) : Prop :=
  match fr with
  | none => c.wp P Q a w
  | some l => RestWp P c l Q a w
/-- from slots e and heap H the code is left by x, with slots e1 and heap H1 -/
def Leads (P : Program) (nt : Nat) (c : Code) (fr : Option Nat) (cut : List Nat) (e : List AV) (H : AH) (x : Ex) (e1 : List AV) (H1 : AH) : Prop :=
  ∀ (ι : Inj) (a : Act) (w : World), nt ≤ a.tmps.size → ER ι e a.tmps → HR ι H w → Gap ι H H1 → ∀ (Q : Exit → Act → World → Prop),
    (∀ a' w' ι', AEq a a' → ER ι' e1 a'.tmps → HR ι' H1 w' → Stp ι H w ι' H1 w' → QHyp P c cut x Q a' w') → GoalC P c fr Q a w
def Sound (P : Program) (T : TTab) (C : Ora) (n : Nat) (hs : Hints) (nt : Nat) (c : Code) : Prop :=
  ∀ (fr : Option Nat) (cut : List Nat) (e : List AV) (H : AH) (k : Ex → List AV → Tree) (r : Res), (∀ l, fr = some l → hasLabel c l = true) → (cut = [] ∨ nodupB (labelsIn c) = true) → run C n (exec T hs nt c fr cut e k) H = some r →
    ∃ x e1 H1, run C n (k x e1) H1 = some r ∧ Grow H H1 ∧ Leads P nt c fr cut e H x e1 H1

theorem Sound.quick {c : Code} {e : List AV} {H : AH} {k : Ex → List AV → Tree} {r : Res} {x : Ex} {cut : List Nat} (h : run C n (k x e) H = some r)
    (hw : ∀ (a : Act) (w : World) (Q : Exit → Act → World → Prop), QHyp P c cut x Q a w → c.wp P Q a w) :
    ∃ x e1 H1, run C n (k x e1) H1 = some r ∧ Grow H H1 ∧ Leads P nt c none cut e H x e1 H1 :=
  ⟨x, e, H, h, Grow.refl _, fun ι a w _ he hh _ Q k => hw a w Q (k a w ι (AEq.refl _) he hh (Stp.refl _ _ _))⟩

theorem no_cut {c : Code} {x : Ex} {Q : Exit → Act → World → Prop} {a : Act} {w : World} (h : Q (ExC x) a w) : QHyp P c [] x Q a w := ⟨h, fun l _ hl => by simp at hl⟩

theorem sound_seq {x y : Code} (hx : Sound P T C n hs nt x) (hy : Sound P T C n hs nt y) : Sound P T C n hs nt (.seq x y) := by
  intro fr cut e H k r hfr hnd h
  have nd : cut = [] ∨ (nodupB (labelsIn x) = true ∧ nodupB (labelsIn y) = true ∧ ∀ l, (labelsIn x).contains l = true → (labelsIn y).contains l = false) := by
    rcases hnd with h | h
    · exact .inl h
    · exact .inr (nodupB_append h)
  have ndx : cut = [] ∨ nodupB (labelsIn x) = true := nd.imp id (·.1)
  have ndy : cut = [] ∨ nodupB (labelsIn y) = true := nd.imp id (·.2.1)
  -- the second part behind the first
  have second : ∀ (e : List AV) (H : AH), run C n (exec T hs nt y none cut e k) H = some r → ∃ z e1 H1, run C n (k z e1) H1 = some r ∧ Grow H H1 ∧
      ∀ (ι : Inj) (a : Act) (w : World), nt ≤ a.tmps.size → ER ι e a.tmps → HR ι H w → Gap ι H H1 → ∀ (Q : Exit → Act → World → Prop),
        (∀ a' w' ι', AEq a a' → ER ι' e1 a'.tmps → HR ι' H1 w' → Stp ι H w ι' H1 w' → QHyp P (.seq x y) cut z Q a' w') → y.wp P Q a w := by
    intro e H h
    obtain ⟨z, e1, H1, h1, h2, h3⟩ := hy none cut e H k r (by simp) ndy h
    refine ⟨z, e1, H1, h1, h2, fun ι a w hnt he hh g Q hq => h3 ι a w hnt he hh g Q fun a' w' ι' x1 x2 x3 x4 => ?_⟩
    obtain ⟨q1, q2⟩ := hq a' w' ι' x1 x2 x3 x4
    refine ⟨q1, fun l hl hc hhas => ?_⟩
    have := q2 l hl hc (by simp [hasLabel, hhas])
    simp only [RestWp] at this
    have hnx : hasLabel x l = false := by
      rcases nd with nd | ⟨_, _, nd⟩
      · rw [nd] at hc; simp at hc
      · cases hb : hasLabel x l with
        | false => rfl
        | true => rw [has_in] at hb hhas; rw [nd l hb] at hhas; cases hhas
    rwa [if_neg (by simp [hnx])] at this
  -- the first part, from a label on or from its begin
  have first : ∀ (fr : Option Nat), (∀ l, fr = some l → hasLabel x l = true) → run C n (exec T hs nt x fr cut e fun z e' => match z with | .nrm => exec T hs nt y none cut e' k | z => k z e') H = some r →
      ∃ z e1 H1, run C n (k z e1) H1 = some r ∧ Grow H H1 ∧ ∀ (ι : Inj) (a : Act) (w : World), nt ≤ a.tmps.size → ER ι e a.tmps → HR ι H w → Gap ι H H1 → ∀ (Q : Exit → Act → World → Prop),
        (∀ a' w' ι', AEq a a' → ER ι' e1 a'.tmps → HR ι' H1 w' → Stp ι H w ι' H1 w' → QHyp P (.seq x y) cut z Q a' w') → GoalC P x fr (Exit.then (y.wp P Q) Q) a w := by
    intro fr hfr h
    obtain ⟨z, e1, H1, h1, h2, h3⟩ := hx fr cut e H _ r hfr ndx h
    by_cases hz : z = .nrm
    · subst hz
      obtain ⟨z2, e2, H2, k1, k2, k3⟩ := second e1 H1 h1
      refine ⟨z2, e2, H2, k1, h2.trans k2, fun ι a w hnt he hh g Q hq => h3 ι a w hnt he hh (g.left k2.nx) _ fun a' w' ι' x1 x2 x3 x4 => ⟨?_, fun l hl => by cases hl⟩⟩
      exact k3 ι' a' w' (by rw [x1.2]; exact hnt) x2 x3 (g.right x4) Q fun a2 w2 ι2 y1 y2 y3 y4 => hq a2 w2 ι2 (x1.trans y1) y2 y3 (x4.trans y4 g)
    · refine ⟨z, e1, H1, by cases z <;> first | exact absurd rfl hz | exact h1, h2, fun ι a w hnt he hh g Q hq => h3 ι a w hnt he hh g _ fun a' w' ι' x1 x2 x3 x4 => ?_⟩
      obtain ⟨q1, q2⟩ := hq a' w' ι' x1 x2 x3 x4
      refine ⟨by cases z <;> first | exact absurd rfl hz | exact q1, fun l hl hc hhas => ?_⟩
      have := q2 l hl hc (by simp [hasLabel, hhas])
      simp only [RestWp] at this
      rwa [if_pos hhas] at this
  cases fr with
  | none =>
    simp only [exec] at h
    obtain ⟨z, e1, H1, h1, h2, h3⟩ := first none (by simp) h
    exact ⟨z, e1, H1, h1, h2, fun ι a w hnt he hh g Q hq => wp_seq (h3 ι a w hnt he hh g Q hq)⟩
  | some l =>
    simp only [exec] at h
    by_cases hl : hasLabel x l = true
    · rw [if_pos hl] at h
      obtain ⟨z, e1, H1, h1, h2, h3⟩ := first (some l) (fun l' e => by cases e; exact hl) h
      refine ⟨z, e1, H1, h1, h2, fun ι a w hnt he hh g Q hq => ?_⟩
      have := h3 ι a w hnt he hh g Q hq
      simp only [GoalC, RestWp] at this ⊢
      rwa [if_pos hl]
    · rw [if_neg hl] at h
      have hyl : hasLabel y l = true := by
        have := hfr l rfl
        simp only [hasLabel, Bool.or_eq_true] at this
        exact this.resolve_left hl
      obtain ⟨z, e1, H1, h1, h2, h3⟩ := hy (some l) cut e H k r (fun l' e => by cases e; exact hyl) ndy h
      refine ⟨z, e1, H1, h1, h2, fun ι a w hnt he hh g Q hq => ?_⟩
      have := h3 ι a w hnt he hh g Q fun a' w' ι' x1 x2 x3 x4 => ?_
      · simp only [GoalC, RestWp] at this ⊢
        rwa [if_neg hl]
      · obtain ⟨q1, q2⟩ := hq a' w' ι' x1 x2 x3 x4
        refine ⟨q1, fun l' hl' hc hhas => ?_⟩
        have := q2 l' hl' hc (by simp [hasLabel, hhas])
        simp only [RestWp] at this
        have hnx : hasLabel x l' = false := by
          rcases nd with nd | ⟨_, _, nd⟩
          · rw [nd] at hc; simp at hc
          · cases hb : hasLabel x l' with
            | false => rfl
            | true => rw [has_in] at hb hhas; rw [nd l' hb] at hhas; cases hhas
        rwa [if_neg (by simp [hnx])] at this

theorem sound_cond {c : Operand} {x y : Code} (hx : Sound P T C n hs nt x) (hy : Sound P T C n hs nt y) : Sound P T C n hs nt (.cond c x y) := by
  intro fr cut e H k r hfr hnd h
  cases fr with
  | some l => have := hfr l rfl; simp [hasLabel] at this
  | none =>
    simp only [exec] at h
    split at h
    case h_2 => simp [run] at h
    rename_i t ht
    have hev : ∀ (ι : Inj) (a : Act), ER ι e a.tmps → a.eval c = .bool t := by
      intro ι a he; have := ev_sound he c; rw [ht] at this; exact this
    split at h
    · rename_i ks hks
      simp only [run, obind_eq] at h
      obtain ⟨⟨⟨tag, l⟩, Hm⟩, h1, h2⟩ := h
      have arm : ∃ z e1, tag = z.tag ∧ l = keepL (kx ks z) e1 ∧ Grow H Hm ∧ ∀ (ι : Inj) (a : Act) (w : World), nt ≤ a.tmps.size → ER ι e a.tmps → HR ι H w → Gap ι H Hm → ∀ (Q : Exit → Act → World → Prop),
          (∀ a' w' ι', AEq a a' → ER ι' e1 a'.tmps → HR ι' Hm w' → Stp ι H w ι' Hm w' → Q (ExC z) a' w') → (if t then x else y).wp P Q a w := by
        cases t with
        | true =>
          simp only [cond_true] at h1
          obtain ⟨z, e1, H1, g1, g2, g3⟩ := hx none [] e H _ _ (by simp) (.inl rfl) h1
          simp only [run, Option.some.injEq, Prod.mk.injEq] at g1
          obtain ⟨⟨rfl, rfl⟩, rfl⟩ := g1
          exact ⟨z, e1, rfl, rfl, g2, fun ι a w hnt he hh g Q hq => g3 ι a w hnt he hh g Q fun a' w' ι' x1 x2 x3 x4 => no_cut (hq a' w' ι' x1 x2 x3 x4)⟩
        | false =>
          simp only [cond_false] at h1
          obtain ⟨z, e1, H1, g1, g2, g3⟩ := hy none [] e H _ _ (by simp) (.inl rfl) h1
          simp only [run, Option.some.injEq, Prod.mk.injEq] at g1
          obtain ⟨⟨rfl, rfl⟩, rfl⟩ := g1
          exact ⟨z, e1, rfl, rfl, g2, fun ι a w hnt he hh g Q hq => g3 ι a w hnt he hh g Q fun a' w' ι' x1 x2 x3 x4 => no_cut (hq a' w' ι' x1 x2 x3 x4)⟩
      obtain ⟨z, e1, rfl, rfl, ag, aw⟩ := arm
      obtain ⟨y', hy', h3⟩ := disp_run h2
      obtain rfl := tag_inj hy'
      obtain ⟨e', h4, h5⟩ := decE_run _ _ _ h3
      refine ⟨z, e', Hm, h4, ag, fun ι a w hnt he hh g Q hq => wp_cond (hev ι a he) (aw ι a w hnt he hh g Q fun a' w' ι' x1 x2 x3 x4 => (hq a' w' ι' x1 (h5 ι' _ (blank_ER (by rw [x1.2]; exact hnt)) (fun i t c hi => by rw [Nat.zero_add]; exact keepL_ER x2 i t c hi)) x3 x4).1)⟩
    · cases t with
      | true =>
        simp only [cond_true] at h
        obtain ⟨z, e1, H1, g1, g2, g3⟩ := hx none [] e H _ _ (by simp) (.inl rfl) h
        exact ⟨z, e1, H1, g1, g2, fun ι a w hnt he hh g Q hq => wp_cond (hev ι a he) (g3 ι a w hnt he hh g Q fun a' w' ι' x1 x2 x3 x4 => no_cut (hq a' w' ι' x1 x2 x3 x4).1)⟩
      | false =>
        simp only [cond_false] at h
        obtain ⟨z, e1, H1, g1, g2, g3⟩ := hy none [] e H _ _ (by simp) (.inl rfl) h
        exact ⟨z, e1, H1, g1, g2, fun ι a w hnt he hh g Q hq => wp_cond (hev ι a he) (g3 ι a w hnt he hh g Q fun a' w' ι' x1 x2 x3 x4 => no_cut (hq a' w' ι' x1 x2 x3 x4).1)⟩

theorem sound_block {id : Nat} {x : Code} (hx : Sound P T C n hs nt x) : Sound P T C n hs nt (.block id x) := by
  intro fr cut e H k r hfr hnd h
  cases fr with
  | some l => have := hfr l rfl; simp [hasLabel] at this
  | none =>
    simp only [exec] at h
    obtain ⟨z, e1, H1, g1, g2, g3⟩ := hx none [] e H _ _ (by simp) (.inl rfl) h
    refine ⟨_, e1, H1, g1, g2, fun ι a w hnt he hh g Q hq => wp_block (g3 ι a w hnt he hh g _ fun a' w' ι' x1 x2 x3 x4 => no_cut ?_)⟩
    have := (hq a' w' ι' x1 x2 x3 x4).1
    cases z with
    | exit id' =>
      by_cases hid : id' = id
      · subst hid; simpa [ExC, Exit.inBlock] using this
      · have hne : Ex.exit id' ≠ Ex.exit id := fun h => hid (by cases h; rfl)
        rw [if_neg hne] at this
        simp only [ExC, Exit.inBlock, if_neg hid]
        exact this
    | nrm => simpa [ExC, Exit.inBlock] using this
    | ret => simpa [ExC, Exit.inBlock] using this
    | goto l => simpa [ExC, Exit.inBlock] using this

theorem sound_loop {x : Code} (hx : Sound P T C n hs nt x) : Sound P T C n hs nt (.loop x) := by
  intro fr cut e H k r hfr hnd h
  cases fr with
  | some l => have := hfr l rfl; simp [hasLabel] at this
  | none =>
    simp only [exec] at h
    split at h
    case h_2 => simp [run] at h
    rename_i ks ks' hks
    simp only [run, obind_eq] at h
    obtain ⟨⟨⟨tag, l'⟩, H'⟩, h1, h2⟩ := h
    have rounds : ∀ (m : Nat) (l : List AV) (H : AH), iterL m (fun l H => run C n (decE l 0 ks (blank nt) fun e' => exec T hs nt x none [] e' fun y e2 => match y with | .nrm => .ret 0 (keepL ks e2) | y => .ret y.tag (keepL (kx ks' y) e2)) H) l H = some ((tag, l'), H') →
        ∃ z e2, z ≠ .nrm ∧ tag = z.tag ∧ l' = keepL (kx ks' z) e2 ∧ Grow H H' ∧ ∀ (ι : Inj) (a : Act) (w : World), nt ≤ a.tmps.size → (∀ (i : Nat) t c, ks[i]? = some (t, c) → VR ι (l.getD i .un) (a.tmps.getD t undef)) → HR ι H w → Gap ι H H' → ∀ (Q : Exit → Act → World → Prop),
          (∀ a' w' ι', AEq a a' → ER ι' e2 a'.tmps → HR ι' H' w' → Stp ι H w ι' H' w' → Q (ExC z) a' w') → LoopAt P x Q a w := by
      intro m
      induction m with
      | zero => intro l H h; simp [iterL] at h
      | succ m ih =>
        intro l H h
        simp only [iterL] at h
        cases hb : run C n (decE l 0 ks (blank nt) fun e' => exec T hs nt x none [] e' fun y e2 => match y with | .nrm => .ret 0 (keepL ks e2) | y => .ret y.tag (keepL (kx ks' y) e2)) H with
        | none => rw [hb] at h; cases h
        | some res =>
          obtain ⟨⟨tg, l1⟩, H1⟩ := res
          obtain ⟨e', d1, d2⟩ := decE_run _ _ _ hb
          obtain ⟨z, e2, H2, g1, g2, g3⟩ := hx none [] e' H _ _ (by simp) (.inl rfl) d1
          have er : ∀ (ι : Inj) (a : Act), nt ≤ a.tmps.size → (∀ (i : Nat) t c, ks[i]? = some (t, c) → VR ι (l.getD i .un) (a.tmps.getD t undef)) → ER ι e' a.tmps := fun ι a hnt hk =>
            d2 ι _ (blank_ER hnt) (fun i t c hi => by rw [Nat.zero_add]; exact hk i t c hi)
          by_cases hz : z = .nrm
          · subst hz
            simp only [run, Option.some.injEq, Prod.mk.injEq] at g1
            obtain ⟨⟨rfl, rfl⟩, rfl⟩ := g1
            rw [hb] at h
            obtain ⟨z', e3, k1, k2, k3, k4, k5⟩ := ih _ _ h
            refine ⟨z', e3, k1, k2, k3, g2.trans k4, fun ι a w hnt hk hh g Q hq => LoopAt.round (g3 ι a w hnt (er ι a hnt hk) hh (g.left k4.nx) _ fun a' w' ι' x1 x2 x3 x4 => no_cut ?_)⟩
            exact k5 ι' a' w' (by rw [x1.2]; exact hnt) (fun i t c hi => keepL_ER x2 i t c hi) x3 (g.right x4) Q fun a2 w2 ι2 y1 y2 y3 y4 => hq a2 w2 ι2 (x1.trans y1) y2 y3 (x4.trans y4 g)
          · have g1' : run C n (.ret z.tag (keepL (kx ks' z) e2)) H2 = some ((tg, l1), H1) := by cases z <;> first | exact absurd rfl hz | exact g1
            simp only [run, Option.some.injEq, Prod.mk.injEq] at g1'
            obtain ⟨⟨rfl, rfl⟩, rfl⟩ := g1'
            have ht0 : z.tag ≠ 0 := fun h0 => hz (tag_inj (y := .nrm) h0)
            rw [hb] at h
            have h : some ((z.tag, keepL (kx ks' z) e2), H2) = some ((tag, l'), H') := by
              revert h; generalize z.tag = tz at ht0 ⊢; intro h
              cases tz with
              | zero => exact absurd rfl ht0
              | succ tz => exact h
            simp only [Option.some.injEq, Prod.mk.injEq] at h
            obtain ⟨⟨rfl, rfl⟩, rfl⟩ := h
            refine ⟨z, e2, hz, rfl, rfl, g2, fun ι a w hnt hk hh g Q hq => LoopAt.round (g3 ι a w hnt (er ι a hnt hk) hh g _ fun a' w' ι' x1 x2 x3 x4 => no_cut ?_)⟩
            have := hq a' w' ι' x1 x2 x3 x4
            cases z <;> first | exact absurd rfl hz | exact this
    obtain ⟨z, e2, hz, rfl, rfl, g2, g3⟩ := rounds _ _ _ h1
    obtain ⟨y', hy', h3⟩ := disp_run h2
    obtain rfl := tag_inj hy'
    obtain ⟨e', h4, h5⟩ := decE_run _ _ _ h3
    refine ⟨z, e', H', h4, g2, fun ι a w hnt he hh g Q hq => LoopAt.wp (g3 ι a w hnt (fun i t c hi => keepL_ER he i t c hi) hh g Q fun a' w' ι' x1 x2 x3 x4 => ?_)⟩
    exact (hq a' w' ι' x1 (h5 ι' _ (blank_ER (by rw [x1.2]; exact hnt)) (fun i t c hi => by rw [Nat.zero_add]; exact keepL_ER x2 i t c hi)) x3 x4).1

end
end Go.Proofs.YtpbhfolaoccpkaaGreat.Fw
