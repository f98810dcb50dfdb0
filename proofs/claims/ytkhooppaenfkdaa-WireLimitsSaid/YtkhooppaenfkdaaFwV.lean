/- Scopes; all code. -/
import Derived.Test.YtkhooppaenfkdaaFwU
set_option linter.unusedSimpArgs false
set_option linter.unusedVariables false
set_option linter.unusedSectionVars false
namespace Go.Proofs.Ytkhooppaenfkdaa.Fw
open Go

section
variable {P : Program} {T : TTab} {C : Ora} {n : Nat} {hs : Hints} {nt : Nat}

theorem labG_run {tag : Nat} {l : List AV} {go : Nat → Tree} {rest : Tree} {H : AH} {r : Res} : ∀ {ls : List Nat}, run C n (labG tag l go rest ls) H = some r →
    (∃ b, ls.contains b = true ∧ tag = 3 + 2 * b ∧ run C n (go b) H = some r) ∨ ((∀ b, ls.contains b = true → tag ≠ 3 + 2 * b) ∧ run C n rest H = some r)
  | [], h => .inr ⟨fun b hb => by simp at hb, h⟩
  | b :: bs, h => by
    simp only [labG, run] at h
    split at h
    · exact .inl ⟨b, by simp, by assumption, h⟩
    · rename_i hne
      rcases labG_run h with ⟨b', h1, h2, h3⟩ | ⟨h1, h2⟩
      · exact .inl ⟨b', by simp only [List.contains_cons, h1, Bool.or_true], h2, h3⟩
      · refine .inr ⟨fun b' hb' => ?_, h2⟩
        simp only [List.contains_cons, Bool.or_eq_true, beq_iff_eq] at hb'
        rcases hb' with e | hb'
        · subst e; exact hne
        · exact h1 b' hb'
theorem labB_run {j : Int} {run1 : Nat → Tree} {H : AH} {r : Res} : ∀ {ls : List Nat}, run C n (labB j run1 ls) H = some r → ∃ b : Nat, ls.contains b = true ∧ j = (b : Int) ∧ run C n (run1 b) H = some r
  | [], h => by simp [labB, run] at h
  | b :: bs, h => by
    simp only [labB, run] at h
    split at h
    · rename_i hb
      exact ⟨b, by simp, by simpa using hb, h⟩
    · obtain ⟨b', h1, h2, h3⟩ := labB_run h
      exact ⟨b', by simp only [List.contains_cons, h1, Bool.or_true], h2, h3⟩

theorem sound_label {l : Nat} : Sound P T C n hs nt (.label l) := by
  intro fr cut e H k r hfr hnd h
  cases fr with
  | some l' =>
    simp only [exec] at h
    split at h
    · rename_i hl
      subst hl
      exact ⟨.nrm, e, H, h, Grow.refl _, fun ι a w hnt he hh g Q hq => ⟨rfl, (hq a w ι (AEq.refl _) he hh (Stp.refl _ _ _)).1⟩⟩
    · simp [run] at h
  | none =>
    simp only [exec] at h
    split at h
    · rename_i hc
      refine Sound.quick h fun a w Q hq => wp_label ?_
      have := hq.2 l rfl hc (by simp [hasLabel])
      exact this.2
    · exact Sound.quick h fun a w Q hq => wp_label hq.1

theorem sound_scope {c : Code} (hx : Sound P T C n hs nt c) : Sound P T C n hs nt (.scope c) := by
  intro fr cut e H k r hfr hnd h
  cases fr with
  | some l => have := hfr l rfl; simp [hasLabel] at this
  | none =>
    simp only [exec] at h
    split at h
    case h_2 => simp [run] at h
    rename_i ks' hks
    split at h
    · simp [run] at h
    rename_i hnd'
    have hnd' : nodupB (labelsIn c) = true := by simpa using hnd'
    simp only [run, obind_eq] at h
    obtain ⟨⟨⟨tag, l0⟩, Hm⟩, h1, h2⟩ := h
    -- the loop over the labels
    have rounds : ∀ (m b : Nat) (l : List AV) (H : AH) (tag' : Nat) (l' : List AV) (H' : AH), hasLabel c b = true → iterL m (fun st H => run C n (.asI .i64 (st.getD 0 .un) fun j => labB j (fun b => decE st 1 ((lookN hs.lab b).getD []) (blank nt) fun e' =>
              exec T hs nt c (some b) (labelsIn c) e' fun y e2 => match y with
                | .goto b' => if (labelsIn c).contains b' then .ret 0 (.sc (.i .i64 b') :: keepL ((lookN hs.lab b').getD []) e2) else .ret (3 + 2 * b' + 1) (keepL (kx ks' (.goto b')) e2)
                | y => .ret (y.tag + 1) (keepL (kx ks' y) e2)) (labelsIn c)) H) (.sc (.i .i64 b) :: l) H = some ((tag', l'), H') →
        ∃ z e2, tag' = z.tag + 1 ∧ l' = keepL (kx ks' z) e2 ∧ Grow H H' ∧ ∀ (ι : Inj) (a : Act) (w : World), nt ≤ a.tmps.size → (∀ (i : Nat) t ck, ((lookN hs.lab b).getD [])[i]? = some (t, ck) → VR ι (l.getD i .un) (a.tmps.getD t undef)) → HR ι H w → Gap ι H H' → ∀ (Q : Exit → Act → World → Prop),
          (∀ a' w' ι', AEq a a' → ER ι' e2 a'.tmps → HR ι' H' w' → Stp ι H w ι' H' w' → Q (ExC z) a' w') → RestWp P c b (QS P c Q) a w := by
      intro m
      induction m with
      | zero => intro b l H tag' l' H' _ h; simp [iterL] at h
      | succ m ih =>
        intro b l H tag' l' H' hb h
        simp only [iterL] at h
        split at h
        · -- one more round
          rename_i st1 H1 hbody
          have hbody := hbody
          simp only [run, List.getD_cons_zero, AV.asI, if_true, obind_some] at hbody
          obtain ⟨b', hb', hj, hbody⟩ := labB_run hbody
          obtain rfl : b = b' := by omega
          obtain ⟨e', d1, d2⟩ := decE_run _ _ _ hbody
          obtain ⟨z, e2, H2, g1, g2, g3⟩ := hx (some b) (labelsIn c) e' H _ _ (fun l hl => by cases hl; exact hb) (.inr hnd') d1
          have er : ∀ (ι : Inj) (a : Act), nt ≤ a.tmps.size → (∀ (i : Nat) t ck, ((lookN hs.lab b).getD [])[i]? = some (t, ck) → VR ι (l.getD i .un) (a.tmps.getD t undef)) → ER ι e' a.tmps := fun ι a hnt hk =>
            d2 ι _ (blank_ER hnt) (fun i t ck hi => by
              have := hk i t ck hi
              rw [show (1 : Nat) + i = i + 1 by omega]; simpa using this)
          have : ∃ b2, z = .goto b2 ∧ (labelsIn c).contains b2 = true ∧ st1 = .sc (.i .i64 b2) :: keepL ((lookN hs.lab b2).getD []) e2 ∧ H1 = H2 := by
            cases z with
            | goto b2 =>
              simp only at g1
              split at g1
              · rename_i hc2
                simp only [run, Option.some.injEq, Prod.mk.injEq] at g1
                exact ⟨b2, rfl, hc2, g1.1.2.symm, g1.2.symm⟩
              · simp [run] at g1
            | nrm => simp [run, Ex.tag] at g1
            | ret => simp [run, Ex.tag] at g1
            | exit id => simp [run, Ex.tag] at g1
          obtain ⟨b2, rfl, hc2, rfl, rfl⟩ := this
          have hhas2 : hasLabel c b2 = true := by rw [has_in]; exact hc2
          obtain ⟨z', e3, k1, k2, k3, k4⟩ := ih b2 _ H1 tag' l' H' hhas2 h
          refine ⟨z', e3, k1, k2, g2.trans k3, fun ι a w hnt hk hh g Q hq => ?_⟩
          have key := g3 ι a w hnt (er ι a hnt hk) hh (g.left k3.nx) (QS P c Q) fun a' w' ι' x1 x2 x3 x4 => ?_
          · exact key
          · have rw' : RestWp P c b2 (QS P c Q) a' w' := k4 ι' a' w' (by rw [x1.2]; exact hnt) (fun i t ck hi => keepL_ER x2 i t ck hi) x3 (g.right x4) Q fun a2 w2 ι2 y1 y2 y3 y4 => hq a2 w2 ι2 (x1.trans y1) y2 y3 (x4.trans y4 g)
            refine ⟨?_, fun l2 hl2 _ _ => ?_⟩
            · simp only [ExC, QS]; rw [if_pos hc2]; exact rw'.scopeAt
            · cases hl2; exact rw'
        · -- the loop is left
          rename_i hne
          have hbody := h
          simp only [run, List.getD_cons_zero, AV.asI, if_true, obind_some] at hbody
          obtain ⟨b', hb', hj, hbody⟩ := labB_run hbody
          obtain rfl : b = b' := by omega
          obtain ⟨e', d1, d2⟩ := decE_run _ _ _ hbody
          obtain ⟨z, e2, H2, g1, g2, g3⟩ := hx (some b) (labelsIn c) e' H _ _ (fun l hl => by cases hl; exact hb) (.inr hnd') d1
          have er : ∀ (ι : Inj) (a : Act), nt ≤ a.tmps.size → (∀ (i : Nat) t ck, ((lookN hs.lab b).getD [])[i]? = some (t, ck) → VR ι (l.getD i .un) (a.tmps.getD t undef)) → ER ι e' a.tmps := fun ι a hnt hk =>
            d2 ι _ (blank_ER hnt) (fun i t ck hi => by
              have := hk i t ck hi
              rw [show (1 : Nat) + i = i + 1 by omega]; simpa using this)
          have hz : (∀ b2, z = .goto b2 → (labelsIn c).contains b2 = false) ∧ tag' = z.tag + 1 ∧ l' = keepL (kx ks' z) e2 ∧ H' = H2 := by
            cases z with
            | goto b2 =>
              simp only at g1
              split at g1
              · simp only [run, Option.some.injEq, Prod.mk.injEq] at g1
                obtain ⟨⟨rfl, rfl⟩, rfl⟩ := g1
                exact absurd h (hne _ _)
              · rename_i hc2
                simp only [run, Option.some.injEq, Prod.mk.injEq] at g1
                obtain ⟨⟨rfl, rfl⟩, rfl⟩ := g1
                exact ⟨fun b3 hb3 => by cases hb3; simpa using hc2, rfl, rfl, rfl⟩
            | nrm => simp only [run, Option.some.injEq, Prod.mk.injEq] at g1; obtain ⟨⟨rfl, rfl⟩, rfl⟩ := g1; exact ⟨fun b3 hb3 => (by cases hb3), rfl, rfl, rfl⟩
            | ret => simp only [run, Option.some.injEq, Prod.mk.injEq] at g1; obtain ⟨⟨rfl, rfl⟩, rfl⟩ := g1; exact ⟨fun b3 hb3 => (by cases hb3), rfl, rfl, rfl⟩
            | exit id => simp only [run, Option.some.injEq, Prod.mk.injEq] at g1; obtain ⟨⟨rfl, rfl⟩, rfl⟩ := g1; exact ⟨fun b3 hb3 => (by cases hb3), rfl, rfl, rfl⟩
          obtain ⟨hng, rfl, rfl, rfl⟩ := hz
          refine ⟨z, e2, rfl, rfl, g2, fun ι a w hnt hk hh g Q hq => ?_⟩
          refine g3 ι a w hnt (er ι a hnt hk) hh g (QS P c Q) fun a' w' ι' x1 x2 x3 x4 => ?_
          have hQ := hq a' w' ι' x1 x2 x3 x4
          refine ⟨?_, fun l2 hl2 hc2 _ => by rw [hng l2 hl2] at hc2; cases hc2⟩
          cases z with
          | goto b2 => simp only [ExC, QS]; rw [if_neg (by rw [hng b2 rfl]; simp)]; exact hQ
          | nrm => exact hQ
          | ret => exact hQ
          | exit id => exact hQ
    obtain ⟨z, e1, H1, g1, g2, g3⟩ := hx none (labelsIn c) e H _ _ (by simp) (.inr hnd') h1
    -- how the scope is left
    have fin : ∀ (y : Ex) (e2 : List AV) (H2 : AH), run C n (decE (keepL (kx ks' y) e2) 0 (kx ks' y) (blank nt) fun e' => k y e') H2 = some r → Grow H H2 →
        (∀ (ι : Inj) (a : Act) (w : World), nt ≤ a.tmps.size → ER ι e a.tmps → HR ι H w → Gap ι H H2 → ∀ (Q : Exit → Act → World → Prop), (∀ a' w' ι', AEq a a' → ER ι' e2 a'.tmps → HR ι' H2 w' → Stp ι H w ι' H2 w' → Q (ExC y) a' w') → c.wp P (QS P c Q) a w) →
        ∃ x e1 H1, run C n (k x e1) H1 = some r ∧ Grow H H1 ∧ Leads P nt (.scope c) none cut e H x e1 H1 := by
      intro y e2 H2 hr hg hw
      obtain ⟨e', h4, h5⟩ := decE_run _ _ _ hr
      refine ⟨y, e', H2, h4, hg, fun ι a w hnt he hh g Q hq => wp_scope_QS (hw ι a w hnt he hh g Q fun a' w' ι' x1 x2 x3 x4 => ?_)⟩
      exact (hq a' w' ι' x1 (h5 ι' _ (blank_ER (by rw [x1.2]; exact hnt)) (fun i t ck hi => by rw [Nat.zero_add]; exact keepL_ER x2 i t ck hi)) x3 x4).1
    by_cases hzl : ∃ b, z = .goto b ∧ (labelsIn c).contains b = true
    · obtain ⟨b, rfl, hb⟩ := hzl
      simp only [hb, if_true, run, Option.some.injEq, Prod.mk.injEq] at g1
      obtain ⟨⟨rfl, rfl⟩, rfl⟩ := g1
      have hhas : hasLabel c b = true := by rw [has_in]; exact hb
      rcases labG_run h2 with ⟨b', hb', ht, h3⟩ | ⟨hne, _⟩
      · have hbb : b = b' := by simp only [Ex.tag] at ht; omega
        subst hbb
        simp only [run, obind_eq] at h3
        obtain ⟨⟨⟨tag2, l2⟩, H2⟩, h3, h4⟩ := h3
        obtain ⟨y, e2, rfl, rfl, k3, k4⟩ := rounds _ b _ _ tag2 l2 H2 hhas h3
        obtain ⟨y', hy', h5⟩ := dispS_run h4
        obtain rfl := tag_inj (Nat.succ.inj hy')
        refine fin y e2 H2 h5 (g2.trans k3) fun ι a w hnt he hh g Q hq => ?_
        refine g3 ι a w hnt he hh (g.left k3.nx) (QS P c Q) fun a' w' ι' x1 x2 x3 x4 => ?_
        have rw' : RestWp P c b (QS P c Q) a' w' := k4 ι' a' w' (by rw [x1.2]; exact hnt) (fun i t ck hi => keepL_ER x2 i t ck hi) x3 (g.right x4) Q fun a2 w2 ι2 y1 y2 y3 y4 => hq a2 w2 ι2 (x1.trans y1) y2 y3 (x4.trans y4 g)
        refine ⟨?_, fun l2 hl2 _ _ => ?_⟩
        · simp only [ExC, QS]; rw [if_pos hb]; exact rw'.scopeAt
        · cases hl2; exact rw'
      · exact absurd rfl (hne b hb)
    · have hng : ∀ b, z = .goto b → (labelsIn c).contains b = false := fun b hb => by
        cases hc : (labelsIn c).contains b with
        | false => rfl
        | true => exact absurd ⟨b, hb, hc⟩ hzl
      have hz : tag = z.tag ∧ l0 = keepL (kx ks' z) e1 ∧ Hm = H1 := by
        cases z with
        | goto b =>
          simp only [hng b rfl, Bool.false_eq_true, if_false, run, Option.some.injEq, Prod.mk.injEq] at g1
          obtain ⟨⟨rfl, rfl⟩, rfl⟩ := g1; exact ⟨rfl, rfl, rfl⟩
        | nrm => simp only [run, Option.some.injEq, Prod.mk.injEq] at g1; obtain ⟨⟨rfl, rfl⟩, rfl⟩ := g1; exact ⟨rfl, rfl, rfl⟩
        | ret => simp only [run, Option.some.injEq, Prod.mk.injEq] at g1; obtain ⟨⟨rfl, rfl⟩, rfl⟩ := g1; exact ⟨rfl, rfl, rfl⟩
        | exit id => simp only [run, Option.some.injEq, Prod.mk.injEq] at g1; obtain ⟨⟨rfl, rfl⟩, rfl⟩ := g1; exact ⟨rfl, rfl, rfl⟩
      obtain ⟨rfl, rfl, rfl⟩ := hz
      rcases labG_run h2 with ⟨b', hb', ht, _⟩ | ⟨_, h3⟩
      · have : z = .goto b' := tag_inj (y := .goto b') ht
        rw [hng b' this] at hb'; cases hb'
      · obtain ⟨y', hy', h5⟩ := disp_run h3
        obtain rfl := tag_inj hy'
        refine fin z e1 Hm h5 g2 fun ι a w hnt he hh g Q hq => ?_
        refine g3 ι a w hnt he hh g (QS P c Q) fun a' w' ι' x1 x2 x3 x4 => ?_
        have hQ := hq a' w' ι' x1 x2 x3 x4
        refine ⟨?_, fun l2 hl2 hc2 _ => by rw [hng l2 hl2] at hc2; cases hc2⟩
        cases z with
        | goto b2 => simp only [ExC, QS]; rw [if_neg (by rw [hng b2 rfl]; simp)]; exact hQ
        | nrm => exact hQ
        | ret => exact hQ
        | exit id => exact hQ

theorem exec_sound (hT : TOk P T) (hC : OraOk P C) (hmix : P.follows .mixedOrders = true) (c : Code) : Sound P T C n hs nt c := by
  induction c with
  | seq a b ha hb => exact sound_seq ha hb
  | cond c a b ha hb => exact sound_cond ha hb
  | block id a ha => exact sound_block ha
  | loop a ha => exact sound_loop ha
  | scope a ha => exact sound_scope ha
  | label l => exact sound_label
  | skip =>
    intro fr cut e H k r hfr hnd h
    cases fr with
    | some l => have := hfr l rfl; simp [hasLabel] at this
    | none => exact Sound.quick h fun a w Q hq => wp_skip hq.1
  | exit id =>
    intro fr cut e H k r hfr hnd h
    cases fr with
    | some l => have := hfr l rfl; simp [hasLabel] at this
    | none => exact Sound.quick h fun a w Q hq => wp_exit hq.1
  | goto l =>
    intro fr cut e H k r hfr hnd h
    cases fr with
    | some l => have := hfr l rfl; simp [hasLabel] at this
    | none => exact Sound.quick h fun a w Q hq => wp_goto hq.1
  | ret =>
    intro fr cut e H k r hfr hnd h
    cases fr with
    | some l => have := hfr l rfl; simp [hasLabel] at this
    | none => exact Sound.quick h fun a w Q hq => wp_ret hq.1
  | region id ops draw =>
    intro fr cut e H k r hfr hnd h
    cases fr with
    | some l => have := hfr l rfl; simp [hasLabel] at this
    | none =>
      simp only [exec] at h
      obtain ⟨e1, H1, h1, h2, h3⟩ := region_sound hT hC hmix (id := id) h
      refine ⟨.nrm, e1, H1, h1, h2, fun ι a w hnt he hh g Q hq => ?_⟩
      have := h3 ι a w he hh g Q fun a' w' ι' x1 x2 x3 x4 => (hq a' w' ι' x1 x2 x3 x4).1
      simpa [GoalC] using this
  | rangeFunc =>
    intro fr cut e H k r hfr hnd h
    cases fr <;> simp [exec, run] at h
  | refuse =>
    intro fr cut e H k r hfr hnd h
    cases fr <;> simp [exec, run] at h
end
end Go.Proofs.Ytkhooppaenfkdaa.Fw
