/- Scopes; all code. -/
import Derived.Test.YtdfpjhlckjognaaGreatFwU
set_option linter.unusedSimpArgs false
set_option linter.unusedVariables false
set_option linter.unusedSectionVars false
namespace Go.Proofs.YtdfpjhlckjognaaGreat.Fw
open Go
section
variable {P : Program} {T : TTab} {C : Ora} {n : Nat} {hs : Hints} {nt : Nat}
theorem labG_run {tag : Nat} {l : List AV} {go : Nat → Tree} {rest : Tree} {H : AH} {r : Res} : ∀ {ls : List Nat}, run C n (labG tag l go rest ls) H = some r →
    (∃ b, ls.contains b = true ∧ tag = 3 + 2 * b ∧ run C n (go b) H = some r) ∨ ((∀ b, ls.contains b = true → tag ≠ 3 + 2 * b) ∧ run C n rest H = some r)
  | [], h => .inr ⟨fun b hb => by simp at hb, h⟩
  | b :: bs, h => by
    simp only [labG, run] at h
    split at h
    · exact .inl ⟨b, by simp, by assumption, h⟩
    · rename_i hne
      rcases labG_run h with ⟨b', h1, h2, h3⟩ | ⟨h1, h2⟩
      · exact .inl ⟨b', by simp only [List.contains_cons, h1, Bool.or_true], h2, h3⟩
      · refine .inr ⟨fun b' hb' => ?_, h2⟩
        simp only [List.contains_cons, Bool.or_eq_true, beq_iff_eq] at hb'
        rcases hb' with e | hb'
        · subst e; exact hne
        · exact h1 b' hb'
theorem labB_run {j : Int} {run1 : Nat → Tree} {H : AH} {r : Res} : ∀ {ls : List Nat}, run C n (labB j run1 ls) H = some r → ∃ b : Nat, ls.contains b = true ∧ j = (b : Int) ∧ run C n (run1 b) H = some r
  | [], h => by simp [labB, run] at h
  | b :: bs, h => by
    simp only [labB, run] at h
    split at h
    · rename_i hb
      exact ⟨b, by simp, by simpa using hb, h⟩
    · obtain ⟨b', h1, h2, h3⟩ := labB_run h
      exact ⟨b', by simp only [List.contains_cons, h1, Bool.or_true], h2, h3⟩
theorem sound_label {l : Nat} : Sound P T C n hs nt (.label l) := by
  intro fr cut e H k r hfr hnd h
  cases fr with
  | some l' =>
    simp only [exec] at h
    split at h
    · rename_i hl
      subst hl
      exact ⟨.nrm, e, H, h, Grow.refl _, fun ι a w hnt he hh g Q hq => ⟨rfl, (hq a w ι (AW.of (AEq.refl _)) he hh (Stp.refl _ _ _)).1⟩⟩
    · simp [run] at h
  | none =>
    simp only [exec] at h
    split at h
    · rename_i hc
      refine Sound.quick h fun a w Q hq => wp_label ?_
      have := hq.2 l rfl hc (by simp [hasLabel])
      exact this.2
    · exact Sound.quick h fun a w Q hq => wp_label hq.1
theorem sound_scope {c : Code} (hx : Sound P T C n hs nt c) : Sound P T C n hs nt (.scope c) := by
  intro fr cut e H k r hfr hnd h
  cases fr with
  | some l => have := hfr l rfl; simp [hasLabel] at this
  | none =>
    simp only [exec] at h
    split at h
    case h_2 => simp [run] at h
    rename_i ks' hks
    split at h
    · simp [run] at h
    rename_i hnd'
    have hnd' : nodupB (labelsIn c) = true := by simpa using hnd'
    simp only [run, obind_eq] at h
    obtain ⟨⟨⟨tag, l0⟩, Hm⟩, h1, h2⟩ := h
    have rounds : ∀ (m b : Nat) (l : List AV) (H : AH) (tag' : Nat) (l' : List AV) (H' : AH), hasLabel c b = true → iterL m (fun st H => run C n (.asI .i64 (st.getD 0 .un) fun j => labB j (fun b => decE st 1 ((lookN hs.lab b).getD []) (blank nt) fun e' =>
              exec T hs nt c (some b) (labelsIn c) e' fun y e2 => match y with
                | .goto b' => if (labelsIn c).contains b' then .ret 0 (.sc (.i .i64 b') :: keepL ((lookN hs.lab b').getD []) e2) else .ret (3 + 2 * b' + 1) (keepL (kx ks' (.goto b')) e2)
                | y => .ret (y.tag + 1) (keepL (kx ks' y) e2)) (labelsIn c)) H) (.sc (.i .i64 b) :: l) H = some ((tag', l'), H') →
        ∃ z e2, tag' = z.tag + 1 ∧ l' = keepL (kx ks' z) e2 ∧ Grow H H' ∧ ∀ (ι : Inj) (a : Act) (w : World), nt ≤ a.tmps.size → (∀ (i : Nat) t ck, ((lookN hs.lab b).getD [])[i]? = some (t, ck) → VR ι (l.getD i .un) (a.tmps.getD t undef)) → HR ι H w → Gap ι H H' → ∀ (Q : Exit → Act → World → Prop),
          (∀ a' w' ι', AW a w a' ι' H' w' → ER ι' e2 a'.tmps → HR ι' H' w' → Stp ι H w ι' H' w' → Q (ExC z) a' w') → RestWp P c b (QS P c Q) a w := by
      intro m
      induction m with
      | zero => intro b l H tag' l' H' _ h; simp [iterL] at h
      | succ m ih =>
        intro b l H tag' l' H' hb h
        simp only [iterL] at h
        split at h
        · -- one more round
          rename_i st1 H1 hbody
          have hbody := hbody
          simp only [run, List.getD_cons_zero, AV.asI, if_true, obind_some] at hbody
          obtain ⟨b', hb', hj, hbody⟩ := labB_run hbody
          obtain rfl : b = b' := by omega
          obtain ⟨e', d1, d2⟩ := decE_run _ _ _ hbody
          obtain ⟨z, e2, H2, g1, g2, g3⟩ := hx (some b) (labelsIn c) e' H _ _ (fun l hl => by cases hl; exact hb) (.inr hnd') d1
          have er : ∀ (ι : Inj) (a : Act), nt ≤ a.tmps.size → (∀ (i : Nat) t ck, ((lookN hs.lab b).getD [])[i]? = some (t, ck) → VR ι (l.getD i .un) (a.tmps.getD t undef)) → ER ι e' a.tmps := fun ι a hnt hk =>
            d2 ι _ (blank_ER hnt) (fun i t ck hi => by
              have := hk i t ck hi
              rw [show (1 : Nat) + i = i + 1 by omega]; simpa using this)
          have : ∃ b2, z = .goto b2 ∧ (labelsIn c).contains b2 = true ∧ st1 = .sc (.i .i64 b2) :: keepL ((lookN hs.lab b2).getD []) e2 ∧ H1 = H2 := by
            cases z with
            | goto b2 =>
              simp only at g1
              split at g1
              · rename_i hc2
                simp only [run, Option.some.injEq, Prod.mk.injEq] at g1
                exact ⟨b2, rfl, hc2, g1.1.2.symm, g1.2.symm⟩
              · simp [run] at g1
            | nrm => simp [run, Ex.tag] at g1
            | ret => simp [run, Ex.tag] at g1
            | exit id => simp [run, Ex.tag] at g1
          obtain ⟨b2, rfl, hc2, rfl, rfl⟩ := this
          have hhas2 : hasLabel c b2 = true := by rw [has_in]; exact hc2
          obtain ⟨z', e3, k1, k2, k3, k4⟩ := ih b2 _ H1 tag' l' H' hhas2 h
          refine ⟨z', e3, k1, k2, g2.trans k3, fun ι a w hnt hk hh g Q hq => ?_⟩
          have key := g3 ι a w hnt (er ι a hnt hk) hh (g.left k3.nx) (QS P c Q) fun a' w' ι' x1 x2 x3 x4 => ?_
          · exact key
          · have rw' : RestWp P c b2 (QS P c Q) a' w' := k4 ι' a' w' (by rw [x1.2]; exact hnt) (fun i t ck hi => keepL_ER x2 i t ck hi) x3 (g.right x4) Q fun a2 w2 ι2 y1 y2 y3 y4 => hq a2 w2 ι2 (x1.trans x4.sz y4 y1) y2 y3 (x4.trans y4 g)
            refine ⟨?_, fun l2 hl2 _ _ => ?_⟩
            · simp only [ExC, QS]; rw [if_pos hc2]; exact rw'.scopeAt
            · cases hl2; exact rw'
        · -- the loop is left
          rename_i hne
          have hbody := h
          simp only [run, List.getD_cons_zero, AV.asI, if_true, obind_some] at hbody
          obtain ⟨b', hb', hj, hbody⟩ := labB_run hbody
          obtain rfl : b = b' := by omega
          obtain ⟨e', d1, d2⟩ := decE_run _ _ _ hbody
          obtain ⟨z, e2, H2, g1, g2, g3⟩ := hx (some b) (labelsIn c) e' H _ _ (fun l hl => by cases hl; exact hb) (.inr hnd') d1
          have er : ∀ (ι : Inj) (a : Act), nt ≤ a.tmps.size → (∀ (i : Nat) t ck, ((lookN hs.lab b).getD [])[i]? = some (t, ck) → VR ι (l.getD i .un) (a.tmps.getD t undef)) → ER ι e' a.tmps := fun ι a hnt hk =>
            d2 ι _ (blank_ER hnt) (fun i t ck hi => by
              have := hk i t ck hi
              rw [show (1 : Nat) + i = i + 1 by omega]; simpa using this)
          have hz : (∀ b2, z = .goto b2 → (labelsIn c).contains b2 = false) ∧ tag' = z.tag + 1 ∧ l' = keepL (kx ks' z) e2 ∧ H' = H2 := by
            cases z with
            | goto b2 =>
              simp only at g1
              split at g1
              · simp only [run, Option.some.injEq, Prod.mk.injEq] at g1
                obtain ⟨⟨rfl, rfl⟩, rfl⟩ := g1
                exact absurd h (hne _ _)
              · rename_i hc2
                simp only [run, Option.some.injEq, Prod.mk.injEq] at g1
                obtain ⟨⟨rfl, rfl⟩, rfl⟩ := g1
                exact ⟨fun b3 hb3 => by cases hb3; simpa using hc2, rfl, rfl, rfl⟩
            | nrm => simp only [run, Option.some.injEq, Prod.mk.injEq] at g1; obtain ⟨⟨rfl, rfl⟩, rfl⟩ := g1; exact ⟨fun b3 hb3 => (by cases hb3), rfl, rfl, rfl⟩
            | ret => simp only [run, Option.some.injEq, Prod.mk.injEq] at g1; obtain ⟨⟨rfl, rfl⟩, rfl⟩ := g1; exact ⟨fun b3 hb3 => (by cases hb3), rfl, rfl, rfl⟩
            | exit id => simp only [run, Option.some.injEq, Prod.mk.injEq] at g1; obtain ⟨⟨rfl, rfl⟩, rfl⟩ := g1; exact ⟨fun b3 hb3 => (by cases hb3), rfl, rfl, rfl⟩
          obtain ⟨hng, rfl, rfl, rfl⟩ := hz
          refine ⟨z, e2, rfl, rfl, g2, fun ι a w hnt hk hh g Q hq => ?_⟩
          refine g3 ι a w hnt (er ι a hnt hk) hh g (QS P c Q) fun a' w' ι' x1 x2 x3 x4 => ?_
          have hQ := hq a' w' ι' x1 x2 x3 x4
          refine ⟨?_, fun l2 hl2 hc2 _ => by rw [hng l2 hl2] at hc2; cases hc2⟩
          cases z with
          | goto b2 => simp only [ExC, QS]; rw [if_neg (by rw [hng b2 rfl]; simp)]; exact hQ
          | nrm => exact hQ
          | ret => exact hQ
          | exit id => exact hQ
    obtain ⟨z, e1, H1, g1, g2, g3⟩ := hx none (labelsIn c) e H _ _ (by simp) (.inr hnd') h1
    have fin : ∀ (y : Ex) (e2 : List AV) (H2 : AH), run C n (decE (keepL (kx ks' y) e2) 0 (kx ks' y) (blank nt) fun e' => k y e') H2 = some r → Grow H H2 →
        (∀ (ι : Inj) (a : Act) (w : World), nt ≤ a.tmps.size → ER ι e a.tmps → HR ι H w → Gap ι H H2 → ∀ (Q : Exit → Act → World → Prop), (∀ a' w' ι', AW a w a' ι' H2 w' → ER ι' e2 a'.tmps → HR ι' H2 w' → Stp ι H w ι' H2 w' → Q (ExC y) a' w') → c.wp P (QS P c Q) a w) →
        ∃ x e1 H1, run C n (k x e1) H1 = some r ∧ Grow H H1 ∧ Leads P nt (.scope c) none cut e H x e1 H1 := by
      intro y e2 H2 hr hg hw
      obtain ⟨e', h4, h5⟩ := decE_run _ _ _ hr
      refine ⟨y, e', H2, h4, hg, fun ι a w hnt he hh g Q hq => wp_scope_QS (hw ι a w hnt he hh g Q fun a' w' ι' x1 x2 x3 x4 => ?_)⟩
      exact (hq a' w' ι' x1 (h5 ι' _ (blank_ER (by rw [x1.2]; exact hnt)) (fun i t ck hi => by rw [Nat.zero_add]; exact keepL_ER x2 i t ck hi)) x3 x4).1
    by_cases hzl : ∃ b, z = .goto b ∧ (labelsIn c).contains b = true
    · obtain ⟨b, rfl, hb⟩ := hzl
      simp only [hb, if_true, run, Option.some.injEq, Prod.mk.injEq] at g1
      obtain ⟨⟨rfl, rfl⟩, rfl⟩ := g1
      have hhas : hasLabel c b = true := by rw [has_in]; exact hb
      rcases labG_run h2 with ⟨b', hb', ht, h3⟩ | ⟨hne, _⟩
      · have hbb : b = b' := by simp only [Ex.tag] at ht; omega
        subst hbb
        simp only [run, obind_eq] at h3
        obtain ⟨⟨⟨tag2, l2⟩, H2⟩, h3, h4⟩ := h3
        obtain ⟨y, e2, rfl, rfl, k3, k4⟩ := rounds _ b _ _ tag2 l2 H2 hhas h3
        obtain ⟨y', hy', h5⟩ := dispS_run h4
        obtain rfl := tag_inj (Nat.succ.inj hy')
        refine fin y e2 H2 h5 (g2.trans k3) fun ι a w hnt he hh g Q hq => ?_
        refine g3 ι a w hnt he hh (g.left k3.nx) (QS P c Q) fun a' w' ι' x1 x2 x3 x4 => ?_
        have rw' : RestWp P c b (QS P c Q) a' w' := k4 ι' a' w' (by rw [x1.2]; exact hnt) (fun i t ck hi => keepL_ER x2 i t ck hi) x3 (g.right x4) Q fun a2 w2 ι2 y1 y2 y3 y4 => hq a2 w2 ι2 (x1.trans x4.sz y4 y1) y2 y3 (x4.trans y4 g)
        refine ⟨?_, fun l2 hl2 _ _ => ?_⟩
        · simp only [ExC, QS]; rw [if_pos hb]; exact rw'.scopeAt
        · cases hl2; exact rw'
      · exact absurd rfl (hne b hb)
    · have hng : ∀ b, z = .goto b → (labelsIn c).contains b = false := fun b hb => by
        cases hc : (labelsIn c).contains b with
        | false => rfl
        | true => exact absurd ⟨b, hb, hc⟩ hzl
      have hz : tag = z.tag ∧ l0 = keepL (kx ks' z) e1 ∧ Hm = H1 := by
        cases z with
        | goto b =>
          simp only [hng b rfl, Bool.false_eq_true, if_false, run, Option.some.injEq, Prod.mk.injEq] at g1
          obtain ⟨⟨rfl, rfl⟩, rfl⟩ := g1; exact ⟨rfl, rfl, rfl⟩
        | nrm => simp only [run, Option.some.injEq, Prod.mk.injEq] at g1; obtain ⟨⟨rfl, rfl⟩, rfl⟩ := g1; exact ⟨rfl, rfl, rfl⟩
        | ret => simp only [run, Option.some.injEq, Prod.mk.injEq] at g1; obtain ⟨⟨rfl, rfl⟩, rfl⟩ := g1; exact ⟨rfl, rfl, rfl⟩
        | exit id => simp only [run, Option.some.injEq, Prod.mk.injEq] at g1; obtain ⟨⟨rfl, rfl⟩, rfl⟩ := g1; exact ⟨rfl, rfl, rfl⟩
      obtain ⟨rfl, rfl, rfl⟩ := hz
      rcases labG_run h2 with ⟨b', hb', ht, _⟩ | ⟨_, h3⟩
      · have : z = .goto b' := tag_inj (y := .goto b') ht
        rw [hng b' this] at hb'; cases hb'
      · obtain ⟨y', hy', h5⟩ := disp_run h3
        obtain rfl := tag_inj hy'
        refine fin z e1 Hm h5 g2 fun ι a w hnt he hh g Q hq => ?_
        refine g3 ι a w hnt he hh g (QS P c Q) fun a' w' ι' x1 x2 x3 x4 => ?_
        have hQ := hq a' w' ι' x1 x2 x3 x4
        refine ⟨?_, fun l2 hl2 hc2 _ => by rw [hng l2 hl2] at hc2; cases hc2⟩
        cases z with
        | goto b2 => simp only [ExC, QS]; rw [if_neg (by rw [hng b2 rfl]; simp)]; exact hQ
        | nrm => exact hQ
        | ret => exact hQ
        | exit id => exact hQ
theorem exec_sound (hT : TOk P T) (hC : OraOk P C) (hmix : P.follows .mixedOrders = true) (hB : ∀ f, hs.back.contains f = true → BackOk P f) (c : Code) : Sound P T C n hs nt c := by
  induction c with
  | seq a b ha hb => exact sound_seq ha hb
  | cond c a b ha hb => exact sound_cond ha hb
  | block id a ha => exact sound_block ha
  | loop a ha => exact sound_loop ha
  | scope a ha => exact sound_scope ha
  | label l => exact sound_label
  | skip =>
    intro fr cut e H k r hfr hnd h
    cases fr with
    | some l => have := hfr l rfl; simp [hasLabel] at this
    | none => exact Sound.quick h fun a w Q hq => wp_skip hq.1
  | exit id =>
    intro fr cut e H k r hfr hnd h
    cases fr with
    | some l => have := hfr l rfl; simp [hasLabel] at this
    | none => exact Sound.quick h fun a w Q hq => wp_exit hq.1
  | goto l =>
    intro fr cut e H k r hfr hnd h
    cases fr with
    | some l => have := hfr l rfl; simp [hasLabel] at this
    | none => exact Sound.quick h fun a w Q hq => wp_goto hq.1
  | ret =>
    intro fr cut e H k r hfr hnd h
    cases fr with
    | some l => have := hfr l rfl; simp [hasLabel] at this
    | none => exact Sound.quick h fun a w Q hq => wp_ret hq.1
  | region id ops draw =>
    intro fr cut e H k r hfr hnd h
    cases fr with
    | some l => have := hfr l rfl; simp [hasLabel] at this
    | none =>
      simp only [exec] at h
      obtain ⟨e1, H1, h1, h2, h3⟩ := region_sound hT hC hmix (id := id) h
      refine ⟨.nrm, e1, H1, h1, h2, fun ι a w hnt he hh g Q hq => ?_⟩
      have := h3 ι a w he hh g Q fun a' w' ι' x1 x2 x3 x4 => (hq a' w' ι' (AW.of x1) x2 x3 x4).1
      simpa [GoalC] using this
  | rangeFunc g ps as x => exact sound_range hT hC hB
  | refuse =>
    intro fr cut e H k r hfr hnd h
    cases fr <;> simp [exec, run] at h
end
end Go.Proofs.YtdfpjhlckjognaaGreat.Fw
set_option linter.unusedSimpArgs false
set_option linter.unusedVariables false
set_option linter.unusedSectionVars false
namespace Go.Proofs.YtdfpjhlckjognaaGreat.Fw
open Go
section
variable {P : Program} {T : TTab} {C : Ora} {n : Nat}
def resOne (tmps : Array Value) : ResultVar → Sem Value
  | .tmp t => pure (tmps.getD t undef)
  | .cell c t => do loadVar t (← asAddr (tmps.getD c undef))
theorem results_eq (fn : Func) (tmps : Array Value) : results fn tmps = (do
    let vs ← fn.results.mapM (resOne tmps)
    pure (if h : vs.size = 1 then vs[0] else .tuple vs)) := by
  have : (fun (x : ResultVar) => (match x with
        | .tmp t => (pure (tmps.getD t undef) : Sem Value)
        | .cell c t => do loadVar t (← asAddr (tmps.getD c undef)))) = resOne tmps := by
    funext x; cases x <;> rfl
  unfold results
  rw [← this]
  rfl
theorem resK_run (hT : TOk P T) {H : AH} {r : Res} : ∀ (rs : List ResultVar) (e : List AV) (f : List AV → Tree), run C n (resK T rs e f) H = some r →
    ∃ vs, run C n (f vs) H = some r ∧ ∀ (ι : Inj) (a : Act) (w : World), ER ι e a.tmps → HR ι H w →
      ∃ vals, (rs.mapM (resOne a.tmps)).run P w = .ok vals w ∧ VRs ι vs vals
  | [], e, f, h => ⟨[], h, fun ι a w _ _ => ⟨[], rfl, rfl⟩⟩
  | .tmp t :: rs, e, f, h => by
    simp only [resK] at h
    obtain ⟨vs, h1, h2⟩ := resK_run hT rs e _ h
    refine ⟨_ :: vs, h1, fun ι a w he hh => ?_⟩
    obtain ⟨vals, h3, h4⟩ := h2 ι a w he hh
    exact ⟨a.tmps.getD t undef :: vals, by simp [List.mapM_cons, resOne, h3], _, _, rfl, he.get t, h4⟩
  | .cell c t :: rs, e, f, h => by
    simp only [resK] at h
    split at h
    case h_2 => simp [run] at h
    rename_i i q hg hx
    split at h
    · simp [run] at h
    rename_i hnt
    simp only [run, obind_eq] at h
    obtain ⟨l, hl, h⟩ := h
    have hlen : l.length = i.size := by
      unfold AH.rd at hl
      split at hl
      · split at hl
        · cases hl; simp; omega
        · cases hl
      · cases hl
    have read : ∀ (ι : Inj) (a : Act) (w : World), ER ι e a.tmps → HR ι H w → ∃ d vs, ι q.1 = some d ∧ a.tmps.getD c undef = .pointer (some ⟨d.blk, d.base + q.2, none⟩) ∧ LR ι l vs ∧ ∀ (j : Nat) v, vs[j]? = some v → w.cell? ⟨d.blk, d.base + q.2 + j, none⟩ = some v := by
      intro ι a w he hh
      have := he.get c
      rw [hx] at this
      obtain ⟨d, hd, hv⟩ := this
      obtain ⟨vs, h1, h2, h3, h4⟩ := hh.read hd hl
      exact ⟨d, vs, hd, hv, h1, h4⟩
    have htup : ∀ ts, i.d ≠ .tup ts := fun ts hts => by rw [hts] at hnt; simp [notTup] at hnt
    rcases decT_run (hT _ _ hg) htup hlen h with ⟨ha, h⟩ | ⟨ha, x', hx', h⟩
    · obtain ⟨vs, h1, h2⟩ := resK_run hT rs e _ h
      refine ⟨_ :: vs, h1, fun ι a w he hh => ?_⟩
      obtain ⟨vals, h3, h4⟩ := h2 ι a w he hh
      obtain ⟨d, ws, hd, ea, r1, r2⟩ := read ι a w he hh
      obtain ⟨v, hv, hs⟩ := (loadVar_run hT hg r1 hlen r2).1 ha
      exact ⟨v :: vals, by simp [List.mapM_cons, resOne, h3, ea, asAddr, hv], _, _, rfl, hs, h4⟩
    · obtain ⟨vs, h1, h2⟩ := resK_run hT rs e _ h
      refine ⟨_ :: vs, h1, fun ι a w he hh => ?_⟩
      obtain ⟨vals, h3, h4⟩ := h2 ι a w he hh
      obtain ⟨d, ws, hd, ea, r1, r2⟩ := read ι a w he hh
      obtain ⟨v, hv, hs⟩ := (loadVar_run hT hg r1 hlen r2).2 ha x' hx'
      exact ⟨v :: vals, by simp [List.mapM_cons, resOne, h3, ea, asAddr, hv], _, _, rfl, hs, h4⟩
theorem packC_VR {ι : Inj} : ∀ {vs : List AV} {l : List CV} {vals : List Value}, packC vs = some l → VRs ι vs vals → All2 (CR ι) l vals
  | [], l, vals, h, hv => by simp [packC] at h; subst h; exact hv
  | .sc x :: vs, l, vals, h, ⟨y, ys, e, h1, h2⟩ => by
    simp only [packC, Option.map_eq_some_iff] at h
    obtain ⟨l', h, rfl⟩ := h
    exact ⟨y, ys, e, h1, packC_VR h h2⟩
  | .ag x :: vs, l, vals, h, ⟨y, ys, e, h1, h2⟩ => by
    simp only [packC, Option.map_eq_some_iff] at h
    obtain ⟨l', h, rfl⟩ := h
    exact ⟨y, ys, e, h1, packC_VR h h2⟩
  | .un :: _, _, _, h, _ => by simp [packC] at h
  | .tu _ :: _, _, _, h, _ => by simp [packC] at h
theorem packR_VR {ι : Inj} {vs : List AV} {v : AV} {vals : List Value} (h : packR vs = some v) (hv : VRs ι vs vals) :
    VR ι v (if h : vals.toArray.size = 1 then vals.toArray[0] else .tuple vals.toArray) := by
  have hl := All2.length hv
  unfold packR at h
  split at h
  · cases h
    obtain ⟨y, ys, rfl, h1, h2⟩ := hv
    cases h2
    exact h1
  · rename_i hne
    have h1 : ¬ vals.toArray.size = 1 := by
      intro h1
      have : vs.length = 1 := by simpa [hl] using h1
      match vs, this with
      | [v], _ => exact hne v rfl
    rw [dif_neg h1]
    simp only [Option.map_eq_some_iff] at h
    obtain ⟨l, h, rfl⟩ := h
    exact ⟨vals, packC_VR h hv, rfl⟩
theorem enter_ER {ι : Inj} {args : List AV} {vals : List Value} (h : VRs ι args vals) (m : Nat) :
    ER ι (args ++ blank (m - args.length)) ((⟨vals⟩ : Array Value) ++ Array.replicate (m - (⟨vals⟩ : Array Value).size) undef) := by
  have hl := All2.length h
  refine ⟨by simp [blank, hl], fun t => ?_⟩
  by_cases ht : t < args.length
  · have h1 : (args ++ blank (m - args.length)).getD t .un = args[t] := by simp [List.getD, List.getElem?_append_left ht, ht]
    rw [h1]
    obtain ⟨y, hy, hr⟩ := h.get t args[t] (by simp [ht])
    have h2 : ((⟨vals⟩ : Array Value) ++ Array.replicate (m - (⟨vals⟩ : Array Value).size) undef).getD t undef = y := by
      rw [Array.getD_eq_getD_getElem?, Array.getElem?_append_left (by simp; omega)]
      simp [hy]
    rw [h2]; exact hr
  · have h1 : (args ++ blank (m - args.length)).getD t .un = .un := by
      rw [List.getD, List.getElem?_append_right (by omega)]
      by_cases h2 : t - args.length < m - args.length <;> simp [blank, h2]
    rw [h1]; trivial
def NoOdd (P : Program) : Prop := ∀ (f : FuncId) (fn : Func), P.funcs[f]? = some fn → (fn.body.isSome = true → (fn.name == "runtime.NumGoroutine") = false) ∧ (fn.body = none → extNames.contains fn.name = true → Extern.findNext fn = none)
def oddB (fn : Func) : Bool := match fn.body with
  | some _ => !(fn.name == "runtime.NumGoroutine")
  | none => !(extNames.contains fn.name) || (Extern.findNext fn).isNone
def noOddB (P : Program) : Bool := P.funcs.toList.all oddB
theorem NoOdd.of (h : noOddB P = true) : NoOdd P := by
  intro f fn hf
  have hm : fn ∈ P.funcs.toList := by
    have : P.funcs.toList[f]? = some fn := by simpa using hf
    exact List.mem_of_getElem? this
  have := List.all_eq_true.1 h fn hm
  unfold oddB at this
  refine ⟨fun hb => ?_, fun hb hn => ?_⟩
  · obtain ⟨c, hc⟩ := Option.isSome_iff_exists.1 hb
    rw [hc] at this
    simpa using this
  · rw [hb] at this
    simp only [hn, Bool.not_true, Bool.false_or] at this
    exact Option.isNone_iff_eq_none.1 this
theorem callA_sound (hT : TOk P T) (hmix : P.follows .mixedOrders = true) (hodd : NoOdd P) (hs : Nat → Hints) (hB : ∀ g f, (hs g).back.contains f = true → BackOk P f) : ∀ n, OraOk P (callA P T hs n) := by
  intro n
  induction n with
  | zero => intro f args H v H1 h; simp [callA] at h
  | succ n ih =>
    intro f args H v H1 h
    simp only [callA] at h
    split at h
    case h_2 => cases h
    rename_i fn hf
    split at h
    case h_2 => cases h
    rename_i v' H' hrun
    cases h
    unfold bodyK at hrun
    split at hrun
    case h_2 =>
      rename_i hb
      split at hrun
      case h_2 => simp [run] at hrun
      rename_i s hx
      simp only [run, Option.some.injEq, Prod.mk.injEq, true_and, List.cons.injEq, and_true] at hrun
      obtain ⟨rfl, rfl⟩ := hrun
      have hn := extA_names hx
      refine ⟨Grow.refl _, .inr ⟨rfl, fn, s, hf, hb, ?_, (hodd f fn hf).2 hb (by simpa using hn), hx, rfl⟩⟩
      simp only [extNames, List.mem_cons, List.not_mem_nil, or_false] at hn
      rcases hn with e | e | e | e <;> rw [e] <;> decide
    rename_i c hb
    obtain ⟨x, e1, H2, h1, h2, h3⟩ := exec_sound (C := callA P T hs n) (n := n) (hs := hs f) (nt := fn.ntmps) hT ih hmix (hB f) c none [] _ H _ _ (by simp) (.inl rfl) hrun
    have hx : (x = .nrm ∨ x = .ret) ∧ run (callA P T hs n) n (resK T fn.results.toList e1 fun vs => match packR vs with | some v => .ret 0 [v] | none => .fail) H2 = some ((0, [v]), H1) := by
      cases x with
      | nrm => exact ⟨.inl rfl, h1⟩
      | ret => exact ⟨.inr rfl, h1⟩
      | exit id => simp [run] at h1
      | goto l => simp [run] at h1
    obtain ⟨hx, h1⟩ := hx
    obtain ⟨vs, h4, h5⟩ := resK_run hT (H := H2) (r := ((0, [v]), H1)) _ e1 _ h1
    have hv : packR vs = some v ∧ H2 = H1 := by
      split at h4
      · rename_i v' hp
        simp only [run, Option.some.injEq, Prod.mk.injEq, true_and, List.cons.injEq, and_true] at h4
        exact ⟨by rw [hp, h4.1], h4.2⟩
      · simp [run] at h4
    obtain ⟨hp, rfl⟩ := hv
    refine ⟨h2, .inl ⟨?_, fn, hf, by rw [hb]; rfl, (hodd f fn hf).1 (by rw [hb]; rfl)⟩⟩
    intro ι w args' hargs hh g
    refine callsIn_wide.1 (callsIn_of_wp_marks (F := Fence.wide) (n := 0) hf hb trivial (wpIn_wide.2 ?_))
    refine h3 ι _ w (by simp; omega) (enter_ER hargs fn.ntmps) hh g _ fun a' w' ι' x1 x2 x3 x4 => no_cut ?_
    obtain ⟨⟨ds, e0, hds, hnd⟩, -⟩ := x1
    have post : LeavesInM Fence.wide 0 P fn a'.tmps (fun e w' => ∃ ι' v', e = .returned v' ∧ VR ι' v v' ∧ HR ι' H2 w' ∧ Stp ι H w ι' H2 w') a'.defers .returning w' := by
      rw [e0, List.append_nil]
      have key : ∀ (ds : List Nat) (w' : World), ds.Nodup → (∀ D ∈ ds, w'.heap[D]? = some (.deferred (some [])) ∧ w.heap.size ≤ D ∧ Free ι' D) → HR ι' H2 w' → Stp ι H w ι' H2 w' →
          LeavesInM Fence.wide 0 P fn a'.tmps (fun e w' => ∃ ι' v', e = .returned v' ∧ VR ι' v v' ∧ HR ι' H2 w' ∧ Stp ι H w ι' H2 w') (ds.map mkD) .returning w' := by
        intro ds
        induction ds with
        | nil =>
          intro w' _ _ x3 x4
          obtain ⟨vals, k1, k2⟩ := h5 ι' a' w' x2 x3
          have hres : (results fn a'.tmps).run P w' = .ok (if h : vals.toArray.size = 1 then vals.toArray[0] else .tuple vals.toArray) w' := by
            rw [results_eq, Array.mapM_eq_mapM_toList]
            simp [k1]
          exact ⟨_, hres, ι', _, rfl, packR_VR hp k2, x3, x4⟩
        | cons D ds ih =>
          intro w' hn hd x3 x4
          obtain ⟨p, q, f⟩ := hd D (List.mem_cons_self ..)
          refine ⟨by simp, .inl ⟨D, _, rfl, run_takeDeferred p, ih _ (List.nodup_cons.1 hn).2 (fun E hE => ?_) (run_putblk x3 f _) (x4.putblk q _)⟩⟩
          obtain ⟨p', q', f'⟩ := hd E (List.mem_cons_of_mem _ hE)
          have hne : E ≠ D := fun h => (List.nodup_cons.1 hn).1 (h ▸ hE)
          exact ⟨(World.putObj_heap_other hne).trans p', q', f'⟩
      exact key ds w' hnd hds x3 x4
    rcases hx with rfl | rfl <;> exact post
end
end Go.Proofs.YtdfpjhlckjognaaGreat.Fw
