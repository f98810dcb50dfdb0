/- Regions in the text's order. -/
import Derived.Test.YtkhooppaenfkdaaFwL
set_option linter.unusedSimpArgs false
set_option linter.unusedVariables false
namespace Go.Proofs.Ytkhooppaenfkdaa.Fw
open Go

section ops
variable {P : Program} {T : TTab} {C : Ora} {n : Nat}

/-- is the operation wanted? -/
theorem wantedA_sound {ops : Array Oper} {e : List AV} {o : Oper} {b : Bool} (h : wantedA ops.toList e o = some b) {ι : Inj} {a : Act} (he : ER ι e a.tmps) : Region.wanted o (yielded ops a.tmps) = b := by
  unfold wantedA at h
  unfold Region.wanted
  split at h
  · rename_i hg; cases h; rw [hg]
  · rename_i j want hg
    rw [hg]
    dsimp only
    unfold dstOf at h
    unfold yielded
    have hx : ops.toList[j]? = ops[j]? := by simp
    rw [hx] at h
    cases hd : (ops[j]?).bind (·.dst) with
    | none => rw [hd] at h; cases h
    | some t =>
      rw [hd] at h; dsimp only at h
      have hv := he.get t
      have hsz : ∀ v, a.tmps.getD t undef = v → v ≠ undef → a.tmps[t]? = some v := by
        intro v hv hne
        by_cases hlt : t < a.tmps.size
        · simp [Array.getD, hlt] at hv; simp [hlt, hv]
        · simp [Array.getD, hlt] at hv; exact absurd hv.symm hne
      split at h
      · rename_i e1; rw [e1] at hv; cases h
        have := hsz (.bool true) hv (by simp [undef])
        simp [this] <;> cases want <;> rfl
      · rename_i e1; rw [e1] at hv; cases h
        have := hsz (.bool false) hv (by simp [undef])
        simp [this] <;> cases want <;> rfl
      · rename_i e1; rw [e1] at hv; cases h
        obtain ⟨vs, h1, h2⟩ := hv
        cases h1
        simp only [Option.bind_some]
        by_cases hlt : t < a.tmps.size
        · have : a.tmps[t]? = some (.tuple #[]) := by simp [Array.getD, hlt] at h2; simp [hlt, h2]
          rw [this]; rfl
        · rw [Array.getElem?_eq_none (Nat.le_of_not_lt hlt)]; rfl
      · cases h

theorem guardK_run {g : Bool} {v : AV} {go : AV → Tree} {H : AH} {r : Res} (h : run C n (guardK g v go) H = some r) : run C n (go v) H = some r := by
  unfold guardK at h
  split at h
  · exact h
  · split at h
    · rename_i b
      cases b
      · simpa using h
      · simpa using h
    · simp [run] at h

theorem opsK_sound (hT : TOk P T) (hC : OraOk P C) (ops : Array Oper) : ∀ (os : List Oper) (j : Nat) (e : List AV) (H : AH) (f : List AV → Tree) (r : Res), run C n (opsK T ops.toList j os e f) H = some r →
    ∃ e1 H1, run C n (f e1) H1 = some r ∧ Grow H H1 ∧ ∀ (ι : Inj) (a : Act) (w : World), ER ι e a.tmps → HR ι H w → Gap ι H H1 → ∀ (Q : Exit → Act → World → Prop),
      (∀ a' w' ι', AEq a a' → ER ι' e1 a'.tmps → HR ι' H1 w' → Stp ι H w ι' H1 w' → Q .normal a' w') → wpList P ops Q os a w := by
  intro os
  induction os with
  | nil =>
    intro j e H f r h
    exact ⟨e, H, h, Grow.refl _, fun ι a w he hh _ Q k => k a w ι (AEq.refl _) he hh (Stp.refl _ _ _)⟩
  | cons o os ih =>
    intro j e H f r h
    simp only [opsK, frc_eq] at h
    split at h
    · rename_i hw
      obtain ⟨v, H1, h1, hnx, hS⟩ := opX_sound hT hC h
      -- whatever way on, the rest is run with v (or what v is) in its slot
      have rest : ∀ v1 : AV, (∀ ι x, VR ι v x → VR ι v1 x) → run C n (opsK T ops.toList (j + 1) os (putE e o.dst v1) f) H1 = some r →
          ∃ e1 H2, run C n (f e1) H2 = some r ∧ Grow H H2 ∧ ∀ (ι : Inj) (a : Act) (w : World), ER ι e a.tmps → HR ι H w → Gap ι H H2 → ∀ (Q : Exit → Act → World → Prop),
            (∀ a' w' ι', AEq a a' → ER ι' e1 a'.tmps → HR ι' H2 w' → Stp ι H w ι' H2 w' → Q .normal a' w') → wpList P ops Q (o :: os) a w := by
        intro v1 hv1 h2
        obtain ⟨e1, H2, h3, hnx2, hk⟩ := ih (j + 1) _ H1 f r h2
        refine ⟨e1, H2, h3, hnx.trans hnx2, fun ι a w he hh g Q k => ?_⟩
        unfold wpList
        rw [if_pos (wantedA_sound hw he)]
        refine .inl (hS ι a w he hh (g.left hnx2.nx) _ Q fun v' w' ι' hvr hh' hs' => ?_)
        have he' : ER ι' (putE e o.dst v1) (a.put o.dst v').tmps := (he.mono hs'.ext).put o.dst (hv1 _ _ hvr)
        refine hk ι' (a.put o.dst v') w' he' hh' (g.right hs') Q fun a2 w2 ι2 hd2 he2 hh2 hs2 => ?_
        exact k a2 w2 ι2 ((AEq.put a o.dst v').trans hd2) he2 hh2 (hs'.trans hs2 g)
      exact rest v (fun _ _ h => h) (guardK_run h1)
    · rename_i hw
      obtain ⟨e1, H2, h3, hnx2, hk⟩ := ih (j + 1) _ H f r h
      refine ⟨e1, H2, h3, hnx2, fun ι a w he hh g Q k => ?_⟩
      unfold wpList
      rw [if_neg (by rw [wantedA_sound hw he]; simp)]
      have he' : ER ι (putE e o.dst (.tu [])) (a.put o.dst undef).tmps := he.put o.dst ⟨[], rfl, rfl⟩
      refine hk ι (a.put o.dst undef) w he' hh g Q fun a2 w2 ι2 hd2 he2 hh2 hs2 => ?_
      exact k a2 w2 ι2 ((AEq.put a o.dst undef).trans hd2) he2 hh2 hs2
    · simp [run] at h
end ops
end Go.Proofs.Ytkhooppaenfkdaa.Fw
