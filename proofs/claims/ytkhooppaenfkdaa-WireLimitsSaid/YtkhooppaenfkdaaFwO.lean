/- Regions whose order is drawn: what the one order tells. -/
import Derived.Test.YtkhooppaenfkdaaFwN
set_option linter.unusedSimpArgs false
set_option linter.unusedVariables false
namespace Go.Proofs.Ytkhooppaenfkdaa.Fw
open Go

/-! #### what the one order tells -/
section tr
variable {P : Program} {T : TTab} {C : Ora} {n : Nat}

structure StepF (P : Program) (ops : List Oper) (o : Oper) (H H' : AH) (e e' : List AV) (v : AV) (wd : Bool) : Prop where
  w : wantedA ops e o = some wd
  en : e' = putE e o.dst v
  skip : wd = false → v = .tu [] ∧ H' = H
  pur : wd = true → clsOf o = .pure → H' = H ∧ PureS P o (maskE (readsG ops o) e) v
  load : wd = true → clsOf o = .load → H' = H ∧ ∃ q l x, ev (maskE (readsG ops o) e) x = .sc (.p (some q)) ∧ H.rd q.1 q.2 l.length = some l ∧ LoadS P o (maskE (readsG ops o) e) q l v
  alloc : wd = true → clsOf o = .alloc → ∃ l, H' = H.new (.cells false l) ∧ AllocS P o (maskE (readsG ops o) e) H.next l v
  eff : wd = true → clsOf o = .eff → Grow H H' ∧ OpS P o (maskE (readsG ops o) e) H v H'

theorem sames_run {A : List Nat} {j : Nat} {t : Tree} {H : AH} {r : Res} : ∀ {ls : Loads}, run C n (sames A j ls t) H = some r → run C n t H = some r ∧ ∀ x ∈ ls, tied A x.1 j = false → H.rd x.2.1 x.2.2.1 x.2.2.2.length = some x.2.2.2
  | [], h => ⟨h, by simp⟩
  | (i, id, off, l) :: ls, h => by
    simp only [sames] at h
    split at h
    · rename_i ht
      obtain ⟨h1, h2⟩ := sames_run h
      refine ⟨h1, fun x hx htx => ?_⟩
      cases hx with
      | head => rw [ht] at htx; cases htx
      | tail _ hm => exact h2 x hm htx
    · simp only [run] at h
      split at h
      case isFalse => cases h
      rename_i hrd
      obtain ⟨h1, h2⟩ := sames_run h
      refine ⟨h1, fun x hx htx => ?_⟩
      cases hx with
      | head => exact hrd
      | tail _ hm => exact h2 x hm htx

/-- the load of a place is looked at again behind each effect that isn't tied to it -/
def Again (A : List Nat) (js : List Nat) (ops : List Oper) (Hs : Nat → AH) (wd : Nat → Bool) (x : Nat × Nat × Nat × List Sc) : Prop :=
  ∀ p j o, js[p]? = some j → ops[j]? = some o → wd p = true → clsOf o = .eff → tied A x.1 j = false → (Hs (p + 1)).rd x.2.1 x.2.2.1 x.2.2.2.length = some x.2.2.2

theorem opsD_run (hT : TOk P T) (hC : OraOk P C) {ops : List Oper} {A : List Nat} {f : List AV → Tree} {r : Res} : ∀ (js : List Nat) (ls : Loads) (e : List AV) (H : AH), run C n (opsD T ops A js ls e f) H = some r →
    ∃ (Hs : Nat → AH) (es : Nat → List AV) (vs : Nat → AV) (wd : Nat → Bool), Hs 0 = H ∧ es 0 = e ∧ run C n (f (es js.length)) (Hs js.length) = some r ∧
      (∀ p j, js[p]? = some j → ∃ o, ops[j]? = some o ∧ StepF P ops o (Hs p) (Hs (p + 1)) (es p) (es (p + 1)) (vs p) (wd p)) ∧
      (∀ x ∈ ls, Again A js ops Hs wd x) ∧
      (∀ p j o, js[p]? = some j → ops[j]? = some o → wd p = true → clsOf o = .load → ∃ q l x, ev (maskE (readsG ops o) (es p)) x = .sc (.p (some q)) ∧ (Hs p).rd q.1 q.2 l.length = some l ∧ LoadS P o (maskE (readsG ops o) (es p)) q l (vs p) ∧
        ∀ p' j' o', p < p' → js[p']? = some j' → ops[j']? = some o' → wd p' = true → clsOf o' = .eff → tied A j j' = false → (Hs (p' + 1)).rd q.1 q.2 l.length = some l) := by
  intro js
  induction js with
  | nil =>
    intro ls e H h
    exact ⟨fun _ => H, fun _ => e, fun _ => .un, fun _ => false, rfl, rfl, h, by simp, fun x hx p j o hj => by simp at hj, by simp⟩
  | cons j js ih =>
    intro ls e H h
    simp only [opsD, frc_eq] at h
    split at h
    case h_1 => simp [run] at h
    rename_i o ho
    have hm : ∀ g : AV → Tree, opK T e o g = opK T (maskE (readsG ops o) e) o g := fun g => opK_congr ev_mask g
    -- the rest behind a value
    have fin : ∀ (v : AV) (H1 : AH) (wd0 : Bool) (ls' : Loads), run C n (opsD T ops A js ls' (putE e o.dst v) f) H1 = some r →
        StepF P ops o H H1 e (putE e o.dst v) v wd0 → (∀ x ∈ ls, x ∈ ls') → (wd0 = true → clsOf o = .eff → ∀ x ∈ ls, tied A x.1 j = false → H1.rd x.2.1 x.2.2.1 x.2.2.2.length = some x.2.2.2) →
        (wd0 = true → clsOf o = .load → ∃ q l x, ev (maskE (readsG ops o) e) x = .sc (.p (some q)) ∧ H.rd q.1 q.2 l.length = some l ∧ LoadS P o (maskE (readsG ops o) e) q l v ∧ (j, q.1, q.2, l) ∈ ls') →
        ∃ (Hs : Nat → AH) (es : Nat → List AV) (vs : Nat → AV) (wd : Nat → Bool), Hs 0 = H ∧ es 0 = e ∧ run C n (f (es (j :: js).length)) (Hs (j :: js).length) = some r ∧
          (∀ p j', (j :: js)[p]? = some j' → ∃ o, ops[j']? = some o ∧ StepF P ops o (Hs p) (Hs (p + 1)) (es p) (es (p + 1)) (vs p) (wd p)) ∧
          (∀ x ∈ ls, Again A (j :: js) ops Hs wd x) ∧
          (∀ p j' o, (j :: js)[p]? = some j' → ops[j']? = some o → wd p = true → clsOf o = .load → ∃ q l x, ev (maskE (readsG ops o) (es p)) x = .sc (.p (some q)) ∧ (Hs p).rd q.1 q.2 l.length = some l ∧ LoadS P o (maskE (readsG ops o) (es p)) q l (vs p) ∧
            ∀ p' j'' o', p < p' → (j :: js)[p']? = some j'' → ops[j'']? = some o' → wd p' = true → clsOf o' = .eff → tied A j' j'' = false → (Hs (p' + 1)).rd q.1 q.2 l.length = some l) := by
      intro v H1 wd0 ls' hrest hst hsub hsame hload
      obtain ⟨Hs, es, vs, wd, h0, h0', hr, h1, h2, h3⟩ := ih ls' _ H1 hrest
      refine ⟨fun p => match p with | 0 => H | p + 1 => Hs p, fun p => match p with | 0 => e | p + 1 => es p, fun p => match p with | 0 => v | p + 1 => vs p, fun p => match p with | 0 => wd0 | p + 1 => wd p, rfl, rfl, hr, ?_, ?_, ?_⟩
      · intro p j' hj
        cases p with
        | zero => simp at hj; subst hj; exact ⟨o, ho, by simpa only [h0, h0'] using hst⟩
        | succ p => exact h1 p j' (by simpa using hj)
      · intro x hx p j' o' hj ho' hw hc ht
        cases p with
        | zero =>
          simp at hj; subst hj
          rw [ho] at ho'; cases ho'
          dsimp only at hw ⊢
          rw [h0]; exact hsame hw hc x hx ht
        | succ p => exact h2 x (hsub x hx) p j' o' (by simpa using hj) ho' hw hc ht
      · intro p j' o' hj ho' hw hc
        cases p with
        | zero =>
          simp at hj; subst hj
          rw [ho] at ho'; cases ho'
          obtain ⟨q, l, x, a1, a2, a3, a4⟩ := hload hw hc
          refine ⟨q, l, x, a1, a2, a3, fun p' j'' o' hp hj' ho' hw' hc' ht => ?_⟩
          cases p' with
          | zero => omega
          | succ p' => exact h2 _ a4 p' j'' o' (by simpa using hj') ho' hw' hc' ht
        | succ p =>
          obtain ⟨q, l, x, a1, a2, a3, a4⟩ := h3 p j' o' (by simpa using hj) ho' hw hc
          refine ⟨q, l, x, a1, a2, a3, fun p' j'' o'' hp hj' ho' hw' hc' ht => ?_⟩
          cases p' with
          | zero => omega
          | succ p' => exact a4 p' j'' o'' (by omega) (by simpa using hj') ho' hw' hc' ht
    split at h
    · rename_i hw
      rw [hm] at h
      have tail : ∀ (v : AV) (H1 : AH), run C n (effK (clsOf o) (fun t => sames A j ls t) (guardK (guards ops j) v fun v => opsD T ops A js (noteLoad e j o v ls) (putE e o.dst v) f)) H1 = some r →
          run C n (opsD T ops A js (noteLoad e j o v ls) (putE e o.dst v) f) H1 = some r ∧ (clsOf o = .eff → ∀ x ∈ ls, tied A x.1 j = false → H1.rd x.2.1 x.2.2.1 x.2.2.2.length = some x.2.2.2) := by
        intro v H1 h
        unfold effK at h
        split at h
        · obtain ⟨h1, h2⟩ := sames_run h
          exact ⟨guardK_run h1, fun _ => h2⟩
        · rename_i hc
          exact ⟨guardK_run h, fun hc' => absurd hc' hc⟩
      have hsub : ∀ (v : AV), ∀ x ∈ ls, x ∈ noteLoad e j o v ls := by
        intro v x hx
        unfold noteLoad
        split
        · split
          · exact List.mem_cons_of_mem _ hx
          · exact hx
        · exact hx
      cases hcls : clsOf o with
      | pure =>
        obtain ⟨v, h1, hp⟩ := opP_sound hT hcls h
        obtain ⟨h2, _⟩ := tail v H h1
        refine fin v H true _ h2 ⟨hw, rfl, fun h => (by cases h), fun _ _ => ⟨rfl, hp⟩, fun _ h => (by rw [hcls] at h; cases h), fun _ h => (by rw [hcls] at h; cases h), fun _ h => (by rw [hcls] at h; cases h)⟩ (hsub v) (fun _ h => (by rw [hcls] at h; cases h)) (fun _ h => (by rw [hcls] at h; cases h))
      | load =>
        have hop : ∃ t x, o.op = .load t x := by
          unfold clsOf at hcls
          split at hcls <;> first | (exact ⟨_, _, by assumption⟩) | (split at hcls <;> cases hcls) | cases hcls
        obtain ⟨t, x, hop⟩ := hop
        obtain ⟨q, l, v, h1, hx, hl, hvc, hs⟩ := op_loadL hT hop h
        obtain ⟨h2, _⟩ := tail v H h1
        have hx' : ev e x = .sc (.p (some q)) := by rw [ev_mask (ops := ops) (o := o) x (by simp [hop, Op.operands])]; exact hx
        refine fin v H true _ h2 ⟨hw, rfl, fun h => (by cases h), fun _ h => (by rw [hcls] at h; cases h), fun _ _ => ⟨rfl, q, l, x, hx, hl, hs⟩, fun _ h => (by rw [hcls] at h; cases h), fun _ h => (by rw [hcls] at h; cases h)⟩ (hsub v) (fun _ h => (by rw [hcls] at h; cases h)) (fun _ _ => ⟨q, l, x, hx, hl, hs, ?_⟩)
        unfold noteLoad
        rw [hop]; simp only [hx', hvc]; exact List.mem_cons_self ..
      | alloc =>
        obtain ⟨l, v, h1, hs⟩ := opA_sound hT hcls h
        obtain ⟨h2, _⟩ := tail v _ h1
        exact fin v _ true _ h2 ⟨hw, rfl, fun h => (by cases h), fun _ h => (by rw [hcls] at h; cases h), fun _ h => (by rw [hcls] at h; cases h), fun _ _ => ⟨l, rfl, hs⟩, fun _ h => (by rw [hcls] at h; cases h)⟩ (hsub v) (fun _ h => (by rw [hcls] at h; cases h)) (fun _ h => (by rw [hcls] at h; cases h))
      | eff =>
        obtain ⟨v, H1, h1, hnx, hs⟩ := opK_sound hT hC h
        obtain ⟨h2, h3⟩ := tail v H1 h1
        exact fin v H1 true _ h2 ⟨hw, rfl, fun h => (by cases h), fun _ h => (by rw [hcls] at h; cases h), fun _ h => (by rw [hcls] at h; cases h), fun _ h => (by rw [hcls] at h; cases h), fun _ _ => ⟨hnx, hs⟩⟩ (hsub v) (fun _ _ => h3 hcls) (fun _ h => (by rw [hcls] at h; cases h))
    · rename_i hw
      exact fin (.tu []) H false _ h ⟨hw, rfl, fun _ => ⟨rfl, rfl⟩, fun h => (by cases h), fun h => (by cases h), fun h => (by cases h), fun h => (by cases h)⟩ (fun x hx => hx) (fun h => (by cases h)) (fun h => (by cases h))
    · simp [run] at h
end tr
end Go.Proofs.Ytkhooppaenfkdaa.Fw
