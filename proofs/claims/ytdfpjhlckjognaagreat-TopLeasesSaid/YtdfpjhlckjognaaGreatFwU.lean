/- Code and functions: the trees are sound. -/
import Derived.Test.YtdfpjhlckjognaaGreatFwTa
import Derived.RangeFuncOwn
import Derived.RangeFuncLeaves
import Derived.Below
set_option linter.unusedSimpArgs false
set_option linter.unusedVariables false
set_option linter.unusedSectionVars false
namespace Go.Proofs.YtdfpjhlckjognaaGreat.Fw
open Go
theorem cell_congr {w w' : World} {a : Addr} (h : w'.heap[a.block]? = w.heap[a.block]?) : w'.cell? a = w.cell? a := by unfold World.cell?; rw [h]
theorem frozen_congr {w w' : World} {a : Addr} (h : w'.heap[a.block]? = w.heap[a.block]?) : w'.frozen? a = w.frozen? a := by unfold World.frozen?; rw [h]
theorem HR.world {ι : Inj} {H : AH} {w w' : World} (h : HR ι H w) (hs : w.heap.size ≤ w'.heap.size) (he : ∀ id d, ι id = some d → w'.heap[d.blk]? = w.heap[d.blk]?) : HR ι H w' := by
  refine ⟨fun id d o hd ho => ?_, h.inj, fun id d hd => Nat.lt_of_lt_of_le (h.lt id d hd) hs, h.fut⟩
  have hr := h.obj id d o hd ho
  have e := he id d hd
  cases o with
  | iter s p => exact ⟨hr.1, e.trans hr.2⟩
  | cells ro l =>
    obtain ⟨a, b, c, d1, f⟩ := hr
    refine ⟨a, b, fun j x hj => ?_, fun o ho => ?_, fun hro o ho => ?_⟩
    · obtain ⟨v, hv, hs⟩ := c j x hj; exact ⟨v, (cell_congr (a := ⟨d.blk, d.base + j, none⟩) e).trans hv, hs⟩
    · rw [cell_congr (a := ⟨d.blk, o, none⟩) e]; exact d1 o ho
    · rw [frozen_congr (a := ⟨d.blk, o, none⟩) e]; exact f hro o ho
def Free (ι : Inj) (b : Nat) : Prop := ∀ id d, ι id = some d → d.blk ≠ b
theorem Free.own {ι : Inj} {b : Nat} (h : Free ι b) (H : AH) : ¬ Own ι H b := fun ⟨id, d, hd, _, _, _, e⟩ => h id d hd e
theorem Free.of_le {ι : Inj} {H : AH} {w : World} (h : HR ι H w) {b : Nat} (hb : w.heap.size ≤ b) : Free ι b := fun id d hd e => by have := h.lt id d hd; omega
theorem Free.step {ι ι' : Inj} {H H' : AH} {w w' : World} (s : Stp ι H w ι' H' w') {b : Nat} (hb : b < w.heap.size) (h : Free ι b) : Free ι' b := by
  intro id d hd e
  cases h0 : ι id with
  | some d0 => have := s.ext id d0 h0; rw [hd] at this; cases this; exact h id d h0 e
  | none =>
    rcases s.new id d hd h0 with ⟨_, _, _, h1 | h1⟩
    · omega
    · rw [e] at h1; exact h.own H h1
def mkD (D : Nat) : Deferred := { target := .collected D, args := #[] }
def AW (a0 : Act) (w0 : World) (a : Act) (ι : Inj) (H : AH) (w : World) : Prop :=
  (∃ ds : List Nat, a.defers = ds.map mkD ++ a0.defers ∧ (∀ D ∈ ds, w.heap[D]? = some (.deferred (some [])) ∧ w0.heap.size ≤ D ∧ Free ι D) ∧ ds.Nodup) ∧ a.tmps.size = a0.tmps.size
theorem AW.of {a0 a : Act} {w0 w : World} {ι : Inj} {H : AH} (h : AEq a0 a) : AW a0 w0 a ι H w := ⟨⟨[], h.1, fun D hD => (by cases hD), List.nodup_nil⟩, h.2⟩
theorem AW.trans {a0 a b : Act} {w0 w1 w2 : World} {ι1 ι2 : Inj} {H1 H2 : AH} (x : AW a0 w0 a ι1 H1 w1) (hs : w0.heap.size ≤ w1.heap.size) (s : Stp ι1 H1 w1 ι2 H2 w2) (y : AW a w1 b ι2 H2 w2) : AW a0 w0 b ι2 H2 w2 := by
  obtain ⟨⟨ds, e1, h1, n1⟩, z1⟩ := x
  obtain ⟨⟨es, e2, h2, n2⟩, z2⟩ := y
  have lt : ∀ D ∈ ds, D < w1.heap.size := fun D hD => (Array.getElem?_eq_some_iff.1 (h1 D hD).1).1
  refine ⟨⟨es ++ ds, by rw [e2, e1]; simp, fun D hD => ?_, ?_⟩, z2.trans z1⟩
  · rcases List.mem_append.1 hD with hD | hD
    · obtain ⟨p, q, r⟩ := h2 D hD; exact ⟨p, Nat.le_trans hs q, r⟩
    · obtain ⟨p, q, r⟩ := h1 D hD; exact ⟨(s.fr D (lt D hD) (r.own H1)).trans p, q, r.step s (lt D hD)⟩
  · refine List.nodup_append.2 ⟨n2, n1, fun D hD E hE he => ?_⟩
    subst he
    have := (h2 D hD).2.1; have := lt D hE; omega
theorem run_newblk {w : World} {ι : Inj} {H : AH} (h : HR ι H w) (o : Obj) : HR ι H (w.alloc o) ∧ Stp ι H w ι H (w.alloc o) := by
  have e : ∀ b, b < w.heap.size → (w.alloc o).heap[b]? = w.heap[b]? := fun b hb => Go.RowKit.Below.heap_alloc w o b hb
  have hs : w.heap.size ≤ (w.alloc o).heap.size := by rw [World.size_alloc]; omega
  exact ⟨h.world hs fun id d hd => e _ (h.lt id d hd), fun _ _ h => h, fun _ _ h h' => (by rw [h] at h'; cases h'), Nat.le_refl _, fun _ _ h => h, fun _ _ _ => rfl, hs, fun b hb _ => e b hb, rfl, rfl, rfl⟩
theorem run_putblk {w : World} {ι : Inj} {H : AH} (h : HR ι H w) {b : Nat} (hf : Free ι b) (o : Obj) : HR ι H (w.putObj b o) :=
  h.world (by rw [World.putObj_size]; exact Nat.le_refl _) fun id d hd => World.putObj_heap_other (hf id d hd)
theorem Stp.putblk {ι ι' : Inj} {H H' : AH} {w w' : World} (s : Stp ι H w ι' H' w') {b : Nat} (hb : w.heap.size ≤ b) (o : Obj) : Stp ι H w ι' H' (w'.putObj b o) :=
  ⟨s.ext, s.new, s.nx, s.dead, s.keep, by rw [World.putObj_size]; exact s.sz, fun c hc ho => (World.putObj_heap_other (by omega)).trans (s.fr c hc ho), s.io⟩
theorem ext_noun {name : String} {args : List AV} {x : Sc} (h : extA name args = some x) : AV.un ∉ args := by
  unfold extA at h
  repeat' split at h
  all_goals first | (cases h; done) | simp
section
variable {P : Program} {T : TTab} {C : Ora} {n : Nat} {hs : Hints} {nt : Nat}
def QHyp (P : Program) (c : Code) (cut : List Nat) (x : Ex) (Q : Exit → Act → World → Prop) (a : Act) (w : World) : Prop :=
  Q (ExC x) a w ∧ ∀ l, x = .goto l → cut.contains l = true → hasLabel c l = true → RestWp P c l Q a w
def GoalC (P : Program) (c : Code) (fr : Option Nat) (Q : Exit → Act → World → Prop) (a : Act) (w : World) : Prop :=
  match fr with
  | none => c.wp P Q a w
  | some l => RestWp P c l Q a w
def Leads (P : Program) (nt : Nat) (c : Code) (fr : Option Nat) (cut : List Nat) (e : List AV) (H : AH) (x : Ex) (e1 : List AV) (H1 : AH) : Prop :=
  ∀ (ι : Inj) (a : Act) (w : World), nt ≤ a.tmps.size → ER ι e a.tmps → HR ι H w → Gap ι H H1 → ∀ (Q : Exit → Act → World → Prop),
    (∀ a' w' ι', AW a w a' ι' H1 w' → ER ι' e1 a'.tmps → HR ι' H1 w' → Stp ι H w ι' H1 w' → QHyp P c cut x Q a' w') → GoalC P c fr Q a w
def Sound (P : Program) (T : TTab) (C : Ora) (n : Nat) (hs : Hints) (nt : Nat) (c : Code) : Prop :=
  ∀ (fr : Option Nat) (cut : List Nat) (e : List AV) (H : AH) (k : Ex → List AV → Tree) (r : Res), (∀ l, fr = some l → hasLabel c l = true) → (cut = [] ∨ nodupB (labelsIn c) = true) → run C n (exec T hs nt c fr cut e k) H = some r →
    ∃ x e1 H1, run C n (k x e1) H1 = some r ∧ Grow H H1 ∧ Leads P nt c fr cut e H x e1 H1
theorem Sound.quick {c : Code} {e : List AV} {H : AH} {k : Ex → List AV → Tree} {r : Res} {x : Ex} {cut : List Nat} (h : run C n (k x e) H = some r)
    (hw : ∀ (a : Act) (w : World) (Q : Exit → Act → World → Prop), QHyp P c cut x Q a w → c.wp P Q a w) :
    ∃ x e1 H1, run C n (k x e1) H1 = some r ∧ Grow H H1 ∧ Leads P nt c none cut e H x e1 H1 :=
  ⟨x, e, H, h, Grow.refl _, fun ι a w _ he hh _ Q k => hw a w Q (k a w ι (AW.of (AEq.refl _)) he hh (Stp.refl _ _ _))⟩
theorem no_cut {c : Code} {x : Ex} {Q : Exit → Act → World → Prop} {a : Act} {w : World} (h : Q (ExC x) a w) : QHyp P c [] x Q a w := ⟨h, fun l _ hl => by simp at hl⟩
theorem sound_seq {x y : Code} (hx : Sound P T C n hs nt x) (hy : Sound P T C n hs nt y) : Sound P T C n hs nt (.seq x y) := by
  intro fr cut e H k r hfr hnd h
  have nd : cut = [] ∨ (nodupB (labelsIn x) = true ∧ nodupB (labelsIn y) = true ∧ ∀ l, (labelsIn x).contains l = true → (labelsIn y).contains l = false) := by
    rcases hnd with h | h
    · exact .inl h
    · exact .inr (nodupB_append h)
  have ndx : cut = [] ∨ nodupB (labelsIn x) = true := nd.imp id (·.1)
  have ndy : cut = [] ∨ nodupB (labelsIn y) = true := nd.imp id (·.2.1)
  have second : ∀ (e : List AV) (H : AH), run C n (exec T hs nt y none cut e k) H = some r → ∃ z e1 H1, run C n (k z e1) H1 = some r ∧ Grow H H1 ∧
      ∀ (ι : Inj) (a : Act) (w : World), nt ≤ a.tmps.size → ER ι e a.tmps → HR ι H w → Gap ι H H1 → ∀ (Q : Exit → Act → World → Prop),
        (∀ a' w' ι', AW a w a' ι' H1 w' → ER ι' e1 a'.tmps → HR ι' H1 w' → Stp ι H w ι' H1 w' → QHyp P (.seq x y) cut z Q a' w') → y.wp P Q a w := by
    intro e H h
    obtain ⟨z, e1, H1, h1, h2, h3⟩ := hy none cut e H k r (by simp) ndy h
    refine ⟨z, e1, H1, h1, h2, fun ι a w hnt he hh g Q hq => h3 ι a w hnt he hh g Q fun a' w' ι' x1 x2 x3 x4 => ?_⟩
    obtain ⟨q1, q2⟩ := hq a' w' ι' x1 x2 x3 x4
    refine ⟨q1, fun l hl hc hhas => ?_⟩
    have := q2 l hl hc (by simp [hasLabel, hhas])
    simp only [RestWp] at this
    have hnx : hasLabel x l = false := by
      rcases nd with nd | ⟨_, _, nd⟩
      · rw [nd] at hc; simp at hc
      · cases hb : hasLabel x l with
        | false => rfl
        | true => rw [has_in] at hb hhas; rw [nd l hb] at hhas; cases hhas
    rwa [if_neg (by simp [hnx])] at this
  have first : ∀ (fr : Option Nat), (∀ l, fr = some l → hasLabel x l = true) → run C n (exec T hs nt x fr cut e fun z e' => match z with | .nrm => exec T hs nt y none cut e' k | z => k z e') H = some r →
      ∃ z e1 H1, run C n (k z e1) H1 = some r ∧ Grow H H1 ∧ ∀ (ι : Inj) (a : Act) (w : World), nt ≤ a.tmps.size → ER ι e a.tmps → HR ι H w → Gap ι H H1 → ∀ (Q : Exit → Act → World → Prop),
        (∀ a' w' ι', AW a w a' ι' H1 w' → ER ι' e1 a'.tmps → HR ι' H1 w' → Stp ι H w ι' H1 w' → QHyp P (.seq x y) cut z Q a' w') → GoalC P x fr (Exit.then (y.wp P Q) Q) a w := by
    intro fr hfr h
    obtain ⟨z, e1, H1, h1, h2, h3⟩ := hx fr cut e H _ r hfr ndx h
    by_cases hz : z = .nrm
    · subst hz
      obtain ⟨z2, e2, H2, k1, k2, k3⟩ := second e1 H1 h1
      refine ⟨z2, e2, H2, k1, h2.trans k2, fun ι a w hnt he hh g Q hq => h3 ι a w hnt he hh (g.left k2.nx) _ fun a' w' ι' x1 x2 x3 x4 => ⟨?_, fun l hl => by cases hl⟩⟩
      exact k3 ι' a' w' (by rw [x1.2]; exact hnt) x2 x3 (g.right x4) Q fun a2 w2 ι2 y1 y2 y3 y4 => hq a2 w2 ι2 (x1.trans x4.sz y4 y1) y2 y3 (x4.trans y4 g)
    · refine ⟨z, e1, H1, by cases z <;> first | exact absurd rfl hz | exact h1, h2, fun ι a w hnt he hh g Q hq => h3 ι a w hnt he hh g _ fun a' w' ι' x1 x2 x3 x4 => ?_⟩
      obtain ⟨q1, q2⟩ := hq a' w' ι' x1 x2 x3 x4
      refine ⟨by cases z <;> first | exact absurd rfl hz | exact q1, fun l hl hc hhas => ?_⟩
      have := q2 l hl hc (by simp [hasLabel, hhas])
      simp only [RestWp] at this
      rwa [if_pos hhas] at this
  cases fr with
  | none =>
    simp only [exec] at h
    obtain ⟨z, e1, H1, h1, h2, h3⟩ := first none (by simp) h
    exact ⟨z, e1, H1, h1, h2, fun ι a w hnt he hh g Q hq => wp_seq (h3 ι a w hnt he hh g Q hq)⟩
  | some l =>
    simp only [exec] at h
    by_cases hl : hasLabel x l = true
    · rw [if_pos hl] at h
      obtain ⟨z, e1, H1, h1, h2, h3⟩ := first (some l) (fun l' e => by cases e; exact hl) h
      refine ⟨z, e1, H1, h1, h2, fun ι a w hnt he hh g Q hq => ?_⟩
      have := h3 ι a w hnt he hh g Q hq
      simp only [GoalC, RestWp] at this ⊢
      rwa [if_pos hl]
    · rw [if_neg hl] at h
      have hyl : hasLabel y l = true := by
        have := hfr l rfl
        simp only [hasLabel, Bool.or_eq_true] at this
        exact this.resolve_left hl
      obtain ⟨z, e1, H1, h1, h2, h3⟩ := hy (some l) cut e H k r (fun l' e => by cases e; exact hyl) ndy h
      refine ⟨z, e1, H1, h1, h2, fun ι a w hnt he hh g Q hq => ?_⟩
      have := h3 ι a w hnt he hh g Q fun a' w' ι' x1 x2 x3 x4 => ?_
      · simp only [GoalC, RestWp] at this ⊢
        rwa [if_neg hl]
      · obtain ⟨q1, q2⟩ := hq a' w' ι' x1 x2 x3 x4
        refine ⟨q1, fun l' hl' hc hhas => ?_⟩
        have := q2 l' hl' hc (by simp [hasLabel, hhas])
        simp only [RestWp] at this
        have hnx : hasLabel x l' = false := by
          rcases nd with nd | ⟨_, _, nd⟩
          · rw [nd] at hc; simp at hc
          · cases hb : hasLabel x l' with
            | false => rfl
            | true => rw [has_in] at hb hhas; rw [nd l' hb] at hhas; cases hhas
        rwa [if_neg (by simp [hnx])] at this
theorem sound_cond {c : Operand} {x y : Code} (hx : Sound P T C n hs nt x) (hy : Sound P T C n hs nt y) : Sound P T C n hs nt (.cond c x y) := by
  intro fr cut e H k r hfr hnd h
  cases fr with
  | some l => have := hfr l rfl; simp [hasLabel] at this
  | none =>
    simp only [exec] at h
    split at h
    case h_2 => simp [run] at h
    rename_i t ht
    have hev : ∀ (ι : Inj) (a : Act), ER ι e a.tmps → a.eval c = .bool t := by
      intro ι a he; have := ev_sound he c; rw [ht] at this; exact this
    split at h
    · rename_i ks hks
      simp only [run, obind_eq] at h
      obtain ⟨⟨⟨tag, l⟩, Hm⟩, h1, h2⟩ := h
      have arm : ∃ z e1, tag = z.tag ∧ l = keepL (kx ks z) e1 ∧ Grow H Hm ∧ ∀ (ι : Inj) (a : Act) (w : World), nt ≤ a.tmps.size → ER ι e a.tmps → HR ι H w → Gap ι H Hm → ∀ (Q : Exit → Act → World → Prop),
          (∀ a' w' ι', AW a w a' ι' Hm w' → ER ι' e1 a'.tmps → HR ι' Hm w' → Stp ι H w ι' Hm w' → Q (ExC z) a' w') → (if t then x else y).wp P Q a w := by
        cases t with
        | true =>
          simp only [cond_true] at h1
          obtain ⟨z, e1, H1, g1, g2, g3⟩ := hx none [] e H _ _ (by simp) (.inl rfl) h1
          simp only [run, Option.some.injEq, Prod.mk.injEq] at g1
          obtain ⟨⟨rfl, rfl⟩, rfl⟩ := g1
          exact ⟨z, e1, rfl, rfl, g2, fun ι a w hnt he hh g Q hq => g3 ι a w hnt he hh g Q fun a' w' ι' x1 x2 x3 x4 => no_cut (hq a' w' ι' x1 x2 x3 x4)⟩
        | false =>
          simp only [cond_false] at h1
          obtain ⟨z, e1, H1, g1, g2, g3⟩ := hy none [] e H _ _ (by simp) (.inl rfl) h1
          simp only [run, Option.some.injEq, Prod.mk.injEq] at g1
          obtain ⟨⟨rfl, rfl⟩, rfl⟩ := g1
          exact ⟨z, e1, rfl, rfl, g2, fun ι a w hnt he hh g Q hq => g3 ι a w hnt he hh g Q fun a' w' ι' x1 x2 x3 x4 => no_cut (hq a' w' ι' x1 x2 x3 x4)⟩
      obtain ⟨z, e1, rfl, rfl, ag, aw⟩ := arm
      obtain ⟨y', hy', h3⟩ := disp_run h2
      obtain rfl := tag_inj hy'
      obtain ⟨e', h4, h5⟩ := decE_run _ _ _ h3
      refine ⟨z, e', Hm, h4, ag, fun ι a w hnt he hh g Q hq => wp_cond (hev ι a he) (aw ι a w hnt he hh g Q fun a' w' ι' x1 x2 x3 x4 => (hq a' w' ι' x1 (h5 ι' _ (blank_ER (by rw [x1.2]; exact hnt)) (fun i t c hi => by rw [Nat.zero_add]; exact keepL_ER x2 i t c hi)) x3 x4).1)⟩
    · cases t with
      | true =>
        simp only [cond_true] at h
        obtain ⟨z, e1, H1, g1, g2, g3⟩ := hx none [] e H _ _ (by simp) (.inl rfl) h
        exact ⟨z, e1, H1, g1, g2, fun ι a w hnt he hh g Q hq => wp_cond (hev ι a he) (g3 ι a w hnt he hh g Q fun a' w' ι' x1 x2 x3 x4 => no_cut (hq a' w' ι' x1 x2 x3 x4).1)⟩
      | false =>
        simp only [cond_false] at h
        obtain ⟨z, e1, H1, g1, g2, g3⟩ := hy none [] e H _ _ (by simp) (.inl rfl) h
        exact ⟨z, e1, H1, g1, g2, fun ι a w hnt he hh g Q hq => wp_cond (hev ι a he) (g3 ι a w hnt he hh g Q fun a' w' ι' x1 x2 x3 x4 => no_cut (hq a' w' ι' x1 x2 x3 x4).1)⟩
theorem sound_block {id : Nat} {x : Code} (hx : Sound P T C n hs nt x) : Sound P T C n hs nt (.block id x) := by
  intro fr cut e H k r hfr hnd h
  cases fr with
  | some l => have := hfr l rfl; simp [hasLabel] at this
  | none =>
    simp only [exec] at h
    obtain ⟨z, e1, H1, g1, g2, g3⟩ := hx none [] e H _ _ (by simp) (.inl rfl) h
    refine ⟨_, e1, H1, g1, g2, fun ι a w hnt he hh g Q hq => wp_block (g3 ι a w hnt he hh g _ fun a' w' ι' x1 x2 x3 x4 => no_cut ?_)⟩
    have := (hq a' w' ι' x1 x2 x3 x4).1
    cases z with
    | exit id' =>
      by_cases hid : id' = id
      · subst hid; simpa [ExC, Exit.inBlock] using this
      · have hne : Ex.exit id' ≠ Ex.exit id := fun h => hid (by cases h; rfl)
        rw [if_neg hne] at this
        simp only [ExC, Exit.inBlock, if_neg hid]
        exact this
    | nrm => simpa [ExC, Exit.inBlock] using this
    | ret => simpa [ExC, Exit.inBlock] using this
    | goto l => simpa [ExC, Exit.inBlock] using this
theorem sound_loop {x : Code} (hx : Sound P T C n hs nt x) : Sound P T C n hs nt (.loop x) := by
  intro fr cut e H k r hfr hnd h
  cases fr with
  | some l => have := hfr l rfl; simp [hasLabel] at this
  | none =>
    simp only [exec] at h
    split at h
    case h_2 => simp [run] at h
    rename_i ks ks' hks
    simp only [run, obind_eq] at h
    obtain ⟨⟨⟨tag, l'⟩, H'⟩, h1, h2⟩ := h
    have rounds : ∀ (m : Nat) (l : List AV) (H : AH), iterL m (fun l H => run C n (decE l 0 ks (blank nt) fun e' => exec T hs nt x none [] e' fun y e2 => match y with | .nrm => .ret 0 (keepL ks e2) | y => .ret y.tag (keepL (kx ks' y) e2)) H) l H = some ((tag, l'), H') →
        ∃ z e2, z ≠ .nrm ∧ tag = z.tag ∧ l' = keepL (kx ks' z) e2 ∧ Grow H H' ∧ ∀ (ι : Inj) (a : Act) (w : World), nt ≤ a.tmps.size → (∀ (i : Nat) t c, ks[i]? = some (t, c) → VR ι (l.getD i .un) (a.tmps.getD t undef)) → HR ι H w → Gap ι H H' → ∀ (Q : Exit → Act → World → Prop),
          (∀ a' w' ι', AW a w a' ι' H' w' → ER ι' e2 a'.tmps → HR ι' H' w' → Stp ι H w ι' H' w' → Q (ExC z) a' w') → LoopAt P x Q a w := by
      intro m
      induction m with
      | zero => intro l H h; simp [iterL] at h
      | succ m ih =>
        intro l H h
        simp only [iterL] at h
        cases hb : run C n (decE l 0 ks (blank nt) fun e' => exec T hs nt x none [] e' fun y e2 => match y with | .nrm => .ret 0 (keepL ks e2) | y => .ret y.tag (keepL (kx ks' y) e2)) H with
        | none => rw [hb] at h; cases h
        | some res =>
          obtain ⟨⟨tg, l1⟩, H1⟩ := res
          obtain ⟨e', d1, d2⟩ := decE_run _ _ _ hb
          obtain ⟨z, e2, H2, g1, g2, g3⟩ := hx none [] e' H _ _ (by simp) (.inl rfl) d1
          have er : ∀ (ι : Inj) (a : Act), nt ≤ a.tmps.size → (∀ (i : Nat) t c, ks[i]? = some (t, c) → VR ι (l.getD i .un) (a.tmps.getD t undef)) → ER ι e' a.tmps := fun ι a hnt hk =>
            d2 ι _ (blank_ER hnt) (fun i t c hi => by rw [Nat.zero_add]; exact hk i t c hi)
          by_cases hz : z = .nrm
          · subst hz
            simp only [run, Option.some.injEq, Prod.mk.injEq] at g1
            obtain ⟨⟨rfl, rfl⟩, rfl⟩ := g1
            rw [hb] at h
            obtain ⟨z', e3, k1, k2, k3, k4, k5⟩ := ih _ _ h
            refine ⟨z', e3, k1, k2, k3, g2.trans k4, fun ι a w hnt hk hh g Q hq => LoopAt.round (g3 ι a w hnt (er ι a hnt hk) hh (g.left k4.nx) _ fun a' w' ι' x1 x2 x3 x4 => no_cut ?_)⟩
            exact k5 ι' a' w' (by rw [x1.2]; exact hnt) (fun i t c hi => keepL_ER x2 i t c hi) x3 (g.right x4) Q fun a2 w2 ι2 y1 y2 y3 y4 => hq a2 w2 ι2 (x1.trans x4.sz y4 y1) y2 y3 (x4.trans y4 g)
          · have g1' : run C n (.ret z.tag (keepL (kx ks' z) e2)) H2 = some ((tg, l1), H1) := by cases z <;> first | exact absurd rfl hz | exact g1
            simp only [run, Option.some.injEq, Prod.mk.injEq] at g1'
            obtain ⟨⟨rfl, rfl⟩, rfl⟩ := g1'
            have ht0 : z.tag ≠ 0 := fun h0 => hz (tag_inj (y := .nrm) h0)
            rw [hb] at h
            have h : some ((z.tag, keepL (kx ks' z) e2), H2) = some ((tag, l'), H') := by
              revert h; generalize z.tag = tz at ht0 ⊢; intro h
              cases tz with
              | zero => exact absurd rfl ht0
              | succ tz => exact h
            simp only [Option.some.injEq, Prod.mk.injEq] at h
            obtain ⟨⟨rfl, rfl⟩, rfl⟩ := h
            refine ⟨z, e2, hz, rfl, rfl, g2, fun ι a w hnt hk hh g Q hq => LoopAt.round (g3 ι a w hnt (er ι a hnt hk) hh g _ fun a' w' ι' x1 x2 x3 x4 => no_cut ?_)⟩
            have := hq a' w' ι' x1 x2 x3 x4
            cases z <;> first | exact absurd rfl hz | exact this
    obtain ⟨z, e2, hz, rfl, rfl, g2, g3⟩ := rounds _ _ _ h1
    obtain ⟨y', hy', h3⟩ := disp_run h2
    obtain rfl := tag_inj hy'
    obtain ⟨e', h4, h5⟩ := decE_run _ _ _ h3
    refine ⟨z, e', H', h4, g2, fun ι a w hnt he hh g Q hq => LoopAt.wp (g3 ι a w hnt (fun i t c hi => keepL_ER he i t c hi) hh g Q fun a' w' ι' x1 x2 x3 x4 => ?_)⟩
    exact (hq a' w' ι' x1 (h5 ι' _ (blank_ER (by rw [x1.2]; exact hnt)) (fun i t c hi => by rw [Nat.zero_add]; exact keepL_ER x2 i t c hi)) x3 x4).1
theorem range_zero (hC : OraOk P C) {g : Operand} {ps : Array Tmp} {as x : Code} {cut : List Nat} {e : List AV} {H : AH} {k : Ex → List AV → Tree} {r : Res} (h : run C n (.callv (ev e g) [.un] fun _ => k .nrm e) H = some r) :
    ∃ x' e1 H1, run C n (k x' e1) H1 = some r ∧ Grow H H1 ∧ Leads P nt (.rangeFunc g ps as x) none cut e H x' e1 H1 := by
  simp only [run, obind_eq] at h
  obtain ⟨q, hq, q2, hq2, h⟩ := h
  have hg : ev e g = .sc (.fn q.1 q.2.1 q.2.2) := by
    unfold AV.asFn at hq
    split at hq
    · rename_i hh; cases hq; exact hh
    · cases hq
  obtain ⟨hnx, ⟨hS, fn, hfn, hbody, hname⟩ | ⟨-, _, s, _, _, _, _, hext, _⟩⟩ := hC _ _ _ _ _ hq2
  case inr => exact absurd (by simp) (ext_noun hext)
  refine ⟨.nrm, e, q2.2, h, hnx, fun ι a w hnt he hh gp Q hq => ?_⟩
  show (Code.rangeFunc g ps as x).wp P Q a w
  refine (wpIn_wide (n := 1)).1 (wpIn_rangeFunc fun fn' _ => ?_)
  have hv := ev_sound he g; rw [hg] at hv
  obtain ⟨l, l', p1, p2, ea⟩ := hv
  have hb : fn.body.isNone = false := by cases hb : fn.body <;> simp_all
  obtain ⟨R, hR⟩ : ∃ R : Loop, R = { state := .ready, pending := none, fn := fn', tmps := a.tmps, params := ps, assign := as, body := x, defers := w.heap.size } := ⟨_, rfl⟩
  obtain ⟨b1, b2⟩ := run_newblk hh (.deferred (some []))
  obtain ⟨b3, b4⟩ := run_newblk b1 (.loop R)
  have st1 : Stp ι H w ι H ((w.alloc (.deferred (some []))).alloc (.loop R)) := b2.trans b4 (Gap.same _ _)
  obtain ⟨W1, hW1⟩ : ∃ W1, (w.alloc (.deferred (some []))).alloc (.loop R) = W1 := ⟨_, rfl⟩
  have hL : W1.heap[w.heap.size + 1]? = some (.loop R) := by
    rw [← hW1]; have := World.alloc_heap_new (w.alloc (.deferred (some []))) (.loop R); rwa [World.size_alloc] at this
  have hD : W1.heap[w.heap.size]? = some (.deferred (some [])) := by
    rw [← hW1]; exact (Go.RowKit.Below.heap_alloc _ _ _ (by simp)).trans (World.alloc_heap_new w _)
  rw [hW1] at b3 st1
  have hlt : w.heap.size + 1 < W1.heap.size := (Array.getElem?_eq_some_iff.1 hL).1
  have f0 : Free ι w.heap.size := Free.of_le hh (Nat.le_refl _)
  have f1 : Free ι (w.heap.size + 1) := Free.of_le hh (by omega)
  refine ⟨w.heap.size + 1, [mkD w.heap.size], W1, { target := .fn (.func q.1) l'.toArray, args := l.toArray ++ #[.func (.yield (w.heap.size + 1)) #[] #[]] }, W1, q.1,
    ⟨l ++ [.func (.yield (w.heap.size + 1)) #[] #[]] ++ l'⟩, W1, ?_, ?_, fun _ _ => trivial, ?_, (fun h => by cases h), ?_⟩
  · rw [← hW1, hR]; exact run_enterLoop_outer _ _ _ _ _
  · simp only [resolve, ea, Deferred.ofValue]
    simp [go_sem]
  · simp only [invoke, callFunc, Sem.run_bind, run_program, Result.andThen_ok, hfn, hname, Bool.false_eq_true, if_false, hb, Sem.run_pure]
    congr 2
    apply Array.ext'; simp
  · refine callsIn_wide.2 ?_
    have hcl := hS ι W1 (l ++ [.func (.yield (w.heap.size + 1)) #[] #[]] ++ l') (All2.append (All2.append (ptrs_VR p1) ⟨_, [], rfl, trivial, rfl⟩) (ptrs_VR p2)) b3 gp
    refine Calls.mono hcl fun e' w' hpost => ?_
    obtain ⟨ι', v2, rfl, hv2, hh2, hs2⟩ := hpost
    have hL2 : w'.heap[w.heap.size + 1]? = some (.loop R) := (hs2.fr _ hlt (f1.own H)).trans hL
    have hD2 : w'.heap[w.heap.size]? = some (.deferred (some [])) := (hs2.fr _ (by omega) (f0.own H)).trans hD
    have f0' : Free ι' w.heap.size := f0.step hs2 (by omega)
    have f1' : Free ι' (w.heap.size + 1) := f1.step hs2 hlt
    have he2 := run_endLoop (P := P) hL2 (by rw [hR]; simp)
    refine ⟨R.pending, _, he2, ?_⟩
    rw [hR]
    show Q .normal { a with defers := [mkD w.heap.size] ++ a.defers } _
    refine (hq { a with defers := [mkD w.heap.size] ++ a.defers } _ ι' ⟨⟨[w.heap.size], rfl, fun D hD' => ?_, by simp⟩, rfl⟩ (he.mono hs2.ext) (run_putblk hh2 f1' _) ((st1.trans hs2 gp).putblk (by omega) _)).1
    have := List.mem_singleton.1 hD'
    subst this
    exact ⟨(World.putObj_heap_other (by omega)).trans hD2, Nat.le_refl _, f0'⟩
def BackOk (P : Program) (f : FuncId) : Prop :=
  (∃ fn, P.funcs[f]? = some fn ∧ fn.body.isSome = true ∧ (fn.name == "runtime.NumGoroutine") = false) ∧
  ∀ (l B o len : Nat) (sv : Value) (J : Nat → World → Prop) (W : World), len < 4611686018427387904 →
    ((sv = .slice none 0 0 ∧ len = 0) ∨ ∃ a c, sv = .slice (some a) len c) →
    W.cell? ⟨B, o, none⟩ = some sv → J 0 W →
    (∀ k W, k < len → J k W → ∃ (b off c : Nat) (x : Int), W.cell? ⟨B, o, none⟩ = some (.slice (some ⟨b, off, none⟩) len c) ∧ W.cell? ⟨b, off + (len - 1 - k), none⟩ = some (.int .i64 x) ∧
      YieldAt Fence.wide 0 P l #[.int .i64 ((len - 1 - k : Nat) : Int), .int .i64 x] W fun e W' => e = .returned (.bool true) ∧ J (k + 1) W') →
    CallsIn Fence.wide 1 P f #[.func (.yield l) #[] #[], .pointer (some ⟨B, o, none⟩)] W fun e W' => (∃ v, e = .returned v) ∧ J len W'
theorem Stp.around {ι1 ι2 : Inj} {H1 H2 : AH} {w1 w3 : World} {l : Nat} {o : Obj} {q : Obj} (h1 : w1.heap[l]? = some q) (s : Stp ι1 H1 (w1.putObj l o) ι2 H2 w3) : Stp ι1 H1 w1 ι2 H2 (w3.putObj l q) := by
  have hl : l < w1.heap.size := (Array.getElem?_eq_some_iff.1 h1).1
  have hz : (w1.putObj l o).heap.size = w1.heap.size := World.putObj_size
  refine ⟨s.ext, fun id d h h' => by have := s.new id d h h'; rwa [hz] at this, s.nx, s.dead, s.keep, ?_, fun b hb ho => ?_, s.io⟩
  · rw [World.putObj_size]; have := s.sz; rwa [hz] at this
  · by_cases hbl : b = l
    · subst hbl
      rw [h1]
      exact World.putObj_heap_same (by have := s.sz; rw [hz] at this; omega)
    · rw [World.putObj_heap_other hbl, s.fr b (by rw [hz]; exact hb) ho, World.putObj_heap_other hbl]
def RoundOk (P : Program) (nt : Nat) (e : List AV) (as b : Code) (p1 p2 : Nat) (j v : Int) (Ha Hb : AH) : Prop :=
  Grow Ha Hb ∧ ∀ (l : Nat) (ι : Inj) (w : World) (R : Loop), nt ≤ R.tmps.size → ER ι e R.tmps → HR ι Ha w → Gap ι Ha Hb → Free ι l → w.heap[l]? = some (.loop R) → R.state = .ready → R.pending = none → R.params = #[p1, p2] → R.assign = as → R.body = b →
    YieldAt Fence.wide 0 P l #[.int .i64 j, .int .i64 v] w fun er w' => er = .returned (.bool true) ∧ ∃ ι', HR ι' Hb w' ∧ Stp ι Ha w ι' Hb w'
theorem round_ok (hT : TOk P T) (hC : OraOk P C) {as b : Code} (ha : simpleC as = true) (hb : simpleC b = true) {e : List AV} {p1 p2 : Nat} {j v : Int} {t : Tree} {H : AH} {r : Res}
    (h : run C n (exec T hs nt as none [] ((e.set p1 (.sc (.i .i64 j))).set p2 (.sc (.i .i64 v))) fun y e1 => match y with
            | .nrm => exec T hs nt b none [] e1 fun y _ => match y with | .nrm => t | _ => .fail
            | _ => .fail) H = some r) : ∃ H2, run C n t H2 = some r ∧ RoundOk P nt e as b p1 p2 j v H H2 := by
  obtain ⟨x, e1, H1, h1, g1, s1⟩ := simple_sound hT hC as ha _ H _ _ h
  cases x with
  | ret => simp [run] at h1
  | exit id => simp [run] at h1
  | goto l => simp [run] at h1
  | nrm =>
    obtain ⟨y, e2, H2, h2, g2, s2⟩ := simple_sound hT hC b hb _ H1 _ _ h1
    cases y with
    | ret => simp [run] at h2
    | exit id => simp [run] at h2
    | goto l => simp [run] at h2
    | nrm =>
      refine ⟨H2, h2, g1.trans g2, fun l ι w R hnt he hh g hf hl hst hpe hpa has hbo => ?_⟩
      refine ⟨_, _, _, _, run_yield hl (by rw [hpa]; rfl), roundIn_of_wpIn trivial ?_⟩
      rw [hpa, has, hbo]
      have hfold : ((#[p1, p2] : Array Tmp).zip #[Value.int .i64 j, Value.int .i64 v]).foldl (fun tmps (x : Tmp × Value) => tmps.setIfInBounds x.1 x.2) R.tmps = (R.tmps.setIfInBounds p1 (Value.int .i64 j)).setIfInBounds p2 (Value.int .i64 v) := by
        rw [← Array.foldl_toList, Array.toList_zip]; rfl
      rw [hfold]
      have he' : ER ι ((e.set p1 (.sc (.i .i64 j))).set p2 (.sc (.i .i64 v))) ((R.tmps.setIfInBounds p1 (Value.int .i64 j)).setIfInBounds p2 (Value.int .i64 v)) :=
        ((he.put (a := ⟨R.tmps, []⟩) (some p1) (v := .sc (.i .i64 j)) (v' := .int .i64 j) rfl).put (a := ⟨R.tmps.setIfInBounds p1 (.int .i64 j), []⟩) (some p2) (v := .sc (.i .i64 v)) (v' := .int .i64 v) rfl)
      have hsz : nt ≤ ((R.tmps.setIfInBounds p1 (Value.int .i64 j)).setIfInBounds p2 (Value.int .i64 v)).size := by rw [Array.size_setIfInBounds, Array.size_setIfInBounds]; exact hnt
      refine s1 (some l) 0 ι ⟨_, []⟩ w hsz he' hh (g.left g2.nx) _ fun a1 w1 ι1 x1 x2 x3 x4 => ?_
      have hlt : l < w.heap.size := (Array.getElem?_eq_some_iff.1 hl).1
      have hl1 : w1.heap[l]? = some (.loop R) := (x4.fr l hlt (hf.own H)).trans hl
      have hf1 : Free ι1 l := hf.step x4 hlt
      refine ⟨_, run_beginRound hl1 hst, ?_⟩
      refine s2 (some l) 0 ι1 a1 _ (by rw [x1.2]; exact hsz) x2 (run_putblk x3 hf1 _) (g.right x4) _ fun a2 w2 ι2 y1 y2 y3 y4 => ?_
      have hl1' : l < w1.heap.size := (Array.getElem?_eq_some_iff.1 hl1).1
      have hlb : (w1.putObj l (.loop { R with state := .busy })).heap[l]? = some (.loop { R with state := .busy }) := World.putObj_heap_same hl1'
      have hl2 : w2.heap[l]? = some (.loop { R with state := .busy }) := (y4.fr l (by rw [World.putObj_size]; exact hl1') (hf1.own H1)).trans hlb
      have hf2 : Free ι2 l := hf1.step y4 (by rw [World.putObj_size]; exact hl1')
      have hR : ({ { R with state := LoopState.busy } with state := if (none : Option Code).isNone then .ready else .done, pending := none } : Loop) = R := by
        cases R; simp only at hst hpe; subst hst; subst hpe; rfl
      refine ⟨_, _, run_endRound none hl2, rfl, ι2, run_putblk y3 hf2 _, ?_⟩
      rw [hR]
      exact x4.trans (Stp.around hl1 y4) g
theorem back_rounds (hT : TOk P T) (hC : OraOk P C) {as b : Code} (ha : simpleC as = true) (hb : simpleC b = true) {e : List AV} {p1 p2 a o : Nat} {s : Option SlD} {l' : List AV} {tag : Nat} {Hm : AH} : ∀ (m : Nat) (j : Int) (H : AH), -1 ≤ j →
    iterL m (fun st H => run C n (.asI .i64 (st.getD 0 .un) fun j => cond (decide (0 ≤ j))
        (.same a o [.sl s] (.ixS 1 s j fun id off m => .ld id (off + m) 1 fun c => .nth c 0 fun y => .asI .i64 (.sc y) fun v => exec T hs nt as none [] ((e.set p1 (.sc (.i .i64 j))).set p2 (.sc (.i .i64 v))) fun y e1 => match y with
            | .nrm => exec T hs nt b none [] e1 fun y _ => match y with | .nrm => .ret 0 [.sc (.i .i64 (j - 1))] | _ => .fail
            | _ => .fail))
        (.ret 2 [])) H) [.sc (.i .i64 j)] H = some ((tag, l'), Hm) →
    ∃ Hs : Nat → AH, Hs 0 = H ∧ Hs (j + 1).toNat = Hm ∧ ∀ i : Nat, i < (j + 1).toNat → ∃ (v : Int) (id off m : Nat) (c : List Sc), (Hs i).rd a o 1 = some [.sl s] ∧ ixIn 1 s (j - i) = some (id, off, m) ∧ (Hs i).rd id (off + m) 1 = some c ∧ c[0]? = some (.i .i64 v) ∧
      RoundOk P nt e as b p1 p2 (j - i) v (Hs i) (Hs (i + 1)) := by
  intro m
  induction m with
  | zero => intro j H _ h; simp [iterL] at h
  | succ m ih =>
    intro j H hj h
    simp only [iterL] at h
    by_cases h0 : 0 ≤ j
    · split at h
      · rename_i l1 H1 hb1
        simp only [List.getD_cons_zero, run, AV.asI, if_true, obind_some, h0, decide_true, cond_true, List.length_cons, List.length_nil, Nat.zero_add] at hb1
        split at hb1
        case isFalse => cases hb1
        rename_i hrd
        simp only [obind_eq] at hb1
        obtain ⟨⟨id, off, q⟩, hix, c, hc, y, hy, v, hv, hb1⟩ := hb1
        have hv' : y = .i .i64 v := by
          cases y with
          | i k' n' =>
            simp only [AV.asI] at hv
            split at hv
            · rename_i hk; cases hv; rw [hk]
            · cases hv
          | _ => simp [AV.asI] at hv
        subst hv'
        obtain ⟨H2, h2, h3⟩ := round_ok hT hC ha hb hb1
        simp only [run, Option.some.injEq, Prod.mk.injEq, true_and] at h2
        obtain ⟨rfl, rfl⟩ := h2
        obtain ⟨Hs, k1, k2, k3⟩ := ih (j - 1) H2 (by omega) h
        refine ⟨fun i => match i with | 0 => H | i + 1 => Hs i, rfl, ?_, fun i hi => ?_⟩
        · have e1 : (j + 1).toNat = (j - 1 + 1).toNat + 1 := by omega
          rw [e1]; exact k2
        · cases i with
          | zero =>
            refine ⟨v, id, off, q, c, hrd, by simpa using hix, hc, hy, ?_⟩
            have e0 : j - ((0 : Nat) : Int) = j := by omega
            rw [e0]
            show RoundOk P nt e as b p1 p2 j v H (Hs 0)
            rw [k1]; exact h3
          | succ i =>
            obtain ⟨v', id', off', m', c', a1, a2, a3, a4, a5⟩ := k3 i (by omega)
            have e2 : j - ((i + 1 : Nat) : Int) = j - 1 - (i : Int) := by omega
            exact ⟨v', id', off', m', c', a1, by rw [e2]; exact a2, a3, a4, by rw [e2]; exact a5⟩
      · rename_i hne
        exfalso
        have hb1 := h
        simp only [List.getD_cons_zero, run, AV.asI, if_true, obind_some, h0, decide_true, cond_true, List.length_cons, List.length_nil, Nat.zero_add] at hb1
        split at hb1
        case isFalse => cases hb1
        simp only [obind_eq] at hb1
        obtain ⟨⟨id, off, q⟩, hix, c, hc, y, hy, v, hv, hb1⟩ := hb1
        obtain ⟨H2, h2, h3⟩ := round_ok hT hC ha hb hb1
        simp only [run, Option.some.injEq, Prod.mk.injEq] at h2
        obtain ⟨⟨rfl, rfl⟩, rfl⟩ := h2
        exact hne _ _ h
    · have ej : j = -1 := by omega
      subst ej
      simp only [List.getD_cons_zero, run, AV.asI, if_true, obind_some, show ¬ (0 : Int) ≤ -1 from by decide, decide_false, cond_false, Option.some.injEq, Prod.mk.injEq] at h
      obtain ⟨-, rfl⟩ := h
      exact ⟨fun _ => H, rfl, rfl, fun i hi => by simp at hi⟩
theorem range_back (hT : TOk P T) (hC : OraOk P C) {g : Operand} {ps : Array Tmp} {as x : Code} {cut : List Nat} {e : List AV} {H : AH} {k : Ex → List AV → Tree} {r : Res} {f a o p1 p2 : Nat} (hB : BackOk P f) (hev : ev e g = .sc (.fn f [] [(a, o)])) (hps : ps.toList = [p1, p2])
    (ha : simpleC as = true) (hb : simpleC x = true)
    (h : run C n (backK a o (fun j v t => exec T hs nt as none [] ((e.set p1 (.sc (.i .i64 j))).set p2 (.sc (.i .i64 v))) fun y e1 => match y with
            | .nrm => exec T hs nt x none [] e1 fun y _ => match y with | .nrm => t | _ => .fail
            | _ => .fail) (k .nrm e)) H = some r) :
    ∃ x' e1 H1, run C n (k x' e1) H1 = some r ∧ Grow H H1 ∧ Leads P nt (.rangeFunc g ps as x) none cut e H x' e1 H1 := by
  unfold backK at h
  simp only [run, obind_eq] at h
  obtain ⟨l0, hl0, x0, hx0, s, hs0, h⟩ := h
  split at h
  case isFalse => cases h
  rename_i hlen
  simp only [obind_eq] at h
  obtain ⟨⟨⟨tag, l'⟩, Hm⟩, hloop, h⟩ := h
  split at h
  case isFalse => cases h
  have hx0' : x0 = .sl s := by
    cases x0 with
    | sl o => simp only [AV.asL, Option.some.injEq] at hs0; rw [hs0]
    | _ => simp [AV.asL] at hs0
  subst hx0'
  have hlen : slLen s < 4611686018427387904 := by simpa using hlen
  have hsl0 : 0 ≤ slLen s := by unfold slLen; split <;> omega
  obtain ⟨Hs, q0, q1, q2⟩ := back_rounds hT hC ha hb _ _ _ (by omega) hloop
  obtain ⟨len, hL⟩ : ∃ len : Nat, slLen s = (len : Int) := ⟨(slLen s).toNat, by omega⟩
  have eN : (slLen s - 1 + 1).toNat = len := by omega
  rw [eN] at q1 q2
  have grow : ∀ i, i ≤ len → Grow (Hs 0) (Hs i) := by
    intro i
    induction i with
    | zero => intro _; exact Grow.refl _
    | succ i ih =>
      intro hi
      obtain ⟨v, id, off, m, c, a1, a2, a3, a4, a5⟩ := q2 i (by omega)
      exact (ih (by omega)).trans a5.1
  have growR : ∀ i j, i ≤ j → j ≤ len → (Hs i).next ≤ (Hs j).next := by
    intro i j
    induction j with
    | zero =>
      intro hij _
      have e1 : i = 0 := by omega
      subst e1
      exact Nat.le_refl _
    | succ j ih =>
      intro hij hj
      by_cases e1 : i = j + 1
      · subst e1; exact Nat.le_refl _
      · obtain ⟨v, id, off, m, c, a1, a2, a3, a4, a5⟩ := q2 j (by omega)
        exact Nat.le_trans (ih (by omega) (by omega)) a5.1.nx
  have gAll : Grow H Hm := by rw [← q0, ← q1]; exact grow len (Nat.le_refl _)
  obtain ⟨⟨fn, hfn, hbody, hname⟩, hback⟩ := hB
  refine ⟨.nrm, e, Hm, h, gAll, fun ι a0 w hnt he hh gp Q hq => ?_⟩
  show (Code.rangeFunc g ps as x).wp P Q a0 w
  refine (wpIn_wide (n := 2)).1 (wpIn_rangeFunc fun fn' _ => ?_)
  have hv := ev_sound he g; rw [hev] at hv
  obtain ⟨l, l2, p1', p2', ea⟩ := hv
  obtain rfl : l = [] := p1'
  obtain ⟨cv, t2, rfl, hcv, rfl⟩ := p2'
  obtain ⟨d, hd, rfl⟩ := hcv
  have hb' : fn.body.isNone = false := by cases hb : fn.body <;> simp_all
  obtain ⟨R, hR⟩ : ∃ R : Loop, R = { state := .ready, pending := none, fn := fn', tmps := a0.tmps, params := ps, assign := as, body := x, defers := w.heap.size } := ⟨_, rfl⟩
  obtain ⟨b1, b2⟩ := run_newblk hh (.deferred (some []))
  obtain ⟨b3, b4⟩ := run_newblk b1 (.loop R)
  have st1 : Stp ι H w ι H ((w.alloc (.deferred (some []))).alloc (.loop R)) := b2.trans b4 (Gap.same _ _)
  obtain ⟨W1, hW1⟩ : ∃ W1, (w.alloc (.deferred (some []))).alloc (.loop R) = W1 := ⟨_, rfl⟩
  have hL1 : W1.heap[w.heap.size + 1]? = some (.loop R) := by
    rw [← hW1]; have := World.alloc_heap_new (w.alloc (.deferred (some []))) (.loop R); rwa [World.size_alloc] at this
  have hD : W1.heap[w.heap.size]? = some (.deferred (some [])) := by
    rw [← hW1]; exact (Go.RowKit.Below.heap_alloc _ _ _ (by simp)).trans (World.alloc_heap_new w _)
  rw [hW1] at b3 st1
  have hlt : w.heap.size + 1 < W1.heap.size := (Array.getElem?_eq_some_iff.1 hL1).1
  have f0 : Free ι w.heap.size := Free.of_le hh (Nat.le_refl _)
  have f1 : Free ι (w.heap.size + 1) := Free.of_le hh (by omega)
  have hps' : ps = #[p1, p2] := by apply Array.ext'; simpa using hps
  refine ⟨w.heap.size + 1, [mkD w.heap.size], W1, { target := .fn (.func f) #[.pointer (some ⟨d.blk, d.base + o, none⟩)], args := #[.func (.yield (w.heap.size + 1)) #[] #[]] }, W1, f,
    #[.func (.yield (w.heap.size + 1)) #[] #[], .pointer (some ⟨d.blk, d.base + o, none⟩)], W1, ?_, ?_, fun _ _ => trivial, ?_, (fun h => by cases h), ?_⟩
  · rw [← hW1, hR]; exact run_enterLoop_outer _ _ _ _ _
  · simp only [resolve, ea, Deferred.ofValue]
    simp [go_sem]
  · simp only [invoke, callFunc, Sem.run_bind, run_program, Result.andThen_ok, hfn, hname, Bool.false_eq_true, if_false, hb', Sem.run_pure]
    rfl
  · -- the slice that is ranged over
    have slv : ∀ {ι' : Inj} {W : World} {G : AH} (hd' : ι' a = some d), HR ι' G W → G.rd a o 1 = some [.sl s] → ∃ sv, W.cell? ⟨d.blk, d.base + o, none⟩ = some sv ∧ SR ι' (.sl s) sv := by
      intro ι' W G hd' hr hrd
      obtain ⟨vs, c1, c2, c3, c4⟩ := hr.read hd' hrd
      obtain ⟨sv, r1, rfl, hs1, _⟩ := c1
      exact ⟨sv, by simpa using c4 0 sv rfl, hs1⟩
    have hl0' : H.rd a o 1 = some [.sl s] := by
      have hz : l0.length = 1 := by
        unfold AH.rd at hl0
        split at hl0
        · split at hl0
          · cases hl0; simp; omega
          · cases hl0
        · cases hl0
      match l0, hz, hx0 with
      | [y], _, hy => simp at hy; rw [hl0, hy]
    obtain ⟨sv, hsv, hSR⟩ := slv hd b3 hl0'
    have hsvf : (sv = .slice none 0 0 ∧ len = 0) ∨ ∃ a c, sv = .slice (some a) len c := by
      cases s with
      | none => exact .inl ⟨hSR, by simp only [slLen] at hL; omega⟩
      | some sd =>
        obtain ⟨d', a', c, _, e1, _⟩ := hSR
        have : sd.len = len := by simp only [slLen] at hL; omega
        exact .inr ⟨a', c, by rw [e1, this]⟩
    refine (hback (w.heap.size + 1) d.blk (d.base + o) len sv (fun i W => ∃ ι', HR ι' (Hs i) W ∧ Stp ι H W1 ι' (Hs i) W) W1 (by omega) hsvf hsv ⟨ι, by rw [q0]; exact b3, by rw [q0]; exact Stp.refl _ _ _⟩ ?_).mono ?_
    · rintro i W hi ⟨ι', hr, hst⟩
      obtain ⟨v, id, off, m, c, a1, a2, a3, a4, a5⟩ := q2 i hi
      obtain ⟨sv', hsv', hSR'⟩ := slv (hst.ext _ _ hd) hr a1
      cases s with
      | none => simp [ixIn] at a2
      | some sd =>
        obtain ⟨d', a', c', hd', e1, hlc, hcc, hor, _⟩ := hSR'
        have hsd : sd.len = len := by simp only [slLen] at hL; omega
        have ec : a' = ⟨d'.blk, d'.base + sd.off, none⟩ := by
          rcases hor with h0 | h0
          · omega
          · exact h0
        subst ec
        simp only [ixIn] at a2
        split at a2
        case isFalse => cases a2
        rename_i hix
        simp only [Option.some.injEq, Prod.mk.injEq] at a2
        obtain ⟨rfl, rfl, rfl⟩ := a2
        simp only [slLen] at a5
        obtain ⟨vs, c1, c2, c3, c4⟩ := hr.read hd' a3
        match c, c3, a4 with
        | [y], _, hy =>
          simp only [List.getElem?_cons_zero, Option.some.injEq] at hy
          subst hy
          obtain ⟨xv, r1, rfl, hx1, _⟩ := c1
          have hx2 : xv = .int .i64 v := hx1
          subst hx2
          have hc4 := c4 0 _ rfl
          have ej : (slLen (some sd) - 1 - (i : Int)) = ((len - 1 - i : Nat) : Int) := by rw [hL]; omega
          refine ⟨d'.blk, d'.base + sd.off, c', v, by rw [hsv', e1, hsd], ?_, ?_⟩
          · have e3 : d'.base + sd.off + (len - 1 - i) = d'.base + (sd.off + (slLen (some sd) - 1 - (i : Int)).toNat) + 0 := by rw [ej, Int.toNat_natCast]; omega
            rw [e3]; exact hc4
          · have hl3 : W.heap[w.heap.size + 1]? = some (.loop R) := (hst.fr _ hlt (f1.own H)).trans hL1
            have := a5.2 (w.heap.size + 1) ι' W R (by rw [hR]; exact hnt) (by rw [hR]; exact he.mono hst.ext) hr ?_ (f1.step hst hlt) hl3 (by rw [hR]) (by rw [hR]) (by rw [hR]; exact hps') (by rw [hR]) (by rw [hR])
            · simp only [slLen] at ej
              rw [ej] at this
              obtain ⟨z1, z2, z3, z4, z5, z6⟩ := this
              refine ⟨z1, z2, z3, z4, z5, z6.mono ?_⟩
              rintro er w' ⟨rfl, ι2, y1, y2⟩
              refine ⟨rfl, ι2, y1, hst.trans y2 ?_⟩
              intro id' h1 h2
              exact gp id' h1 (Nat.lt_of_lt_of_le h2 (by rw [← q1]; exact growR _ _ (by omega) (Nat.le_refl _)))
            · intro id' h1 h2
              have gp' : Gap ι H (Hs (i + 1)) := fun id' h1 h2 => gp id' h1 (Nat.lt_of_lt_of_le h2 (by rw [← q1]; exact growR _ _ (by omega) (Nat.le_refl _)))
              exact (gp'.right hst) id' h1 h2
    · rintro e' w' ⟨⟨v2, rfl⟩, ι', hh2, hs2⟩
      rw [q1] at hh2 hs2
      have hL2 : w'.heap[w.heap.size + 1]? = some (.loop R) := (hs2.fr _ hlt (f1.own H)).trans hL1
      have hD2 : w'.heap[w.heap.size]? = some (.deferred (some [])) := (hs2.fr _ (by omega) (f0.own H)).trans hD
      have f0' : Free ι' w.heap.size := f0.step hs2 (by omega)
      have f1' : Free ι' (w.heap.size + 1) := f1.step hs2 hlt
      have he2 := run_endLoop (P := P) hL2 (by rw [hR]; simp)
      refine ⟨R.pending, _, he2, ?_⟩
      rw [hR]
      show Q .normal { a0 with defers := [mkD w.heap.size] ++ a0.defers } _
      refine (hq { a0 with defers := [mkD w.heap.size] ++ a0.defers } _ ι' ⟨⟨[w.heap.size], rfl, fun D hD' => ?_, by simp⟩, rfl⟩ (he.mono hs2.ext) (run_putblk hh2 f1' _) ((st1.trans hs2 gp).putblk (by omega) _)).1
      have := List.mem_singleton.1 hD'
      subst this
      exact ⟨(World.putObj_heap_other (by omega)).trans hD2, Nat.le_refl _, f0'⟩
theorem sound_range (hT : TOk P T) (hC : OraOk P C) (hB : ∀ f, hs.back.contains f = true → BackOk P f) {g : Operand} {ps : Array Tmp} {as x : Code} : Sound P T C n hs nt (.rangeFunc g ps as x) := by
  intro fr cut e H k r hfr hnd h
  cases fr with
  | some l => have := hfr l rfl; simp [hasLabel] at this
  | none =>
    simp only [exec] at h
    split at h
    · exact range_zero hC h
    · split at h
      · rename_i f a o p1 p2 hev hps
        split at h
        · rename_i hc
          simp only [Bool.and_eq_true] at hc
          exact range_back hT hC (hB _ hc.1) hev hps hc.2.1 hc.2.2 h
        · simp [run] at h
      · simp [run] at h
end
end Go.Proofs.YtdfpjhlckjognaaGreat.Fw
