/- Code and functions: the trees are sound. -/
import Derived.Test.YtpbhfolaoccpkaaGreatFwT
import Derived.RangeFuncOwn
import Derived.RangeFuncLeaves
import Derived.Below
set_option linter.unusedSimpArgs false
set_option linter.unusedVariables false
set_option linter.unusedSectionVars false
namespace Go.Proofs.YtpbhfolaoccpkaaGreat.Fw
open Go
/-! #### the marks that a range over a function leaves -/
theorem cell_congr {w w' : World} {a : Addr} (h : w'.heap[a.block]? = w.heap[a.block]?) : w'.cell? a = w.cell? a := by unfold World.cell?; rw [h]
theorem frozen_congr {w w' : World} {a : Addr} (h : w'.heap[a.block]? = w.heap[a.block]?) : w'.frozen? a = w.frozen? a := by unfold World.frozen?; rw [h]
theorem HR.world {ι : Inj} {H : AH} {w w' : World} (h : HR ι H w) (hs : w.heap.size ≤ w'.heap.size) (he : ∀ id d, ι id = some d → w'.heap[d.blk]? = w.heap[d.blk]?) : HR ι H w' := by
  refine ⟨fun id d o hd ho => ?_, h.inj, fun id d hd => Nat.lt_of_lt_of_le (h.lt id d hd) hs, h.fut⟩
  have hr := h.obj id d o hd ho
  have e := he id d hd
  cases o with
  | iter s p => exact ⟨hr.1, e.trans hr.2⟩
  | cells ro l =>
    obtain ⟨a, b, c, d1, f⟩ := hr
    refine ⟨a, b, fun j x hj => ?_, fun o ho => ?_, fun hro o ho => ?_⟩
    · obtain ⟨v, hv, hs⟩ := c j x hj; exact ⟨v, (cell_congr (a := ⟨d.blk, d.base + j, none⟩) e).trans hv, hs⟩
    · rw [cell_congr (a := ⟨d.blk, o, none⟩) e]; exact d1 o ho
    · rw [frozen_congr (a := ⟨d.blk, o, none⟩) e]; exact f hro o ho
/-- no object of ours stands there -/
def Free (ι : Inj) (b : Nat) : Prop := ∀ id d, ι id = some d → d.blk ≠ b
theorem Free.own {ι : Inj} {b : Nat} (h : Free ι b) (H : AH) : ¬ Own ι H b := fun ⟨id, d, hd, _, _, _, e⟩ => h id d hd e
theorem Free.of_le {ι : Inj} {H : AH} {w : World} (h : HR ι H w) {b : Nat} (hb : w.heap.size ≤ b) : Free ι b := fun id d hd e => by have := h.lt id d hd; omega
theorem Free.step {ι ι' : Inj} {H H' : AH} {w w' : World} (s : Stp ι H w ι' H' w') {b : Nat} (hb : b < w.heap.size) (h : Free ι b) : Free ι' b := by
  intro id d hd e
  cases h0 : ι id with
  | some d0 => have := s.ext id d0 h0; rw [hd] at this; cases this; exact h id d h0 e
  | none =>
    rcases s.new id d hd h0 with ⟨_, _, _, h1 | h1⟩
    · omega
    · rw [e] at h1; exact h.own H h1
def mkD (D : Nat) : Deferred := { target := .collected D, args := #[] }
/-- a frame's deferred calls: marks of blocks that hold none, then what was there -/
def AW (a0 : Act) (w0 : World) (a : Act) (ι : Inj) (H : AH) (w : World) : Prop :=
  (∃ ds : List Nat, a.defers = ds.map mkD ++ a0.defers ∧ (∀ D ∈ ds, w.heap[D]? = some (.deferred (some [])) ∧ w0.heap.size ≤ D ∧ Free ι D) ∧ ds.Nodup) ∧ a.tmps.size = a0.tmps.size
theorem AW.of {a0 a : Act} {w0 w : World} {ι : Inj} {H : AH} (h : AEq a0 a) : AW a0 w0 a ι H w := ⟨⟨[], h.1, fun D hD => (by cases hD), List.nodup_nil⟩, h.2⟩
theorem AW.trans {a0 a b : Act} {w0 w1 w2 : World} {ι1 ι2 : Inj} {H1 H2 : AH} (x : AW a0 w0 a ι1 H1 w1) (hs : w0.heap.size ≤ w1.heap.size) (s : Stp ι1 H1 w1 ι2 H2 w2) (y : AW a w1 b ι2 H2 w2) : AW a0 w0 b ι2 H2 w2 := by
  obtain ⟨⟨ds, e1, h1, n1⟩, z1⟩ := x
  obtain ⟨⟨es, e2, h2, n2⟩, z2⟩ := y
  have lt : ∀ D ∈ ds, D < w1.heap.size := fun D hD => (Array.getElem?_eq_some_iff.1 (h1 D hD).1).1
  refine ⟨⟨es ++ ds, by rw [e2, e1]; simp, fun D hD => ?_, ?_⟩, z2.trans z1⟩
  · rcases List.mem_append.1 hD with hD | hD
    · obtain ⟨p, q, r⟩ := h2 D hD; exact ⟨p, Nat.le_trans hs q, r⟩
    · obtain ⟨p, q, r⟩ := h1 D hD; exact ⟨(s.fr D (lt D hD) (r.own H1)).trans p, q, r.step s (lt D hD)⟩
  · refine List.nodup_append.2 ⟨n2, n1, fun D hD E hE he => ?_⟩
    subst he
    have := (h2 D hD).2.1; have := lt D hE; omega
theorem run_newblk {w : World} {ι : Inj} {H : AH} (h : HR ι H w) (o : Obj) : HR ι H (w.alloc o) ∧ Stp ι H w ι H (w.alloc o) := by
  have e : ∀ b, b < w.heap.size → (w.alloc o).heap[b]? = w.heap[b]? := fun b hb => Go.RowKit.Below.heap_alloc w o b hb
  have hs : w.heap.size ≤ (w.alloc o).heap.size := by rw [World.size_alloc]; omega
  exact ⟨h.world hs fun id d hd => e _ (h.lt id d hd), fun _ _ h => h, fun _ _ h h' => (by rw [h] at h'; cases h'), Nat.le_refl _, fun _ _ h => h, fun _ _ _ => rfl, hs, fun b hb _ => e b hb, rfl, rfl, rfl⟩
theorem run_putblk {w : World} {ι : Inj} {H : AH} (h : HR ι H w) {b : Nat} (hf : Free ι b) (o : Obj) : HR ι H (w.putObj b o) :=
  h.world (by rw [World.putObj_size]; exact Nat.le_refl _) fun id d hd => World.putObj_heap_other (hf id d hd)
/-- a step, where blocks that are none of ours, and new, were put anew -/
theorem Stp.putblk {ι ι' : Inj} {H H' : AH} {w w' : World} (s : Stp ι H w ι' H' w') {b : Nat} (hb : w.heap.size ≤ b) (o : Obj) : Stp ι H w ι' H' (w'.putObj b o) :=
  ⟨s.ext, s.new, s.nx, s.dead, s.keep, by rw [World.putObj_size]; exact s.sz, fun c hc ho => (World.putObj_heap_other (by omega)).trans (s.fr c hc ho), s.io⟩

theorem ext_noun {name : String} {args : List AV} {x : Sc} (h : extA name args = some x) : AV.un ∉ args := by
  unfold extA at h
  repeat' split at h
  all_goals first | (cases h; done) | simp

section
variable {P : Program} {T : TTab} {C : Ora} {n : Nat} {hs : Hints} {nt : Nat}

/-- what must hold where a piece of code is left -/
def QHyp (P : Program) (c : Code) (cut : List Nat) (x : Ex) (Q : Exit → Act → World → Prop) (a : Act) (w : World) : Prop :=
  Q (ExC x) a w ∧ ∀ l, x = .goto l → cut.contains l = true → hasLabel c l = true → RestWp P c l Q a w
def GoalC (P : Program) (c : Code) (fr : Option Nat) (Q : Exit → Act → World → Prop) (a : Act) (w : World) : Prop :=
  match fr with
  | none => c.wp P Q a w
  | some l => RestWp P c l Q a w
/-- from slots e and heap H the code is left by x, with slots e1 and heap H1 -/
def Leads (P : Program) (nt : Nat) (c : Code) (fr : Option Nat) (cut : List Nat) (e : List AV) (H : AH) (x : Ex) (e1 : List AV) (H1 : AH) : Prop :=
  ∀ (ι : Inj) (a : Act) (w : World), nt ≤ a.tmps.size → ER ι e a.tmps → HR ι H w → Gap ι H H1 → ∀ (Q : Exit → Act → World → Prop),
    (∀ a' w' ι', AW a w a' ι' H1 w' → ER ι' e1 a'.tmps → HR ι' H1 w' → Stp ι H w ι' H1 w' → QHyp P c cut x Q a' w') → GoalC P c fr Q a w
def Sound (P : Program) (T : TTab) (C : Ora) (n : Nat) (hs : Hints) (nt : Nat) (c : Code) : Prop :=
  ∀ (fr : Option Nat) (cut : List Nat) (e : List AV) (H : AH) (k : Ex → List AV → Tree) (r : Res), (∀ l, fr = some l → hasLabel c l = true) → (cut = [] ∨ nodupB (labelsIn c) = true) → run C n (exec T hs nt c fr cut e k) H = some r →
    ∃ x e1 H1, run C n (k x e1) H1 = some r ∧ Grow H H1 ∧ Leads P nt c fr cut e H x e1 H1

theorem Sound.quick {c : Code} {e : List AV} {H : AH} {k : Ex → List AV → Tree} {r : Res} {x : Ex} {cut : List Nat} (h : run C n (k x e) H = some r)
    (hw : ∀ (a : Act) (w : World) (Q : Exit → Act → World → Prop), QHyp P c cut x Q a w → c.wp P Q a w) :
    ∃ x e1 H1, run C n (k x e1) H1 = some r ∧ Grow H H1 ∧ Leads P nt c none cut e H x e1 H1 :=
  ⟨x, e, H, h, Grow.refl _, fun ι a w _ he hh _ Q k => hw a w Q (k a w ι (AW.of (AEq.refl _)) he hh (Stp.refl _ _ _))⟩

theorem no_cut {c : Code} {x : Ex} {Q : Exit → Act → World → Prop} {a : Act} {w : World} (h : Q (ExC x) a w) : QHyp P c [] x Q a w := ⟨h, fun l _ hl => by simp at hl⟩

theorem sound_seq {x y : Code} (hx : Sound P T C n hs nt x) (hy : Sound P T C n hs nt y) : Sound P T C n hs nt (.seq x y) := by
  intro fr cut e H k r hfr hnd h
  have nd : cut = [] ∨ (nodupB (labelsIn x) = true ∧ nodupB (labelsIn y) = true ∧ ∀ l, (labelsIn x).contains l = true → (labelsIn y).contains l = false) := by
    rcases hnd with h | h
    · exact .inl h
    · exact .inr (nodupB_append h)
  have ndx : cut = [] ∨ nodupB (labelsIn x) = true := nd.imp id (·.1)
  have ndy : cut = [] ∨ nodupB (labelsIn y) = true := nd.imp id (·.2.1)
  -- the second part behind the first
  have second : ∀ (e : List AV) (H : AH), run C n (exec T hs nt y none cut e k) H = some r → ∃ z e1 H1, run C n (k z e1) H1 = some r ∧ Grow H H1 ∧
      ∀ (ι : Inj) (a : Act) (w : World), nt ≤ a.tmps.size → ER ι e a.tmps → HR ι H w → Gap ι H H1 → ∀ (Q : Exit → Act → World → Prop),
        (∀ a' w' ι', AW a w a' ι' H1 w' → ER ι' e1 a'.tmps → HR ι' H1 w' → Stp ι H w ι' H1 w' → QHyp P (.seq x y) cut z Q a' w') → y.wp P Q a w := by
    intro e H h
    obtain ⟨z, e1, H1, h1, h2, h3⟩ := hy none cut e H k r (by simp) ndy h
    refine ⟨z, e1, H1, h1, h2, fun ι a w hnt he hh g Q hq => h3 ι a w hnt he hh g Q fun a' w' ι' x1 x2 x3 x4 => ?_⟩
    obtain ⟨q1, q2⟩ := hq a' w' ι' x1 x2 x3 x4
    refine ⟨q1, fun l hl hc hhas => ?_⟩
    have := q2 l hl hc (by simp [hasLabel, hhas])
    simp only [RestWp] at this
    have hnx : hasLabel x l = false := by
      rcases nd with nd | ⟨_, _, nd⟩
      · rw [nd] at hc; simp at hc
      · cases hb : hasLabel x l with
        | false => rfl
        | true => rw [has_in] at hb hhas; rw [nd l hb] at hhas; cases hhas
    rwa [if_neg (by simp [hnx])] at this
  -- the first part, from a label on or from its begin
  have first : ∀ (fr : Option Nat), (∀ l, fr = some l → hasLabel x l = true) → run C n (exec T hs nt x fr cut e fun z e' => match z with | .nrm => exec T hs nt y none cut e' k | z => k z e') H = some r →
      ∃ z e1 H1, run C n (k z e1) H1 = some r ∧ Grow H H1 ∧ ∀ (ι : Inj) (a : Act) (w : World), nt ≤ a.tmps.size → ER ι e a.tmps → HR ι H w → Gap ι H H1 → ∀ (Q : Exit → Act → World → Prop),
        (∀ a' w' ι', AW a w a' ι' H1 w' → ER ι' e1 a'.tmps → HR ι' H1 w' → Stp ι H w ι' H1 w' → QHyp P (.seq x y) cut z Q a' w') → GoalC P x fr (Exit.then (y.wp P Q) Q) a w := by
    intro fr hfr h
    obtain ⟨z, e1, H1, h1, h2, h3⟩ := hx fr cut e H _ r hfr ndx h
    by_cases hz : z = .nrm
    · subst hz
      obtain ⟨z2, e2, H2, k1, k2, k3⟩ := second e1 H1 h1
      refine ⟨z2, e2, H2, k1, h2.trans k2, fun ι a w hnt he hh g Q hq => h3 ι a w hnt he hh (g.left k2.nx) _ fun a' w' ι' x1 x2 x3 x4 => ⟨?_, fun l hl => by cases hl⟩⟩
      exact k3 ι' a' w' (by rw [x1.2]; exact hnt) x2 x3 (g.right x4) Q fun a2 w2 ι2 y1 y2 y3 y4 => hq a2 w2 ι2 (x1.trans x4.sz y4 y1) y2 y3 (x4.trans y4 g)
    · refine ⟨z, e1, H1, by cases z <;> first | exact absurd rfl hz | exact h1, h2, fun ι a w hnt he hh g Q hq => h3 ι a w hnt he hh g _ fun a' w' ι' x1 x2 x3 x4 => ?_⟩
      obtain ⟨q1, q2⟩ := hq a' w' ι' x1 x2 x3 x4
      refine ⟨by cases z <;> first | exact absurd rfl hz | exact q1, fun l hl hc hhas => ?_⟩
      have := q2 l hl hc (by simp [hasLabel, hhas])
      simp only [RestWp] at this
      rwa [if_pos hhas] at this
  cases fr with
  | none =>
    simp only [exec] at h
    obtain ⟨z, e1, H1, h1, h2, h3⟩ := first none (by simp) h
    exact ⟨z, e1, H1, h1, h2, fun ι a w hnt he hh g Q hq => wp_seq (h3 ι a w hnt he hh g Q hq)⟩
  | some l =>
    simp only [exec] at h
    by_cases hl : hasLabel x l = true
    · rw [if_pos hl] at h
      obtain ⟨z, e1, H1, h1, h2, h3⟩ := first (some l) (fun l' e => by cases e; exact hl) h
      refine ⟨z, e1, H1, h1, h2, fun ι a w hnt he hh g Q hq => ?_⟩
      have := h3 ι a w hnt he hh g Q hq
      simp only [GoalC, RestWp] at this ⊢
      rwa [if_pos hl]
    · rw [if_neg hl] at h
      have hyl : hasLabel y l = true := by
        have := hfr l rfl
        simp only [hasLabel, Bool.or_eq_true] at this
        exact this.resolve_left hl
      obtain ⟨z, e1, H1, h1, h2, h3⟩ := hy (some l) cut e H k r (fun l' e => by cases e; exact hyl) ndy h
      refine ⟨z, e1, H1, h1, h2, fun ι a w hnt he hh g Q hq => ?_⟩
      have := h3 ι a w hnt he hh g Q fun a' w' ι' x1 x2 x3 x4 => ?_
      · simp only [GoalC, RestWp] at this ⊢
        rwa [if_neg hl]
      · obtain ⟨q1, q2⟩ := hq a' w' ι' x1 x2 x3 x4
        refine ⟨q1, fun l' hl' hc hhas => ?_⟩
        have := q2 l' hl' hc (by simp [hasLabel, hhas])
        simp only [RestWp] at this
        have hnx : hasLabel x l' = false := by
          rcases nd with nd | ⟨_, _, nd⟩
          · rw [nd] at hc; simp at hc
          · cases hb : hasLabel x l' with
            | false => rfl
            | true => rw [has_in] at hb hhas; rw [nd l' hb] at hhas; cases hhas
        rwa [if_neg (by simp [hnx])] at this

theorem sound_cond {c : Operand} {x y : Code} (hx : Sound P T C n hs nt x) (hy : Sound P T C n hs nt y) : Sound P T C n hs nt (.cond c x y) := by
  intro fr cut e H k r hfr hnd h
  cases fr with
  | some l => have := hfr l rfl; simp [hasLabel] at this
  | none =>
    simp only [exec] at h
    split at h
    case h_2 => simp [run] at h
    rename_i t ht
    have hev : ∀ (ι : Inj) (a : Act), ER ι e a.tmps → a.eval c = .bool t := by
      intro ι a he; have := ev_sound he c; rw [ht] at this; exact this
    split at h
    · rename_i ks hks
      simp only [run, obind_eq] at h
      obtain ⟨⟨⟨tag, l⟩, Hm⟩, h1, h2⟩ := h
      have arm : ∃ z e1, tag = z.tag ∧ l = keepL (kx ks z) e1 ∧ Grow H Hm ∧ ∀ (ι : Inj) (a : Act) (w : World), nt ≤ a.tmps.size → ER ι e a.tmps → HR ι H w → Gap ι H Hm → ∀ (Q : Exit → Act → World → Prop),
          (∀ a' w' ι', AW a w a' ι' Hm w' → ER ι' e1 a'.tmps → HR ι' Hm w' → Stp ι H w ι' Hm w' → Q (ExC z) a' w') → (if t then x else y).wp P Q a w := by
        cases t with
        | true =>
          simp only [cond_true] at h1
          obtain ⟨z, e1, H1, g1, g2, g3⟩ := hx none [] e H _ _ (by simp) (.inl rfl) h1
          simp only [run, Option.some.injEq, Prod.mk.injEq] at g1
          obtain ⟨⟨rfl, rfl⟩, rfl⟩ := g1
          exact ⟨z, e1, rfl, rfl, g2, fun ι a w hnt he hh g Q hq => g3 ι a w hnt he hh g Q fun a' w' ι' x1 x2 x3 x4 => no_cut (hq a' w' ι' x1 x2 x3 x4)⟩
        | false =>
          simp only [cond_false] at h1
          obtain ⟨z, e1, H1, g1, g2, g3⟩ := hy none [] e H _ _ (by simp) (.inl rfl) h1
          simp only [run, Option.some.injEq, Prod.mk.injEq] at g1
          obtain ⟨⟨rfl, rfl⟩, rfl⟩ := g1
          exact ⟨z, e1, rfl, rfl, g2, fun ι a w hnt he hh g Q hq => g3 ι a w hnt he hh g Q fun a' w' ι' x1 x2 x3 x4 => no_cut (hq a' w' ι' x1 x2 x3 x4)⟩
      obtain ⟨z, e1, rfl, rfl, ag, aw⟩ := arm
      obtain ⟨y', hy', h3⟩ := disp_run h2
      obtain rfl := tag_inj hy'
      obtain ⟨e', h4, h5⟩ := decE_run _ _ _ h3
      refine ⟨z, e', Hm, h4, ag, fun ι a w hnt he hh g Q hq => wp_cond (hev ι a he) (aw ι a w hnt he hh g Q fun a' w' ι' x1 x2 x3 x4 => (hq a' w' ι' x1 (h5 ι' _ (blank_ER (by rw [x1.2]; exact hnt)) (fun i t c hi => by rw [Nat.zero_add]; exact keepL_ER x2 i t c hi)) x3 x4).1)⟩
    · cases t with
      | true =>
        simp only [cond_true] at h
        obtain ⟨z, e1, H1, g1, g2, g3⟩ := hx none [] e H _ _ (by simp) (.inl rfl) h
        exact ⟨z, e1, H1, g1, g2, fun ι a w hnt he hh g Q hq => wp_cond (hev ι a he) (g3 ι a w hnt he hh g Q fun a' w' ι' x1 x2 x3 x4 => no_cut (hq a' w' ι' x1 x2 x3 x4).1)⟩
      | false =>
        simp only [cond_false] at h
        obtain ⟨z, e1, H1, g1, g2, g3⟩ := hy none [] e H _ _ (by simp) (.inl rfl) h
        exact ⟨z, e1, H1, g1, g2, fun ι a w hnt he hh g Q hq => wp_cond (hev ι a he) (g3 ι a w hnt he hh g Q fun a' w' ι' x1 x2 x3 x4 => no_cut (hq a' w' ι' x1 x2 x3 x4).1)⟩

theorem sound_block {id : Nat} {x : Code} (hx : Sound P T C n hs nt x) : Sound P T C n hs nt (.block id x) := by
  intro fr cut e H k r hfr hnd h
  cases fr with
  | some l => have := hfr l rfl; simp [hasLabel] at this
  | none =>
    simp only [exec] at h
    obtain ⟨z, e1, H1, g1, g2, g3⟩ := hx none [] e H _ _ (by simp) (.inl rfl) h
    refine ⟨_, e1, H1, g1, g2, fun ι a w hnt he hh g Q hq => wp_block (g3 ι a w hnt he hh g _ fun a' w' ι' x1 x2 x3 x4 => no_cut ?_)⟩
    have := (hq a' w' ι' x1 x2 x3 x4).1
    cases z with
    | exit id' =>
      by_cases hid : id' = id
      · subst hid; simpa [ExC, Exit.inBlock] using this
      · have hne : Ex.exit id' ≠ Ex.exit id := fun h => hid (by cases h; rfl)
        rw [if_neg hne] at this
        simp only [ExC, Exit.inBlock, if_neg hid]
        exact this
    | nrm => simpa [ExC, Exit.inBlock] using this
    | ret => simpa [ExC, Exit.inBlock] using this
    | goto l => simpa [ExC, Exit.inBlock] using this

theorem sound_loop {x : Code} (hx : Sound P T C n hs nt x) : Sound P T C n hs nt (.loop x) := by
  intro fr cut e H k r hfr hnd h
  cases fr with
  | some l => have := hfr l rfl; simp [hasLabel] at this
  | none =>
    simp only [exec] at h
    split at h
    case h_2 => simp [run] at h
    rename_i ks ks' hks
    simp only [run, obind_eq] at h
    obtain ⟨⟨⟨tag, l'⟩, H'⟩, h1, h2⟩ := h
    have rounds : ∀ (m : Nat) (l : List AV) (H : AH), iterL m (fun l H => run C n (decE l 0 ks (blank nt) fun e' => exec T hs nt x none [] e' fun y e2 => match y with | .nrm => .ret 0 (keepL ks e2) | y => .ret y.tag (keepL (kx ks' y) e2)) H) l H = some ((tag, l'), H') →
        ∃ z e2, z ≠ .nrm ∧ tag = z.tag ∧ l' = keepL (kx ks' z) e2 ∧ Grow H H' ∧ ∀ (ι : Inj) (a : Act) (w : World), nt ≤ a.tmps.size → (∀ (i : Nat) t c, ks[i]? = some (t, c) → VR ι (l.getD i .un) (a.tmps.getD t undef)) → HR ι H w → Gap ι H H' → ∀ (Q : Exit → Act → World → Prop),
          (∀ a' w' ι', AW a w a' ι' H' w' → ER ι' e2 a'.tmps → HR ι' H' w' → Stp ι H w ι' H' w' → Q (ExC z) a' w') → LoopAt P x Q a w := by
      intro m
      induction m with
      | zero => intro l H h; simp [iterL] at h
      | succ m ih =>
        intro l H h
        simp only [iterL] at h
        cases hb : run C n (decE l 0 ks (blank nt) fun e' => exec T hs nt x none [] e' fun y e2 => match y with | .nrm => .ret 0 (keepL ks e2) | y => .ret y.tag (keepL (kx ks' y) e2)) H with
        | none => rw [hb] at h; cases h
        | some res =>
          obtain ⟨⟨tg, l1⟩, H1⟩ := res
          obtain ⟨e', d1, d2⟩ := decE_run _ _ _ hb
          obtain ⟨z, e2, H2, g1, g2, g3⟩ := hx none [] e' H _ _ (by simp) (.inl rfl) d1
          have er : ∀ (ι : Inj) (a : Act), nt ≤ a.tmps.size → (∀ (i : Nat) t c, ks[i]? = some (t, c) → VR ι (l.getD i .un) (a.tmps.getD t undef)) → ER ι e' a.tmps := fun ι a hnt hk =>
            d2 ι _ (blank_ER hnt) (fun i t c hi => by rw [Nat.zero_add]; exact hk i t c hi)
          by_cases hz : z = .nrm
          · subst hz
            simp only [run, Option.some.injEq, Prod.mk.injEq] at g1
            obtain ⟨⟨rfl, rfl⟩, rfl⟩ := g1
            rw [hb] at h
            obtain ⟨z', e3, k1, k2, k3, k4, k5⟩ := ih _ _ h
            refine ⟨z', e3, k1, k2, k3, g2.trans k4, fun ι a w hnt hk hh g Q hq => LoopAt.round (g3 ι a w hnt (er ι a hnt hk) hh (g.left k4.nx) _ fun a' w' ι' x1 x2 x3 x4 => no_cut ?_)⟩
            exact k5 ι' a' w' (by rw [x1.2]; exact hnt) (fun i t c hi => keepL_ER x2 i t c hi) x3 (g.right x4) Q fun a2 w2 ι2 y1 y2 y3 y4 => hq a2 w2 ι2 (x1.trans x4.sz y4 y1) y2 y3 (x4.trans y4 g)
          · have g1' : run C n (.ret z.tag (keepL (kx ks' z) e2)) H2 = some ((tg, l1), H1) := by cases z <;> first | exact absurd rfl hz | exact g1
            simp only [run, Option.some.injEq, Prod.mk.injEq] at g1'
            obtain ⟨⟨rfl, rfl⟩, rfl⟩ := g1'
            have ht0 : z.tag ≠ 0 := fun h0 => hz (tag_inj (y := .nrm) h0)
            rw [hb] at h
            have h : some ((z.tag, keepL (kx ks' z) e2), H2) = some ((tag, l'), H') := by
              revert h; generalize z.tag = tz at ht0 ⊢; intro h
              cases tz with
              | zero => exact absurd rfl ht0
              | succ tz => exact h
            simp only [Option.some.injEq, Prod.mk.injEq] at h
            obtain ⟨⟨rfl, rfl⟩, rfl⟩ := h
            refine ⟨z, e2, hz, rfl, rfl, g2, fun ι a w hnt hk hh g Q hq => LoopAt.round (g3 ι a w hnt (er ι a hnt hk) hh g _ fun a' w' ι' x1 x2 x3 x4 => no_cut ?_)⟩
            have := hq a' w' ι' x1 x2 x3 x4
            cases z <;> first | exact absurd rfl hz | exact this
    obtain ⟨z, e2, hz, rfl, rfl, g2, g3⟩ := rounds _ _ _ h1
    obtain ⟨y', hy', h3⟩ := disp_run h2
    obtain rfl := tag_inj hy'
    obtain ⟨e', h4, h5⟩ := decE_run _ _ _ h3
    refine ⟨z, e', H', h4, g2, fun ι a w hnt he hh g Q hq => LoopAt.wp (g3 ι a w hnt (fun i t c hi => keepL_ER he i t c hi) hh g Q fun a' w' ι' x1 x2 x3 x4 => ?_)⟩
    exact (hq a' w' ι' x1 (h5 ι' _ (blank_ER (by rw [x1.2]; exact hnt)) (fun i t c hi => by rw [Nat.zero_add]; exact keepL_ER x2 i t c hi)) x3 x4).1

theorem sound_range (hC : OraOk P C) {g : Operand} {ps : Array Tmp} {as x : Code} : Sound P T C n hs nt (.rangeFunc g ps as x) := by
  intro fr cut e H k r hfr hnd h
  cases fr with
  | some l => have := hfr l rfl; simp [hasLabel] at this
  | none =>
    simp only [exec, run, obind_eq] at h
    obtain ⟨q, hq, q2, hq2, h⟩ := h
    have hg : ev e g = .sc (.fn q.1 q.2.1 q.2.2) := by
      unfold AV.asFn at hq
      split at hq
      · rename_i hh; cases hq; exact hh
      · cases hq
    obtain ⟨hnx, ⟨hS, fn, hfn, hbody, hname⟩ | ⟨-, _, s, _, _, _, _, hext, _⟩⟩ := hC _ _ _ _ _ hq2
    case inr => exact absurd (by simp) (ext_noun hext)
    refine ⟨.nrm, e, q2.2, h, hnx, fun ι a w hnt he hh gp Q hq => ?_⟩
    show (Code.rangeFunc g ps as x).wp P Q a w
    refine (wpIn_wide (n := 1)).1 (wpIn_rangeFunc fun fn' _ => ?_)
    have hv := ev_sound he g; rw [hg] at hv
    obtain ⟨l, l', p1, p2, ea⟩ := hv
    have hb : fn.body.isNone = false := by cases hb : fn.body <;> simp_all
    obtain ⟨R, hR⟩ : ∃ R : Loop, R = { state := .ready, pending := none, fn := fn', tmps := a.tmps, params := ps, assign := as, body := x, defers := w.heap.size } := ⟨_, rfl⟩
    obtain ⟨b1, b2⟩ := run_newblk hh (.deferred (some []))
    obtain ⟨b3, b4⟩ := run_newblk b1 (.loop R)
    have st1 : Stp ι H w ι H ((w.alloc (.deferred (some []))).alloc (.loop R)) := b2.trans b4 (Gap.same _ _)
    obtain ⟨W1, hW1⟩ : ∃ W1, (w.alloc (.deferred (some []))).alloc (.loop R) = W1 := ⟨_, rfl⟩
    have hL : W1.heap[w.heap.size + 1]? = some (.loop R) := by
      rw [← hW1]; have := World.alloc_heap_new (w.alloc (.deferred (some []))) (.loop R); rwa [World.size_alloc] at this
    have hD : W1.heap[w.heap.size]? = some (.deferred (some [])) := by
      rw [← hW1]; exact (Go.RowKit.Below.heap_alloc _ _ _ (by simp)).trans (World.alloc_heap_new w _)
    rw [hW1] at b3 st1
    have hlt : w.heap.size + 1 < W1.heap.size := (Array.getElem?_eq_some_iff.1 hL).1
    have f0 : Free ι w.heap.size := Free.of_le hh (Nat.le_refl _)
    have f1 : Free ι (w.heap.size + 1) := Free.of_le hh (by omega)
    refine ⟨w.heap.size + 1, [mkD w.heap.size], W1, { target := .fn (.func q.1) l'.toArray, args := l.toArray ++ #[.func (.yield (w.heap.size + 1)) #[] #[]] }, W1, q.1,
      ⟨l ++ [.func (.yield (w.heap.size + 1)) #[] #[]] ++ l'⟩, W1, ?_, ?_, fun _ _ => trivial, ?_, (fun h => by cases h), ?_⟩
    · rw [← hW1, hR]; exact run_enterLoop_outer _ _ _ _ _
    · simp only [resolve, ea, Deferred.ofValue]
      simp [go_sem]
    · simp only [invoke, callFunc, Sem.run_bind, run_program, Result.andThen_ok, hfn, hname, Bool.false_eq_true, if_false, hb, Sem.run_pure]
      congr 2
      apply Array.ext'; simp
    · refine callsIn_wide.2 ?_
      have hcl := hS ι W1 (l ++ [.func (.yield (w.heap.size + 1)) #[] #[]] ++ l') (All2.append (All2.append (ptrs_VR p1) ⟨_, [], rfl, trivial, rfl⟩) (ptrs_VR p2)) b3 gp
      refine Calls.mono hcl fun e' w' hpost => ?_
      obtain ⟨ι', v2, rfl, hv2, hh2, hs2⟩ := hpost
      have hL2 : w'.heap[w.heap.size + 1]? = some (.loop R) := (hs2.fr _ hlt (f1.own H)).trans hL
      have hD2 : w'.heap[w.heap.size]? = some (.deferred (some [])) := (hs2.fr _ (by omega) (f0.own H)).trans hD
      have f0' : Free ι' w.heap.size := f0.step hs2 (by omega)
      have f1' : Free ι' (w.heap.size + 1) := f1.step hs2 hlt
      have he2 := run_endLoop (P := P) hL2 (by rw [hR]; simp)
      refine ⟨R.pending, _, he2, ?_⟩
      rw [hR]
      show Q .normal { a with defers := [mkD w.heap.size] ++ a.defers } _
      refine (hq { a with defers := [mkD w.heap.size] ++ a.defers } _ ι' ⟨⟨[w.heap.size], rfl, fun D hD' => ?_, by simp⟩, rfl⟩ (he.mono hs2.ext) (run_putblk hh2 f1' _) ((st1.trans hs2 gp).putblk (by omega) _)).1
      have := List.mem_singleton.1 hD'
      subst this
      exact ⟨(World.putObj_heap_other (by omega)).trans hD2, Nat.le_refl _, f0'⟩

end
end Go.Proofs.YtpbhfolaoccpkaaGreat.Fw
