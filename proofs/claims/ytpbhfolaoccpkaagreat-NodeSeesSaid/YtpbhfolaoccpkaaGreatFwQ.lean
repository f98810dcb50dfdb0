/- Regions whose order is drawn: the invariant of any order, step by step. -/
import Derived.Test.YtpbhfolaoccpkaaGreatFwP
set_option linter.unusedSimpArgs false
set_option linter.unusedVariables false
set_option linter.unusedSectionVars false
namespace Go.Proofs.YtpbhfolaoccpkaaGreat.Fw
open Go
/-- what a slot holds when just the operations of D have been done -/
def cur (e0 : List AV) (dst : Nat → Option Nat) (vs : Nat → AV) (D : Nat → Bool) : Nat → Nat → AV
  | 0, t => e0.getD t .un
  | p + 1, t => if D p = true ∧ dst p = some t ∧ t < e0.length then vs p else cur e0 dst vs D p t
theorem cur_eq {e0 : List AV} {dst : Nat → Option Nat} {vs : Nat → AV} {D D' : Nat → Bool} {t : Nat} : ∀ {p : Nat}, (∀ q, q < p → dst q = some t → D q = D' q) → cur e0 dst vs D p t = cur e0 dst vs D' p t
  | 0, _ => rfl
  | p + 1, h => by
    have ih := cur_eq (e0 := e0) (vs := vs) (fun q hq => h q (Nat.lt_succ_of_lt hq))
    simp only [cur, ih]
    by_cases hd : dst p = some t
    · rw [h p (Nat.lt_succ_self p) hd]
    · simp [hd]
theorem cur_upto {e0 : List AV} {dst : Nat → Option Nat} {vs : Nat → AV} {D : Nat → Bool} {es : Nat → List AV} {t N : Nat} (h0 : es 0 = e0) (hs : ∀ q, q < N → es (q + 1) = putE (es q) (dst q) (vs q)) {p : Nat} (hp : p ≤ N)
    (hD : ∀ q, q < N → dst q = some t → (D q = true ↔ q < p)) : cur e0 dst vs D N t = (es p).getD t .un := by
  have hlen : ∀ q, q ≤ N → (es q).length = e0.length := by
    intro q
    induction q with
    | zero => intro _; rw [h0]
    | succ q ih => intro hq; rw [hs q (by omega), ← ih (by omega)]; cases dst q <;> simp [putE]
  have step : ∀ q, q < N → (es (q + 1)).getD t .un = if dst q = some t ∧ t < e0.length then vs q else (es q).getD t .un := by
    intro q hq
    rw [hs q hq]
    cases hd : dst q with
    | none => simp [putE]
    | some s =>
      by_cases e : s = t
      · subst e
        by_cases hl : s < e0.length
        · rw [← hlen q (by omega)] at hl
          simp [putE, List.getD, hl, ← hlen q (by omega)]
        · have hl' : ¬ s < (es q).length := by rw [hlen q (by omega)]; exact hl
          rw [if_neg (by simp [hl])]
          simp only [putE, List.getD]
          rw [List.getElem?_eq_none (by simp; omega), List.getElem?_eq_none (by omega)]
      · rw [if_neg (by simp [e])]
        simp [putE, List.getD, e]
  have low : ∀ q, q ≤ p → cur e0 dst vs D q t = (es q).getD t .un := by
    intro q
    induction q with
    | zero => intro _; simp [cur, h0]
    | succ q ih =>
      intro hq
      rw [cur, ih (by omega), step q (by omega)]
      by_cases hd : dst q = some t
      · have := (hD q (by omega) hd).2 (by omega)
        simp [this]
      · simp [hd]
  have high : ∀ q, p ≤ q → q ≤ N → cur e0 dst vs D q t = (es p).getD t .un := by
    intro q
    induction q with
    | zero => intro h1 _; have : p = 0 := by omega
              subst this; exact low 0 (Nat.le_refl _)
    | succ q ih =>
      intro h1 h2
      by_cases hq : p = q + 1
      · subst hq; exact low _ (Nat.le_refl _)
      · rw [cur, ih (by omega) (by omega)]
        rw [if_neg]
        rintro ⟨h3, h4, _⟩
        have := (hD q (by omega) h4).1 h3
        omega
  exact high N hp (Nat.le_refl _)

structure Ctx where
  P : Program
  ops : Array Oper
  A : List Nat
  L : List Nat
  Hs : Nat → AH
  es : Nat → List AV
  vs : Nat → AV
  wd : Nat → Bool
  op : Nat → Oper          -- by place
def Ctx.N (c : Ctx) : Nat := c.L.length
def Ctx.J (c : Ctx) (p : Nat) : Nat := c.L.getD p 0

structure CtxOk (c : Ctx) : Prop where
  fut0 : ∀ id, (c.Hs 0).next ≤ id → (c.Hs 0).obj id = none
  ok : OkD c.A c.ops c.L
  op : ∀ p, p < c.N → c.ops[c.J p]? = some (c.op p)
  st : ∀ p, p < c.N → StepF c.P c.ops.toList (c.op p) (c.Hs p) (c.Hs (p + 1)) (c.es p) (c.es (p + 1)) (c.vs p) (c.wd p)
  ld : ∀ p, p < c.N → c.wd p = true → clsOf (c.op p) = .load → ∃ q l x, ev (maskE (readsG c.ops.toList (c.op p)) (c.es p)) x = .sc (.p (some q)) ∧ (c.Hs p).rd q.1 q.2 l.length = some l ∧
      LoadS c.P (c.op p) (maskE (readsG c.ops.toList (c.op p)) (c.es p)) q l (c.vs p) ∧
      ∀ p', p < p' → p' < c.N → c.wd p' = true → clsOf (c.op p') = .eff → tied c.A (c.J p) (c.J p') = false → (c.Hs (p' + 1)).rd q.1 q.2 l.length = some l

section
variable {c : Ctx} (hc : CtxOk c)
include hc
theorem CtxOk.get {p : Nat} (hp : p < c.N) : c.L[p]? = some (c.J p) := by
  unfold Ctx.J Ctx.N at *; simp [List.getD, hp]
theorem CtxOk.inj {p q : Nat} (hp : p < c.N) (hq : q < c.N) (h : c.J p = c.J q) : p = q :=
  hc.ok.nd p q (c.J p) (hc.get hp) (by rw [h]; exact hc.get hq)
theorem CtxOk.at_ {p j : Nat} (h : c.L[p]? = some j) : p < c.N ∧ c.J p = j := by
  have hp : p < c.L.length := by
    rcases Nat.lt_or_ge p c.L.length with h' | h'
    · exact h'
    · simp [List.getElem?_eq_none h'] at h
  have := hc.get hp
  rw [h] at this; cases this
  exact ⟨hp, rfl⟩
theorem CtxOk.jlt {p : Nat} (hp : p < c.N) : c.J p < c.ops.size := hc.ok.lt p _ (hc.get hp)

/-- a step that is no effect: the heap's old objects stay -/
theorem CtxOk.quiet {p : Nat} (hp : p < c.N) (h : ¬ (c.wd p = true ∧ clsOf (c.op p) = .eff)) :
    (c.Hs (p + 1) = c.Hs p) ∨ (c.wd p = true ∧ clsOf (c.op p) = .alloc ∧ ∃ l, c.Hs (p + 1) = (c.Hs p).new (.cells false l) ∧ AllocS c.P (c.op p) (maskE (readsG c.ops.toList (c.op p)) (c.es p)) (c.Hs p).next l (c.vs p)) := by
  have s := hc.st p hp
  cases hw : c.wd p with
  | false => exact .inl (s.skip hw).2
  | true =>
    cases hcl : clsOf (c.op p) with
    | pure => exact .inl (s.pur hw hcl).1
    | load => exact .inl (s.load hw hcl).1
    | alloc => exact .inr ⟨rfl, rfl, s.alloc hw hcl⟩
    | eff => exact absurd ⟨hw, hcl⟩ h
theorem CtxOk.grow {p : Nat} (hp : p < c.N) : Grow (c.Hs p) (c.Hs (p + 1)) := by
  by_cases h : c.wd p = true ∧ clsOf (c.op p) = .eff
  · exact ((hc.st p hp).eff h.1 h.2).1
  · rcases hc.quiet hp h with h | ⟨_, _, l, h, _⟩
    · rw [h]; exact Grow.refl _
    · rw [h]; exact Grow.new _ _
theorem CtxOk.nx {p : Nat} (hp : p < c.N) : (c.Hs p).next ≤ (c.Hs (p + 1)).next := (hc.grow hp).nx
theorem CtxOk.fut {p : Nat} (hp : p ≤ c.N) : ∀ id, (c.Hs p).next ≤ id → (c.Hs p).obj id = none := by
  induction p with
  | zero => exact hc.fut0
  | succ p ih => exact (hc.grow (by omega)).fut (ih (by omega))
theorem CtxOk.nxs {p q : Nat} (h : p ≤ q) (hq : q ≤ c.N) : (c.Hs p).next ≤ (c.Hs q).next := by
  induction q with
  | zero => have : p = 0 := by omega
            subst this; exact Nat.le_refl _
  | succ q ih =>
    by_cases e : p = q + 1
    · subst e; exact Nat.le_refl _
    · exact Nat.le_trans (ih (by omega) (by omega)) (hc.nx (by omega))

/-- between two places with no effect: old objects stay; each new one was made at some place, and is as it was made -/
theorem CtxOk.between {s q : Nat} (h : s ≤ q) (hq : q ≤ c.N) (hno : ∀ p, s ≤ p → p < q → ¬ (c.wd p = true ∧ clsOf (c.op p) = .eff)) :
    (∀ id, id < (c.Hs s).next → (c.Hs q).obj id = (c.Hs s).obj id) ∧
    (∀ id, (c.Hs s).next ≤ id → id < (c.Hs q).next → ∃ p l, s ≤ p ∧ p < q ∧ c.Hs (p + 1) = (c.Hs p).new (.cells false l) ∧ id = (c.Hs p).next ∧ (c.Hs q).obj id = some (.cells false l)) ∧
    ((∀ id, (c.Hs s).next ≤ id → (c.Hs s).obj id = none) → ∀ id, (c.Hs q).next ≤ id → (c.Hs q).obj id = none) := by
  induction q with
  | zero => have : s = 0 := by omega
            subst this; exact ⟨fun _ _ => rfl, fun id a b => by omega, fun h => h⟩
  | succ q ih =>
    by_cases e : s = q + 1
    · subst e; exact ⟨fun _ _ => rfl, fun id a b => by omega, fun h => h⟩
    · obtain ⟨h1, h2, h3⟩ := ih (by omega) (by omega) (fun p a b => hno p a (by omega))
      have hn := hc.nxs (show s ≤ q by omega) (by omega)
      rcases hc.quiet (show q < c.N by omega) (hno q (by omega) (by omega)) with hq' | ⟨_, _, l, hq', _⟩
      · rw [hq']
        exact ⟨h1, fun id a b => by obtain ⟨p, l, x1, x2, x3⟩ := h2 id a b; exact ⟨p, l, x1, by omega, x3⟩, h3⟩
      · refine ⟨fun id hlt => ?_, fun id a b => ?_, fun hf id hge => ?_⟩
        · rw [hq']; simp only [AH.new]; rw [if_neg (by omega)]; exact h1 id hlt
        · rw [hq'] at b
          simp only [AH.new] at b
          by_cases e2 : id = (c.Hs q).next
          · exact ⟨q, l, by omega, by omega, hq', e2, by rw [hq', e2]; simp [AH.new]⟩
          · obtain ⟨p, l', x1, x2, x3, x4, x5⟩ := h2 id a (by omega)
            exact ⟨p, l', x1, by omega, x3, x4, by rw [hq']; simp only [AH.new]; rw [if_neg e2]; exact x5⟩
        · rw [hq'] at hge ⊢
          simp only [AH.new] at hge ⊢
          rw [if_neg (by omega)]; exact h3 hf id (by omega)

/-- the next effect -/
theorem CtxOk.nextEff (s : Nat) (hs : s ≤ c.N) : ∃ τ, s ≤ τ ∧ τ ≤ c.N ∧ (∀ p, s ≤ p → p < τ → ¬ (c.wd p = true ∧ clsOf (c.op p) = .eff)) ∧ (τ < c.N → c.wd τ = true ∧ clsOf (c.op τ) = .eff) := by
  obtain ⟨d, hd⟩ : ∃ d, c.N - s = d := ⟨_, rfl⟩
  induction d generalizing s with
  | zero => exact ⟨s, Nat.le_refl _, hs, fun p a b => by omega, fun h => by omega⟩
  | succ d ih =>
    by_cases h : c.wd s = true ∧ clsOf (c.op s) = .eff
    · exact ⟨s, Nat.le_refl _, hs, fun p a b => by omega, fun _ => h⟩
    · obtain ⟨τ, a, b, e, g⟩ := ih (s + 1) (by omega) (by omega)
      refine ⟨τ, by omega, b, fun p hp hpt => ?_, g⟩
      by_cases e2 : p = s
      · subst e2; exact h
      · exact e p (by omega) hpt
end
/-- what holds when the operations that are listed have been done, whatever their order was -/
structure Inv (c : Ctx) (ι0 : Inj) (a0 : Act) (w0 : World) (listed : Array Bool) (τ : Nat) (ι : Inj) (a : Act) (w : World) : Prop where
  lsz : listed.size = c.ops.size
  closed : ∀ i j, j < c.ops.size → listed.getD j false = true → i < c.ops.size → i ≠ j → isAhead c.A i j = true → listed.getD i false = true
  τle : τ ≤ c.N
  eff : ∀ p, p < c.N → c.wd p = true → clsOf (c.op p) = .eff → (listed.getD (c.J p) false = true ↔ p < τ)
  τend : τ < c.N → c.wd τ = true ∧ clsOf (c.op τ) = .eff
  defs : AEq a0 a
  size : (c.es 0).length ≤ a.tmps.size
  env : ∀ t, VR ι (cur (c.es 0) (fun p => (c.op p).dst) c.vs (fun p => listed.getD (c.J p) false) c.N t) (a.tmps.getD t undef)
  hr : HR ι (c.Hs τ) w
  pend : ∀ id d, ι id = some d → (c.Hs τ).next ≤ id → id < (c.Hs c.N).next → ∃ p l, τ ≤ p ∧ p < c.N ∧ listed.getD (c.J p) false = true ∧ c.Hs (p + 1) = (c.Hs p).new (.cells false l) ∧ id = (c.Hs p).next ∧ d.ro = false ∧ OR ι d w (.cells false l)
  gap : ∀ p, p < c.N → listed.getD (c.J p) false = false → ∀ id, (c.Hs p).next ≤ id → id < (c.Hs (p + 1)).next → ι id = none
  unm : ∀ p l, p < τ → listed.getD (c.J p) false = false → c.Hs (p + 1) = (c.Hs p).new (.cells false l) → (c.Hs τ).obj (c.Hs p).next = some (.cells false l)
  ext : ι0.le ι
  new : ∀ id d, ι id = some d → ι0 id = none → (c.Hs 0).next ≤ id ∧ id < (c.Hs c.N).next ∧ d.ro = false ∧ (w0.heap.size ≤ d.blk ∨ Own ι0 (c.Hs 0) d.blk)
  dead : ∀ id, id < (c.Hs 0).next → (c.Hs 0).obj id = none → (c.Hs τ).obj id = none
  keep : ∀ id, id < (c.Hs 0).next → ι0 id = none → (c.Hs τ).obj id = (c.Hs 0).obj id
  sz : w0.heap.size ≤ w.heap.size
  fr : ∀ b, b < w0.heap.size → ¬ Own ι0 (c.Hs 0) b → w.heap[b]? = w0.heap[b]?
  io : w.os = w0.os ∧ w.output = w0.output ∧ w.tape = w0.tape

theorem getD_set {l : Array Bool} {i j : Nat} (hi : i < l.size) : (l.setIfInBounds i true).getD j false = if j = i then true else l.getD j false := by
  by_cases e : j = i
  · subst e; simp [Array.getD, hi]
  · simp only [if_neg e, Array.getD_eq_getD_getElem?]
    simp [Array.getElem?_setIfInBounds, Ne.symm e]

section
variable {c : Ctx} (hc : CtxOk c) {ι0 : Inj} {a0 : Act} {w0 : World} {listed : Array Bool} {τ : Nat} {ι : Inj} {a : Act} {w : World}
include hc

/-- an operation that may come next: who writes what it reads, or writes, has been done just if it stands ahead -/
theorem Inv.writers (I : Inv c ι0 a0 w0 listed τ ι a w) {p : Nat} (hp : p < c.N) (hun : listed.getD (c.J p) false = false) (hpre : ∀ i, i < c.ops.size → i ≠ c.J p → isAhead c.A i (c.J p) = true → listed.getD i false = true)
    {q t : Nat} (hq : q < c.N) (hne : q ≠ p) (hd : (c.op q).dst = some t) (ht : t ∈ readsG c.ops.toList (c.op p) ∨ (c.op p).dst = some t) : listed.getD (c.J q) false = true ↔ q < p := by
  have hj : c.J q ≠ c.J p := fun e => hne (hc.inj hq hp e)
  have hcl : clashG c.ops.toList (c.op q) (c.op p) = true := by
    unfold clashG; rw [hd]
    rcases ht with ht | ht
    · simp [ht]
    · simp [ht]
  have ht := hc.ok.clash _ _ _ _ (hc.op q hq) (hc.op p hp) hj hcl
  unfold tied at ht
  rw [Bool.or_eq_true] at ht
  rcases ht with ht | ht
  · exact ⟨fun _ => hc.ok.pos _ _ _ _ (hc.get hq) (hc.get hp) hj ht, fun _ => hpre _ (hc.jlt hq) hj ht⟩
  · have h1 := hc.ok.pos _ _ _ _ (hc.get hp) (hc.get hq) (Ne.symm hj) ht
    refine ⟨fun h => ?_, fun h => by omega⟩
    have := I.closed _ _ (hc.jlt hq) h (hc.jlt hp) (Ne.symm hj) ht
    rw [hun] at this; cases this

theorem Inv.reads (I : Inv c ι0 a0 w0 listed τ ι a w) {p : Nat} (hp : p < c.N) (hun : listed.getD (c.J p) false = false) (hpre : ∀ i, i < c.ops.size → i ≠ c.J p → isAhead c.A i (c.J p) = true → listed.getD i false = true) :
    ER ι (maskE (readsG c.ops.toList (c.op p)) (c.es p)) a.tmps := by
  have hlen : (c.es p).length = (c.es 0).length := by
    have : ∀ q, q ≤ c.N → (c.es q).length = (c.es 0).length := by
      intro q
      induction q with
      | zero => intro _; rfl
      | succ q ih => intro hq; rw [(hc.st q (by omega)).en, ← ih (by omega)]; cases (c.op q).dst <;> simp [putE]
    exact this p (by omega)
  refine ⟨by rw [maskE_length, hlen]; exact I.size, fun t => ?_⟩
  rw [maskE_get]
  split
  · rename_i ht
    have ht : t ∈ readsG c.ops.toList (c.op p) := by simpa using ht
    have := cur_upto (D := fun p => listed.getD (c.J p) false) (t := t) (dst := fun p => (c.op p).dst) (vs := c.vs) (e0 := c.es 0) rfl (fun q hq => (hc.st q hq).en) (p := p) (N := c.N) (by omega) (fun q hq hd => by
      by_cases e : q = p
      · subst e; simp [hun]
      · exact I.writers hc hp hun hpre hq e hd (.inl ht))
    rw [← this]; exact I.env t
  · trivial

/-- what the slots hold behind it -/
theorem Inv.env_after (I : Inv c ι0 a0 w0 listed τ ι a w) {p : Nat} (hp : p < c.N) (hun : listed.getD (c.J p) false = false) (hpre : ∀ i, i < c.ops.size → i ≠ c.J p → isAhead c.A i (c.J p) = true → listed.getD i false = true)
    {ι' : Inj} (hle : ι.le ι') {v' : Value} (hv : VR ι' (c.vs p) v') (t : Nat) :
    VR ι' (cur (c.es 0) (fun p => (c.op p).dst) c.vs (fun q => (listed.setIfInBounds (c.J p) true).getD (c.J q) false) c.N t) ((a.put (c.op p).dst v').tmps.getD t undef) := by
  have hjl : c.J p < listed.size := by rw [I.lsz]; exact hc.jlt hp
  have hD : ∀ q, q < c.N → ((listed.setIfInBounds (c.J p) true).getD (c.J q) false) = if q = p then true else listed.getD (c.J q) false := by
    intro q hq
    rw [getD_set hjl]
    by_cases e : q = p
    · subst e; simp
    · rw [if_neg e, if_neg (fun h => e (hc.inj hq hp h))]
  by_cases hd : (c.op p).dst = some t
  · have := cur_upto (D := fun q => (listed.setIfInBounds (c.J p) true).getD (c.J q) false) (t := t) (dst := fun p => (c.op p).dst) (vs := c.vs) (e0 := c.es 0) rfl (fun q hq => (hc.st q hq).en) (p := p + 1) (N := c.N) (by omega) (fun q hq hdq => by
      rw [hD q hq]
      by_cases e : q = p
      · subst e; simp
      · rw [if_neg e, I.writers hc hp hun hpre hq e hdq (.inr hd)]; omega)
    rw [this, (hc.st p hp).en, hd]
    simp only [putE, Act.put]
    have hlen : (c.es p).length ≤ a.tmps.size := by
      have := (I.reads hc hp hun hpre).size
      rwa [maskE_length] at this
    by_cases hl : t < (c.es p).length
    · have h2 : t < a.tmps.size := by omega
      have e1 : ((c.es p).set t (c.vs p)).getD t .un = c.vs p := by simp [List.getD, hl]
      have e2 : (a.tmps.setIfInBounds t v').getD t undef = v' := by simp [Array.getD, h2]
      rw [e1, e2]; exact hv
    · have e1 : ((c.es p).set t (c.vs p)).getD t .un = .un := by rw [List.getD, List.getElem?_eq_none (by simp; omega)]; rfl
      rw [e1]; trivial
  · have e1 : cur (c.es 0) (fun p => (c.op p).dst) c.vs (fun q => (listed.setIfInBounds (c.J p) true).getD (c.J q) false) c.N t = cur (c.es 0) (fun p => (c.op p).dst) c.vs (fun q => listed.getD (c.J q) false) c.N t := by
      refine cur_eq fun q hq hdq => ?_
      rw [hD q hq, if_neg (by rintro rfl; exact hd hdq)]
    have e2 : (a.put (c.op p).dst v').tmps.getD t undef = a.tmps.getD t undef := by
      cases hdd : (c.op p).dst with
      | none => rfl
      | some s =>
        have : s ≠ t := by rintro rfl; exact hd hdd
        simp [Act.put, this]
    rw [e1, e2]
    exact VR.mono hle (I.env t)

/-- a step that leaves the heaps alone -/
theorem Inv.still (I : Inv c ι0 a0 w0 listed τ ι a w) {p : Nat} (hp : p < c.N) (hun : listed.getD (c.J p) false = false) (hpre : ∀ i, i < c.ops.size → i ≠ c.J p → isAhead c.A i (c.J p) = true → listed.getD i false = true)
    (hne : ¬ (c.wd p = true ∧ clsOf (c.op p) = .eff)) (hna : ∀ l, c.Hs (p + 1) ≠ (c.Hs p).new (.cells false l)) {v' : Value} (hv : VR ι (c.vs p) v') :
    Inv c ι0 a0 w0 (listed.setIfInBounds (c.J p) true) τ ι (a.put (c.op p).dst v') w := by
  have hjl : c.J p < listed.size := by rw [I.lsz]; exact hc.jlt hp
  have hg : ∀ j, (listed.setIfInBounds (c.J p) true).getD j false = if j = c.J p then true else listed.getD j false := fun j => getD_set hjl
  refine ⟨by simp [I.lsz], ?_, I.τle, ?_, I.τend, ?_, ?_, fun t => I.env_after hc hp hun hpre (fun _ _ h => h) hv t, I.hr, ?_, ?_, ?_, I.ext, I.new, I.dead, I.keep, I.sz, I.fr, I.io⟩
  · intro i j hjs hl his hij hah
    rw [hg] at hl ⊢
    by_cases e : j = c.J p
    · subst e
      rw [if_neg hij]; exact hpre i his hij hah
    · rw [if_neg e] at hl
      by_cases e2 : i = c.J p
      · simp [e2]
      · rw [if_neg e2]; exact I.closed i j hjs hl his hij hah
  · intro q hq hw hcl
    rw [hg]
    by_cases e : c.J q = c.J p
    · have := hc.inj hq hp e
      subst this; exact absurd ⟨hw, hcl⟩ hne
    · rw [if_neg e]; exact I.eff q hq hw hcl
  · exact I.defs.trans (AEq.put _ _ _)
  · have := I.size; cases (c.op p).dst <;> simpa [Act.put] using this
  · intro id d h1 h2 h3
    obtain ⟨q, l, x1, x2, x3, x4⟩ := I.pend id d h1 h2 h3
    refine ⟨q, l, x1, x2, ?_, x4⟩
    rw [hg]; split
    · rfl
    · exact x3
  · intro q hq hl id h1 h2
    rw [hg] at hl
    split at hl
    · cases hl
    · exact I.gap q hq hl id h1 h2
  · intro q l hq hl hH
    rw [hg] at hl
    split at hl
    · cases hl
    · exact I.unm q l hq hl hH

/-- what a load finds now is what it found in the one order -/
theorem Inv.loads (I : Inv c ι0 a0 w0 listed τ ι a w) {p : Nat} (hp : p < c.N) (hun : listed.getD (c.J p) false = false) (hpre : ∀ i, i < c.ops.size → i ≠ c.J p → isAhead c.A i (c.J p) = true → listed.getD i false = true)
    (hw : c.wd p = true) (hcl : clsOf (c.op p) = .load) {q : Nat × Nat} {l : List Sc} (hrd : (c.Hs p).rd q.1 q.2 l.length = some l)
    (hsame : ∀ p', p < p' → p' < c.N → c.wd p' = true → clsOf (c.op p') = .eff → tied c.A (c.J p) (c.J p') = false → (c.Hs (p' + 1)).rd q.1 q.2 l.length = some l) {d : IB} (hd : ι q.1 = some d) :
    ∃ vs, LR ι l vs ∧ ∀ (j : Nat) u, vs[j]? = some u → w.cell? ⟨d.blk, d.base + q.2 + j, none⟩ = some u := by
  -- no effect stands between the next effect and the load
  have hno : ∀ p', τ ≤ p' → p' < p → ¬ (c.wd p' = true ∧ clsOf (c.op p') = .eff) := by
    intro p' h1 h2 h3
    have hl : listed.getD (c.J p') false = false := by
      cases hb : listed.getD (c.J p') false with
      | false => rfl
      | true => have := (I.eff p' (by omega) h3.1 h3.2).1 hb; omega
    have hne : c.J p ≠ c.J p' := fun e => by have := hc.inj hp (by omega) e; omega
    rcases hc.ok.load _ _ _ _ _ _ (hc.get hp) (hc.get (show p' < c.N by omega)) (hc.op p hp) (hc.op p' (by omega)) hne hcl h3.2 with ht | ht
    · unfold tied at ht
      rw [Bool.or_eq_true] at ht
      rcases ht with ht | ht
      · have := hc.ok.pos _ _ _ _ (hc.get hp) (hc.get (show p' < c.N by omega)) hne ht; omega
      · have := hpre _ (hc.jlt (by omega)) (Ne.symm hne) ht
        rw [hl] at this; cases this
    · omega
  have rdobj : ∀ (H H' : AH) (id off m : Nat), H'.obj id = H.obj id → H'.rd id off m = H.rd id off m := by
    intro H H' id off m h; unfold AH.rd; rw [h]
  by_cases hid : q.1 < (c.Hs τ).next
  · -- an object of the heap as it is now
    have hnow : (c.Hs τ).rd q.1 q.2 l.length = some l := by
      by_cases hτ : τ ≤ p
      · have := (hc.between hτ (by omega) hno).1 q.1 hid
        rw [← rdobj _ _ _ _ _ this]; exact hrd
      · -- the effects between have been done already: each was looked behind
        have hidp : q.1 < (c.Hs p).next := by
          rcases Nat.lt_or_ge q.1 (c.Hs p).next with h | h
          · exact h
          · have := hc.fut (show p ≤ c.N by omega) q.1 h
            unfold AH.rd at hrd; rw [this] at hrd; cases hrd
        have chain : ∀ m, p ≤ m → m ≤ τ → (c.Hs m).rd q.1 q.2 l.length = some l := by
          intro m
          induction m with
          | zero => intro h1 h2; have : p = 0 := by omega
                    subst this; exact hrd
          | succ m ih =>
            intro h1 h2
            by_cases e : p = m + 1
            · subst e; exact hrd
            · have ihm := ih (by omega) (by omega)
              have hm : m < c.N := by have := I.τle; omega
              by_cases he : c.wd m = true ∧ clsOf (c.op m) = .eff
              · by_cases hpm : p = m
                · subst hpm; rw [he.2] at hcl; cases hcl
                · refine hsame m (by omega) hm he.1 he.2 ?_
                  have hne : c.J p ≠ c.J m := fun e => by have := hc.inj hp hm e; omega
                  have hlm : listed.getD (c.J m) false = true := (I.eff m hm he.1 he.2).2 (by omega)
                  cases htd : tied c.A (c.J p) (c.J m) with
                  | false => rfl
                  | true =>
                    exfalso
                    unfold tied at htd
                    rw [Bool.or_eq_true] at htd
                    rcases htd with htd | htd
                    · have := I.closed _ _ (hc.jlt hm) hlm (hc.jlt hp) hne htd
                      rw [hun] at this; cases this
                    · have := hc.ok.pos _ _ _ _ (hc.get hm) (hc.get hp) (Ne.symm hne) htd; omega
              · have hidm : q.1 < (c.Hs m).next := Nat.lt_of_lt_of_le hidp (hc.nxs (by omega) (by omega))
                have := (hc.between (show m ≤ m + 1 by omega) (by omega) (fun p' a b => (show p' = m by omega) ▸ he)).1 q.1 hidm
                rw [rdobj _ _ _ _ _ this]; exact ihm
        exact chain τ (by omega) (Nat.le_refl _)
    obtain ⟨vs, h1, _, _, h2⟩ := I.hr.read hd hnow
    exact ⟨vs, h1, h2⟩
  · -- an object that was made ahead of its time
    have hidp : q.1 < (c.Hs p).next := by
      rcases Nat.lt_or_ge q.1 (c.Hs p).next with h | h
      · exact h
      · have := hc.fut (show p ≤ c.N by omega) q.1 h
        unfold AH.rd at hrd; rw [this] at hrd; cases hrd
    have hNp := hc.nxs (show p ≤ c.N by omega) (Nat.le_refl _)
    obtain ⟨p1, l1, x1, x2, x3, x4, x5, x6, x7⟩ := I.pend q.1 d hd (by omega) (by omega)
    have hp1 : p1 < p := by
      rcases Nat.lt_or_ge p1 p with h | h
      · exact h
      · have := hc.nxs h (by omega); omega
    have hobj : (c.Hs p).obj q.1 = some (.cells false l1) := by
      have h1 := (hc.between (show p1 + 1 ≤ p by omega) (by omega) (fun p' a b => hno p' (by omega) b)).1 q.1 (by rw [x4, x5]; simp [AH.new])
      rw [h1, x4, x5]; simp [AH.new]
    unfold AH.rd at hrd
    rw [hobj] at hrd
    dsimp only at hrd
    split at hrd
    case isFalse => cases hrd
    rename_i hle
    obtain ⟨vs, h1, h2⟩ := x7.read l.length q.2 hle
    rw [Option.some.inj hrd] at h1
    exact ⟨vs, h1, h2⟩
end
end Go.Proofs.YtpbhfolaoccpkaaGreat.Fw
