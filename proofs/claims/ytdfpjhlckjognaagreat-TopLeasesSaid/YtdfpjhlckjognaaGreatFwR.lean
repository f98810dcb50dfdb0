/- Regions whose order is drawn: the invariant of any order, step by step. -/
import Derived.Test.YtdfpjhlckjognaaGreatFwP
set_option linter.unusedSimpArgs false
set_option linter.unusedVariables false
set_option linter.unusedSectionVars false
namespace Go.Proofs.YtdfpjhlckjognaaGreat.Fw
open Go
def cur (e0 : List AV) (dst : Nat → Option Nat) (vs : Nat → AV) (D : Nat → Bool) : Nat → Nat → AV
  | 0, t => e0.getD t .un
  | p + 1, t => if D p = true ∧ dst p = some t ∧ t < e0.length then vs p else cur e0 dst vs D p t
theorem cur_eq {e0 : List AV} {dst : Nat → Option Nat} {vs : Nat → AV} {D D' : Nat → Bool} {t : Nat} : ∀ {p : Nat}, (∀ q, q < p → dst q = some t → D q = D' q) → cur e0 dst vs D p t = cur e0 dst vs D' p t
  | 0, _ => rfl
  | p + 1, h => by
    have ih := cur_eq (e0 := e0) (vs := vs) (fun q hq => h q (Nat.lt_succ_of_lt hq))
    simp only [cur, ih]
    by_cases hd : dst p = some t
    · rw [h p (Nat.lt_succ_self p) hd]
    · simp [hd]
theorem cur_upto {e0 : List AV} {dst : Nat → Option Nat} {vs : Nat → AV} {D : Nat → Bool} {es : Nat → List AV} {t N : Nat} (h0 : es 0 = e0) (hs : ∀ q, q < N → es (q + 1) = putE (es q) (dst q) (vs q)) {p : Nat} (hp : p ≤ N)
    (hD : ∀ q, q < N → dst q = some t → (D q = true ↔ q < p)) : cur e0 dst vs D N t = (es p).getD t .un := by
  have hlen : ∀ q, q ≤ N → (es q).length = e0.length := by
    intro q
    induction q with
    | zero => intro _; rw [h0]
    | succ q ih => intro hq; rw [hs q (by omega), ← ih (by omega)]; cases dst q <;> simp [putE]
  have step : ∀ q, q < N → (es (q + 1)).getD t .un = if dst q = some t ∧ t < e0.length then vs q else (es q).getD t .un := by
    intro q hq
    rw [hs q hq]
    cases hd : dst q with
    | none => simp [putE]
    | some s =>
      by_cases e : s = t
      · subst e
        by_cases hl : s < e0.length
        · rw [← hlen q (by omega)] at hl
          simp [putE, List.getD, hl, ← hlen q (by omega)]
        · have hl' : ¬ s < (es q).length := by rw [hlen q (by omega)]; exact hl
          rw [if_neg (by simp [hl])]
          simp only [putE, List.getD]
          rw [List.getElem?_eq_none (by simp; omega), List.getElem?_eq_none (by omega)]
      · rw [if_neg (by simp [e])]
        simp [putE, List.getD, e]
  have low : ∀ q, q ≤ p → cur e0 dst vs D q t = (es q).getD t .un := by
    intro q
    induction q with
    | zero => intro _; simp [cur, h0]
    | succ q ih =>
      intro hq
      rw [cur, ih (by omega), step q (by omega)]
      by_cases hd : dst q = some t
      · have := (hD q (by omega) hd).2 (by omega)
        simp [this]
      · simp [hd]
  have high : ∀ q, p ≤ q → q ≤ N → cur e0 dst vs D q t = (es p).getD t .un := by
    intro q
    induction q with
    | zero => intro h1 _; have : p = 0 := by omega
              subst this; exact low 0 (Nat.le_refl _)
    | succ q ih =>
      intro h1 h2
      by_cases hq : p = q + 1
      · subst hq; exact low _ (Nat.le_refl _)
      · rw [cur, ih (by omega) (by omega)]
        rw [if_neg]
        rintro ⟨h3, h4, _⟩
        have := (hD q (by omega) h4).1 h3
        omega
  exact high N hp (Nat.le_refl _)
structure Ctx where
  P : Program
  ops : Array Oper
  A : List Nat
  L : List Nat
  Hs : Nat → AH
  es : Nat → List AV
  vs : Nat → AV
  wd : Nat → Bool
  op : Nat → Oper          -- by place
def Ctx.N (c : Ctx) : Nat := c.L.length
def Ctx.J (c : Ctx) (p : Nat) : Nat := c.L.getD p 0
structure CtxOk (c : Ctx) : Prop where
  fut0 : ∀ id, (c.Hs 0).next ≤ id → (c.Hs 0).obj id = none
  ok : OkD c.A c.ops c.L
  op : ∀ p, p < c.N → c.ops[c.J p]? = some (c.op p)
  st : ∀ p, p < c.N → StepF c.P c.ops.toList (c.op p) (c.Hs p) (c.Hs (p + 1)) (c.es p) (c.es (p + 1)) (c.vs p) (c.wd p)
  ld : ∀ p, p < c.N → c.wd p = true → clsOf (c.op p) = .load → ∃ q l x, ev (maskE (readsG c.ops.toList (c.op p)) (c.es p)) x = .sc (.p (some q)) ∧ (c.Hs p).rd q.1 q.2 l.length = some l ∧
      LoadS c.P (c.op p) (maskE (readsG c.ops.toList (c.op p)) (c.es p)) q l (c.vs p) ∧
      ∀ p', p < p' → p' < c.N → c.wd p' = true → clsOf (c.op p') = .eff → tied c.A (c.J p) (c.J p') = false → (c.Hs (p' + 1)).rd q.1 q.2 l.length = some l
section
variable {c : Ctx} (hc : CtxOk c)
include hc
theorem CtxOk.get {p : Nat} (hp : p < c.N) : c.L[p]? = some (c.J p) := by
  unfold Ctx.J Ctx.N at *; simp [List.getD, hp]
theorem CtxOk.inj {p q : Nat} (hp : p < c.N) (hq : q < c.N) (h : c.J p = c.J q) : p = q :=
  hc.ok.nd p q (c.J p) (hc.get hp) (by rw [h]; exact hc.get hq)
theorem CtxOk.at_ {p j : Nat} (h : c.L[p]? = some j) : p < c.N ∧ c.J p = j := by
  have hp : p < c.L.length := by
    rcases Nat.lt_or_ge p c.L.length with h' | h'
    · exact h'
    · simp [List.getElem?_eq_none h'] at h
  have := hc.get hp
  rw [h] at this; cases this
  exact ⟨hp, rfl⟩
theorem CtxOk.jlt {p : Nat} (hp : p < c.N) : c.J p < c.ops.size := hc.ok.lt p _ (hc.get hp)
theorem CtxOk.quiet {p : Nat} (hp : p < c.N) (h : ¬ (c.wd p = true ∧ clsOf (c.op p) = .eff)) :
    (c.Hs (p + 1) = c.Hs p) ∨ (c.wd p = true ∧ clsOf (c.op p) = .alloc ∧ ∃ l, c.Hs (p + 1) = (c.Hs p).new (.cells false l) ∧ AllocS c.P (c.op p) (maskE (readsG c.ops.toList (c.op p)) (c.es p)) (c.Hs p).next l (c.vs p)) := by
  have s := hc.st p hp
  cases hw : c.wd p with
  | false => exact .inl (s.skip hw).2
  | true =>
    cases hcl : clsOf (c.op p) with
    | pure => exact .inl (s.pur hw hcl).1
    | load => exact .inl (s.load hw hcl).1
    | alloc => exact .inr ⟨rfl, rfl, s.alloc hw hcl⟩
    | eff => exact absurd ⟨hw, hcl⟩ h
theorem CtxOk.grow {p : Nat} (hp : p < c.N) : Grow (c.Hs p) (c.Hs (p + 1)) := by
  by_cases h : c.wd p = true ∧ clsOf (c.op p) = .eff
  · exact ((hc.st p hp).eff h.1 h.2).1
  · rcases hc.quiet hp h with h | ⟨_, _, l, h, _⟩
    · rw [h]; exact Grow.refl _
    · rw [h]; exact Grow.new _ _
theorem CtxOk.nx {p : Nat} (hp : p < c.N) : (c.Hs p).next ≤ (c.Hs (p + 1)).next := (hc.grow hp).nx
theorem CtxOk.fut {p : Nat} (hp : p ≤ c.N) : ∀ id, (c.Hs p).next ≤ id → (c.Hs p).obj id = none := by
  induction p with
  | zero => exact hc.fut0
  | succ p ih => exact (hc.grow (by omega)).fut (ih (by omega))
theorem CtxOk.nxs {p q : Nat} (h : p ≤ q) (hq : q ≤ c.N) : (c.Hs p).next ≤ (c.Hs q).next := by
  induction q with
  | zero => have : p = 0 := by omega
            subst this; exact Nat.le_refl _
  | succ q ih =>
    by_cases e : p = q + 1
    · subst e; exact Nat.le_refl _
    · exact Nat.le_trans (ih (by omega) (by omega)) (hc.nx (by omega))
theorem CtxOk.between {s q : Nat} (h : s ≤ q) (hq : q ≤ c.N) (hno : ∀ p, s ≤ p → p < q → ¬ (c.wd p = true ∧ clsOf (c.op p) = .eff)) :
    (∀ id, id < (c.Hs s).next → (c.Hs q).obj id = (c.Hs s).obj id) ∧
    (∀ id, (c.Hs s).next ≤ id → id < (c.Hs q).next → ∃ p l, s ≤ p ∧ p < q ∧ c.Hs (p + 1) = (c.Hs p).new (.cells false l) ∧ id = (c.Hs p).next ∧ (c.Hs q).obj id = some (.cells false l)) ∧
    ((∀ id, (c.Hs s).next ≤ id → (c.Hs s).obj id = none) → ∀ id, (c.Hs q).next ≤ id → (c.Hs q).obj id = none) := by
  induction q with
  | zero => have : s = 0 := by omega
            subst this; exact ⟨fun _ _ => rfl, fun id a b => by omega, fun h => h⟩
  | succ q ih =>
    by_cases e : s = q + 1
    · subst e; exact ⟨fun _ _ => rfl, fun id a b => by omega, fun h => h⟩
    · obtain ⟨h1, h2, h3⟩ := ih (by omega) (by omega) (fun p a b => hno p a (by omega))
      have hn := hc.nxs (show s ≤ q by omega) (by omega)
      rcases hc.quiet (show q < c.N by omega) (hno q (by omega) (by omega)) with hq' | ⟨_, _, l, hq', _⟩
      · rw [hq']
        exact ⟨h1, fun id a b => by obtain ⟨p, l, x1, x2, x3⟩ := h2 id a b; exact ⟨p, l, x1, by omega, x3⟩, h3⟩
      · refine ⟨fun id hlt => ?_, fun id a b => ?_, fun hf id hge => ?_⟩
        · rw [hq']; simp only [AH.new]; rw [if_neg (by omega)]; exact h1 id hlt
        · rw [hq'] at b
          simp only [AH.new] at b
          by_cases e2 : id = (c.Hs q).next
          · exact ⟨q, l, by omega, by omega, hq', e2, by rw [hq', e2]; simp [AH.new]⟩
          · obtain ⟨p, l', x1, x2, x3, x4, x5⟩ := h2 id a (by omega)
            exact ⟨p, l', x1, by omega, x3, x4, by rw [hq']; simp only [AH.new]; rw [if_neg e2]; exact x5⟩
        · rw [hq'] at hge ⊢
          simp only [AH.new] at hge ⊢
          rw [if_neg (by omega)]; exact h3 hf id (by omega)
theorem CtxOk.nextEff (s : Nat) (hs : s ≤ c.N) : ∃ τ, s ≤ τ ∧ τ ≤ c.N ∧ (∀ p, s ≤ p → p < τ → ¬ (c.wd p = true ∧ clsOf (c.op p) = .eff)) ∧ (τ < c.N → c.wd τ = true ∧ clsOf (c.op τ) = .eff) := by
  obtain ⟨d, hd⟩ : ∃ d, c.N - s = d := ⟨_, rfl⟩
  induction d generalizing s with
  | zero => exact ⟨s, Nat.le_refl _, hs, fun p a b => by omega, fun h => by omega⟩
  | succ d ih =>
    by_cases h : c.wd s = true ∧ clsOf (c.op s) = .eff
    · exact ⟨s, Nat.le_refl _, hs, fun p a b => by omega, fun _ => h⟩
    · obtain ⟨τ, a, b, e, g⟩ := ih (s + 1) (by omega) (by omega)
      refine ⟨τ, by omega, b, fun p hp hpt => ?_, g⟩
      by_cases e2 : p = s
      · subst e2; exact h
      · exact e p (by omega) hpt
end
structure Inv (c : Ctx) (ι0 : Inj) (a0 : Act) (w0 : World) (listed : Array Bool) (τ : Nat) (ι : Inj) (a : Act) (w : World) : Prop where
  lsz : listed.size = c.ops.size
  closed : ∀ i j, j < c.ops.size → listed.getD j false = true → i < c.ops.size → i ≠ j → isAhead c.A i j = true → listed.getD i false = true
  τle : τ ≤ c.N
  eff : ∀ p, p < c.N → c.wd p = true → clsOf (c.op p) = .eff → (listed.getD (c.J p) false = true ↔ p < τ)
  τend : τ < c.N → c.wd τ = true ∧ clsOf (c.op τ) = .eff
  defs : AEq a0 a
  size : (c.es 0).length ≤ a.tmps.size
  env : ∀ t, VR ι (cur (c.es 0) (fun p => (c.op p).dst) c.vs (fun p => listed.getD (c.J p) false) c.N t) (a.tmps.getD t undef)
  hr : HR ι (c.Hs τ) w
  pend : ∀ id d, ι id = some d → (c.Hs τ).next ≤ id → id < (c.Hs c.N).next → ∃ p l, τ ≤ p ∧ p < c.N ∧ listed.getD (c.J p) false = true ∧ c.Hs (p + 1) = (c.Hs p).new (.cells false l) ∧ id = (c.Hs p).next ∧ d.ro = false ∧ OR ι d w (.cells false l)
  gap : ∀ p, p < c.N → listed.getD (c.J p) false = false → ∀ id, (c.Hs p).next ≤ id → id < (c.Hs (p + 1)).next → ι id = none
  unm : ∀ p l, p < τ → listed.getD (c.J p) false = false → c.Hs (p + 1) = (c.Hs p).new (.cells false l) → (c.Hs τ).obj (c.Hs p).next = some (.cells false l)
  ext : ι0.le ι
  new : ∀ id d, ι id = some d → ι0 id = none → (c.Hs 0).next ≤ id ∧ id < (c.Hs c.N).next ∧ d.ro = false ∧ (w0.heap.size ≤ d.blk ∨ Own ι0 (c.Hs 0) d.blk)
  dead : ∀ id, id < (c.Hs 0).next → (c.Hs 0).obj id = none → (c.Hs τ).obj id = none
  keep : ∀ id, id < (c.Hs 0).next → ι0 id = none → (c.Hs τ).obj id = (c.Hs 0).obj id
  sz : w0.heap.size ≤ w.heap.size
  fr : ∀ b, b < w0.heap.size → ¬ Own ι0 (c.Hs 0) b → w.heap[b]? = w0.heap[b]?
  io : w.os = w0.os ∧ w.output = w0.output ∧ w.tape = w0.tape
theorem getD_set {l : Array Bool} {i j : Nat} (hi : i < l.size) : (l.setIfInBounds i true).getD j false = if j = i then true else l.getD j false := by
  by_cases e : j = i
  · subst e; simp [Array.getD, hi]
  · simp only [if_neg e, Array.getD_eq_getD_getElem?]
    simp [Array.getElem?_setIfInBounds, Ne.symm e]
section
variable {c : Ctx} (hc : CtxOk c) {ι0 : Inj} {a0 : Act} {w0 : World} {listed : Array Bool} {τ : Nat} {ι : Inj} {a : Act} {w : World}
include hc
theorem Inv.writers (I : Inv c ι0 a0 w0 listed τ ι a w) {p : Nat} (hp : p < c.N) (hun : listed.getD (c.J p) false = false) (hpre : ∀ i, i < c.ops.size → i ≠ c.J p → isAhead c.A i (c.J p) = true → listed.getD i false = true)
    {q t : Nat} (hq : q < c.N) (hne : q ≠ p) (hd : (c.op q).dst = some t) (ht : t ∈ readsG c.ops.toList (c.op p) ∨ (c.op p).dst = some t) : listed.getD (c.J q) false = true ↔ q < p := by
  have hj : c.J q ≠ c.J p := fun e => hne (hc.inj hq hp e)
  have hcl : clashG c.ops.toList (c.op q) (c.op p) = true := by
    unfold clashG; rw [hd]
    rcases ht with ht | ht
    · simp [ht]
    · simp [ht]
  have ht := hc.ok.clash _ _ _ _ (hc.op q hq) (hc.op p hp) hj hcl
  unfold tied at ht
  rw [Bool.or_eq_true] at ht
  rcases ht with ht | ht
  · exact ⟨fun _ => hc.ok.pos _ _ _ _ (hc.get hq) (hc.get hp) hj ht, fun _ => hpre _ (hc.jlt hq) hj ht⟩
  · have h1 := hc.ok.pos _ _ _ _ (hc.get hp) (hc.get hq) (Ne.symm hj) ht
    refine ⟨fun h => ?_, fun h => by omega⟩
    have := I.closed _ _ (hc.jlt hq) h (hc.jlt hp) (Ne.symm hj) ht
    rw [hun] at this; cases this
theorem Inv.reads (I : Inv c ι0 a0 w0 listed τ ι a w) {p : Nat} (hp : p < c.N) (hun : listed.getD (c.J p) false = false) (hpre : ∀ i, i < c.ops.size → i ≠ c.J p → isAhead c.A i (c.J p) = true → listed.getD i false = true) :
    ER ι (maskE (readsG c.ops.toList (c.op p)) (c.es p)) a.tmps := by
  have hlen : (c.es p).length = (c.es 0).length := by
    have : ∀ q, q ≤ c.N → (c.es q).length = (c.es 0).length := by
      intro q
      induction q with
      | zero => intro _; rfl
      | succ q ih => intro hq; rw [(hc.st q (by omega)).en, ← ih (by omega)]; cases (c.op q).dst <;> simp [putE]
    exact this p (by omega)
  refine ⟨by rw [maskE_length, hlen]; exact I.size, fun t => ?_⟩
  rw [maskE_get]
  split
  · rename_i ht
    have ht : t ∈ readsG c.ops.toList (c.op p) := by simpa using ht
    have := cur_upto (D := fun p => listed.getD (c.J p) false) (t := t) (dst := fun p => (c.op p).dst) (vs := c.vs) (e0 := c.es 0) rfl (fun q hq => (hc.st q hq).en) (p := p) (N := c.N) (by omega) (fun q hq hd => by
      by_cases e : q = p
      · subst e; simp [hun]
      · exact I.writers hc hp hun hpre hq e hd (.inl ht))
    rw [← this]; exact I.env t
  · trivial
theorem Inv.env_after (I : Inv c ι0 a0 w0 listed τ ι a w) {p : Nat} (hp : p < c.N) (hun : listed.getD (c.J p) false = false) (hpre : ∀ i, i < c.ops.size → i ≠ c.J p → isAhead c.A i (c.J p) = true → listed.getD i false = true)
    {ι' : Inj} (hle : ι.le ι') {v' : Value} (hv : VR ι' (c.vs p) v') (t : Nat) :
    VR ι' (cur (c.es 0) (fun p => (c.op p).dst) c.vs (fun q => (listed.setIfInBounds (c.J p) true).getD (c.J q) false) c.N t) ((a.put (c.op p).dst v').tmps.getD t undef) := by
  have hjl : c.J p < listed.size := by rw [I.lsz]; exact hc.jlt hp
  have hD : ∀ q, q < c.N → ((listed.setIfInBounds (c.J p) true).getD (c.J q) false) = if q = p then true else listed.getD (c.J q) false := by
    intro q hq
    rw [getD_set hjl]
    by_cases e : q = p
    · subst e; simp
    · rw [if_neg e, if_neg (fun h => e (hc.inj hq hp h))]
  by_cases hd : (c.op p).dst = some t
  · have := cur_upto (D := fun q => (listed.setIfInBounds (c.J p) true).getD (c.J q) false) (t := t) (dst := fun p => (c.op p).dst) (vs := c.vs) (e0 := c.es 0) rfl (fun q hq => (hc.st q hq).en) (p := p + 1) (N := c.N) (by omega) (fun q hq hdq => by
      rw [hD q hq]
      by_cases e : q = p
      · subst e; simp
      · rw [if_neg e, I.writers hc hp hun hpre hq e hdq (.inr hd)]; omega)
    rw [this, (hc.st p hp).en, hd]
    simp only [putE, Act.put]
    have hlen : (c.es p).length ≤ a.tmps.size := by
      have := (I.reads hc hp hun hpre).size
      rwa [maskE_length] at this
    by_cases hl : t < (c.es p).length
    · have h2 : t < a.tmps.size := by omega
      have e1 : ((c.es p).set t (c.vs p)).getD t .un = c.vs p := by simp [List.getD, hl]
      have e2 : (a.tmps.setIfInBounds t v').getD t undef = v' := by simp [Array.getD, h2]
      rw [e1, e2]; exact hv
    · have e1 : ((c.es p).set t (c.vs p)).getD t .un = .un := by rw [List.getD, List.getElem?_eq_none (by simp; omega)]; rfl
      rw [e1]; trivial
  · have e1 : cur (c.es 0) (fun p => (c.op p).dst) c.vs (fun q => (listed.setIfInBounds (c.J p) true).getD (c.J q) false) c.N t = cur (c.es 0) (fun p => (c.op p).dst) c.vs (fun q => listed.getD (c.J q) false) c.N t := by
      refine cur_eq fun q hq hdq => ?_
      rw [hD q hq, if_neg (by rintro rfl; exact hd hdq)]
    have e2 : (a.put (c.op p).dst v').tmps.getD t undef = a.tmps.getD t undef := by
      cases hdd : (c.op p).dst with
      | none => rfl
      | some s =>
        have : s ≠ t := by rintro rfl; exact hd hdd
        simp [Act.put, this]
    rw [e1, e2]
    exact VR.mono hle (I.env t)
theorem Inv.still (I : Inv c ι0 a0 w0 listed τ ι a w) {p : Nat} (hp : p < c.N) (hun : listed.getD (c.J p) false = false) (hpre : ∀ i, i < c.ops.size → i ≠ c.J p → isAhead c.A i (c.J p) = true → listed.getD i false = true)
    (hne : ¬ (c.wd p = true ∧ clsOf (c.op p) = .eff)) (hna : ∀ l, c.Hs (p + 1) ≠ (c.Hs p).new (.cells false l)) {v' : Value} (hv : VR ι (c.vs p) v') :
    Inv c ι0 a0 w0 (listed.setIfInBounds (c.J p) true) τ ι (a.put (c.op p).dst v') w := by
  have hjl : c.J p < listed.size := by rw [I.lsz]; exact hc.jlt hp
  have hg : ∀ j, (listed.setIfInBounds (c.J p) true).getD j false = if j = c.J p then true else listed.getD j false := fun j => getD_set hjl
  refine ⟨by simp [I.lsz], ?_, I.τle, ?_, I.τend, ?_, ?_, fun t => I.env_after hc hp hun hpre (fun _ _ h => h) hv t, I.hr, ?_, ?_, ?_, I.ext, I.new, I.dead, I.keep, I.sz, I.fr, I.io⟩
  · intro i j hjs hl his hij hah
    rw [hg] at hl ⊢
    by_cases e : j = c.J p
    · subst e
      rw [if_neg hij]; exact hpre i his hij hah
    · rw [if_neg e] at hl
      by_cases e2 : i = c.J p
      · simp [e2]
      · rw [if_neg e2]; exact I.closed i j hjs hl his hij hah
  · intro q hq hw hcl
    rw [hg]
    by_cases e : c.J q = c.J p
    · have := hc.inj hq hp e
      subst this; exact absurd ⟨hw, hcl⟩ hne
    · rw [if_neg e]; exact I.eff q hq hw hcl
  · exact I.defs.trans (AEq.put _ _ _)
  · have := I.size; cases (c.op p).dst <;> simpa [Act.put] using this
  · intro id d h1 h2 h3
    obtain ⟨q, l, x1, x2, x3, x4⟩ := I.pend id d h1 h2 h3
    refine ⟨q, l, x1, x2, ?_, x4⟩
    rw [hg]; split
    · rfl
    · exact x3
  · intro q hq hl id h1 h2
    rw [hg] at hl
    split at hl
    · cases hl
    · exact I.gap q hq hl id h1 h2
  · intro q l hq hl hH
    rw [hg] at hl
    split at hl
    · cases hl
    · exact I.unm q l hq hl hH
theorem Inv.loads (I : Inv c ι0 a0 w0 listed τ ι a w) {p : Nat} (hp : p < c.N) (hun : listed.getD (c.J p) false = false) (hpre : ∀ i, i < c.ops.size → i ≠ c.J p → isAhead c.A i (c.J p) = true → listed.getD i false = true)
    (hw : c.wd p = true) (hcl : clsOf (c.op p) = .load) {q : Nat × Nat} {l : List Sc} (hrd : (c.Hs p).rd q.1 q.2 l.length = some l)
    (hsame : ∀ p', p < p' → p' < c.N → c.wd p' = true → clsOf (c.op p') = .eff → tied c.A (c.J p) (c.J p') = false → (c.Hs (p' + 1)).rd q.1 q.2 l.length = some l) {d : IB} (hd : ι q.1 = some d) :
    ∃ vs, LR ι l vs ∧ ∀ (j : Nat) u, vs[j]? = some u → w.cell? ⟨d.blk, d.base + q.2 + j, none⟩ = some u := by
  have hno : ∀ p', τ ≤ p' → p' < p → ¬ (c.wd p' = true ∧ clsOf (c.op p') = .eff) := by
    intro p' h1 h2 h3
    have hl : listed.getD (c.J p') false = false := by
      cases hb : listed.getD (c.J p') false with
      | false => rfl
      | true => have := (I.eff p' (by omega) h3.1 h3.2).1 hb; omega
    have hne : c.J p ≠ c.J p' := fun e => by have := hc.inj hp (by omega) e; omega
    rcases hc.ok.load _ _ _ _ _ _ (hc.get hp) (hc.get (show p' < c.N by omega)) (hc.op p hp) (hc.op p' (by omega)) hne hcl h3.2 with ht | ht
    · unfold tied at ht
      rw [Bool.or_eq_true] at ht
      rcases ht with ht | ht
      · have := hc.ok.pos _ _ _ _ (hc.get hp) (hc.get (show p' < c.N by omega)) hne ht; omega
      · have := hpre _ (hc.jlt (by omega)) (Ne.symm hne) ht
        rw [hl] at this; cases this
    · omega
  have rdobj : ∀ (H H' : AH) (id off m : Nat), H'.obj id = H.obj id → H'.rd id off m = H.rd id off m := by
    intro H H' id off m h; unfold AH.rd; rw [h]
  by_cases hid : q.1 < (c.Hs τ).next
  · -- an object of the heap as it is now
    have hnow : (c.Hs τ).rd q.1 q.2 l.length = some l := by
      by_cases hτ : τ ≤ p
      · have := (hc.between hτ (by omega) hno).1 q.1 hid
        rw [← rdobj _ _ _ _ _ this]; exact hrd
      · -- the effects between have been done already: each was looked behind
        have hidp : q.1 < (c.Hs p).next := by
          rcases Nat.lt_or_ge q.1 (c.Hs p).next with h | h
          · exact h
          · have := hc.fut (show p ≤ c.N by omega) q.1 h
            unfold AH.rd at hrd; rw [this] at hrd; cases hrd
        have chain : ∀ m, p ≤ m → m ≤ τ → (c.Hs m).rd q.1 q.2 l.length = some l := by
          intro m
          induction m with
          | zero => intro h1 h2; have : p = 0 := by omega
                    subst this; exact hrd
          | succ m ih =>
            intro h1 h2
            by_cases e : p = m + 1
            · subst e; exact hrd
            · have ihm := ih (by omega) (by omega)
              have hm : m < c.N := by have := I.τle; omega
              by_cases he : c.wd m = true ∧ clsOf (c.op m) = .eff
              · by_cases hpm : p = m
                · subst hpm; rw [he.2] at hcl; cases hcl
                · refine hsame m (by omega) hm he.1 he.2 ?_
                  have hne : c.J p ≠ c.J m := fun e => by have := hc.inj hp hm e; omega
                  have hlm : listed.getD (c.J m) false = true := (I.eff m hm he.1 he.2).2 (by omega)
                  cases htd : tied c.A (c.J p) (c.J m) with
                  | false => rfl
                  | true =>
                    exfalso
                    unfold tied at htd
                    rw [Bool.or_eq_true] at htd
                    rcases htd with htd | htd
                    · have := I.closed _ _ (hc.jlt hm) hlm (hc.jlt hp) hne htd
                      rw [hun] at this; cases this
                    · have := hc.ok.pos _ _ _ _ (hc.get hm) (hc.get hp) (Ne.symm hne) htd; omega
              · have hidm : q.1 < (c.Hs m).next := Nat.lt_of_lt_of_le hidp (hc.nxs (by omega) (by omega))
                have := (hc.between (show m ≤ m + 1 by omega) (by omega) (fun p' a b => (show p' = m by omega) ▸ he)).1 q.1 hidm
                rw [rdobj _ _ _ _ _ this]; exact ihm
        exact chain τ (by omega) (Nat.le_refl _)
    obtain ⟨vs, h1, _, _, h2⟩ := I.hr.read hd hnow
    exact ⟨vs, h1, h2⟩
  · -- an object that was made ahead of its time
    have hidp : q.1 < (c.Hs p).next := by
      rcases Nat.lt_or_ge q.1 (c.Hs p).next with h | h
      · exact h
      · have := hc.fut (show p ≤ c.N by omega) q.1 h
        unfold AH.rd at hrd; rw [this] at hrd; cases hrd
    have hNp := hc.nxs (show p ≤ c.N by omega) (Nat.le_refl _)
    obtain ⟨p1, l1, x1, x2, x3, x4, x5, x6, x7⟩ := I.pend q.1 d hd (by omega) (by omega)
    have hp1 : p1 < p := by
      rcases Nat.lt_or_ge p1 p with h | h
      · exact h
      · have := hc.nxs h (by omega); omega
    have hobj : (c.Hs p).obj q.1 = some (.cells false l1) := by
      have h1 := (hc.between (show p1 + 1 ≤ p by omega) (by omega) (fun p' a b => hno p' (by omega) b)).1 q.1 (by rw [x4, x5]; simp [AH.new])
      rw [h1, x4, x5]; simp [AH.new]
    unfold AH.rd at hrd
    rw [hobj] at hrd
    dsimp only at hrd
    split at hrd
    case isFalse => cases hrd
    rename_i hle
    obtain ⟨vs, h1, h2⟩ := x7.read l.length q.2 hle
    rw [Option.some.inj hrd] at h1
    exact ⟨vs, h1, h2⟩
end
end Go.Proofs.YtdfpjhlckjognaaGreat.Fw
set_option linter.unusedSimpArgs false
set_option linter.unusedVariables false
set_option linter.unusedSectionVars false
namespace Go.Proofs.YtdfpjhlckjognaaGreat.Fw
open Go
section
variable {c : Ctx} (hc : CtxOk c) {ι0 : Inj} {a0 : Act} {w0 : World} {listed : Array Bool} {τ : Nat} {ι : Inj} {a : Act} {w : World}
include hc
theorem Inv.listed_after (I : Inv c ι0 a0 w0 listed τ ι a w) {p : Nat} (hp : p < c.N) (j : Nat) : (listed.setIfInBounds (c.J p) true).getD j false = if j = c.J p then true else listed.getD j false :=
  getD_set (by rw [I.lsz]; exact hc.jlt hp)
theorem Inv.closed_after (I : Inv c ι0 a0 w0 listed τ ι a w) {p : Nat} (hp : p < c.N) (hpre : ∀ i, i < c.ops.size → i ≠ c.J p → isAhead c.A i (c.J p) = true → listed.getD i false = true) :
    ∀ i j, j < c.ops.size → (listed.setIfInBounds (c.J p) true).getD j false = true → i < c.ops.size → i ≠ j → isAhead c.A i j = true → (listed.setIfInBounds (c.J p) true).getD i false = true := by
  intro i j hjs hl his hij hah
  rw [I.listed_after hc hp] at hl ⊢
  by_cases e : j = c.J p
  · subst e
    rw [if_neg hij]; exact hpre i his hij hah
  · rw [if_neg e] at hl
    by_cases e2 : i = c.J p
    · simp [e2]
    · rw [if_neg e2]; exact I.closed i j hjs hl his hij hah
theorem new_inj {H : AH} {l l' : List Sc} (h : H.new (.cells false l) = H.new (.cells false l')) : l = l' := by
  have : (H.new (.cells false l)).obj H.next = (H.new (.cells false l')).obj H.next := by rw [h]
  simpa [AH.new] using this
theorem Inv.makes (I : Inv c ι0 a0 w0 listed τ ι a w) {p : Nat} (hp : p < c.N) (hun : listed.getD (c.J p) false = false) (hpre : ∀ i, i < c.ops.size → i ≠ c.J p → isAhead c.A i (c.J p) = true → listed.getD i false = true)
    (hne : ¬ (c.wd p = true ∧ clsOf (c.op p) = .eff)) {l : List Sc} (hH : c.Hs (p + 1) = (c.Hs p).new (.cells false l)) {vs : List Value} {ty : TypeId} {w1 : World} {v' : Value} (hsw : SameW w1 w) (hl : LR ι l vs)
    (hv : ∀ ι' : Inj, ι' (c.Hs p).next = some ⟨w.heap.size, 0, l.length, false⟩ → VR ι' (c.vs p) v') :
    ∃ ι', Inv c ι0 a0 w0 (listed.setIfInBounds (c.J p) true) τ ι' (a.put (c.op p).dst v') (w1.alloc (.cells ⟨vs⟩ ty)) := by
  have hw1 := hsw.1
  have hg := I.listed_after hc hp
  have hnp : (c.Hs (p + 1)).next = (c.Hs p).next + 1 := by rw [hH]; rfl
  have hn : ι (c.Hs p).next = none := I.gap p hp hun _ (Nat.le_refl _) (by omega)
  have hlen : vs.length = l.length := hl.length
  have hh1 : HR ι (c.Hs τ) w1 := I.hr.same_heap hw1
  have hle := Inj.le_add (d := (⟨w.heap.size, 0, l.length, false⟩ : IB)) hn
  have hOR : OR (ι.add (c.Hs p).next ⟨w.heap.size, 0, l.length, false⟩) ⟨w.heap.size, 0, l.length, false⟩ (w1.alloc (.cells ⟨vs⟩ ty)) (.cells false l) := by
    have := OR.cells_new (w := w1) (e := ty) (c := ⟨vs⟩) (hl.mono fun _ _ => SR.mono hle) (fun j v hj => by simpa using hj) (by simp; omega)
    rw [hw1] at this
    simpa [hlen] using this
  have old : ∀ b, b < w.heap.size → (w1.alloc (.cells ⟨vs⟩ ty)).heap[b]? = w.heap[b]? := by
    intro b hb; show (w1.heap.push _)[b]? = _; rw [Array.getElem?_push, if_neg (by rw [hw1]; omega), hw1]
  have hτp : τ ≤ p → (c.Hs τ).next ≤ (c.Hs p).next := fun h => hc.nxs h (by omega)
  have hpτ : p < τ → (c.Hs p).next < (c.Hs τ).next := fun h => by have := hc.nxs (show p + 1 ≤ τ by omega) I.τle; omega
  have h0p := hc.nxs (Nat.zero_le p) (by omega)
  have hpN := hc.nxs (show p + 1 ≤ c.N by omega) (Nat.le_refl _)
  refine ⟨ι.add (c.Hs p).next ⟨w.heap.size, 0, l.length, false⟩, by simp [I.lsz], I.closed_after hc hp hpre, I.τle, ?_, I.τend, ?_, ?_,
    fun t => I.env_after hc hp hun hpre hle (hv _ (Inj.add_at _ _ _)) t, ?_, ?_, ?_, ?_, fun id d h => hle _ _ (I.ext _ _ h), ?_, I.dead, I.keep, ?_, ?_, hsw.2.1.trans I.io.1, hsw.2.2.1.trans I.io.2.1, hsw.2.2.2.trans I.io.2.2⟩
  · intro q hq hw hcl
    rw [hg]
    by_cases e : c.J q = c.J p
    · have := hc.inj hq hp e
      subst this; exact absurd ⟨hw, hcl⟩ hne
    · rw [if_neg e]; exact I.eff q hq hw hcl
  · exact I.defs.trans (AEq.put _ _ _)
  · have := I.size; cases (c.op p).dst <;> simpa [Act.put] using this
  · refine hh1.link hn (by simp [hw1]) fun o ho => ?_
    by_cases h : p < τ
    · have := I.unm p l h hun hH
      rw [this] at ho; cases ho; exact hOR
    · have := hc.fut I.τle (c.Hs p).next (hτp (by omega))
      rw [this] at ho; cases ho
  · intro id d h1 h2 h3
    by_cases e : id = (c.Hs p).next
    · subst e
      rw [Inj.add_at] at h1; cases h1
      refine ⟨p, l, ?_, hp, by rw [hg]; simp, hH, rfl, rfl, hOR⟩
      rcases Nat.lt_or_ge p τ with h | h
      · have := hpτ h; omega
      · exact h
    · rw [Inj.add_ne e] at h1
      obtain ⟨q, l', x1, x2, x3, x4, x5, x6, x7⟩ := I.pend id d h1 h2 h3
      refine ⟨q, l', x1, x2, ?_, x4, x5, x6, x7.mono hle (old _ (I.hr.lt id d h1))⟩
      rw [hg]; split
      · rfl
      · exact x3
  · intro q hq hlq id h1 h2
    rw [hg] at hlq
    split at hlq
    · cases hlq
    · rename_i hne'
      have e : id ≠ (c.Hs p).next := by
        rintro rfl
        rcases Nat.lt_trichotomy q p with h | h | h
        · have := hc.nxs (show q + 1 ≤ p by omega) (by omega); omega
        · subst h; exact hne' rfl
        · have := hc.nxs (show p + 1 ≤ q by omega) (by omega); omega
      rw [Inj.add_ne e]; exact I.gap q hq hlq id h1 h2
  · intro q l' hq hlq hHq
    rw [hg] at hlq
    split at hlq
    · cases hlq
    · exact I.unm q l' hq hlq hHq
  · intro id d h1 h2
    by_cases e : id = (c.Hs p).next
    · subst e
      rw [Inj.add_at] at h1; cases h1
      exact ⟨h0p, by omega, rfl, .inl I.sz⟩
    · rw [Inj.add_ne e] at h1; exact I.new id d h1 h2
  · simp [hw1]; have := I.sz; omega
  · intro b hb hno
    rw [old b (Nat.lt_of_lt_of_le hb I.sz)]; exact I.fr b hb hno
theorem Inv.first (I : Inv c ι0 a0 w0 listed τ ι a w) {p : Nat} (hp : p < c.N) (hun : listed.getD (c.J p) false = false) (hpre : ∀ i, i < c.ops.size → i ≠ c.J p → isAhead c.A i (c.J p) = true → listed.getD i false = true)
    (hE : c.wd p = true ∧ clsOf (c.op p) = .eff) : p = τ := by
  have h1 : ¬ p < τ := fun h => by rw [(I.eff p hp hE.1 hE.2).2 h] at hun; cases hun
  rcases Nat.lt_trichotomy τ p with h | h | h
  · exfalso
    have hτ : τ < c.N := by omega
    have hEτ := I.τend hτ
    have hl : listed.getD (c.J τ) false = false := by
      cases hb : listed.getD (c.J τ) false with
      | false => rfl
      | true => have := (I.eff τ hτ hEτ.1 hEτ.2).1 hb; omega
    have hne : c.J τ ≠ c.J p := fun e => by have := hc.inj hτ hp e; omega
    have ht := hc.ok.eff _ _ _ _ (hc.op τ hτ) (hc.op p hp) hne hEτ.2 hE.2
    unfold tied at ht
    rw [Bool.or_eq_true] at ht
    rcases ht with ht | ht
    · have := hpre _ (hc.jlt hτ) hne ht; rw [hl] at this; cases this
    · have := hc.ok.pos _ _ _ _ (hc.get hp) (hc.get hτ) (Ne.symm hne) ht; omega
  · exact h.symm
  · exact absurd h h1
theorem Inv.own_back (I : Inv c ι0 a0 w0 listed τ ι a w) (g0 : Gap ι0 (c.Hs 0) (c.Hs c.N)) {b : Nat} (hb : b < w0.heap.size) (h : Own ι (c.Hs τ) b) : Own ι0 (c.Hs 0) b := by
  obtain ⟨id, d, hd, hlt, hl, hro, rfl⟩ := h
  cases h0 : ι0 id with
  | none => rcases I.new id d hd h0 with ⟨_, _, _, h | h⟩
            · omega
            · exact h
  | some d0 =>
    have := I.ext id d0 h0
    rw [hd] at this; cases this
    by_cases hid : id < (c.Hs 0).next
    · exact ⟨id, d, h0, hid, fun hn => hl (I.dead id hid hn), hro, rfl⟩
    · have := g0 id (by omega) (Nat.lt_of_lt_of_le hlt (hc.nxs I.τle (Nat.le_refl _))); rw [h0] at this; cases this
theorem Inv.effect (I : Inv c ι0 a0 w0 listed τ ι a w) (g0 : Gap ι0 (c.Hs 0) (c.Hs c.N)) (hτ : τ < c.N) (hun : listed.getD (c.J τ) false = false) (hpre : ∀ i, i < c.ops.size → i ≠ c.J τ → isAhead c.A i (c.J τ) = true → listed.getD i false = true)
    {v' : Value} {w' : World} {ι' : Inj} (hv : VR ι' (c.vs τ) v') (hh : HR ι' (c.Hs (τ + 1)) w') (s : Stp ι (c.Hs τ) w ι' (c.Hs (τ + 1)) w') :
    ∃ τ', Inv c ι0 a0 w0 (listed.setIfInBounds (c.J τ) true) τ' ι' (a.put (c.op τ).dst v') w' := by
  have hg := I.listed_after hc hτ
  have hEτ := I.τend hτ
  obtain ⟨τ', h1, h2, hno, hend⟩ := hc.nextEff (τ + 1) (by omega)
  obtain ⟨b1, b2, b3⟩ := hc.between h1 h2 hno
  have n01 := hc.nxs (Nat.zero_le τ) (by omega)
  have n12 := hc.nx hτ
  have n1N := hc.nxs (show τ + 1 ≤ c.N by omega) (Nat.le_refl _)
  have ntN := hc.nxs h2 (Nat.le_refl _)
  have n1t := hc.nxs h1 h2
  have back : ∀ id d, ι' id = some d → (c.Hs (τ + 1)).next ≤ id → ι id = some d := by
    intro id d hd hge
    cases h : ι id with
    | none => have := (s.new id d hd h).2.1; omega
    | some d0 => have := s.ext id d0 h; rw [hd] at this; cases this; rfl
  have orm : ∀ id d o, ι id = some d → (c.Hs τ).next ≤ id → d.ro = false → OR ι d w o → OR ι' d w' o := by
    intro id d o hd hge hro hor
    refine hor.mono s.ext (s.fr _ (I.hr.lt id d hd) ?_)
    rintro ⟨id2, d2, hd2, hlt2, hl2, hro2, hb2⟩
    have hne : id ≠ id2 := by omega
    rcases I.hr.inj id id2 d d2 hne hd hd2 (.inl hge) (.inr hl2) with ⟨h, _⟩ | h
    · rw [hro] at h; cases h
    · exact h hb2.symm
  have noteq : ∀ q id, q < c.N → q ≠ τ → (c.Hs q).next ≤ id → id < (c.Hs (q + 1)).next → (c.Hs τ).next ≤ id → id < (c.Hs (τ + 1)).next → False := by
    intro q id hq hne x1 x2 x3 x4
    rcases Nat.lt_or_gt_of_ne hne with h | h
    · have := hc.nxs (show q + 1 ≤ τ by omega) (by omega); omega
    · have := hc.nxs (show τ + 1 ≤ q by omega) (by omega); omega
  refine ⟨τ', by simp [I.lsz], I.closed_after hc hτ hpre, h2, ?_, hend, ?_, ?_, fun t => I.env_after hc hτ hun hpre s.ext hv t, ?_, ?_, ?_, ?_, fun id d h => s.ext _ _ (I.ext _ _ h), ?_, ?_, ?_, Nat.le_trans I.sz s.sz, ?_, s.io.1.trans I.io.1, s.io.2.1.trans I.io.2.1, s.io.2.2.trans I.io.2.2⟩
  · intro q hq hw hcl
    rw [hg]
    by_cases e : c.J q = c.J τ
    · have := hc.inj hq hτ e
      subst this; simp; omega
    · rw [if_neg e, I.eff q hq hw hcl]
      have hqτ : q ≠ τ := fun h => e (by rw [h])
      refine ⟨fun h => by omega, fun h => ?_⟩
      rcases Nat.lt_or_ge q τ with h' | h'
      · exact h'
      · exact absurd ⟨hw, hcl⟩ (hno q (by omega) h)
  · exact I.defs.trans (AEq.put _ _ _)
  · have := I.size; cases (c.op τ).dst <;> simpa [Act.put] using this
  · refine hh.grow n1t b1 (hc.fut h2) fun id d o hd hge ho => ?_
    have hlt : id < (c.Hs τ').next := by
      rcases Nat.lt_or_ge id (c.Hs τ').next with h | h
      · exact h
      · rw [hc.fut h2 id h] at ho; cases ho
    have hdι := back id d hd hge
    obtain ⟨p1, l1, x1, x2, x3, x4, x5, x6, x7⟩ := I.pend id d hdι (by omega) (by omega)
    obtain ⟨p2, l2, y1, y2, y3, y4, y5⟩ := b2 id hge hlt
    have hpp : p1 = p2 := by
      rcases Nat.lt_trichotomy p1 p2 with h | h | h
      · have := hc.nxs (show p1 + 1 ≤ p2 by omega) (by omega)
        rw [x4] at this; simp only [AH.new] at this; omega
      · exact h
      · have := hc.nxs (show p2 + 1 ≤ p1 by omega) (by omega)
        rw [y3] at this; simp only [AH.new] at this; omega
    subst hpp
    rw [x4] at y3
    have hll := new_inj hc y3
    subst hll
    rw [y5] at ho; cases ho
    exact orm id d _ hdι (by omega) x6 x7
  · intro id d hd hge hlt
    have hdι := back id d hd (by omega)
    obtain ⟨p1, l1, x1, x2, x3, x4, x5, x6, x7⟩ := I.pend id d hdι (by omega) hlt
    refine ⟨p1, l1, ?_, x2, ?_, x4, x5, x6, orm id d _ hdι (by omega) x6 x7⟩
    · rcases Nat.lt_or_ge p1 τ' with h | h
      · have := hc.nxs (show p1 + 1 ≤ τ' by omega) h2
        rw [x4] at this; simp only [AH.new] at this; omega
      · exact h
    · rw [hg]; split
      · rfl
      · exact x3
  · intro q hq hlq id x1 x2
    rw [hg] at hlq
    split at hlq
    · cases hlq
    · rename_i hne
      have hqτ : q ≠ τ := fun h => hne (by rw [h])
      have h0 := I.gap q hq hlq id x1 x2
      cases h : ι' id with
      | none => rfl
      | some d =>
        obtain ⟨y1, y2, _⟩ := s.new id d h h0
        exact (noteq q id hq hqτ x1 x2 y1 y2).elim
  · intro p l hp hl hH
    rw [hg] at hl
    split at hl
    · cases hl
    · rename_i hne
      have hpτ : p ≠ τ := fun h => hne (by rw [h])
      rcases Nat.lt_or_gt_of_ne hpτ with h | h
      · have h3 := I.unm p l h hl hH
        have hlt : (c.Hs p).next < (c.Hs τ).next := by
          have := hc.nxs (show p + 1 ≤ τ by omega) (by omega)
          rw [hH] at this; simp only [AH.new] at this; omega
        have hn := I.gap p (by omega) hl _ (Nat.le_refl _) (by rw [hH]; simp [AH.new])
        rw [b1 _ (by omega), s.keep _ hlt hn, h3]
      · have h3 := (hc.between (show p + 1 ≤ τ' by omega) h2 (fun q x1 x2 => hno q (by omega) x2)).1 (c.Hs p).next (by rw [hH]; simp [AH.new])
        rw [h3, hH]; simp [AH.new]
  · intro id d hd hn
    cases h : ι id with
    | some d0 => have := s.ext id d0 h; rw [hd] at this; cases this; exact I.new id d h hn
    | none =>
      obtain ⟨x1, x2, x3, x4⟩ := s.new id d hd h
      refine ⟨by omega, by omega, x3, ?_⟩
      rcases x4 with x4 | x4
      · exact .inl (Nat.le_trans I.sz x4)
      · by_cases hb : d.blk < w0.heap.size
        · exact .inr (I.own_back hc g0 hb x4)
        · exact .inl (by omega)
  · intro id hlt hn
    rw [b1 id (by omega)]
    exact s.dead id (by omega) (I.dead id hlt hn)
  · intro id hlt hn
    have hnι : ι id = none := by
      cases h : ι id with
      | none => rfl
      | some d => have := (I.new id d h hn).1; omega
    rw [b1 id (by omega), s.keep id (by omega) hnι]
    exact I.keep id hlt hn
  · intro b hb hnb
    rw [s.fr b (Nat.lt_of_lt_of_le hb I.sz) (fun h => hnb (I.own_back hc g0 hb h))]
    exact I.fr b hb hnb
theorem Inv.init (g0 : Gap ι0 (c.Hs 0) (c.Hs c.N)) (he : ER ι0 (c.es 0) a0.tmps) (hh : HR ι0 (c.Hs 0) w0) : ∃ τ, Inv c ι0 a0 w0 (Array.replicate c.ops.size false) τ ι0 a0 w0 := by
  obtain ⟨τ, h1, h2, hno, hend⟩ := hc.nextEff 0 (Nat.zero_le _)
  obtain ⟨b1, b2, b3⟩ := hc.between h1 h2 hno
  have hf : ∀ j, (Array.replicate c.ops.size false).getD j false = false := by
    intro j; simp only [Array.getD_eq_getD_getElem?]; by_cases h : j < c.ops.size <;> simp [h]
  have n0t := hc.nxs h1 h2
  have ntN := hc.nxs h2 (Nat.le_refl _)
  refine ⟨τ, by simp, ?_, h2, ?_, hend, AEq.refl _, he.size, ?_, ?_, ?_, ?_, ?_, fun _ _ h => h, fun id d h h' => (by rw [h] at h'; cases h'), ?_, ?_, Nat.le_refl _, fun _ _ _ => rfl, rfl, rfl, rfl⟩
  · intro i j _ h; rw [hf] at h; cases h
  · intro p hp hw hcl
    rw [hf]
    refine ⟨fun h => (by cases h), fun h => absurd ⟨hw, hcl⟩ (hno p (Nat.zero_le _) h)⟩
  · intro t
    have := cur_upto (D := fun p => (Array.replicate c.ops.size false).getD (c.J p) false) (t := t) (dst := fun p => (c.op p).dst) (vs := c.vs) (e0 := c.es 0) rfl (fun q hq => (hc.st q hq).en) (p := 0) (N := c.N) (Nat.zero_le _) (fun q hq hd => by simp [hf])
    rw [this]; exact he.get t
  · refine hh.grow n0t b1 (hc.fut h2) fun id d o hd hge ho => ?_
    rcases Nat.lt_or_ge id (c.Hs τ).next with h | h
    · rw [g0 id hge (by omega)] at hd; cases hd
    · rw [hc.fut h2 id h] at ho; cases ho
  · intro id d hd x1 x2
    rw [g0 id (by omega) x2] at hd; cases hd
  · intro p hp _ id x1 x2
    have a1 := hc.nxs (Nat.zero_le p) (by omega)
    have a2 := hc.nxs (show p + 1 ≤ c.N by omega) (Nat.le_refl _)
    exact g0 id (by omega) (by omega)
  · intro p l hp _ hH
    have h3 := (hc.between (show p + 1 ≤ τ by omega) h2 (fun q x1 x2 => hno q (Nat.zero_le _) x2)).1 (c.Hs p).next (by rw [hH]; simp [AH.new])
    rw [h3, hH]; simp [AH.new]
  · intro id hlt hn; rw [b1 id hlt]; exact hn
  · intro id hlt _; exact b1 id hlt
theorem Inv.fini (I : Inv c ι0 a0 w0 listed τ ι a w) (g0 : Gap ι0 (c.Hs 0) (c.Hs c.N)) (hall : ∀ p, p < c.N → listed.getD (c.J p) false = true) : ER ι (c.es c.N) a.tmps ∧ HR ι (c.Hs c.N) w ∧ Stp ι0 (c.Hs 0) w0 ι (c.Hs c.N) w := by
  have hτ : τ = c.N := by
    rcases Nat.lt_or_ge τ c.N with h | h
    · have hE := I.τend h
      have := (I.eff τ h hE.1 hE.2).1 (hall τ h); omega
    · have := I.τle; omega
  subst hτ
  have hlen : ∀ q, q ≤ c.N → (c.es q).length = (c.es 0).length := by
    intro q
    induction q with
    | zero => intro _; rfl
    | succ q ih => intro hq; rw [(hc.st q (by omega)).en, ← ih (by omega)]; cases (c.op q).dst <;> simp [putE]
  refine ⟨⟨by rw [hlen _ (Nat.le_refl _)]; exact I.size, fun t => ?_⟩, I.hr, I.ext, I.new, hc.nxs (Nat.zero_le _) (Nat.le_refl _), I.dead, I.keep, I.sz, I.fr, I.io⟩
  have := cur_upto (D := fun p => listed.getD (c.J p) false) (t := t) (dst := fun p => (c.op p).dst) (vs := c.vs) (e0 := c.es 0) rfl (fun q hq => (hc.st q hq).en) (p := c.N) (N := c.N) (Nat.le_refl _) (fun q hq hd => by simp [hall q hq, hq])
  rw [← this]; exact I.env t
theorem binds_any (e : Edge) : Region.binds .any e = bindsA e := by
  unfold Region.binds bindsA; cases h : e.ground <;> rfl
theorem Inv.step (I : Inv c ι0 a0 w0 listed τ ι a w) (g0 : Gap ι0 (c.Hs 0) (c.Hs c.N)) {i : Nat} (hi : i ∈ Region.ready .any c.ops listed) {Q : Exit → Act → World → Prop} {K : Act → World → Prop}
    (k : ∀ τ' ι' a' w', Inv c ι0 a0 w0 (listed.setIfInBounds i true) τ' ι' a' w' → K a' w') : wpOp c.P c.ops Q i K a w := by
  unfold Region.ready at hi
  rw [List.mem_filter] at hi
  obtain ⟨hir, hi⟩ := hi
  have hilt : i < c.ops.size := by simpa using hir
  obtain ⟨p, hpL⟩ := hc.ok.mem i hilt
  obtain ⟨hp, hJ⟩ := hc.at_ hpL
  subst hJ
  have hop := hc.op p hp
  rw [hop] at hi
  simp only [Option.map_some, Option.getD_some, Bool.and_eq_true, Bool.not_eq_true'] at hi
  obtain ⟨hun0, hedge⟩ := hi
  have hun : listed.getD (c.J p) false = false := by
    simp only [Array.getD_eq_getD_getElem?] at hun0 ⊢
    have : c.J p < listed.size := by rw [I.lsz]; exact hilt
    simp [this] at hun0 ⊢; exact hun0
  have hpre : ∀ i, i < c.ops.size → i ≠ c.J p → isAhead c.A i (c.J p) = true → listed.getD i false = true := by
    intro i his hne hah
    obtain ⟨e, he, hb, h3⟩ := hc.ok.back i (c.J p) _ hop his hne hah
    have h4 := Array.all_eq_true'.1 hedge e (by simpa using he)
    rw [binds_any hc, hb] at h4
    simp only [Bool.not_true, Bool.false_or] at h4
    rcases h3 with h3 | h3
    · rw [← h3]; exact h4
    · by_cases e2 : i = e.on
      · rw [e2]; exact h4
      · have : e.on < c.ops.size := by
          rcases Nat.lt_or_ge e.on listed.size with h | h
          · rw [← I.lsz]; exact h
          · simp [Array.getD, Nat.not_lt.2 h] at h4
        exact I.closed i e.on this h4 his e2 h3
  have hst := hc.st p hp
  have hER := I.reads hc hp hun hpre
  have hwd : Region.wanted (c.op p) (yielded c.ops a.tmps) = c.wd p := wantedA_sound (by rw [wantedA_mask]; exact hst.w) hER
  unfold wpOp
  rw [hop]
  dsimp only
  rw [hwd]
  cases hw : c.wd p with
  | false =>
    rw [if_neg (by simp)]
    obtain ⟨h1, h2⟩ := hst.skip hw
    refine k τ ι _ w (I.still hc hp hun hpre (by simp [hw]) (fun l hl => ?_) (by rw [h1]; exact ⟨[], rfl, rfl⟩))
    rw [h2] at hl
    have : (c.Hs p).next = ((c.Hs p).new (.cells false l)).next := by rw [← hl]
    simp [AH.new] at this
  | true =>
    rw [if_pos rfl]
    left
    have nonew : c.Hs (p + 1) = c.Hs p → ∀ l, c.Hs (p + 1) ≠ (c.Hs p).new (.cells false l) := by
      intro h l hl
      rw [h] at hl
      have : (c.Hs p).next = ((c.Hs p).new (.cells false l)).next := by rw [← hl]
      simp [AH.new] at this
    cases hcl : clsOf (c.op p) with
    | pure =>
      obtain ⟨h1, h2⟩ := hst.pur hw hcl
      obtain ⟨v', hr, hv⟩ := h2 ι a w hER
      unfold Oper.wp
      rw [hr]
      exact k τ ι _ w (I.still hc hp hun hpre (by simp [hcl]) (nonew h1) hv)
    | load =>
      obtain ⟨q, l, x, a1, a2, a3, a4⟩ := hc.ld p hp hw hcl
      obtain ⟨v', hr, hv⟩ := a3 ι a w hER (fun d hd => I.loads hc hp hun hpre hw hcl a2 a4 hd)
      unfold Oper.wp
      rw [hr]
      exact k τ ι _ w (I.still hc hp hun hpre (by simp [hcl]) (nonew (hst.load hw hcl).1) hv)
    | alloc =>
      obtain ⟨l, h1, h2⟩ := hst.alloc hw hcl
      obtain ⟨vs, ty, w1, v', hw1, hl, hr, hv⟩ := h2 ι a w hER
      unfold Oper.wp
      rw [hr]
      obtain ⟨ι', I'⟩ := I.makes hc hp hun hpre (by simp [hcl]) h1 (ty := ty) hw1 hl hv
      exact k τ ι' _ _ I'
    | eff =>
      have hpτ := I.first hc hp hun hpre ⟨hw, hcl⟩
      subst hpτ
      obtain ⟨_, h2⟩ := hst.eff hw hcl
      refine h2 ι a w hER I.hr (fun id x1 x2 => I.gap p hp hun id x1 x2) _ _ fun v' w' ι' hv hh hs => ?_
      obtain ⟨τ', I'⟩ := I.effect hc g0 hp hun hpre hv hh hs
      exact k τ' ι' _ w' I'
theorem Inv.ready_none (I : Inv c ι0 a0 w0 listed τ ι a w) (h : Region.ready .any c.ops listed = []) : ∀ p, p < c.N → listed.getD (c.J p) false = true := by
  intro p
  induction p using Nat.strongRecOn with
  | _ p ih =>
    intro hp
    cases hb : listed.getD (c.J p) false with
    | true => rfl
    | false =>
      exfalso
      have hop := hc.op p hp
      have hmem : c.J p ∈ Region.ready .any c.ops listed := by
        unfold Region.ready
        rw [List.mem_filter]
        refine ⟨by simpa using hc.jlt hp, ?_⟩
        rw [hop]
        simp only [Option.map_some, Option.getD_some, Bool.and_eq_true, Bool.not_eq_true']
        refine ⟨?_, ?_⟩
        · simp only [Array.getD_eq_getD_getElem?] at hb ⊢
          have : c.J p < listed.size := by rw [I.lsz]; exact hc.jlt hp
          simp [this] at hb ⊢; exact hb
        · rw [Array.all_eq_true']
          intro e he
          rw [binds_any hc]
          cases hbe : bindsA e with
          | false => rfl
          | true =>
            simp only [Bool.not_true, Bool.false_or]
            obtain ⟨hah, hlt, hne⟩ := hc.ok.direct _ _ e hop (by simpa using he) hbe
            obtain ⟨p', hp'⟩ := hc.ok.mem e.on hlt
            obtain ⟨hp1, hJ⟩ := hc.at_ hp'
            have := hc.ok.pos _ _ _ _ hp' (hc.get hp) hne hah
            rw [← hJ]; exact ih p' this hp1
      rw [h] at hmem; cases hmem
theorem any_order (g0 : Gap ι0 (c.Hs 0) (c.Hs c.N)) {Q : Exit → Act → World → Prop} (k : ∀ a' w' ι', AEq a0 a' → ER ι' (c.es c.N) a'.tmps → HR ι' (c.Hs c.N) w' → Stp ι0 (c.Hs 0) w0 ι' (c.Hs c.N) w' → Q .normal a' w') :
    ∀ (fuel : Nat) (U : List Nat) (listed : Array Bool) (τ : Nat) (ι : Inj) (a : Act) (w : World), Inv c ι0 a0 w0 listed τ ι a w → U.length ≤ fuel → (∀ i, i < c.ops.size → listed.getD i false = false → i ∈ U) → wpAny c.P .any c.ops Q fuel listed a w := by
  intro fuel
  induction fuel with
  | zero =>
    intro U listed τ ι a w I hU hin
    have hU0 : U = [] := List.eq_nil_of_length_eq_zero (by omega)
    have hall : ∀ i, i < c.ops.size → listed.getD i false = true := by
      intro i hi
      cases hb : listed.getD i false with
      | true => rfl
      | false => have := hin i hi hb; rw [hU0] at this; cases this
    refine ⟨?_, ?_⟩
    · unfold Region.ready
      rw [List.filter_eq_nil_iff]
      intro i hi
      have hi' : i < c.ops.size := by simpa using hi
      have := hall i hi'
      have hlt : i < listed.size := by rw [I.lsz]; exact hi'
      simp only [Array.getD_eq_getD_getElem?] at this ⊢
      simp [hlt] at this ⊢
      simp [this]
    · obtain ⟨x1, x2, x3⟩ := I.fini hc g0 (fun p hp => hall _ (hc.jlt hp))
      exact k a w ι I.defs x1 x2 x3
  | succ fuel ih =>
    intro U listed τ ι a w I hU hin
    refine ⟨fun h => ?_, fun i hi => ?_⟩
    · obtain ⟨x1, x2, x3⟩ := I.fini hc g0 (I.ready_none hc h)
      exact k a w ι I.defs x1 x2 x3
    · refine I.step hc g0 hi fun τ' ι' a' w' I' => ?_
      have hi2 := hi
      unfold Region.ready at hi2
      rw [List.mem_filter] at hi2
      obtain ⟨hir, hi3⟩ := hi2
      have hilt : i < c.ops.size := by simpa using hir
      have hlt : i < listed.size := by rw [I.lsz]; exact hilt
      have hun : listed.getD i false = false := by
        rw [Bool.and_eq_true] at hi3
        have := hi3.1
        simp only [Array.getD_eq_getD_getElem?] at this ⊢
        simp [hlt] at this ⊢; exact this
      have hiU := hin i hilt hun
      refine ih (U.erase i) _ τ' ι' a' w' I' (by rw [List.length_erase_of_mem hiU]; omega) fun j hj hjl => ?_
      rw [getD_set hlt] at hjl
      split at hjl
      · cases hjl
      · rename_i hne
        exact (List.mem_erase_of_ne hne).2 (hin j hj hjl)
end
end Go.Proofs.YtdfpjhlckjognaaGreat.Fw
