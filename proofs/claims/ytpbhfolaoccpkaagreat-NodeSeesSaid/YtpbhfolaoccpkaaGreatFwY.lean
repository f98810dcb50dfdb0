/- What a heap holds, told by parts that lie apart, and how a tree goes on over them. -/
import Derived.Test.YtpbhfolaoccpkaaGreatFwX
set_option linter.unusedSimpArgs false
set_option linter.unusedVariables false
namespace Go.Proofs.YtpbhfolaoccpkaaGreat.Fw
open Go
/-- how an element lies in cells -/
structure Enc (α : Type) where
  z : Nat
  e : α → List Sc
  len : ∀ a, (e a).length = z
def Enc.all {α : Type} (T : Enc α) (l : List α) : List Sc := l.flatMap T.e

abbrev Hp := Nat → Option AO
def one (id : Nat) (o : AO) : Hp := fun i => if i = id then some o else none

structure SlOk {α : Type} (T : Enc α) (d : SlD) (l : List α) (c : List Sc) : Prop where
  z : d.z = T.z
  len : d.len = l.length
  cap : d.len ≤ d.cap
  fit : d.off + d.cap * T.z ≤ c.length
  at_ : (c.drop d.off).take (d.len * T.z) = T.all l

inductive Assn : Type 1 where
  | ob (id : Nat) (o : AO)
  | sl {α : Type} (ro : Bool) (T : Enc α) (o : Option SlD) (l : List α)
  | ex {β : Type} (A : β → Assn)
  | sep (A B : Assn)
  | pu (p : Prop)
  | emp
abbrev pt (id : Nat) (c : List Sc) : Assn := .ob id (.cells false c)

def sat : Assn → Hp → Prop
  | .ob id o, m => m = one id o
  | .sl ro T none l, m => l = [] ∧ m = fun _ => none
  | .sl ro T (some d) l, m => ∃ c, SlOk T d l c ∧ m = one d.id (.cells ro c)
  | .ex A, m => ∃ x, sat (A x) m
  | .sep A B, m => ∃ m1 m2, sat A m1 ∧ sat B m2 ∧ (∀ i, m1 i = none ∨ m2 i = none) ∧ ∀ i, m i = (m1 i).or (m2 i)
  | .pu p, m => p ∧ m = fun _ => none
  | .emp, m => m = fun _ => none

def StarU (H : AH) : (Nat → Prop) → List Assn → Prop
  | _, [] => True
  | U, A :: L => ∃ m, sat A m ∧ (∀ i o, m i = some o → H.obj i = some o ∧ i < H.next ∧ ¬ U i) ∧ StarU H (fun i => U i ∨ m i ≠ none) L
def Star (H : AH) (L : List Assn) : Prop := StarU H (fun _ => False) L

theorem StarU.weak {H : AH} : ∀ {L : List Assn} {U U' : Nat → Prop}, (∀ i, U' i → U i) → StarU H U L → StarU H U' L
  | [], _, _, _, _ => trivial
  | A :: L, U, U', h, ⟨m, h1, h2, h3⟩ => ⟨m, h1, fun i o hi => ⟨(h2 i o hi).1, (h2 i o hi).2.1, fun hu => (h2 i o hi).2.2 (h i hu)⟩, StarU.weak (fun i hi => hi.imp (h i) id) h3⟩
theorem StarU.perm {H : AH} {L L' : List Assn} (p : L.Perm L') : ∀ {U : Nat → Prop}, StarU H U L → StarU H U L' := by
  induction p with
  | nil => exact fun h => h
  | cons A _ ih => exact fun ⟨m, h1, h2, h3⟩ => ⟨m, h1, h2, ih h3⟩
  | swap A B L =>
    rintro U ⟨m, h1, h2, m', h1', h2', h3⟩
    refine ⟨m', h1', fun i o hi => ⟨(h2' i o hi).1, (h2' i o hi).2.1, fun hu => (h2' i o hi).2.2 (.inl hu)⟩, m, h1, fun i o hi => ⟨(h2 i o hi).1, (h2 i o hi).2.1, fun hu => ?_⟩, StarU.weak (fun i hi => ?_) h3⟩
    · rcases hu with hu | hu
      · exact (h2 i o hi).2.2 hu
      · cases hm : m' i with
        | none => exact hu hm
        | some o' => exact (h2' i o' hm).2.2 (.inr (by rw [hi]; simp))
    · rcases hi with (hi | hi) | hi
      · exact .inl (.inl hi)
      · exact .inr hi
      · exact .inl (.inr hi)
  | trans _ _ ih1 ih2 => exact fun h => ih2 (ih1 h)
theorem Star.perm {H : AH} {L L' : List Assn} (p : L.Perm L') (h : Star H L) : Star H L' := StarU.perm p h

/-- another heap, the same where it is not used -/
theorem StarU.change {H H' : AH} (hn : H.next ≤ H'.next) : ∀ {L : List Assn} {U : Nat → Prop}, (∀ i, i < H.next → ¬ U i → H'.obj i = H.obj i) → StarU H U L → StarU H' U L
  | [], _, _, _ => trivial
  | A :: L, U, hs, ⟨m, h1, h2, h3⟩ =>
    ⟨m, h1, fun i o hi => ⟨by rw [hs i (h2 i o hi).2.1 (h2 i o hi).2.2]; exact (h2 i o hi).1, Nat.lt_of_lt_of_le (h2 i o hi).2.1 hn, (h2 i o hi).2.2⟩,
      StarU.change hn (fun i hlt hu => hs i hlt fun h => hu (.inl h)) h3⟩

theorem Star.get {H : AH} {id : Nat} {o : AO} {L : List Assn} (h : Star H (.ob id o :: L)) : H.obj id = some o ∧ id < H.next := by
  obtain ⟨m, h1, h2, _⟩ := h
  cases h1
  exact ⟨(h2 id o (by simp [one])).1, (h2 id o (by simp [one])).2.1⟩
theorem Star.tail {H : AH} {A : Assn} {L : List Assn} (h : Star H (A :: L)) : Star H L := by
  obtain ⟨m, h1, h2, h3⟩ := h
  exact StarU.weak (fun i hi => hi.elim) h3
theorem Star.put {H : AH} {id : Nat} {o o' : AO} {L : List Assn} (h : Star H (.ob id o :: L)) : Star (H.put id (some o')) (.ob id o' :: L) := by
  have hg := h.get
  obtain ⟨m, h1, h2, h3⟩ := h
  cases h1
  refine ⟨one id o', rfl, fun i x hi => ?_, ?_⟩
  · simp only [one] at hi
    split at hi
    · rename_i e; cases hi; subst e; exact ⟨by simp [AH.put], hg.2, fun h => h⟩
    · cases hi
  · refine StarU.change (H := H) (H' := H.put id (some o')) (Nat.le_refl _) (fun i hlt hu => ?_) (StarU.weak (fun i hi => ?_) h3)
    · simp only [AH.put]
      split
      · rename_i e; exact absurd (.inr (by simp [one, e])) hu
      · rfl
    · rcases hi with hi | hi
      · exact hi.elim
      · refine .inr ?_
        simp only [one] at hi ⊢
        split at hi
        · rename_i e; simp [e]
        · exact absurd rfl hi
theorem Star.kill {H : AH} {id : Nat} {o : AO} {L : List Assn} (h : Star H (.ob id o :: L)) : Star (H.put id none) L := by
  obtain ⟨m, h1, h2, h3⟩ := h
  cases h1
  refine StarU.weak (U := fun i => False ∨ one id o i ≠ none) (fun i hi => hi.elim) (StarU.change (H := H) (H' := H.put id none) (Nat.le_refl _) (fun i hlt hu => ?_) h3)
  simp only [AH.put]
  split
  · rename_i e; exact absurd (.inr (by simp [one, e])) hu
  · rfl
theorem Star.new {H : AH} {o : AO} {L : List Assn} (h : Star H L) : Star (H.new o) (.ob H.next o :: L) := by
  have aux : ∀ {L : List Assn} {U : Nat → Prop}, StarU H U L → StarU H (fun i => U i ∨ i = H.next) L := by
    intro L
    induction L with
    | nil => exact fun _ => trivial
    | cons A L ih =>
      rintro U ⟨m, h1, h2, h3⟩
      refine ⟨m, h1, fun i o hi => ⟨(h2 i o hi).1, (h2 i o hi).2.1, fun hu => ?_⟩, StarU.weak (fun i hi => ?_) (ih h3)⟩
      · rcases hu with hu | hu
        · exact (h2 i o hi).2.2 hu
        · have := (h2 i o hi).2.1; omega
      · rcases hi with (hi | hi) | hi
        · exact .inl (.inl hi)
        · exact .inr hi
        · exact .inl (.inr hi)
  refine ⟨one H.next o, rfl, fun i x hi => ?_, ?_⟩
  · simp only [one] at hi
    split at hi
    · rename_i e; cases hi; subst e; exact ⟨by simp [AH.new], by simp [AH.new], fun h => h⟩
    · cases hi
  · refine StarU.change (H := H) (by simp [AH.new]) (fun i hlt hu => ?_) (StarU.weak (fun i hi => ?_) (aux h))
    · simp only [AH.new]
      rw [if_neg (by omega)]
    · rcases hi with hi | hi
      · exact .inl hi
      · refine .inr ?_
        simp only [one] at hi
        split at hi
        · assumption
        · exact absurd rfl hi

theorem StarU.ex {H : AH} {β : Type} {A : β → Assn} {L : List Assn} {U : Nat → Prop} : StarU H U (.ex A :: L) ↔ ∃ x, StarU H U (A x :: L) :=
  ⟨fun ⟨m, ⟨x, h1⟩, h2, h3⟩ => ⟨x, m, h1, h2, h3⟩, fun ⟨x, m, h1, h2, h3⟩ => ⟨m, ⟨x, h1⟩, h2, h3⟩⟩
theorem Star.ex {H : AH} {β : Type} {A : β → Assn} {L : List Assn} : Star H (.ex A :: L) ↔ ∃ x, Star H (A x :: L) := StarU.ex
theorem Star.pu {H : AH} {p : Prop} {L : List Assn} : Star H (.pu p :: L) ↔ p ∧ Star H L := by
  constructor
  · rintro ⟨m, ⟨hp, hm⟩, h2, h3⟩
    exact ⟨hp, StarU.weak (fun i hi => hi.elim) h3⟩
  · rintro ⟨hp, h⟩
    exact ⟨fun _ => none, ⟨hp, rfl⟩, fun i o hi => (by cases hi), StarU.weak (fun i hi => hi.elim (fun h => h) fun h => (h rfl).elim) h⟩
theorem Star.emp {H : AH} {L : List Assn} : Star H (.emp :: L) ↔ Star H L := by
  constructor
  · exact Star.tail
  · exact fun h => ⟨fun _ => none, rfl, fun i o hi => (by cases hi), StarU.weak (fun i hi => hi.elim (fun h => h) fun h => (h rfl).elim) h⟩
theorem Star.sep {H : AH} {A B : Assn} {L : List Assn} : Star H (.sep A B :: L) ↔ Star H (A :: B :: L) := by
  constructor
  · rintro ⟨m, ⟨m1, m2, s1, s2, hd, hm⟩, h2, h3⟩
    refine ⟨m1, s1, fun i o hi => h2 i o (by rw [hm, hi]; rfl), m2, s2, fun i o hi => ⟨?_, ?_, ?_⟩, StarU.weak (fun i hi => ?_) h3⟩
    · have : m i = some o := by
        rw [hm]; rcases hd i with h | h
        · rw [h, hi]; rfl
        · rw [h] at hi; cases hi
      exact (h2 i o this).1
    · have : m i = some o := by
        rw [hm]; rcases hd i with h | h
        · rw [h, hi]; rfl
        · rw [h] at hi; cases hi
      exact (h2 i o this).2.1
    · rintro (hu | hu)
      · exact hu
      · rcases hd i with h | h
        · exact hu h
        · rw [h] at hi; cases hi
    · rcases hi with (hi | hi) | hi
      · exact .inl hi
      · refine .inr ?_; rw [hm]
        cases h : m1 i with
        | none => exact absurd h hi
        | some x => simp
      · refine .inr ?_; rw [hm]
        cases h : m1 i with
        | none => simpa using hi
        | some x => simp
  · rintro ⟨m1, s1, h1, m2, s2, h2, h3⟩
    have hd : ∀ i, m1 i = none ∨ m2 i = none := by
      intro i
      cases h : m1 i with
      | none => exact .inl rfl
      | some x =>
        cases h' : m2 i with
        | none => exact .inr rfl
        | some y => exact absurd (.inr (by rw [h]; simp)) (h2 i y h').2.2
    refine ⟨fun i => (m1 i).or (m2 i), ⟨m1, m2, s1, s2, hd, fun i => rfl⟩, fun i o hi => ?_, StarU.weak (fun i hi => ?_) h3⟩
    · dsimp only at hi
      cases h : m1 i with
      | none => rw [h] at hi; exact ⟨(h2 i o hi).1, (h2 i o hi).2.1, fun h => h⟩
      | some x => rw [h] at hi; cases hi; exact h1 i _ h
    · rcases hi with hi | hi
      · exact .inl (.inl hi)
      · dsimp only at hi
        cases h : m1 i with
        | none => rw [h] at hi; exact .inr (by simpa using hi)
        | some x => exact .inl (.inr (by rw [h]; simp))
theorem Star.slN {H : AH} {α : Type} {ro : Bool} {T : Enc α} {l : List α} {L : List Assn} : Star H (.sl ro T none l :: L) ↔ l = [] ∧ Star H L := by
  constructor
  · rintro ⟨m, ⟨hp, hm⟩, h2, h3⟩
    exact ⟨hp, StarU.weak (fun i hi => hi.elim) h3⟩
  · rintro ⟨hp, h⟩
    exact ⟨fun _ => none, ⟨hp, rfl⟩, fun i o hi => (by cases hi), StarU.weak (fun i hi => hi.elim (fun h => h) fun h => (h rfl).elim) h⟩
theorem Star.slS {H : AH} {α : Type} {ro : Bool} {T : Enc α} {d : SlD} {l : List α} {L : List Assn} : Star H (.sl ro T (some d) l :: L) ↔ ∃ c, SlOk T d l c ∧ Star H (.ob d.id (.cells ro c) :: L) :=
  ⟨fun ⟨m, ⟨c, h0, h1⟩, h2, h3⟩ => ⟨c, h0, m, h1, h2, h3⟩, fun ⟨c, h0, m, h1, h2, h3⟩ => ⟨m, ⟨c, h0, h1⟩, h2, h3⟩⟩

/-! #### picking -/
structure Pick (L : List Assn) (A : Assn) (R : List Assn) : Prop where
  h : L.Perm (A :: R)
theorem Pick.there {A B : Assn} {L R : List Assn} (h : Pick L A R) : Pick (B :: L) A (B :: R) := ⟨(List.Perm.cons B h.h).trans (List.Perm.swap A B R)⟩
/-- L' is among L -/
structure Sub (L' L : List Assn) : Prop where
  h : ∃ R, L.Perm (L' ++ R)
theorem Sub.refl (L : List Assn) : Sub L L := ⟨[], by simp⟩
theorem Sub.nil (L : List Assn) : Sub [] L := ⟨L, .refl _⟩
theorem Sub.cons {A : Assn} {L L' R : List Assn} (p : Pick L A R) (h : Sub L' R) : Sub (A :: L') L := by
  obtain ⟨R', h⟩ := h
  exact ⟨R', List.Perm.trans p.h (by simpa using List.Perm.cons A h)⟩
theorem Sub.skip {A : Assn} {L L' : List Assn} (h : Sub L' L) : Sub L' (A :: L) := by
  obtain ⟨R, h⟩ := h
  exact ⟨A :: R, (List.Perm.cons A h).trans (by simpa using (List.perm_middle (a := A) (l₁ := L') (l₂ := R)).symm)⟩
theorem Star.drop {H : AH} {L L' : List Assn} (s : Sub L' L) (h : Star H L) : Star H L' := by
  obtain ⟨R, p⟩ := s
  have h := h.perm p
  clear p
  have : ∀ {L' : List Assn} {U : Nat → Prop}, StarU H U (L' ++ R) → StarU H U L' := by
    intro L'
    induction L' with
    | nil => exact fun _ => trivial
    | cons A L' ih => exact fun ⟨m, h1, h2, h3⟩ => ⟨m, h1, h2, ih h3⟩
  exact this h
/-- P's parts out of L, F is left -/
structure Picks (L P F : List Assn) : Prop where
  h : L.Perm (P ++ F)
theorem Picks.nil {L : List Assn} : Picks L [] L := ⟨.refl _⟩
theorem Picks.cons {A : Assn} {L R P F : List Assn} (p : Pick L A R) (h : Picks R P F) : Picks L (A :: P) F := ⟨List.Perm.trans p.h (List.Perm.cons A h.h)⟩

/-! #### triples -/
abbrev Post := Nat → List AV → List Assn → Prop
section
variable {E : Env}
structure Tri (E : Env) (L : List Assn) (t : Tree) (Q : Post) : Prop where
  go : ∀ H, Star H L → Wp E t H fun r => ∃ L', Q r.1.1 r.1.2 L' ∧ Star r.2 L'
def FSpec (E : Env) (f : FuncId) (args : List AV) (P : List Assn) (R : AV → List Assn → Prop) : Prop :=
  ∀ F H, Star H (P ++ F) → CallWp E f args H fun v H' => ∃ L', R v L' ∧ Star H' (L' ++ F)
/-- a body's end -/
def RQ (F : List Assn) (R : AV → List Assn → Prop) : Post := fun t l L' => t = 0 ∧ ∃ v L1, l = [v] ∧ R v L1 ∧ L' = L1 ++ F
/-- a loop's round's end -/
def LQ (E : Env) (I : Nat → List AV → List Assn → Prop) (m : Nat) (k : Nat → List AV → Tree) (Q : Post) : Post := fun t l L' =>
  (t = 0 → ∃ m', m' < m ∧ I m' l L') ∧ (t ≠ 0 → Tri E L' (k t l) Q)
/-- a join's arm's end -/
def JQ (E : Env) (k : Nat → List AV → Tree) (Q : Post) : Post := fun t l L' => Tri E L' (k t l) Q

variable {L L' R F P : List Assn} {Q : Post} {t t' : Tree}

theorem Tri.sub (s : Sub L' L) (h : Tri E L' t Q) : Tri E L t Q := .mk fun H hs => h.go H (hs.drop s)
theorem Tri.mono {Q' : Post} (hq : ∀ t l L, Q' t l L → Q t l L) (h : Tri E L t Q') : Tri E L t Q := .mk fun H hs => Wp.mono _ (fun r ⟨L', h1, h2⟩ => ⟨L', hq _ _ _ h1, h2⟩) (h.go H hs)
theorem Tri.ex {β : Type} {A : β → Assn} (p : Pick L (.ex A) R) (h : ∀ x, Tri E (A x :: R) t Q) : Tri E L t Q := .mk fun H hs => by
  obtain ⟨x, hs⟩ := Star.ex.1 (hs.perm p.h)
  exact (h x).go H hs
theorem Tri.pu {p : Prop} (pk : Pick L (.pu p) R) (h : p → Tri E R t Q) : Tri E L t Q := .mk fun H hs => by
  obtain ⟨hp, hs⟩ := Star.pu.1 (hs.perm pk.h)
  exact (h hp).go H hs
theorem Tri.sep {A B : Assn} (p : Pick L (.sep A B) R) (h : Tri E (A :: B :: R) t Q) : Tri E L t Q := .mk fun H hs => h.go H (Star.sep.1 (hs.perm p.h))
/-- a slice, opened -/
theorem Tri.slS {α : Type} {ro : Bool} {T : Enc α} {d : SlD} {l : List α} (p : Pick L (.sl ro T (some d) l) R) (h : ∀ c, SlOk T d l c → Tri E (.ob d.id (.cells ro c) :: R) t Q) : Tri E L t Q := .mk fun H hs => by
  obtain ⟨c, h0, hs⟩ := Star.slS.1 (hs.perm p.h)
  exact (h c h0).go H hs
theorem Tri.slN {α : Type} {ro : Bool} {T : Enc α} {l : List α} (p : Pick L (.sl ro T none l) R) (h : l = [] → Tri E R t Q) : Tri E L t Q := .mk fun H hs => by
  obtain ⟨h0, hs⟩ := Star.slN.1 (hs.perm p.h)
  exact (h h0).go H hs
/-- and shut -/
theorem Tri.to {A B : Assn} (hAB : ∀ m, sat A m → sat B m) (p : Pick L A R) (h : Tri E (B :: R) t Q) : Tri E L t Q := .mk fun H hs => by
  obtain ⟨m, h1, h2, h3⟩ := hs.perm p.h
  exact h.go H ⟨m, hAB m h1, h2, h3⟩
/-! one step each -/
theorem Tri.asI {k : IntKind} {n : Int} {f : Int → Tree} (h : Tri E L (f n) Q) : Tri E L (.asI k (.sc (.i k n)) f) Q := .mk fun H hs => ⟨n, by simp [AV.asI], h.go H hs⟩
theorem Tri.asB {b : Bool} {f : Bool → Tree} (h : Tri E L (f b) Q) : Tri E L (.asB (.sc (.b b)) f) Q := .mk fun H hs => ⟨b, rfl, h.go H hs⟩
theorem Tri.asS {b : ByteArray} {f : ByteArray → Tree} (h : Tri E L (f b) Q) : Tri E L (.asS (.sc (.s b)) f) Q := .mk fun H hs => ⟨b, rfl, h.go H hs⟩
theorem Tri.asP {b : Option (Nat × Nat)} {f : Option (Nat × Nat) → Tree} (h : Tri E L (f b) Q) : Tri E L (.asP (.sc (.p b)) f) Q := .mk fun H hs => ⟨b, rfl, h.go H hs⟩
theorem Tri.asL {b : Option SlD} {f : Option SlD → Tree} (h : Tri E L (f b) Q) : Tri E L (.asL (.sc (.sl b)) f) Q := .mk fun H hs => ⟨b, rfl, h.go H hs⟩
theorem Tri.asF {k : FloatKind} {b : Nat} {f : Nat → Tree} (h : Tri E L (f b) Q) : Tri E L (.asF k (.sc (.fl k b)) f) Q := .mk fun H hs => ⟨b, by simp [AV.asF], h.go H hs⟩
theorem Tri.asBy {l : List Sc} {b : ByteArray} {f : ByteArray → Tree} (hb : baOf l .empty = some b) (h : Tri E L (f b) Q) : Tri E L (.asBy l f) Q := .mk fun H hs => ⟨b, hb, h.go H hs⟩
theorem Tri.asX {b : Sc} {f : Sc → Tree} (h : Tri E L (f b) Q) : Tri E L (.asX (.sc b) f) Q := .mk fun H hs => ⟨b, rfl, h.go H hs⟩
theorem Tri.asA {n : Nat} {l : List Sc} {f : List Sc → Tree} (hl : l.length = n) (h : Tri E L (f l) Q) : Tri E L (.asA n (.ag l) f) Q := .mk fun H hs => ⟨l, by simp [AV.asA, hl], h.go H hs⟩
theorem Tri.asT {n : Nat} {l : List CV} {f : List CV → Tree} (hl : l.length = n) (h : Tri E L (f l) Q) : Tri E L (.asT n (.tu l) f) Q := .mk fun H hs => ⟨l, by simp [AV.asT, hl], h.go H hs⟩
theorem Tri.nn {a b : Nat} {f : Nat → Nat → Tree} (h : Tri E L (f a b) Q) : Tri E L (.nn (some (a, b)) f) Q := .mk fun H hs => ⟨(a, b), rfl, h.go H hs⟩
theorem Tri.nth {l : List Sc} {j : Nat} {x : Sc} {f : Sc → Tree} (hx : l[j]? = some x) (h : Tri E L (f x) Q) : Tri E L (.nth l j f) Q := .mk fun H hs => ⟨x, hx, h.go H hs⟩
theorem Tri.nthC {l : List CV} {j : Nat} {x : CV} {f : CV → Tree} (hx : l[j]? = some x) (h : Tri E L (f x) Q) : Tri E L (.nthC l j f) Q := .mk fun H hs => ⟨x, hx, h.go H hs⟩
theorem Tri.br {b : Bool} {f : Tree} (h1 : b = true → Tri E L t Q) (h2 : b = false → Tri E L f Q) : Tri E L (.br b t f) Q := .mk fun H hs => by
  cases b
  · exact (h2 rfl).go H hs
  · exact (h1 rfl).go H hs
/-! memory -/
theorem Tri.ld {id off n : Nat} {ro : Bool} {c : List Sc} {f : List Sc → Tree} (p : Pick L (.ob id (.cells ro c)) R) (hn : off + n ≤ c.length) (h : Tri E L (f ((c.drop off).take n)) Q) : Tri E L (.ld id off n f) Q := .mk fun H hs =>
  ⟨_, by simp [AH.rd, (hs.perm p.h).get.1, hn], h.go H hs⟩
theorem Tri.st {id off : Nat} {c vs : List Sc} (p : Pick L (pt id c) R) (hn : off + vs.length ≤ c.length) (h : Tri E (pt id (c.take off ++ vs ++ c.drop (off + vs.length)) :: R) t Q) : Tri E L (.st id off vs t) Q := .mk fun H hs => by
  have hs' := hs.perm p.h
  exact ⟨_, by simp only [AH.wr, hs'.get.1, if_pos hn], h.go _ hs'.put⟩
theorem Tri.same {id off : Nat} {ro : Bool} {c l : List Sc} (p : Pick L (.ob id (.cells ro c)) R) (hl : (c.drop off).take l.length = l) (hn : off + l.length ≤ c.length) (h : Tri E L t Q) : Tri E L (.same id off l t) Q := .mk fun H hs =>
  ⟨by simp [AH.rd, (hs.perm p.h).get.1, hn, hl], h.go H hs⟩
theorem Tri.al {l : List Sc} {f : Nat → Tree} (h : ∀ a, Tri E (pt a l :: L) (f a) Q) : Tri E L (.al l f) Q := .mk fun H hs => (h H.next).go _ hs.new
theorem Tri.ixS {z : Nat} {d : SlD} {j : Int} {f : Nat → Nat → Nat → Tree} (hz : d.z = z) (h0 : 0 ≤ j) (h1 : j < d.len) (h : Tri E L (f d.id d.off j.toNat) Q) : Tri E L (.ixS z (some d) j f) Q := .mk fun H hs =>
  ⟨(d.id, d.off, j.toNat), by simp [ixIn, hz, h0, h1], h.go H hs⟩
theorem Tri.ret {tag : Nat} {l : List AV} (hq : Q tag l L') (s : Sub L' L) : Tri E L (.ret tag l) Q := .mk fun H hs => ⟨L', hq, hs.drop s⟩
theorem Tri.back {I : Nat → List AV → List Assn → Prop} {m m' : Nat} {k : Nat → List AV → Tree} {l : List AV} (hm : m' < m) (hi : I m' l L') (s : Sub L' L) : Tri E L (.ret 0 l) (LQ E I m k Q) := .ret ⟨fun _ => ⟨m', hm, hi⟩, fun h => absurd rfl h⟩ s
theorem Tri.exit {I : Nat → List AV → List Assn → Prop} {m tag : Nat} {k : Nat → List AV → Tree} {l : List AV} (ht : tag ≠ 0) (h : Tri E L (k tag l) Q) : Tri E L (.ret tag l) (LQ E I m k Q) := .ret ⟨fun e => absurd e ht, fun _ => h⟩ (Sub.refl _)
theorem Tri.join {k : Nat → List AV → Tree} (h : Tri E L t (JQ E k Q)) : Tri E L (.join t k) Q := .mk fun H hs =>
  Wp.mono t (fun r ⟨L', h1, h2⟩ => h1.go r.2 h2) (h.go H hs)
theorem Tri.loop {b : List AV → Tree} {l0 : List AV} {k : Nat → List AV → Tree} {L0 : List Assn} (I : Nat → List AV → List Assn → Prop) {m : Nat} (h0 : I m l0 L0) (s : Sub L0 L) (step : ∀ m l L, I m l L → Tri E L (b l) (LQ E I m k Q)) : Tri E L (.loop b l0 k) Q := .mk fun H hs => by
  refine Wp.loopI (I := fun m l H => ∃ L, I m l L ∧ Star H L) (m := m) ⟨L0, h0, hs.drop s⟩ fun m l H ⟨L, hI, hs⟩ => ?_
  refine Wp.mono _ (fun r ⟨L', h1, h2⟩ => ?_) ((step m l L hI).go H hs)
  obtain ⟨⟨tag, l'⟩, H'⟩ := r
  cases tag with
  | zero => obtain ⟨m', hm, hi⟩ := h1.1 rfl; exact ⟨m', hm, L', hi, h2⟩
  | succ tag => exact (h1.2 (by simp)).go H' h2
theorem Tri.call {f : FuncId} {args : List AV} {k : AV → Tree} {Rr : AV → List Assn → Prop} (hf : FSpec E f args P Rr) (p : Picks L P F) (h : ∀ v L', Rr v L' → Tri E (L' ++ F) (k v) Q) : Tri E L (.call f args k) Q := .mk fun H hs =>
  (hf F H (hs.perm p.h)).mono fun v H' ⟨L', h1, h2⟩ => (h v L' h1).go H' h2
theorem Tri.callv {g : FuncId} {fs cs : List (Nat × Nat)} {args args' : List AV} {k : AV → Tree} {Rr : AV → List Assn → Prop} (ha : ptrs fs ++ args ++ ptrs cs = args') (hf : FSpec E g args' P Rr) (p : Picks L P F) (h : ∀ v L', Rr v L' → Tri E (L' ++ F) (k v) Q) : Tri E L (.callv (.sc (.fn g fs cs)) args k) Q := .mk fun H hs =>
  ⟨(g, fs, cs), rfl, by rw [ha]; exact (hf F H (hs.perm p.h)).mono fun v H' ⟨L', h1, h2⟩ => (h v L' h1).go H' h2⟩
theorem FSpec.of {f : FuncId} {fn : Func} {args : List AV} {Rr : AV → List Assn → Prop} (hf : E.P.funcs[f]? = some fn) (ht : bodyK E.T (E.hs f) fn args = t) (h : ∀ F, Tri E (P ++ F) t (RQ F Rr)) : FSpec E f args P Rr := fun F H hs => by
  refine CallWp.of hf ht (Wp.mono _ (fun r hr => ?_) ((h F).go H hs))
  obtain ⟨⟨tag, l⟩, H'⟩ := r
  obtain ⟨L', ⟨h0, v, L1, h1, h2, h3⟩, h4⟩ := hr
  cases h0; cases h1; cases h3
  exact ⟨L1, h2, h4⟩
theorem FSpec.mono {f : FuncId} {args : List AV} {Rr Rr' : AV → List Assn → Prop} (h : FSpec E f args P Rr) (hr : ∀ v L, Rr v L → Rr' v L) : FSpec E f args P Rr' := fun F H hs =>
  (h F H hs).mono fun v H' ⟨L', h1, h2⟩ => ⟨L', hr _ _ h1, h2⟩
theorem FSpec.pre {f : FuncId} {args : List AV} {P' : List Assn} {Rr : AV → List Assn → Prop} (hp : ∀ H F, Star H (P' ++ F) → Star H (P ++ F)) (h : FSpec E f args P Rr) : FSpec E f args P' Rr := fun F H hs => h F H (hp H F hs)

theorem wd {b : Option SlD} {f : Option SlD → Tree} (h : Tri E L (f b) Q) : Tri E L (.asL (.sc (.sl b)) f) Q := .mk fun H hs => ⟨b, rfl, h.go H hs⟩
theorem wr {k : FloatKind} {a b : Nat} {f : Nat → Nat → Tree} (h : Tri E L (f a b) Q) : Tri E L (.asC k (.sc (.cx k a b)) f) Q := .mk fun H hs => ⟨(a, b), by simp [AV.asC], h.go H hs⟩
theorem ws {k : FloatKind} {a : Nat} {f : Nat → Tree} (h : Tri E L (f a) Q) : Tri E L (.asF k (.sc (.fl k a)) f) Q := .mk fun H hs => ⟨a, by simp [AV.asF], h.go H hs⟩
theorem wp {I : Nat → List AV → List Assn → Prop} {m tag : Nat} {k : Nat → List AV → Tree} {l : List AV} (ht : tag ≠ 0) (h : Tri E L (k tag l) Q) : Tri E L (.ret tag l) (LQ E I m k Q) := .ret ⟨fun e => absurd e ht, fun _ => h⟩ (Sub.refl _)
end
end Go.Proofs.YtpbhfolaoccpkaaGreat.Fw
