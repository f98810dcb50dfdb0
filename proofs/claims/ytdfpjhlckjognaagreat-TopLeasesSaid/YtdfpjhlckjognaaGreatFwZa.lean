/- What a heap holds, told by parts that lie apart, and how a tree goes on over them. -/
import Derived.Test.YtdfpjhlckjognaaGreatFwX
set_option linter.unusedSimpArgs false
set_option linter.unusedVariables false
namespace Go.Proofs.YtdfpjhlckjognaaGreat.Fw
open Go
structure Enc (α : Type) where
  z : Nat
  e : α → List Sc
  len : ∀ a, (e a).length = z
def Enc.all {α : Type} (T : Enc α) (l : List α) : List Sc := l.flatMap T.e
abbrev Hp := Nat → Option AO
def one (id : Nat) (o : AO) : Hp := fun i => if i = id then some o else none
structure SlOk {α : Type} (T : Enc α) (d : SlD) (l : List α) (c : List Sc) : Prop where
  z : d.z = T.z
  len : d.len = l.length
  cap : d.len ≤ d.cap
  fit : d.off + d.cap * T.z ≤ c.length
  at_ : (c.drop d.off).take (d.len * T.z) = T.all l
inductive Assn : Type 1 where
  | ob (id : Nat) (o : AO)
  | sl {α : Type} (ro : Bool) (T : Enc α) (o : Option SlD) (l : List α)
  | ex {β : Type} (A : β → Assn)
  | sep (A B : Assn)
  | pu (p : Prop)
  | emp
abbrev pt (id : Nat) (c : List Sc) : Assn := .ob id (.cells false c)
def sat : Assn → Hp → Prop
  | .ob id o, m => m = one id o
  | .sl ro T none l, m => l = [] ∧ m = fun _ => none
  | .sl ro T (some d) l, m => ∃ c, SlOk T d l c ∧ m = one d.id (.cells ro c)
  | .ex A, m => ∃ x, sat (A x) m
  | .sep A B, m => ∃ m1 m2, sat A m1 ∧ sat B m2 ∧ (∀ i, m1 i = none ∨ m2 i = none) ∧ ∀ i, m i = (m1 i).or (m2 i)
  | .pu p, m => p ∧ m = fun _ => none
  | .emp, m => m = fun _ => none
def StarU (H : AH) : (Nat → Prop) → List Assn → Prop
  | _, [] => True
  | U, A :: L => ∃ m, sat A m ∧ (∀ i o, m i = some o → H.obj i = some o ∧ i < H.next ∧ ¬ U i) ∧ StarU H (fun i => U i ∨ m i ≠ none) L
def Star (H : AH) (L : List Assn) : Prop := StarU H (fun _ => False) L
theorem StarU.weak {H : AH} : ∀ {L : List Assn} {U U' : Nat → Prop}, (∀ i, U' i → U i) → StarU H U L → StarU H U' L
  | [], _, _, _, _ => trivial
  | A :: L, U, U', h, ⟨m, h1, h2, h3⟩ => ⟨m, h1, fun i o hi => ⟨(h2 i o hi).1, (h2 i o hi).2.1, fun hu => (h2 i o hi).2.2 (h i hu)⟩, StarU.weak (fun i hi => hi.imp (h i) id) h3⟩
theorem StarU.perm {H : AH} {L L' : List Assn} (p : L.Perm L') : ∀ {U : Nat → Prop}, StarU H U L → StarU H U L' := by
  induction p with
  | nil => exact fun h => h
  | cons A _ ih => exact fun ⟨m, h1, h2, h3⟩ => ⟨m, h1, h2, ih h3⟩
  | swap A B L =>
    rintro U ⟨m, h1, h2, m', h1', h2', h3⟩
    refine ⟨m', h1', fun i o hi => ⟨(h2' i o hi).1, (h2' i o hi).2.1, fun hu => (h2' i o hi).2.2 (.inl hu)⟩, m, h1, fun i o hi => ⟨(h2 i o hi).1, (h2 i o hi).2.1, fun hu => ?_⟩, StarU.weak (fun i hi => ?_) h3⟩
    · rcases hu with hu | hu
      · exact (h2 i o hi).2.2 hu
      · cases hm : m' i with
        | none => exact hu hm
        | some o' => exact (h2' i o' hm).2.2 (.inr (by rw [hi]; simp))
    · rcases hi with (hi | hi) | hi
      · exact .inl (.inl hi)
      · exact .inr hi
      · exact .inl (.inr hi)
  | trans _ _ ih1 ih2 => exact fun h => ih2 (ih1 h)
theorem Star.perm {H : AH} {L L' : List Assn} (p : L.Perm L') (h : Star H L) : Star H L' := StarU.perm p h
theorem StarU.change {H H' : AH} (hn : H.next ≤ H'.next) : ∀ {L : List Assn} {U : Nat → Prop}, (∀ i, i < H.next → ¬ U i → H'.obj i = H.obj i) → StarU H U L → StarU H' U L
  | [], _, _, _ => trivial
  | A :: L, U, hs, ⟨m, h1, h2, h3⟩ =>
    ⟨m, h1, fun i o hi => ⟨by rw [hs i (h2 i o hi).2.1 (h2 i o hi).2.2]; exact (h2 i o hi).1, Nat.lt_of_lt_of_le (h2 i o hi).2.1 hn, (h2 i o hi).2.2⟩,
      StarU.change hn (fun i hlt hu => hs i hlt fun h => hu (.inl h)) h3⟩
theorem Star.get {H : AH} {id : Nat} {o : AO} {L : List Assn} (h : Star H (.ob id o :: L)) : H.obj id = some o ∧ id < H.next := by
  obtain ⟨m, h1, h2, _⟩ := h
  cases h1
  exact ⟨(h2 id o (by simp [one])).1, (h2 id o (by simp [one])).2.1⟩
theorem Star.tail {H : AH} {A : Assn} {L : List Assn} (h : Star H (A :: L)) : Star H L := by
  obtain ⟨m, h1, h2, h3⟩ := h
  exact StarU.weak (fun i hi => hi.elim) h3
theorem Star.put {H : AH} {id : Nat} {o o' : AO} {L : List Assn} (h : Star H (.ob id o :: L)) : Star (H.put id (some o')) (.ob id o' :: L) := by
  have hg := h.get
  obtain ⟨m, h1, h2, h3⟩ := h
  cases h1
  refine ⟨one id o', rfl, fun i x hi => ?_, ?_⟩
  · simp only [one] at hi
    split at hi
    · rename_i e; cases hi; subst e; exact ⟨by simp [AH.put], hg.2, fun h => h⟩
    · cases hi
  · refine StarU.change (H := H) (H' := H.put id (some o')) (Nat.le_refl _) (fun i hlt hu => ?_) (StarU.weak (fun i hi => ?_) h3)
    · simp only [AH.put]
      split
      · rename_i e; exact absurd (.inr (by simp [one, e])) hu
      · rfl
    · rcases hi with hi | hi
      · exact hi.elim
      · refine .inr ?_
        simp only [one] at hi ⊢
        split at hi
        · rename_i e; simp [e]
        · exact absurd rfl hi
theorem Star.kill {H : AH} {id : Nat} {o : AO} {L : List Assn} (h : Star H (.ob id o :: L)) : Star (H.put id none) L := by
  obtain ⟨m, h1, h2, h3⟩ := h
  cases h1
  refine StarU.weak (U := fun i => False ∨ one id o i ≠ none) (fun i hi => hi.elim) (StarU.change (H := H) (H' := H.put id none) (Nat.le_refl _) (fun i hlt hu => ?_) h3)
  simp only [AH.put]
  split
  · rename_i e; exact absurd (.inr (by simp [one, e])) hu
  · rfl
theorem Star.new {H : AH} {o : AO} {L : List Assn} (h : Star H L) : Star (H.new o) (.ob H.next o :: L) := by
  have aux : ∀ {L : List Assn} {U : Nat → Prop}, StarU H U L → StarU H (fun i => U i ∨ i = H.next) L := by
    intro L
    induction L with
    | nil => exact fun _ => trivial
    | cons A L ih =>
      rintro U ⟨m, h1, h2, h3⟩
      refine ⟨m, h1, fun i o hi => ⟨(h2 i o hi).1, (h2 i o hi).2.1, fun hu => ?_⟩, StarU.weak (fun i hi => ?_) (ih h3)⟩
      · rcases hu with hu | hu
        · exact (h2 i o hi).2.2 hu
        · have := (h2 i o hi).2.1; omega
      · rcases hi with (hi | hi) | hi
        · exact .inl (.inl hi)
        · exact .inr hi
        · exact .inl (.inr hi)
  refine ⟨one H.next o, rfl, fun i x hi => ?_, ?_⟩
  · simp only [one] at hi
    split at hi
    · rename_i e; cases hi; subst e; exact ⟨by simp [AH.new], by simp [AH.new], fun h => h⟩
    · cases hi
  · refine StarU.change (H := H) (by simp [AH.new]) (fun i hlt hu => ?_) (StarU.weak (fun i hi => ?_) (aux h))
    · simp only [AH.new]
      rw [if_neg (by omega)]
    · rcases hi with hi | hi
      · exact .inl hi
      · refine .inr ?_
        simp only [one] at hi
        split at hi
        · assumption
        · exact absurd rfl hi
theorem StarU.ex {H : AH} {β : Type} {A : β → Assn} {L : List Assn} {U : Nat → Prop} : StarU H U (.ex A :: L) ↔ ∃ x, StarU H U (A x :: L) :=
  ⟨fun ⟨m, ⟨x, h1⟩, h2, h3⟩ => ⟨x, m, h1, h2, h3⟩, fun ⟨x, m, h1, h2, h3⟩ => ⟨m, ⟨x, h1⟩, h2, h3⟩⟩
theorem Star.ex {H : AH} {β : Type} {A : β → Assn} {L : List Assn} : Star H (.ex A :: L) ↔ ∃ x, Star H (A x :: L) := StarU.ex
theorem Star.pu {H : AH} {p : Prop} {L : List Assn} : Star H (.pu p :: L) ↔ p ∧ Star H L := by
  constructor
  · rintro ⟨m, ⟨hp, hm⟩, h2, h3⟩
    exact ⟨hp, StarU.weak (fun i hi => hi.elim) h3⟩
  · rintro ⟨hp, h⟩
    exact ⟨fun _ => none, ⟨hp, rfl⟩, fun i o hi => (by cases hi), StarU.weak (fun i hi => hi.elim (fun h => h) fun h => (h rfl).elim) h⟩
theorem Star.emp {H : AH} {L : List Assn} : Star H (.emp :: L) ↔ Star H L := by
  constructor
  · exact Star.tail
  · exact fun h => ⟨fun _ => none, rfl, fun i o hi => (by cases hi), StarU.weak (fun i hi => hi.elim (fun h => h) fun h => (h rfl).elim) h⟩
theorem Star.sep {H : AH} {A B : Assn} {L : List Assn} : Star H (.sep A B :: L) ↔ Star H (A :: B :: L) := by
  constructor
  · rintro ⟨m, ⟨m1, m2, s1, s2, hd, hm⟩, h2, h3⟩
    refine ⟨m1, s1, fun i o hi => h2 i o (by rw [hm, hi]; rfl), m2, s2, fun i o hi => ⟨?_, ?_, ?_⟩, StarU.weak (fun i hi => ?_) h3⟩
    · have : m i = some o := by
        rw [hm]; rcases hd i with h | h
        · rw [h, hi]; rfl
        · rw [h] at hi; cases hi
      exact (h2 i o this).1
    · have : m i = some o := by
        rw [hm]; rcases hd i with h | h
        · rw [h, hi]; rfl
        · rw [h] at hi; cases hi
      exact (h2 i o this).2.1
    · rintro (hu | hu)
      · exact hu
      · rcases hd i with h | h
        · exact hu h
        · rw [h] at hi; cases hi
    · rcases hi with (hi | hi) | hi
      · exact .inl hi
      · refine .inr ?_; rw [hm]
        cases h : m1 i with
        | none => exact absurd h hi
        | some x => simp
      · refine .inr ?_; rw [hm]
        cases h : m1 i with
        | none => simpa using hi
        | some x => simp
  · rintro ⟨m1, s1, h1, m2, s2, h2, h3⟩
    have hd : ∀ i, m1 i = none ∨ m2 i = none := by
      intro i
      cases h : m1 i with
      | none => exact .inl rfl
      | some x =>
        cases h' : m2 i with
        | none => exact .inr rfl
        | some y => exact absurd (.inr (by rw [h]; simp)) (h2 i y h').2.2
    refine ⟨fun i => (m1 i).or (m2 i), ⟨m1, m2, s1, s2, hd, fun i => rfl⟩, fun i o hi => ?_, StarU.weak (fun i hi => ?_) h3⟩
    · dsimp only at hi
      cases h : m1 i with
      | none => rw [h] at hi; exact ⟨(h2 i o hi).1, (h2 i o hi).2.1, fun h => h⟩
      | some x => rw [h] at hi; cases hi; exact h1 i _ h
    · rcases hi with hi | hi
      · exact .inl (.inl hi)
      · dsimp only at hi
        cases h : m1 i with
        | none => rw [h] at hi; exact .inr (by simpa using hi)
        | some x => exact .inl (.inr (by rw [h]; simp))
theorem Star.slN {H : AH} {α : Type} {ro : Bool} {T : Enc α} {l : List α} {L : List Assn} : Star H (.sl ro T none l :: L) ↔ l = [] ∧ Star H L := by
  constructor
  · rintro ⟨m, ⟨hp, hm⟩, h2, h3⟩
    exact ⟨hp, StarU.weak (fun i hi => hi.elim) h3⟩
  · rintro ⟨hp, h⟩
    exact ⟨fun _ => none, ⟨hp, rfl⟩, fun i o hi => (by cases hi), StarU.weak (fun i hi => hi.elim (fun h => h) fun h => (h rfl).elim) h⟩
theorem Star.slS {H : AH} {α : Type} {ro : Bool} {T : Enc α} {d : SlD} {l : List α} {L : List Assn} : Star H (.sl ro T (some d) l :: L) ↔ ∃ c, SlOk T d l c ∧ Star H (.ob d.id (.cells ro c) :: L) :=
  ⟨fun ⟨m, ⟨c, h0, h1⟩, h2, h3⟩ => ⟨c, h0, m, h1, h2, h3⟩, fun ⟨c, h0, m, h1, h2, h3⟩ => ⟨m, ⟨c, h0, h1⟩, h2, h3⟩⟩
structure Pick (L : List Assn) (A : Assn) (R : List Assn) : Prop where
  h : L.Perm (A :: R)
theorem Pick.there {A B : Assn} {L R : List Assn} (h : Pick L A R) : Pick (B :: L) A (B :: R) := ⟨(List.Perm.cons B h.h).trans (List.Perm.swap A B R)⟩
structure Sub (L' L : List Assn) : Prop where
  h : ∃ R, L.Perm (L' ++ R)
theorem Sub.refl (L : List Assn) : Sub L L := ⟨[], by simp⟩
theorem Sub.nil (L : List Assn) : Sub [] L := ⟨L, .refl _⟩
theorem Sub.cons {A : Assn} {L L' R : List Assn} (p : Pick L A R) (h : Sub L' R) : Sub (A :: L') L := by
  obtain ⟨R', h⟩ := h
  exact ⟨R', List.Perm.trans p.h (by simpa using List.Perm.cons A h)⟩
theorem Sub.skip {A : Assn} {L L' : List Assn} (h : Sub L' L) : Sub L' (A :: L) := by
  obtain ⟨R, h⟩ := h
  exact ⟨A :: R, (List.Perm.cons A h).trans (by simpa using (List.perm_middle (a := A) (l₁ := L') (l₂ := R)).symm)⟩
theorem Star.drop {H : AH} {L L' : List Assn} (s : Sub L' L) (h : Star H L) : Star H L' := by
  obtain ⟨R, p⟩ := s
  have h := h.perm p
  clear p
  have : ∀ {L' : List Assn} {U : Nat → Prop}, StarU H U (L' ++ R) → StarU H U L' := by
    intro L'
    induction L' with
    | nil => exact fun _ => trivial
    | cons A L' ih => exact fun ⟨m, h1, h2, h3⟩ => ⟨m, h1, h2, ih h3⟩
  exact this h
structure Picks (L P F : List Assn) : Prop where
  h : L.Perm (P ++ F)
theorem Picks.nil {L : List Assn} : Picks L [] L := ⟨.refl _⟩
theorem Picks.cons {A : Assn} {L R P F : List Assn} (p : Pick L A R) (h : Picks R P F) : Picks L (A :: P) F := ⟨List.Perm.trans p.h (List.Perm.cons A h.h)⟩
abbrev Post := Nat → List AV → List Assn → Prop
section
variable {E : Env}
structure Tri (E : Env) (L : List Assn) (t : Tree) (Q : Post) : Prop where
  go : ∀ H, Star H L → Wp E t H fun r => ∃ L', Q r.1.1 r.1.2 L' ∧ Star r.2 L'
def FSpec (E : Env) (f : FuncId) (args : List AV) (P : List Assn) (R : AV → List Assn → Prop) : Prop :=
  ∀ F H, Star H (P ++ F) → CallWp E f args H fun v H' => ∃ L', R v L' ∧ Star H' (L' ++ F)
def RQ (F : List Assn) (R : AV → List Assn → Prop) : Post := fun t l L' => t = 0 ∧ ∃ v L1, l = [v] ∧ R v L1 ∧ L' = L1 ++ F
def LQ (E : Env) (I : Nat → List AV → List Assn → Prop) (m : Nat) (k : Nat → List AV → Tree) (Q : Post) : Post := fun t l L' =>
  (t = 0 → ∃ m', m' < m ∧ I m' l L') ∧ (t ≠ 0 → Tri E L' (k t l) Q)
def JQ (E : Env) (k : Nat → List AV → Tree) (Q : Post) : Post := fun t l L' => Tri E L' (k t l) Q
variable {L L' R F P : List Assn} {Q : Post} {t t' : Tree}
theorem Tri.sub (s : Sub L' L) (h : Tri E L' t Q) : Tri E L t Q := .mk fun H hs => h.go H (hs.drop s)
theorem Tri.mono {Q' : Post} (hq : ∀ t l L, Q' t l L → Q t l L) (h : Tri E L t Q') : Tri E L t Q := .mk fun H hs => Wp.mono _ (fun r ⟨L', h1, h2⟩ => ⟨L', hq _ _ _ h1, h2⟩) (h.go H hs)
theorem Tri.ex {β : Type} {A : β → Assn} (p : Pick L (.ex A) R) (h : ∀ x, Tri E (A x :: R) t Q) : Tri E L t Q := .mk fun H hs => by
  obtain ⟨x, hs⟩ := Star.ex.1 (hs.perm p.h)
  exact (h x).go H hs
theorem Tri.pu {p : Prop} (pk : Pick L (.pu p) R) (h : p → Tri E R t Q) : Tri E L t Q := .mk fun H hs => by
  obtain ⟨hp, hs⟩ := Star.pu.1 (hs.perm pk.h)
  exact (h hp).go H hs
theorem Tri.sep {A B : Assn} (p : Pick L (.sep A B) R) (h : Tri E (A :: B :: R) t Q) : Tri E L t Q := .mk fun H hs => h.go H (Star.sep.1 (hs.perm p.h))
theorem Tri.slS {α : Type} {ro : Bool} {T : Enc α} {d : SlD} {l : List α} (p : Pick L (.sl ro T (some d) l) R) (h : ∀ c, SlOk T d l c → Tri E (.ob d.id (.cells ro c) :: R) t Q) : Tri E L t Q := .mk fun H hs => by
  obtain ⟨c, h0, hs⟩ := Star.slS.1 (hs.perm p.h)
  exact (h c h0).go H hs
theorem Tri.slN {α : Type} {ro : Bool} {T : Enc α} {l : List α} (p : Pick L (.sl ro T none l) R) (h : l = [] → Tri E R t Q) : Tri E L t Q := .mk fun H hs => by
  obtain ⟨h0, hs⟩ := Star.slN.1 (hs.perm p.h)
  exact (h h0).go H hs
theorem Tri.to {A B : Assn} (hAB : ∀ m, sat A m → sat B m) (p : Pick L A R) (h : Tri E (B :: R) t Q) : Tri E L t Q := .mk fun H hs => by
  obtain ⟨m, h1, h2, h3⟩ := hs.perm p.h
  exact h.go H ⟨m, hAB m h1, h2, h3⟩
theorem Tri.asI {k : IntKind} {n : Int} {f : Int → Tree} (h : Tri E L (f n) Q) : Tri E L (.asI k (.sc (.i k n)) f) Q := .mk fun H hs => ⟨n, by simp [AV.asI], h.go H hs⟩
theorem Tri.asB {b : Bool} {f : Bool → Tree} (h : Tri E L (f b) Q) : Tri E L (.asB (.sc (.b b)) f) Q := .mk fun H hs => ⟨b, rfl, h.go H hs⟩
theorem Tri.asS {b : ByteArray} {f : ByteArray → Tree} (h : Tri E L (f b) Q) : Tri E L (.asS (.sc (.s b)) f) Q := .mk fun H hs => ⟨b, rfl, h.go H hs⟩
theorem Tri.asP {b : Option (Nat × Nat)} {f : Option (Nat × Nat) → Tree} (h : Tri E L (f b) Q) : Tri E L (.asP (.sc (.p b)) f) Q := .mk fun H hs => ⟨b, rfl, h.go H hs⟩
theorem Tri.asL {b : Option SlD} {f : Option SlD → Tree} (h : Tri E L (f b) Q) : Tri E L (.asL (.sc (.sl b)) f) Q := .mk fun H hs => ⟨b, rfl, h.go H hs⟩
theorem Tri.asF {k : FloatKind} {b : Nat} {f : Nat → Tree} (h : Tri E L (f b) Q) : Tri E L (.asF k (.sc (.fl k b)) f) Q := .mk fun H hs => ⟨b, by simp [AV.asF], h.go H hs⟩
theorem Tri.asBy {l : List Sc} {b : ByteArray} {f : ByteArray → Tree} (hb : baOf l .empty = some b) (h : Tri E L (f b) Q) : Tri E L (.asBy l f) Q := .mk fun H hs => ⟨b, hb, h.go H hs⟩
theorem Tri.asX {b : Sc} {f : Sc → Tree} (h : Tri E L (f b) Q) : Tri E L (.asX (.sc b) f) Q := .mk fun H hs => ⟨b, rfl, h.go H hs⟩
theorem Tri.asA {n : Nat} {l : List Sc} {f : List Sc → Tree} (hl : l.length = n) (h : Tri E L (f l) Q) : Tri E L (.asA n (.ag l) f) Q := .mk fun H hs => ⟨l, by simp [AV.asA, hl], h.go H hs⟩
theorem Tri.asT {n : Nat} {l : List CV} {f : List CV → Tree} (hl : l.length = n) (h : Tri E L (f l) Q) : Tri E L (.asT n (.tu l) f) Q := .mk fun H hs => ⟨l, by simp [AV.asT, hl], h.go H hs⟩
theorem Tri.nn {a b : Nat} {f : Nat → Nat → Tree} (h : Tri E L (f a b) Q) : Tri E L (.nn (some (a, b)) f) Q := .mk fun H hs => ⟨(a, b), rfl, h.go H hs⟩
theorem Tri.nth {l : List Sc} {j : Nat} {x : Sc} {f : Sc → Tree} (hx : l[j]? = some x) (h : Tri E L (f x) Q) : Tri E L (.nth l j f) Q := .mk fun H hs => ⟨x, hx, h.go H hs⟩
theorem Tri.nthC {l : List CV} {j : Nat} {x : CV} {f : CV → Tree} (hx : l[j]? = some x) (h : Tri E L (f x) Q) : Tri E L (.nthC l j f) Q := .mk fun H hs => ⟨x, hx, h.go H hs⟩
theorem Tri.br {b : Bool} {f : Tree} (h1 : b = true → Tri E L t Q) (h2 : b = false → Tri E L f Q) : Tri E L (.br b t f) Q := .mk fun H hs => by
  cases b
  · exact (h2 rfl).go H hs
  · exact (h1 rfl).go H hs
theorem Tri.ld {id off n : Nat} {ro : Bool} {c : List Sc} {f : List Sc → Tree} (p : Pick L (.ob id (.cells ro c)) R) (hn : off + n ≤ c.length) (h : Tri E L (f ((c.drop off).take n)) Q) : Tri E L (.ld id off n f) Q := .mk fun H hs =>
  ⟨_, by simp [AH.rd, (hs.perm p.h).get.1, hn], h.go H hs⟩
theorem Tri.st {id off : Nat} {c vs : List Sc} (p : Pick L (pt id c) R) (hn : off + vs.length ≤ c.length) (h : Tri E (pt id (c.take off ++ vs ++ c.drop (off + vs.length)) :: R) t Q) : Tri E L (.st id off vs t) Q := .mk fun H hs => by
  have hs' := hs.perm p.h
  exact ⟨_, by simp only [AH.wr, hs'.get.1, if_pos hn], h.go _ hs'.put⟩
theorem Tri.same {id off : Nat} {ro : Bool} {c l : List Sc} (p : Pick L (.ob id (.cells ro c)) R) (hl : (c.drop off).take l.length = l) (hn : off + l.length ≤ c.length) (h : Tri E L t Q) : Tri E L (.same id off l t) Q := .mk fun H hs =>
  ⟨by simp [AH.rd, (hs.perm p.h).get.1, hn, hl], h.go H hs⟩
theorem Tri.al {l : List Sc} {f : Nat → Tree} (h : ∀ a, Tri E (pt a l :: L) (f a) Q) : Tri E L (.al l f) Q := .mk fun H hs => (h H.next).go _ hs.new
theorem Tri.ixS {z : Nat} {d : SlD} {j : Int} {f : Nat → Nat → Nat → Tree} (hz : d.z = z) (h0 : 0 ≤ j) (h1 : j < d.len) (h : Tri E L (f d.id d.off j.toNat) Q) : Tri E L (.ixS z (some d) j f) Q := .mk fun H hs =>
  ⟨(d.id, d.off, j.toNat), by simp [ixIn, hz, h0, h1], h.go H hs⟩
theorem Tri.ret {tag : Nat} {l : List AV} (hq : Q tag l L') (s : Sub L' L) : Tri E L (.ret tag l) Q := .mk fun H hs => ⟨L', hq, hs.drop s⟩
theorem Tri.back {I : Nat → List AV → List Assn → Prop} {m m' : Nat} {k : Nat → List AV → Tree} {l : List AV} (hm : m' < m) (hi : I m' l L') (s : Sub L' L) : Tri E L (.ret 0 l) (LQ E I m k Q) := .ret ⟨fun _ => ⟨m', hm, hi⟩, fun h => absurd rfl h⟩ s
theorem Tri.exit {I : Nat → List AV → List Assn → Prop} {m tag : Nat} {k : Nat → List AV → Tree} {l : List AV} (ht : tag ≠ 0) (h : Tri E L (k tag l) Q) : Tri E L (.ret tag l) (LQ E I m k Q) := .ret ⟨fun e => absurd e ht, fun _ => h⟩ (Sub.refl _)
theorem Tri.join {k : Nat → List AV → Tree} (h : Tri E L t (JQ E k Q)) : Tri E L (.join t k) Q := .mk fun H hs =>
  Wp.mono t (fun r ⟨L', h1, h2⟩ => h1.go r.2 h2) (h.go H hs)
theorem Tri.loop {b : List AV → Tree} {l0 : List AV} {k : Nat → List AV → Tree} {L0 : List Assn} (I : Nat → List AV → List Assn → Prop) {m : Nat} (h0 : I m l0 L0) (s : Sub L0 L) (step : ∀ m l L, I m l L → Tri E L (b l) (LQ E I m k Q)) : Tri E L (.loop b l0 k) Q := .mk fun H hs => by
  refine Wp.loopI (I := fun m l H => ∃ L, I m l L ∧ Star H L) (m := m) ⟨L0, h0, hs.drop s⟩ fun m l H ⟨L, hI, hs⟩ => ?_
  refine Wp.mono _ (fun r ⟨L', h1, h2⟩ => ?_) ((step m l L hI).go H hs)
  obtain ⟨⟨tag, l'⟩, H'⟩ := r
  cases tag with
  | zero => obtain ⟨m', hm, hi⟩ := h1.1 rfl; exact ⟨m', hm, L', hi, h2⟩
  | succ tag => exact (h1.2 (by simp)).go H' h2
theorem Tri.call {f : FuncId} {args : List AV} {k : AV → Tree} {Rr : AV → List Assn → Prop} (hf : FSpec E f args P Rr) (p : Picks L P F) (h : ∀ v L', Rr v L' → Tri E (L' ++ F) (k v) Q) : Tri E L (.call f args k) Q := .mk fun H hs =>
  (hf F H (hs.perm p.h)).mono fun v H' ⟨L', h1, h2⟩ => (h v L' h1).go H' h2
theorem Tri.callv {g : FuncId} {fs cs : List (Nat × Nat)} {args args' : List AV} {k : AV → Tree} {Rr : AV → List Assn → Prop} (ha : ptrs fs ++ args ++ ptrs cs = args') (hf : FSpec E g args' P Rr) (p : Picks L P F) (h : ∀ v L', Rr v L' → Tri E (L' ++ F) (k v) Q) : Tri E L (.callv (.sc (.fn g fs cs)) args k) Q := .mk fun H hs =>
  ⟨(g, fs, cs), rfl, by rw [ha]; exact (hf F H (hs.perm p.h)).mono fun v H' ⟨L', h1, h2⟩ => (h v L' h1).go H' h2⟩
theorem FSpec.of {f : FuncId} {fn : Func} {args : List AV} {Rr : AV → List Assn → Prop} (hf : E.P.funcs[f]? = some fn) (ht : bodyK E.T (E.hs f) fn args = t) (h : ∀ F, Tri E (P ++ F) t (RQ F Rr)) : FSpec E f args P Rr := fun F H hs => by
  refine CallWp.of hf ht (Wp.mono _ (fun r hr => ?_) ((h F).go H hs))
  obtain ⟨⟨tag, l⟩, H'⟩ := r
  obtain ⟨L', ⟨h0, v, L1, h1, h2, h3⟩, h4⟩ := hr
  cases h0; cases h1; cases h3
  exact ⟨L1, h2, h4⟩
theorem FSpec.mono {f : FuncId} {args : List AV} {Rr Rr' : AV → List Assn → Prop} (h : FSpec E f args P Rr) (hr : ∀ v L, Rr v L → Rr' v L) : FSpec E f args P Rr' := fun F H hs =>
  (h F H hs).mono fun v H' ⟨L', h1, h2⟩ => ⟨L', hr _ _ h1, h2⟩
theorem FSpec.pre {f : FuncId} {args : List AV} {P' : List Assn} {Rr : AV → List Assn → Prop} (hp : ∀ H F, Star H (P' ++ F) → Star H (P ++ F)) (h : FSpec E f args P Rr) : FSpec E f args P' Rr := fun F H hs => h F H (hp H F hs)
theorem wd {b : Option SlD} {f : Option SlD → Tree} (h : Tri E L (f b) Q) : Tri E L (.asL (.sc (.sl b)) f) Q := .mk fun H hs => ⟨b, rfl, h.go H hs⟩
theorem wr {k : FloatKind} {a b : Nat} {f : Nat → Nat → Tree} (h : Tri E L (f a b) Q) : Tri E L (.asC k (.sc (.cx k a b)) f) Q := .mk fun H hs => ⟨(a, b), by simp [AV.asC], h.go H hs⟩
theorem ws {k : FloatKind} {a : Nat} {f : Nat → Tree} (h : Tri E L (f a) Q) : Tri E L (.asF k (.sc (.fl k a)) f) Q := .mk fun H hs => ⟨a, by simp [AV.asF], h.go H hs⟩
theorem wp {I : Nat → List AV → List Assn → Prop} {m tag : Nat} {k : Nat → List AV → Tree} {l : List AV} (ht : tag ≠ 0) (h : Tri E L (k tag l) Q) : Tri E L (.ret tag l) (LQ E I m k Q) := .ret ⟨fun e => absurd e ht, fun _ => h⟩ (Sub.refl _)
end
end Go.Proofs.YtdfpjhlckjognaaGreat.Fw
set_option linter.unusedSimpArgs false
set_option linter.unusedVariables false
namespace Go.Proofs.YtdfpjhlckjognaaGreat.Fw
open Go
section enc
variable {α : Type} (T : Enc α)
theorem Enc.all_cons (x : α) (l : List α) : T.all (x :: l) = T.e x ++ T.all l := by simp [Enc.all]
theorem Enc.all_append (l m : List α) : T.all (l ++ m) = T.all l ++ T.all m := by simp [Enc.all]
theorem Enc.all_length : ∀ l : List α, (T.all l).length = l.length * T.z
  | [] => by simp [Enc.all]
  | x :: l => by rw [Enc.all_cons, List.length_append, T.len, Enc.all_length l]; simp [Nat.add_mul]; omega
theorem Enc.all_drop (l : List α) (j : Nat) : (T.all l).drop (j * T.z) = T.all (l.drop j) := by
  induction j generalizing l with
  | zero => simp
  | succ j ih =>
    cases l with
    | nil => simp [Enc.all]
    | cons x l => rw [Enc.all_cons, List.drop_succ_cons, ← ih, Nat.add_mul, Nat.one_mul, Nat.add_comm, ← List.drop_drop]; congr 1; exact List.drop_left' (T.len x)
theorem Enc.all_take (l : List α) (j : Nat) : (T.all l).take (j * T.z) = T.all (l.take j) := by
  induction j generalizing l with
  | zero => simp [Enc.all]
  | succ j ih =>
    cases l with
    | nil => simp [Enc.all]
    | cons x l => rw [Enc.all_cons, List.take_succ_cons, Enc.all_cons, ← ih, Nat.add_mul, Nat.one_mul, Nat.add_comm, List.take_append, T.len]; rw [List.take_of_length_le (by rw [T.len]; omega)]; congr 2; omega
theorem Enc.all_get (l : List α) (j : Nat) (x : α) (h : l[j]? = some x) : ((T.all l).drop (j * T.z)).take T.z = T.e x := by
  rw [T.all_drop]
  obtain ⟨hj, rfl⟩ := List.getElem?_eq_some_iff.1 h
  rw [List.drop_eq_getElem_cons hj, Enc.all_cons]
  exact List.take_left' (T.len _)
theorem Enc.all_set (l : List α) (j : Nat) (y : α) (hj : j < l.length) : (T.all l).take (j * T.z) ++ T.e y ++ (T.all l).drop (j * T.z + T.z) = T.all (l.set j y) := by
  have : j * T.z + T.z = (j + 1) * T.z := by rw [Nat.add_mul, Nat.one_mul]
  rw [this, T.all_drop, T.all_take, List.set_eq_take_append_cons_drop, if_pos hj, Enc.all_append, Enc.all_cons, List.append_assoc]
end enc
theorem take_drop_mid {α : Type} (c : List α) (a n i k : Nat) (h : i + k ≤ n) : (c.drop (a + i)).take k = (((c.drop a).take n).drop i).take k := by
  rw [← List.drop_drop, List.drop_take, List.take_take, Nat.min_eq_left (by omega)]
section
variable {α : Type} {T : Enc α} {d : SlD} {l : List α} {c : List Sc}
theorem SlOk.n (h : SlOk T d l c) : d.len = l.length := h.len
theorem SlOk.bound (h : SlOk T d l c) {j : Nat} (hj : j < l.length) : d.off + j * T.z + T.z ≤ c.length := by
  have h1 := h.fit; have h2 := h.cap; have h3 := h.len
  have : (j + 1) * T.z ≤ d.cap * T.z := Nat.mul_le_mul_right _ (by omega)
  rw [Nat.add_mul, Nat.one_mul] at this
  omega
theorem SlOk.get (h : SlOk T d l c) {j : Nat} {x : α} (hx : l[j]? = some x) : (c.drop (d.off + j * T.z)).take T.z = T.e x := by
  obtain ⟨hj, _⟩ := List.getElem?_eq_some_iff.1 hx
  have : (j + 1) * T.z ≤ d.len * T.z := Nat.mul_le_mul_right _ (by have := h.len; omega)
  rw [Nat.add_mul, Nat.one_mul] at this
  rw [take_drop_mid c d.off (d.len * T.z) (j * T.z) T.z this, h.at_, T.all_get l j x hx]
theorem SlOk.set (h : SlOk T d l c) {j : Nat} {y : α} (hj : j < l.length) : SlOk T d (l.set j y) (c.take (d.off + j * T.z) ++ T.e y ++ c.drop (d.off + j * T.z + T.z)) := by
  have hb := h.bound hj
  have hl := T.len y
  refine ⟨h.z, by simpa using h.len, h.cap, ?_, ?_⟩
  · have := h.fit
    simp only [List.length_append, List.length_take, List.length_drop, hl]; omega
  · have hlen := h.len
    have e1 : (j + 1) * T.z ≤ d.len * T.z := Nat.mul_le_mul_right _ (by omega)
    rw [Nat.add_mul, Nat.one_mul] at e1
    have h3 : d.off + d.len * T.z ≤ c.length := Nat.le_trans (Nat.add_le_add_left (Nat.mul_le_mul_right _ h.cap) _) h.fit
    have e2 : c.take (d.off + j * T.z) = c.take d.off ++ (c.drop d.off).take (j * T.z) := List.take_add
    rw [← T.all_set l j y hj, ← h.at_, e2, List.append_assoc, List.append_assoc, List.drop_append, List.length_take, Nat.min_eq_left (by omega), Nat.sub_self, List.drop_zero,
      List.drop_eq_nil_of_le (by simp; omega), List.nil_append, List.take_append, List.take_append, List.take_take, List.take_take, List.length_take, List.length_drop, hl]
    rw [Nat.min_eq_left (by omega : j * T.z ≤ c.length - d.off), Nat.min_eq_right (by omega), Nat.min_eq_left (by omega), List.take_of_length_le (by rw [hl]; omega : (T.e y).length ≤ d.len * T.z - j * T.z), List.append_assoc]
    congr 2
    rw [List.drop_take, List.drop_drop]
    congr 1
    · omega
    · congr 1; omega
theorem SlOk.cut (h : SlOk T d l c) {lo hi m : Nat} (h1 : lo ≤ hi) (h2 : hi ≤ l.length) (h3 : hi ≤ m) (h4 : m ≤ d.cap) : SlOk T ⟨d.id, d.off + lo * T.z, hi - lo, m - lo, T.z⟩ ((l.take hi).drop lo) c := by
  have hlen := h.len
  have e1 : (m - lo) * T.z + lo * T.z ≤ d.cap * T.z := by rw [← Nat.add_mul]; exact Nat.mul_le_mul_right _ (by omega)
  refine ⟨rfl, by simp; omega, by simp; omega, ?_, ?_⟩
  · have := h.fit; simp only; omega
  · have e2 : lo * T.z + (hi - lo) * T.z ≤ d.len * T.z := by rw [← Nat.add_mul]; exact Nat.mul_le_mul_right _ (by omega)
    simp only
    rw [take_drop_mid c d.off (d.len * T.z) (lo * T.z) ((hi - lo) * T.z) e2, h.at_, T.all_drop, T.all_take, List.drop_take]
theorem SlOk.mk' {id off len cap : Nat} (hl : len = l.length) (hc : len ≤ cap) (hf : off + cap * T.z ≤ c.length) (ha : (c.drop off).take (len * T.z) = T.all l) : SlOk T ⟨id, off, len, cap, T.z⟩ l c := ⟨rfl, hl, hc, hf, ha⟩
end
section
variable {E : Env} {L R : List Assn} {Q : Post} {α : Type} {T : Enc α} {ro : Bool} {o : Option SlD} {l : List α}
theorem Star.sl_len {H : AH} (h : Star H (.sl ro T o l :: L)) : Fw.slN o = l.length := by
  cases o with
  | none => obtain ⟨rfl, _⟩ := Star.slN.1 h; rfl
  | some d => obtain ⟨c, h0, _⟩ := Star.slS.1 h; exact h0.len
theorem Tri.slLen {t : Tree} (p : Pick L (.sl ro T o l) R) (h : Fw.slN o = l.length → Fw.slLen o = (l.length : Int) → Tri E L t Q) : Tri E L t Q := .mk fun H hs => by
  have e := (hs.perm p.h).sl_len
  refine (h e ?_).go H hs
  cases o with
  | none => simp only [Fw.slN] at e; simp only [Fw.slLen]; omega
  | some d => simp only [Fw.slN] at e; simp only [Fw.slLen]; omega
theorem Star.app {H : AH} {z eb n : Nat} {vs : List Sc} {xs : List α} (h : Star H (.sl false T o l :: L)) (hz : T.z = z) (he : 0 < eb) (he' : eb ≤ appBytes) (hv : vs = T.all xs) (hn : n = xs.length) (hb : (l.length + xs.length) * eb ≤ appBound) :
    ∃ o' H', H.app z eb o vs n = some (o', H') ∧ Star H' (.sl false T o' (l ++ xs) :: L) := by
  subst hz; subst hv; subst hn
  unfold AH.app
  rw [if_pos ⟨T.all_length xs, he, he'⟩]
  cases o with
  | none =>
    obtain ⟨rfl, h'⟩ := Star.slN.1 h
    clear h
    dsimp only
    by_cases hx : xs.length = 0
    · rw [if_pos hx]
      have : xs = [] := List.length_eq_zero_iff.1 hx
      subst this
      exact ⟨_, _, rfl, Star.slN.2 ⟨rfl, h'⟩⟩
    · rw [if_neg hx, if_pos (by simpa using hb)]
      refine ⟨_, _, rfl, Star.slS.2 ⟨_, ?_, h'.new⟩⟩
      exact SlOk.mk' rfl (Nat.le_refl _) (by simp [T.all_length]) (by simp [← T.all_length])
  | some d =>
    obtain ⟨c, k, h⟩ := Star.slS.1 h
    have k1 := k.z; have k2 := k.len; have k3 := k.cap; have k4 := k.fit
    have hfit : d.off + d.len * T.z ≤ c.length := Nat.le_trans (Nat.add_le_add_left (Nat.mul_le_mul_right _ k.cap) _) k.fit
    dsimp only
    rw [if_pos k1]
    by_cases hc : d.len + xs.length ≤ d.cap
    · rw [if_pos hc]
      by_cases hx : xs.length = 0
      · rw [if_pos hx]
        have : xs = [] := List.length_eq_zero_iff.1 hx
        subst this
        exact ⟨_, _, rfl, Star.slS.2 ⟨c, by simpa using k, h⟩⟩
      · rw [if_neg hx]
        have e1 : d.len * T.z + xs.length * T.z ≤ d.cap * T.z := by rw [← Nat.add_mul]; exact Nat.mul_le_mul_right _ hc
        have hwr : d.off + d.len * T.z + (T.all xs).length ≤ c.length := by rw [T.all_length]; omega
        refine ⟨some ⟨d.id, d.off, d.len + xs.length, d.cap, T.z⟩, _, by rw [AH.wr, h.get.1]; dsimp only; rw [if_pos hwr, obind_some], Star.slS.2 ⟨_, ?_, h.put⟩⟩
        refine SlOk.mk' (by simp [k2]) hc ?_ ?_
        · simp only [List.length_append, List.length_take, List.length_drop, T.all_length]; omega
        · have e2 : (c.take (d.off + d.len * T.z) ++ T.all xs ++ c.drop (d.off + d.len * T.z + (T.all xs).length)).drop d.off = (c.drop d.off).take (d.len * T.z) ++ (T.all xs ++ c.drop (d.off + d.len * T.z + (T.all xs).length)) := by
            rw [List.append_assoc, List.drop_append, List.length_take, Nat.min_eq_left (by omega), Nat.sub_eq_zero_of_le (by omega), List.drop_zero, List.drop_take, Nat.add_sub_cancel_left]
          rw [e2, k.at_, ← List.append_assoc, ← T.all_append, Nat.add_mul]
          rw [List.take_append, List.take_of_length_le (by rw [T.all_length]; simp [k2, Nat.add_mul]), T.all_length]
          simp [k2, Nat.add_mul]
    · rw [if_neg hc, if_pos (by rw [k2]; exact hb), h.get.1]
      dsimp only
      rw [if_pos hfit]
      refine ⟨_, _, rfl, Star.slS.2 ⟨_, ?_, h.kill.new⟩⟩
      rw [k.at_, ← T.all_append]
      refine SlOk.mk' (by simp [k2]) (Nat.le_refl _) ?_ ?_
      · rw [T.all_length]; simp [k2]
      · rw [List.drop_zero, List.take_of_length_le]; rw [T.all_length]; simp [k2]
theorem Tri.app {z eb n : Nat} {vs : List Sc} {f : Option SlD → Tree} (xs : List α) (p : Pick L (.sl false T o l) R) (hz : T.z = z) (hv : vs = T.all xs) (hn : n = xs.length) (he : 0 < eb) (he' : eb ≤ appBytes) (hb : (l.length + xs.length) * eb ≤ appBound)
    (h : ∀ o', Tri E (.sl false T o' (l ++ xs) :: R) (f o') Q) : Tri E L (.app z eb o vs n f) Q := .mk fun H hs => by
  obtain ⟨o', H', h1, h2⟩ := Star.app (hs.perm p.h) hz he he' hv hn hb
  exact ⟨(o', H'), h1, (h o').go H' h2⟩
theorem Tri.lds {z n : Nat} {f : List Sc → Tree} (p : Pick L (.sl ro T o l) R) (hz : T.z = z) (hn : n = Fw.slN o) (h : n = l.length → Tri E L (f (T.all l)) Q) : Tri E L (.lds z o n f) Q := .mk fun H hs => by
  have hs' := hs.perm p.h
  have hl := hs'.sl_len
  refine ⟨T.all l, ?_, (h (by omega)).go H hs⟩
  subst hn; subst hz
  cases o with
  | none => obtain ⟨rfl, _⟩ := Star.slN.1 hs'; rfl
  | some d =>
    obtain ⟨c, k, hs2⟩ := Star.slS.1 hs'
    have hfit : d.off + d.len * T.z ≤ c.length := Nat.le_trans (Nat.add_le_add_left (Nat.mul_le_mul_right _ k.cap) _) k.fit
    have e0 : Fw.slN (some d) = d.len := rfl
    rw [e0]
    simp only [AH.rds]
    by_cases h0 : d.len = 0
    · rw [if_pos h0]
      rw [k.len] at h0
      have : l = [] := List.length_eq_zero_iff.1 h0
      subst this; rfl
    · rw [if_neg h0, if_pos ⟨Nat.le_refl _, k.z⟩]
      simp [AH.rd, hs2.get.1, hfit, k.at_]
theorem Tri.slc {z : Nat} {lo hi : Option Int} {f : Option SlD → Tree} (a b : Nat) (p : Pick L (.sl ro T o l) R) (hz : T.z = z) (ha : lo.getD 0 = a) (hb : hi.getD l.length = b) (h1 : a ≤ b) (h2 : b ≤ l.length)
    (h : ∀ o', Tri E (.sl ro T o' ((l.take b).drop a) :: R) (f o') Q) : Tri E L (.slc z o lo hi none f) Q := .mk fun H hs => by
  have hs' := hs.perm p.h
  have hl := hs'.sl_len
  subst hz
  cases o with
  | none =>
    obtain ⟨rfl, hs2⟩ := Star.slN.1 hs'
    simp at h2 hb; subst h2
    have : a = 0 := by omega
    subst this
    refine ⟨none, ?_, (h none).go H (Star.slN.2 ⟨by simp, hs2⟩)⟩
    unfold slcIn; simp [ha, hb]
  | some d =>
    obtain ⟨c, k, hs2⟩ := Star.slS.1 hs'
    have k1 := k.z; have k2 := k.len; have k3 := k.cap
    refine ⟨some ⟨d.id, d.off + a * T.z, b - a, d.cap - a, T.z⟩, ?_, (h _).go H (Star.slS.2 ⟨c, k.cut h1 h2 (Nat.le_trans h2 (by omega)) (Nat.le_refl _), hs2⟩)⟩
    rw [← k2] at hb
    unfold slcIn
    simp only [ha, hb, Option.isNone_none, Bool.true_or, Option.getD_none]
    rw [if_pos ⟨trivial, by omega, by omega, by omega, by omega, by omega, by omega⟩, if_pos k1]
    congr 2
    congr 1 <;> omega
end
theorem wr_s {k : IntKind} (hs : k.signed = true) (hb : 0 < k.bits) {n : Int} (h1 : -(2 ^ (k.bits - 1) : Int) ≤ n) (h2 : n < (2 ^ (k.bits - 1) : Int)) : k.wrap n = n := by
  obtain ⟨b, hb'⟩ : ∃ b, k.bits = b + 1 := ⟨k.bits - 1, by omega⟩
  have e : (2 ^ k.bits : Int) = 2 * 2 ^ (k.bits - 1) := by rw [hb']; simp [Int.pow_succ, Int.mul_comm]
  have hp : (0 : Int) < 2 ^ (k.bits - 1) := Int.pow_pos (by decide)
  unfold IntKind.wrap
  simp only [hs, Bool.true_and, e]
  generalize (2 ^ (k.bits - 1) : Int) = p at *
  by_cases h0 : 0 ≤ n
  · rw [Int.emod_eq_of_lt h0 (by omega)]
    rw [if_neg (by simp; omega)]
  · have : n % (2 * p) = n + 2 * p := by
      rw [← Int.add_emod_right, Int.emod_eq_of_lt (by omega) (by omega)]
    rw [this, if_pos (by simp; omega)]; omega
theorem wr_i64 {n : Int} (h1 : -9223372036854775808 ≤ n) (h2 : n ≤ 9223372036854775807) : IntKind.wrap .i64 n = n :=
  wr_s rfl (by decide) (by simpa [IntKind.bits] using h1) (by simp [IntKind.bits]; omega)
theorem wr_u {k : IntKind} (hs : k.signed = false) {n : Int} (h1 : 0 ≤ n) (h2 : n < (2 ^ k.bits : Int)) : k.wrap n = n := by
  unfold IntKind.wrap
  simp only [hs, Bool.false_and]
  rw [Int.emod_eq_of_lt h1 h2]; simp
theorem wr_u8 {n : Int} (h1 : 0 ≤ n) (h2 : n < 256) : IntKind.wrap .u8 n = n := wr_u rfl h1 (by simpa [IntKind.bits] using h2)
end Go.Proofs.YtdfpjhlckjognaaGreat.Fw
set_option linter.unusedSimpArgs false
set_option linter.unusedVariables false
namespace Go.Proofs.YtdfpjhlckjognaaGreat.Fw
open Go
section
variable {E : Env} {L R : List Assn} {Q : Post} {α : Type} {T : Enc α} {ro : Bool} {o : Option SlD} {l : List α} {d : SlD} {c : List Sc}
theorem SlOk.split (h : SlOk T d l c) : ∃ pre suf, c = pre ++ T.all l ++ suf ∧ pre.length = d.off ∧ (d.cap - d.len) * T.z ≤ suf.length := by
  have hfit : d.off + d.len * T.z ≤ c.length := Nat.le_trans (Nat.add_le_add_left (Nat.mul_le_mul_right _ h.cap) _) h.fit
  refine ⟨c.take d.off, c.drop (d.off + d.len * T.z), ?_, by simp; omega, ?_⟩
  · rw [← h.at_, ← List.drop_drop, List.append_assoc, List.take_append_drop, List.take_append_drop]
  · have := h.fit
    rw [Nat.sub_mul, List.length_drop]; omega
end
end Go.Proofs.YtdfpjhlckjognaaGreat.Fw
