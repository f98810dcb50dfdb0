/- From a run of the abstract machine to a call in the model: the arguments as they come in. -/
import Derived.Test.YtdfpjhlckjognaaGreatFwZa
import Derived.Test.YtdfpjhlckjognaaGreatFwW
import Derived.Below
import Derived.Deep.Slices
import Derived.WideShapes
set_option linter.unusedSimpArgs false
set_option linter.unusedVariables false
namespace Go.Proofs.YtdfpjhlckjognaaGreat.Fw
open Go Go.RowKit
def Came (ι : Inj) (H : AH) (w : World) : Prop := HR ι H w ∧ (∀ id d, ι id = some d → d.ro = true) ∧ ∀ id, H.next ≤ id → ι id = none
theorem Came.none (w : World) : Came (fun _ => none) ⟨0, fun _ => none⟩ w :=
  ⟨⟨fun _ _ _ h => (by cases h), fun _ _ _ _ _ h => (by cases h), fun _ _ h => (by cases h), fun _ _ => rfl⟩, fun _ _ h => (by cases h), fun _ _ => rfl⟩
theorem calls_of {P : Program} {T : TTab} {hs : Nat → Hints} (hT : TOk P T) (hmix : P.follows .mixedOrders = true) (hodd : NoOdd P) (hB : ∀ g f, (hs g).back.contains f = true → BackOk P f) {n : Nat} {f : FuncId} {args : List AV} {H H1 : AH} {b : Bool}
    (h : callA P T hs n f args H = some (.sc (.b b), H1)) {ι : Inj} {w : World} (hc : Came ι H w) {args' : List Value} (hv : VRs ι args args') :
    Calls P f ⟨args'⟩ w fun e w' => e = .returned (.bool b) ∧ Below w.heap.size w w' := by
  obtain ⟨hr, hro, hn⟩ := hc
  obtain ⟨_, ⟨hS, _⟩ | ⟨_, fn, s, _, _, _, _, hx, e⟩⟩ := callA_sound hT hmix hodd hs hB n _ _ _ _ _ h
  case inr => cases e; exact (extA_nb hx).elim
  refine (hS ι w args' hv hr (fun id a _ => hn id a)).mono fun e w' hh => ?_
  obtain ⟨ι', v', he, hvr, _, s⟩ := hh
  cases hvr
  exact ⟨he, s.io.1, s.io.2.2, s.io.2.1, s.sz, fun k hk => s.fr k hk (fun ⟨id, d, h1, _, _, h2, _⟩ => by rw [hro id d h1] at h2; cases h2)⟩
end Go.Proofs.YtdfpjhlckjognaaGreat.Fw
namespace Go.Proofs.YtdfpjhlckjognaaGreat.Fw
open Go
end Go.Proofs.YtdfpjhlckjognaaGreat.Fw
set_option linter.unusedSimpArgs false
set_option linter.unusedVariables false
namespace Go.Proofs.YtdfpjhlckjognaaGreat.Fw
open Go
section
variable {α : Type} (κ : α → Int)
def Srt (l : List α) : Prop := l.Pairwise fun a b => κ a ≤ κ b
def Stb (l l' : List α) : Prop := Srt κ l' ∧ ∀ v, l'.filter (fun x => κ x == v) = l.filter (fun x => κ x == v)
variable {κ}
theorem Stb.mem {l l' : List α} (h : Stb κ l l') (x : α) : x ∈ l' ↔ x ∈ l := by
  have h1 := h.2 (κ x)
  constructor
  · intro hx
    have : x ∈ l'.filter (fun y => κ y == κ x) := List.mem_filter.2 ⟨hx, by simp⟩
    rw [h1] at this; exact (List.mem_filter.1 this).1
  · intro hx
    have : x ∈ l.filter (fun y => κ y == κ x) := List.mem_filter.2 ⟨hx, by simp⟩
    rw [← h1] at this; exact (List.mem_filter.1 this).1
theorem Stb.refl {l : List α} (h : Srt κ l) : Stb κ l l := ⟨h, fun _ => rfl⟩
theorem Stb.trans {a b c : List α} (h : Stb κ a b) (k : Stb κ b c) : Stb κ a c := ⟨k.1, fun v => (k.2 v).trans (h.2 v)⟩
variable (κ)
def ins (x : α) (l : List α) : List α := l.takeWhile (fun y => decide (κ y ≤ κ x)) ++ x :: l.dropWhile (fun y => decide (κ y ≤ κ x))
def ssort (l : List α) : List α := l.foldl (fun acc x => ins κ x acc) []
variable {κ}
theorem srt_ins {x : α} {S1 S2 : List α} (hs : Srt κ (S1 ++ S2)) (h1 : ∀ y ∈ S1, κ y ≤ κ x) (h2 : ∀ y ∈ S2, κ x < κ y) : Srt κ (S1 ++ x :: S2) ∧ ins κ x (S1 ++ S2) = S1 ++ x :: S2 := by
  obtain ⟨p1, p2, p3⟩ := List.pairwise_append.1 hs
  refine ⟨List.pairwise_append.2 ⟨p1, List.pairwise_cons.2 ⟨fun y hy => by have := h2 y hy; omega, p2⟩, fun a ha b hb => ?_⟩, ?_⟩
  · cases hb with
    | head => exact h1 a ha
    | tail _ hm => exact p3 a ha b hm
  · have e1 : ∀ {S1 : List α}, (∀ y ∈ S1, κ y ≤ κ x) → (S1 ++ S2).takeWhile (fun y => decide (κ y ≤ κ x)) = S1 ∧ (S1 ++ S2).dropWhile (fun y => decide (κ y ≤ κ x)) = S2 := by
      intro S1
      induction S1 with
      | nil =>
        intro _
        cases S2 with
        | nil => exact ⟨rfl, rfl⟩
        | cons y s =>
          have := h2 y (by simp)
          rw [List.nil_append, List.takeWhile_cons, List.dropWhile_cons, if_neg (by simp; omega), if_neg (by simp; omega)]
          exact ⟨rfl, rfl⟩
      | cons z s ih =>
        intro h
        have hz := h z (by simp)
        have := ih fun y hy => h y (by simp [hy])
        rw [List.cons_append, List.takeWhile_cons, List.dropWhile_cons, if_pos (by simpa using hz), if_pos (by simpa using hz), this.1, this.2]
        exact ⟨rfl, rfl⟩
    unfold ins; rw [(e1 h1).1, (e1 h1).2]
theorem split_ins {x : α} {l : List α} (hs : Srt κ l) : ∃ S1 S2, l = S1 ++ S2 ∧ (∀ y ∈ S1, κ y ≤ κ x) ∧ (∀ y ∈ S2, κ x < κ y) := by
  induction l with
  | nil => exact ⟨[], [], rfl, by simp, by simp⟩
  | cons z l ih =>
    obtain ⟨hz, hl⟩ := List.pairwise_cons.1 hs
    by_cases h : κ z ≤ κ x
    · obtain ⟨S1, S2, rfl, h1, h2⟩ := ih hl
      exact ⟨z :: S1, S2, rfl, by simpa [h] using h1, h2⟩
    · refine ⟨[], z :: l, rfl, by simp, ?_⟩
      intro y hy
      cases hy with
      | head => omega
      | tail _ hm => have := hz y hm; omega
theorem Stb.ins {l acc : List α} (h : Stb κ l acc) (x : α) : Stb κ (l ++ [x]) (ins κ x acc) := by
  obtain ⟨S1, S2, rfl, h1, h2⟩ := split_ins (x := x) h.1
  obtain ⟨k1, k2⟩ := srt_ins h.1 h1 h2
  rw [k2]
  refine ⟨k1, fun v => ?_⟩
  rw [List.filter_append, List.filter_append, ← h.2 v, List.filter_append, List.filter_cons]
  by_cases e : κ x = v
  · have : S2.filter (fun z => κ z == v) = [] := List.filter_eq_nil_iff.2 fun y hy => by have := h2 y hy; simp; omega
    rw [if_pos (by simpa using e), this, List.append_nil, List.filter_cons, if_pos (by simpa using e)]; rfl
  · rw [if_neg (by simpa using e), List.filter_cons, if_neg (by simpa using e)]; simp
theorem ssort_length (l : List α) : (ssort κ l).length = l.length := by
  have hi : ∀ (x : α) (l : List α), (ins κ x l).length = l.length + 1 := by
    intro x l
    have := congrArg List.length (List.takeWhile_append_dropWhile (p := fun y => decide (κ y ≤ κ x)) (l := l))
    simp only [List.length_append] at this
    simp only [ins, List.length_append, List.length_cons]; omega
  have : ∀ (l acc : List α), (l.foldl (fun acc x => ins κ x acc) acc).length = acc.length + l.length := by
    intro l
    induction l with
    | nil => intro acc; rfl
    | cons x l ih => intro acc; rw [List.foldl_cons, ih, hi]; simp; omega
  simpa [ssort] using this l []
end
section
variable {α : Type} {κ : α → Int}
theorem Srt.le {l : List α} (h : Srt κ l) {i j : Nat} {x y : α} (hij : i ≤ j) (hx : l[i]? = some x) (hy : l[j]? = some y) : κ x ≤ κ y := by
  obtain ⟨hi, rfl⟩ := List.getElem?_eq_some_iff.1 hx
  obtain ⟨hj, rfl⟩ := List.getElem?_eq_some_iff.1 hy
  rcases Nat.lt_or_ge i j with h' | h'
  · exact List.pairwise_iff_getElem.1 h i j hi hj h'
  · have : i = j := by omega
    subst this; exact Int.le_refl _
inductive Chunks (κ : α → Int) (bs : Nat) : List α → List α → Prop where
  | last {l : List α} : l.length ≤ bs → Chunks κ bs l (ssort κ l)
  | cons {X R R' : List α} : X.length = bs → Chunks κ bs R R' → Chunks κ bs (X ++ R) (ssort κ X ++ R')
theorem Chunks.length {bs : Nat} {l l' : List α} (h : Chunks κ bs l l') : l'.length = l.length := by
  induction h with
  | last _ => exact ssort_length _
  | cons _ _ ih => simp [ssort_length, ih]
theorem Chunks.small {bs : Nat} {l l' : List α} (h : Chunks κ bs l l') (hl : l.length ≤ bs) (hb : 0 < bs) : l' = ssort κ l := by
  cases h with
  | last _ => rfl
  | @cons X R R' hx hr =>
    simp only [List.length_append] at hl
    have : R = [] := List.length_eq_zero_iff.1 (by omega)
    subst this
    have : R' = [] := List.length_eq_zero_iff.1 (by rw [hr.length]; rfl)
    subst this
    simp
theorem Chunks.two {bs : Nat} {l l' : List α} (h : Chunks κ bs l l') (hl : 2 * bs ≤ l.length) (hb : 0 < bs) : ∃ X Y R R', l = X ++ Y ++ R ∧ X.length = bs ∧ Y.length = bs ∧ l' = ssort κ X ++ ssort κ Y ++ R' ∧ Chunks κ bs R R' := by
  cases h with
  | last h => omega
  | @cons X R R' hx hr =>
    simp only [List.length_append] at hl
    cases hr with
    | last h => exact ⟨X, R, [], [], by simp, hx, by omega, by simp, .last (by simp)⟩
    | @cons Y R R' hy hr => exact ⟨X, Y, R, R', by simp, hx, hy, by simp, hr⟩
theorem Chunks.one {bs : Nat} {l l' : List α} (h : Chunks κ bs l l') (hl : bs ≤ l.length) (hb : 0 < bs) : ∃ X R R', l = X ++ R ∧ X.length = bs ∧ l' = ssort κ X ++ R' ∧ Chunks κ bs R R' := by
  cases h with
  | last h => exact ⟨l, [], [], by simp, by omega, by simp, .last (by simp)⟩
  | @cons X R R' hx hr => exact ⟨X, R, R', rfl, hx, rfl, hr⟩
end
end Go.Proofs.YtdfpjhlckjognaaGreat.Fw
set_option linter.unusedSimpArgs false
set_option linter.unusedVariables false
namespace Go.Proofs.YtdfpjhlckjognaaGreat.Fw
open Go
section
variable {E : Env} {L R : List Assn} {Q : Post} {α : Type} {T : Enc α} {o : Option SlD}
end
end Go.Proofs.YtdfpjhlckjognaaGreat.Fw
set_option linter.unusedSimpArgs false
set_option linter.unusedVariables false
namespace Go.Proofs.YtdfpjhlckjognaaGreat.Fw
open Go Go.RowKit
section
variable {H : Type} {enc : TypeId × Value → H} {P : Program} {w : World} {base : Nat} {spare : Nat → Bool} {held : Bool} {ι : Inj}
end
end Go.Proofs.YtdfpjhlckjognaaGreat.Fw
set_option linter.unusedSimpArgs false
set_option linter.unusedVariables false
namespace Go.Proofs.YtdfpjhlckjognaaGreat.Fw
open Go Go.RowKit
end Go.Proofs.YtdfpjhlckjognaaGreat.Fw
