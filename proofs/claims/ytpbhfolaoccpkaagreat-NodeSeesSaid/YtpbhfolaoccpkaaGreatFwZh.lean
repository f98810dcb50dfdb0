/- From a run of the abstract machine to a call in the model: the arguments as they come in. -/
import Derived.Test.YtpbhfolaoccpkaaGreatFwZa
import Derived.Test.YtpbhfolaoccpkaaGreatFwW
import Derived.Below
import Derived.Deep.Slices
import Derived.WideShapes
set_option linter.unusedSimpArgs false
set_option linter.unusedVariables false
namespace Go.Proofs.YtpbhfolaoccpkaaGreat.Fw
open Go Go.RowKit
/-- what has come in: objects that are read only -/
def Came (ι : Inj) (H : AH) (w : World) : Prop := HR ι H w ∧ (∀ id d, ι id = some d → d.ro = true) ∧ ∀ id, H.next ≤ id → ι id = none

theorem Came.none (w : World) : Came (fun _ => none) ⟨0, fun _ => none⟩ w :=
  ⟨⟨fun _ _ _ h => (by cases h), fun _ _ _ _ _ h => (by cases h), fun _ _ h => (by cases h), fun _ _ => rfl⟩, fun _ _ h => (by cases h), fun _ _ => rfl⟩

theorem calls_of {P : Program} {T : TTab} {hs : Nat → Hints} (hT : TOk P T) (hmix : P.follows .mixedOrders = true) (hodd : NoOdd P) {n : Nat} {f : FuncId} {args : List AV} {H H1 : AH} {b : Bool}
    (h : callA P T hs n f args H = some (.sc (.b b), H1)) {ι : Inj} {w : World} (hc : Came ι H w) {args' : List Value} (hv : VRs ι args args') :
    Calls P f ⟨args'⟩ w fun e w' => e = .returned (.bool b) ∧ Below w.heap.size w w' := by
  obtain ⟨hr, hro, hn⟩ := hc
  obtain ⟨_, ⟨hS, _⟩ | ⟨_, fn, s, _, _, _, _, hx, e⟩⟩ := callA_sound hT hmix hodd hs n _ _ _ _ _ h
  case inr => cases e; exact (extA_nb hx).elim
  refine (hS ι w args' hv hr (fun id a _ => hn id a)).mono fun e w' hh => ?_
  obtain ⟨ι', v', he, hvr, _, s⟩ := hh
  cases hvr
  exact ⟨he, s.io.1, s.io.2.2, s.io.2.1, s.sz, fun k hk => s.fr k hk (fun ⟨id, d, h1, _, _, h2, _⟩ => by rw [hro id d h1] at h2; cases h2)⟩
end Go.Proofs.YtpbhfolaoccpkaaGreat.Fw
namespace Go.Proofs.YtpbhfolaoccpkaaGreat.Fw
open Go
end Go.Proofs.YtpbhfolaoccpkaaGreat.Fw
set_option linter.unusedSimpArgs false
set_option linter.unusedVariables false
namespace Go.Proofs.YtpbhfolaoccpkaaGreat.Fw
open Go
section
variable {α : Type} (κ : α → Int)
def Srt (l : List α) : Prop := l.Pairwise fun a b => κ a ≤ κ b
/-- l' is l, sorted -/
def Stb (l l' : List α) : Prop := Srt κ l' ∧ ∀ v, l'.filter (fun x => κ x == v) = l.filter (fun x => κ x == v)

variable {κ}
theorem Stb.mem {l l' : List α} (h : Stb κ l l') (x : α) : x ∈ l' ↔ x ∈ l := by
  have h1 := h.2 (κ x)
  constructor
  · intro hx
    have : x ∈ l'.filter (fun y => κ y == κ x) := List.mem_filter.2 ⟨hx, by simp⟩
    rw [h1] at this; exact (List.mem_filter.1 this).1
  · intro hx
    have : x ∈ l.filter (fun y => κ y == κ x) := List.mem_filter.2 ⟨hx, by simp⟩
    rw [← h1] at this; exact (List.mem_filter.1 this).1
theorem Stb.refl {l : List α} (h : Srt κ l) : Stb κ l l := ⟨h, fun _ => rfl⟩
theorem Stb.trans {a b c : List α} (h : Stb κ a b) (k : Stb κ b c) : Stb κ a c := ⟨k.1, fun v => (k.2 v).trans (h.2 v)⟩

variable (κ)
def ins (x : α) (l : List α) : List α := l.takeWhile (fun y => decide (κ y ≤ κ x)) ++ x :: l.dropWhile (fun y => decide (κ y ≤ κ x))
def ssort (l : List α) : List α := l.foldl (fun acc x => ins κ x acc) []
variable {κ}
theorem srt_ins {x : α} {S1 S2 : List α} (hs : Srt κ (S1 ++ S2)) (h1 : ∀ y ∈ S1, κ y ≤ κ x) (h2 : ∀ y ∈ S2, κ x < κ y) : Srt κ (S1 ++ x :: S2) ∧ ins κ x (S1 ++ S2) = S1 ++ x :: S2 := by
  obtain ⟨p1, p2, p3⟩ := List.pairwise_append.1 hs
  refine ⟨List.pairwise_append.2 ⟨p1, List.pairwise_cons.2 ⟨fun y hy => by have := h2 y hy; omega, p2⟩, fun a ha b hb => ?_⟩, ?_⟩
  · cases hb with
    | head => exact h1 a ha
    | tail _ hm => exact p3 a ha b hm
  · have e1 : ∀ {S1 : List α}, (∀ y ∈ S1, κ y ≤ κ x) → (S1 ++ S2).takeWhile (fun y => decide (κ y ≤ κ x)) = S1 ∧ (S1 ++ S2).dropWhile (fun y => decide (κ y ≤ κ x)) = S2 := by
      intro S1
      induction S1 with
      | nil =>
        intro _
        cases S2 with
        | nil => exact ⟨rfl, rfl⟩
        | cons y s =>
          have := h2 y (by simp)
          rw [List.nil_append, List.takeWhile_cons, List.dropWhile_cons, if_neg (by simp; omega), if_neg (by simp; omega)]
          exact ⟨rfl, rfl⟩
      | cons z s ih =>
        intro h
        have hz := h z (by simp)
        have := ih fun y hy => h y (by simp [hy])
        rw [List.cons_append, List.takeWhile_cons, List.dropWhile_cons, if_pos (by simpa using hz), if_pos (by simpa using hz), this.1, this.2]
        exact ⟨rfl, rfl⟩
    unfold ins; rw [(e1 h1).1, (e1 h1).2]
theorem split_ins {x : α} {l : List α} (hs : Srt κ l) : ∃ S1 S2, l = S1 ++ S2 ∧ (∀ y ∈ S1, κ y ≤ κ x) ∧ (∀ y ∈ S2, κ x < κ y) := by
  induction l with
  | nil => exact ⟨[], [], rfl, by simp, by simp⟩
  | cons z l ih =>
    obtain ⟨hz, hl⟩ := List.pairwise_cons.1 hs
    by_cases h : κ z ≤ κ x
    · obtain ⟨S1, S2, rfl, h1, h2⟩ := ih hl
      exact ⟨z :: S1, S2, rfl, by simpa [h] using h1, h2⟩
    · refine ⟨[], z :: l, rfl, by simp, ?_⟩
      intro y hy
      cases hy with
      | head => omega
      | tail _ hm => have := hz y hm; omega
theorem Stb.ins {l acc : List α} (h : Stb κ l acc) (x : α) : Stb κ (l ++ [x]) (ins κ x acc) := by
  obtain ⟨S1, S2, rfl, h1, h2⟩ := split_ins (x := x) h.1
  obtain ⟨k1, k2⟩ := srt_ins h.1 h1 h2
  rw [k2]
  refine ⟨k1, fun v => ?_⟩
  rw [List.filter_append, List.filter_append, ← h.2 v, List.filter_append, List.filter_cons]
  by_cases e : κ x = v
  · have : S2.filter (fun z => κ z == v) = [] := List.filter_eq_nil_iff.2 fun y hy => by have := h2 y hy; simp; omega
    rw [if_pos (by simpa using e), this, List.append_nil, List.filter_cons, if_pos (by simpa using e)]; rfl
  · rw [if_neg (by simpa using e), List.filter_cons, if_neg (by simpa using e)]; simp
theorem ssort_length (l : List α) : (ssort κ l).length = l.length := by
  have hi : ∀ (x : α) (l : List α), (ins κ x l).length = l.length + 1 := by
    intro x l
    have := congrArg List.length (List.takeWhile_append_dropWhile (p := fun y => decide (κ y ≤ κ x)) (l := l))
    simp only [List.length_append] at this
    simp only [ins, List.length_append, List.length_cons]; omega
  have : ∀ (l acc : List α), (l.foldl (fun acc x => ins κ x acc) acc).length = acc.length + l.length := by
    intro l
    induction l with
    | nil => intro acc; rfl
    | cons x l ih => intro acc; rw [List.foldl_cons, ih, hi]; simp; omega
  simpa [ssort] using this l []
end
section
variable {α : Type} {κ : α → Int}
theorem Srt.le {l : List α} (h : Srt κ l) {i j : Nat} {x y : α} (hij : i ≤ j) (hx : l[i]? = some x) (hy : l[j]? = some y) : κ x ≤ κ y := by
  obtain ⟨hi, rfl⟩ := List.getElem?_eq_some_iff.1 hx
  obtain ⟨hj, rfl⟩ := List.getElem?_eq_some_iff.1 hy
  rcases Nat.lt_or_ge i j with h' | h'
  · exact List.pairwise_iff_getElem.1 h i j hi hj h'
  · have : i = j := by omega
    subst this; exact Int.le_refl _
inductive Chunks (κ : α → Int) (bs : Nat) : List α → List α → Prop where
  | last {l : List α} : l.length ≤ bs → Chunks κ bs l (ssort κ l)
  | cons {X R R' : List α} : X.length = bs → Chunks κ bs R R' → Chunks κ bs (X ++ R) (ssort κ X ++ R')
theorem Chunks.length {bs : Nat} {l l' : List α} (h : Chunks κ bs l l') : l'.length = l.length := by
  induction h with
  | last _ => exact ssort_length _
  | cons _ _ ih => simp [ssort_length, ih]
theorem Chunks.small {bs : Nat} {l l' : List α} (h : Chunks κ bs l l') (hl : l.length ≤ bs) (hb : 0 < bs) : l' = ssort κ l := by
  cases h with
  | last _ => rfl
  | @cons X R R' hx hr =>
    simp only [List.length_append] at hl
    have : R = [] := List.length_eq_zero_iff.1 (by omega)
    subst this
    have : R' = [] := List.length_eq_zero_iff.1 (by rw [hr.length]; rfl)
    subst this
    simp
/-- two chunks ahead -/
theorem Chunks.two {bs : Nat} {l l' : List α} (h : Chunks κ bs l l') (hl : 2 * bs ≤ l.length) (hb : 0 < bs) : ∃ X Y R R', l = X ++ Y ++ R ∧ X.length = bs ∧ Y.length = bs ∧ l' = ssort κ X ++ ssort κ Y ++ R' ∧ Chunks κ bs R R' := by
  cases h with
  | last h => omega
  | @cons X R R' hx hr =>
    simp only [List.length_append] at hl
    cases hr with
    | last h => exact ⟨X, R, [], [], by simp, hx, by omega, by simp, .last (by simp)⟩
    | @cons Y R R' hy hr => exact ⟨X, Y, R, R', by simp, hx, hy, by simp, hr⟩
theorem Chunks.one {bs : Nat} {l l' : List α} (h : Chunks κ bs l l') (hl : bs ≤ l.length) (hb : 0 < bs) : ∃ X R R', l = X ++ R ∧ X.length = bs ∧ l' = ssort κ X ++ R' ∧ Chunks κ bs R R' := by
  cases h with
  | last h => exact ⟨l, [], [], by simp, by omega, by simp, .last (by simp)⟩
  | @cons X R R' hx hr => exact ⟨X, R, R', rfl, hx, rfl, hr⟩
end
end Go.Proofs.YtpbhfolaoccpkaaGreat.Fw
set_option linter.unusedSimpArgs false
set_option linter.unusedVariables false
namespace Go.Proofs.YtpbhfolaoccpkaaGreat.Fw
open Go
section
variable {E : Env} {L R : List Assn} {Q : Post} {α : Type} {T : Enc α} {o : Option SlD}
end
end Go.Proofs.YtpbhfolaoccpkaaGreat.Fw
set_option linter.unusedSimpArgs false
set_option linter.unusedVariables false
namespace Go.Proofs.YtpbhfolaoccpkaaGreat.Fw
open Go Go.RowKit
section
variable {H : Type} {enc : TypeId × Value → H} {P : Program} {w : World} {base : Nat} {spare : Nat → Bool} {held : Bool} {ι : Inj}
end
end Go.Proofs.YtpbhfolaoccpkaaGreat.Fw
namespace Go.Proofs.YtpbhfolaoccpkaaGreat.Fw
set_option linter.unusedVariables false
set_option linter.unusedSimpArgs false
variable {α : Type}

/-- the list with two places swapped -/
def sw (l : List α) (i j : Nat) : List α := match l[i]?, l[j]? with
  | some x, some y => (l.set i y).set j x
  | _, _ => l
theorem sw_len (l : List α) (i j : Nat) : (sw l i j).length = l.length := by
  unfold sw; split <;> simp
theorem sw_eq {l : List α} {i j : Nat} {x y : α} (hx : l[i]? = some x) (hy : l[j]? = some y) : sw l i j = (l.set i y).set j x := by
  unfold sw; rw [hx, hy]
theorem sw_get {l : List α} {i j : Nat} (hi : i < l.length) (hj : j < l.length) (k : Nat) : (sw l i j)[k]? = if k = i then l[j]? else if k = j then l[i]? else l[k]? := by
  rw [sw_eq (List.getElem?_eq_getElem hi) (List.getElem?_eq_getElem hj)]
  simp only [List.getElem?_set, List.length_set]
  by_cases h1 : k = i
  · subst h1
    by_cases h2 : k = j
    · subst h2; simp [hi]
    · simp [h2, hi, Ne.symm h2, List.getElem?_eq_getElem hj]
  · by_cases h2 : k = j
    · subst h2; simp [h1, hj, List.getElem?_eq_getElem hi]
    · simp [h1, h2, Ne.symm h1, Ne.symm h2]
theorem sw_perm (l : List α) (i j : Nat) : (sw l i j).Perm l := by
  unfold sw; split
  · rename_i x y hx hy
    obtain ⟨hi, rfl⟩ := List.getElem?_eq_some_iff.1 hx
    obtain ⟨hj, rfl⟩ := List.getElem?_eq_some_iff.1 hy
    exact List.set_set_perm hi hj
  · exact List.Perm.refl _

/-- l' is l, but for the order within [a, b) -/
structure Rng (a b : Nat) (l l' : List α) : Prop where
  lo : ∀ k, k < a → l'[k]? = l[k]?
  hi : ∀ k, b ≤ k → l'[k]? = l[k]?
  perm : l'.Perm l
theorem Rng.refl (a b : Nat) (l : List α) : Rng a b l l := ⟨fun _ _ => rfl, fun _ _ => rfl, List.Perm.refl _⟩
theorem Rng.trans {a b : Nat} {l l' l'' : List α} (h : Rng a b l l') (h' : Rng a b l' l'') : Rng a b l l'' :=
  ⟨fun k hk => (h'.lo k hk).trans (h.lo k hk), fun k hk => (h'.hi k hk).trans (h.hi k hk), h'.perm.trans h.perm⟩
theorem Rng.len {a b : Nat} {l l' : List α} (h : Rng a b l l') : l'.length = l.length := h.perm.length_eq
theorem Rng.wide {a b a' b' : Nat} {l l' : List α} (h : Rng a b l l') (ha : a' ≤ a) (hb : b ≤ b') : Rng a' b' l l' :=
  ⟨fun k hk => h.lo k (by omega), fun k hk => h.hi k (by omega), h.perm⟩
theorem Rng.sw {a b i j : Nat} {l : List α} (hi1 : a ≤ i) (hi2 : i < b) (hj1 : a ≤ j) (hj2 : j < b) (hb : b ≤ l.length) : Rng a b l (sw l i j) :=
  ⟨fun k hk => by rw [sw_get (by omega) (by omega), if_neg (by omega), if_neg (by omega)], fun k hk => by rw [sw_get (by omega) (by omega), if_neg (by omega), if_neg (by omega)], sw_perm l i j⟩
/-- what stands in [a, b) -/
def seg (a b : Nat) (l : List α) : List α := (l.take b).drop a
theorem seg_get {a b k : Nat} {l : List α} {x : α} (h : l[k]? = some x) (h1 : a ≤ k) (h2 : k < b) : x ∈ seg a b l := by
  unfold seg
  refine List.mem_iff_getElem?.2 ⟨k - a, ?_⟩
  rw [List.getElem?_drop, List.getElem?_take, show a + (k - a) = k by omega, if_pos h2, h]
theorem seg_mem {a b : Nat} {l : List α} {x : α} (h : x ∈ seg a b l) : ∃ k, a ≤ k ∧ k < b ∧ l[k]? = some x := by
  unfold seg at h
  obtain ⟨j, hj⟩ := List.mem_iff_getElem?.1 h
  rw [List.getElem?_drop, List.getElem?_take] at hj
  split at hj
  · exact ⟨a + j, by omega, by assumption, hj⟩
  · cases hj
theorem take_eq_of {l l' : List α} {a : Nat} (h : ∀ k, k < a → l'[k]? = l[k]?) : l'.take a = l.take a := by
  refine List.ext_getElem? fun k => ?_
  rw [List.getElem?_take, List.getElem?_take]
  split
  · exact h k (by assumption)
  · rfl
theorem drop_eq_of {l l' : List α} {b : Nat} (h : ∀ k, b ≤ k → l'[k]? = l[k]?) : l'.drop b = l.drop b := by
  refine List.ext_getElem? fun k => ?_
  rw [List.getElem?_drop, List.getElem?_drop]
  exact h _ (by omega)
theorem Rng.seg {a b : Nat} {l l' : List α} (h : Rng a b l l') (hab : a ≤ b) (hb : b ≤ l.length) : (seg a b l').Perm (seg a b l) := by
  have e : ∀ m : List α, b ≤ m.length → m = m.take a ++ (Fw.seg a b m ++ m.drop b) := by
    intro m hm
    unfold Fw.seg
    have h1 : m.take b = (m.take b).take a ++ (m.take b).drop a := (List.take_append_drop _ _).symm
    have h2 : (m.take b).take a = m.take a := by rw [List.take_take, Nat.min_eq_left hab]
    rw [h2] at h1
    rw [← List.append_assoc, ← h1, List.take_append_drop]
  have hp := h.perm
  rw [e l hb, e l' (by rw [h.len]; exact hb), take_eq_of h.lo, drop_eq_of h.hi] at hp
  exact (List.perm_append_right_iff _).1 ((List.perm_append_left_iff _).1 hp)
theorem Rng.mem {a b k : Nat} {l l' : List α} (h : Rng a b l l') (hab : a ≤ b) (hb : b ≤ l.length) {x : α} (hx : l'[k]? = some x) (h1 : a ≤ k) (h2 : k < b) : ∃ j, a ≤ j ∧ j < b ∧ l[j]? = some x :=
  seg_mem ((h.seg hab hb).mem_iff.1 (seg_get hx h1 h2))

/-- an order; what it does not tell apart is alike -/
structure Ord (lt : α → α → Prop) : Prop where
  irr : ∀ a, ¬ lt a a
  tr : ∀ {a b c}, lt a b → lt b c → lt a c
  ng : ∀ {a b c}, ¬ lt a b → ¬ lt b c → ¬ lt a c
theorem Ord.asy {lt : α → α → Prop} (ho : Ord lt) {a b : α} (h : lt a b) : ¬ lt b a := fun h' => ho.irr _ (ho.tr h h')
/-- [a, b) is in order -/
def Inc (lt : α → α → Prop) (a b : Nat) (l : List α) : Prop := ∀ (i j : Nat) (x y : α), a ≤ i → i < j → j < b → l[i]? = some x → l[j]? = some y → ¬ lt y x
/-- [a, i] is in order but for what stands at j, which goes ahead of all behind it -/
def Ins (lt : α → α → Prop) (a i j : Nat) (l : List α) : Prop :=
  (∀ (p q : Nat) (x y : α), a ≤ p → p < q → q ≤ i → p ≠ j → q ≠ j → l[p]? = some x → l[q]? = some y → ¬ lt y x) ∧
  (∀ (q : Nat) (x y : α), j < q → q ≤ i → l[j]? = some x → l[q]? = some y → ¬ lt y x)
theorem Ins.step {lt : α → α → Prop} (ho : Ord lt) {a i j : Nat} {l : List α} (h : Ins lt a i j l) (haj : a < j) (hji : j ≤ i) (hl : i < l.length) {x y : α} (hx : l[j]? = some x) (hy : l[j - 1]? = some y) (hlt : lt x y) :
    Ins lt a i (j - 1) (sw l j (j - 1)) := by
  constructor
  · intro p q u v h1 h2 h3 h4 h5 hu hv
    rw [sw_get (by omega) (by omega)] at hu hv
    rw [if_neg h4] at hu; rw [if_neg h5] at hv
    by_cases e1 : p = j
    · rw [if_pos e1] at hu
      rw [if_neg (by omega)] at hv
      exact h.1 (j - 1) q u v (by omega) (by omega) h3 (by omega) (by omega) hu hv
    · rw [if_neg e1] at hu
      by_cases e2 : q = j
      · rw [if_pos e2] at hv
        exact h.1 p (j - 1) u v h1 (by omega) (by omega) e1 (by omega) hu hv
      · rw [if_neg e2] at hv
        exact h.1 p q u v h1 h2 h3 e1 e2 hu hv
  · intro q u v h1 h2 hu hv
    rw [sw_get (by omega) (by omega)] at hu hv
    rw [if_neg (by omega), if_pos rfl] at hu
    by_cases e1 : q = j
    · rw [if_pos e1] at hv
      rw [hx] at hu; rw [hy] at hv; cases hu; cases hv; exact ho.asy hlt
    · rw [if_neg e1, if_neg (by omega)] at hv
      exact h.2 q u v (by omega) h2 hu hv
theorem Ins.done {lt : α → α → Prop} {a i j : Nat} {l : List α} (ho : Ord lt) (h : Ins lt a i j l) (haj : a ≤ j) (hji : j ≤ i) (hl : i < l.length)
    (hd : j = a ∨ ∀ x y, l[j]? = some x → l[j - 1]? = some y → ¬ lt x y) : Inc lt a (i + 1) l := by
  intro p q u v h1 h2 h3 hu hv
  by_cases e1 : p = j
  · subst e1; exact h.2 q u v h2 (by omega) hu hv
  · by_cases e2 : q = j
    · subst e2
      rcases hd with rfl | hd
      · omega
      · obtain ⟨w, hw⟩ : ∃ w, l[q - 1]? = some w := ⟨_, List.getElem?_eq_getElem (by omega)⟩
        have hwv := hd v w hv hw
        by_cases e3 : p = q - 1
        · subst e3; rw [hu] at hw; cases hw; exact hwv
        · exact ho.ng hwv (h.1 p (q - 1) u w h1 (by omega) (by omega) e1 (by omega) hu hw)
    · exact h.1 p q u v h1 h2 (by omega) e1 e2 hu hv

/-- [a, b) under way to be parted at what stands at a: what lies ahead of i is less, what lies behind j is not -/
structure Prt (lt : α → α → Prop) (a b i j : Nat) (l : List α) : Prop where
  ai : a < i
  ij : i ≤ j
  jb : j ≤ b
  lo : ∀ (k : Nat) (x y : α), a < k → k < i → l[k]? = some x → l[a]? = some y → lt x y
  hi : ∀ (k : Nat) (x y : α), j ≤ k → k < b → l[k]? = some x → l[a]? = some y → ¬ lt x y
theorem Prt.down {lt : α → α → Prop} {a b i j : Nat} {l : List α} (h : Prt lt a b i (j + 1) l) (hij : i ≤ j) {x y : α} (hx : l[j]? = some x) (hy : l[a]? = some y) (hlt : ¬ lt x y) : Prt lt a b i j l :=
  ⟨h.ai, hij, by have := h.jb; omega, h.lo, fun k u v h1 h2 hu hv => by
    by_cases e : k = j
    · subst e; rw [hx] at hu; rw [hy] at hv; cases hu; cases hv; exact hlt
    · exact h.hi k u v (by omega) h2 hu hv⟩
/-- both stand on the wrong side: swapped -/
theorem Prt.swap {lt : α → α → Prop} {a b i j : Nat} {l : List α} (h : Prt lt a b i (j + 1) l) (hij : i < j) (hb : b ≤ l.length) {x y z : α} (hx : l[i]? = some x) (hy : l[j]? = some y) (hz : l[a]? = some z)
    (h1 : ¬ lt x z) (h2 : lt y z) : Prt lt a b (i + 1) j (sw l i j) := by
  have hai := h.ai
  have hjb := h.jb
  have ea : (sw l i j)[a]? = some z := by rw [sw_get (by omega) (by omega), if_neg (by omega), if_neg (by omega), hz]
  refine ⟨by omega, by omega, by omega, fun k u v k1 k2 hu hv => ?_, fun k u v k1 k2 hu hv => ?_⟩
  · rw [ea] at hv; cases hv
    rw [sw_get (by omega) (by omega)] at hu
    by_cases e : k = i
    · rw [if_pos e, hy] at hu; cases hu; exact h2
    · rw [if_neg e, if_neg (by omega)] at hu
      exact h.lo k u z k1 (by omega) hu hz
  · rw [ea] at hv; cases hv
    rw [sw_get (by omega) (by omega), if_neg (by omega)] at hu
    by_cases e : k = j
    · rw [if_pos e, hx] at hu; cases hu; exact h1
    · rw [if_neg e] at hu
      exact h.hi k u z (by omega) k2 hu hz
/-- [a, b) is parted at what stands at m -/
structure Parted (lt : α → α → Prop) (a b m : Nat) (l : List α) : Prop where
  am : a ≤ m
  mb : m < b
  lo : ∀ (k : Nat) (x y : α), a ≤ k → k < m → l[k]? = some x → l[m]? = some y → lt x y
  hi : ∀ (k : Nat) (x y : α), m < k → k < b → l[k]? = some x → l[m]? = some y → ¬ lt x y
theorem Prt.done {lt : α → α → Prop} {a b i : Nat} {l : List α} (h : Prt lt a b i i l) (hb : b ≤ l.length) (hab : a < b) : Parted lt a b (i - 1) (sw l (i - 1) a) := by
  have hai := h.ai
  have hib := h.jb
  obtain ⟨z, hz⟩ : ∃ z, l[a]? = some z := ⟨_, List.getElem?_eq_getElem (by omega)⟩
  have em : (sw l (i - 1) a)[i - 1]? = some z := by rw [sw_get (by omega) (by omega), if_pos rfl, hz]
  refine ⟨by omega, by omega, fun k u v k1 k2 hu hv => ?_, fun k u v k1 k2 hu hv => ?_⟩
  · rw [em] at hv; cases hv
    rw [sw_get (by omega) (by omega), if_neg (by omega)] at hu
    by_cases e : k = a
    · rw [if_pos e] at hu
      exact h.lo (i - 1) u z (by omega) (by omega) hu hz
    · rw [if_neg e] at hu
      exact h.lo k u z (by omega) (by omega) hu hz
  · rw [em] at hv; cases hv
    rw [sw_get (by omega) (by omega), if_neg (by omega), if_neg (by omega)] at hu
    exact h.hi k u z (by omega) k2 hu hz
/-- parted, and both parts in order: all is in order -/
theorem Parted.join {lt : α → α → Prop} {a b m : Nat} {l : List α} (ho : Ord lt) (h : Parted lt a b m l) (h1 : Inc lt a m l) (h2 : Inc lt (m + 1) b l) (hb : b ≤ l.length) : Inc lt a b l := by
  have hm := h.mb
  obtain ⟨z, hz⟩ : ∃ z, l[m]? = some z := ⟨_, List.getElem?_eq_getElem (by omega)⟩
  intro p q x y k1 k2 k3 hx hy
  rcases Nat.lt_trichotomy q m with e | e | e
  · exact h1 p q x y k1 k2 e hx hy
  · subst e; exact ho.asy (h.lo p x y k1 k2 hx hy)
  · rcases Nat.lt_trichotomy p m with e' | e' | e'
    · exact fun h' => h.hi q y z e k3 hy hz (ho.tr h' (h.lo p x z k1 e' hx hz))
    · subst e'; rw [hx] at hz; cases hz; exact h.hi q y _ e k3 hy hx
    · exact h2 p q x y e' k2 k3 hx hy
/-- what is done within a part leaves it parted -/
theorem Parted.left {lt : α → α → Prop} {a b m : Nat} {l l' : List α} (h : Parted lt a b m l) (hr : Rng a m l l') (hb : b ≤ l.length) : Parted lt a b m l' := by
  have hm := h.mb
  refine ⟨h.am, h.mb, fun k u v k1 k2 hu hv => ?_, fun k u v k1 k2 hu hv => ?_⟩
  · rw [hr.hi m (by omega)] at hv
    obtain ⟨j, j1, j2, hj⟩ := hr.mem h.am (by omega) hu k1 k2
    exact h.lo j u v j1 j2 hj hv
  · rw [hr.hi m (by omega)] at hv; rw [hr.hi k (by omega)] at hu
    exact h.hi k u v k1 k2 hu hv
theorem Parted.right {lt : α → α → Prop} {a b m : Nat} {l l' : List α} (h : Parted lt a b m l) (hr : Rng (m + 1) b l l') (hb : b ≤ l.length) : Parted lt a b m l' := by
  have hm := h.mb
  refine ⟨h.am, h.mb, fun k u v k1 k2 hu hv => ?_, fun k u v k1 k2 hu hv => ?_⟩
  · rw [hr.lo m (by omega)] at hv; rw [hr.lo k (by omega)] at hu
    exact h.lo k u v k1 k2 hu hv
  · rw [hr.lo m (by omega)] at hv
    obtain ⟨j, j1, j2, hj⟩ := hr.mem (by omega) hb hu (by omega) k2
    exact h.hi j u v (by omega) j2 hj hv
end Go.Proofs.YtpbhfolaoccpkaaGreat.Fw
namespace Go.Proofs.YtpbhfolaoccpkaaGreat.Fw
set_option linter.unusedVariables false
set_option linter.unusedSimpArgs false
variable {α : Type}

/-- from lo on, of hi in all, the parents are not less than their children (places told from f on) -/
def Heap (lt : α → α → Prop) (f lo hi : Nat) (l : List α) : Prop :=
  ∀ (c : Nat) (x y : α), 0 < c → c < hi → lo ≤ (c - 1) / 2 → l[f + (c - 1) / 2]? = some x → l[f + c]? = some y → ¬ lt x y
/-- so, but for r, whose children its parent is not less than -/
def Sft (lt : α → α → Prop) (f lo hi r : Nat) (l : List α) : Prop :=
  (∀ (c : Nat) (x y : α), 0 < c → c < hi → lo ≤ (c - 1) / 2 → (c - 1) / 2 ≠ r → l[f + (c - 1) / 2]? = some x → l[f + c]? = some y → ¬ lt x y) ∧
  (∀ (c : Nat) (x y : α), 0 < c → c < hi → (c - 1) / 2 = r → 0 < r → lo ≤ (r - 1) / 2 → l[f + (r - 1) / 2]? = some x → l[f + c]? = some y → ¬ lt x y)
theorem Sft.step {lt : α → α → Prop} (ho : Ord lt) {f lo hi r ch : Nat} {l : List α} (h : Sft lt f lo hi r l) (hlo : lo ≤ r) (hl : f + hi ≤ l.length) (h0 : 0 < ch) (h1 : ch < hi) (h2 : (ch - 1) / 2 = r) {x y : α}
    (hx : l[f + r]? = some x) (hy : l[f + ch]? = some y) (hlt : lt x y) (hbig : ∀ (c : Nat) (z : α), 0 < c → c < hi → (c - 1) / 2 = r → c ≠ ch → l[f + c]? = some z → ¬ lt y z) :
    Sft lt f lo hi ch (sw l (f + r) (f + ch)) := by
  have g := fun k => sw_get (l := l) (i := f + r) (j := f + ch) (by omega) (by omega) k
  constructor
  · intro c u v c1 c2 c3 c4 hu hv
    rw [g] at hu hv
    by_cases e : (c - 1) / 2 = r
    · rw [if_pos (by omega), hy] at hu; cases hu
      rw [if_neg (by omega)] at hv
      by_cases e2 : c = ch
      · subst e2; rw [if_pos rfl, hx] at hv; cases hv
        exact fun h' => ho.irr _ (ho.tr hlt h')
      · rw [if_neg (by omega)] at hv
        exact hbig c v c1 c2 e e2 hv
    · rw [if_neg (by omega), if_neg (by omega)] at hu
      by_cases e2 : c = r
      · rw [if_pos (by omega), hy] at hv; cases hv
        subst e2
        exact h.2 ch u y h0 h1 h2 c1 c3 hu hy
      · rw [if_neg (by omega), if_neg (by omega)] at hv
        exact h.1 c u v c1 c2 c3 e hu hv
  · intro c u v c1 c2 c3 c4 c5 hu hv
    rw [g] at hu hv
    rw [if_pos (by omega), hy] at hu; cases hu
    rw [if_neg (by omega), if_neg (by omega)] at hv
    exact h.1 c y v c1 c2 (by omega) (by omega) (by rw [c3]; exact hy) hv
theorem Sft.done {lt : α → α → Prop} (ho : Ord lt) {f lo hi r ch : Nat} {l : List α} (h : Sft lt f lo hi r l) (h0 : 0 < ch) (h2 : (ch - 1) / 2 = r) {x y : α}
    (hx : l[f + r]? = some x) (hy : l[f + ch]? = some y) (hlt : ¬ lt x y) (hbig : ∀ (c : Nat) (z : α), 0 < c → c < hi → (c - 1) / 2 = r → c ≠ ch → l[f + c]? = some z → ¬ lt y z) : Heap lt f lo hi l := by
  intro c u v h3 h4 h5 hu hv
  by_cases e : (c - 1) / 2 = r
  · rw [e, hx] at hu; cases hu
    by_cases e2 : c = ch
    · subst e2; rw [hy] at hv; cases hv; exact hlt
    · exact ho.ng hlt (hbig c v h3 h4 e e2 hv)
  · exact h.1 c u v h3 h4 h5 e hu hv
/-- nothing in a heap is greater than its first -/
theorem Heap.top {lt : α → α → Prop} (ho : Ord lt) {f hi : Nat} {l : List α} (h : Heap lt f 0 hi l) (hl : f + hi ≤ l.length) {x : α} (hx : l[f]? = some x) :
    ∀ (c : Nat) (y : α), 0 < c → c < hi → l[f + c]? = some y → ¬ lt x y := by
  intro c
  induction c using Nat.strongRecOn with
  | ind c ih =>
    intro y h0 h1 hy
    obtain ⟨z, hz⟩ : ∃ z, l[f + (c - 1) / 2]? = some z := ⟨_, List.getElem?_eq_getElem (by omega)⟩
    have hzy : ¬ lt z y := h c z y h0 h1 (by omega) hz hy
    by_cases e : (c - 1) / 2 = 0
    · rw [e] at hz; rw [show f + 0 = f from rfl, hx] at hz; cases hz; exact hzy
    · exact ho.ng (ih _ (by omega) z (by omega) (by omega) hz) hzy

/-- of hi the first n are a heap, the others are in order, and greater -/
structure HS (lt : α → α → Prop) (a n hi : Nat) (l : List α) : Prop where
  heap : Heap lt a 0 n l
  inc : Inc lt (a + n) (a + hi) l
  le : ∀ (k m : Nat) (x y : α), k < n → n ≤ m → m < hi → l[a + k]? = some x → l[a + m]? = some y → ¬ lt y x
theorem Heap.nil {lt : α → α → Prop} {a hi : Nat} {l : List α} : Heap lt a ((hi - 1) / 2 + 1) hi l := fun c x y h1 h2 h3 => by omega
theorem HS.swap {lt : α → α → Prop} {a i hi : Nat} {l : List α} (h : HS lt a (i + 1) hi l) (hl : a + i < l.length) : Heap lt a 1 i (sw l a (a + i)) := by
  intro c x y h1 h2 h3 hx hy
  rw [sw_get (by omega) (by omega), if_neg (by omega), if_neg (by omega)] at hx hy
  exact h.heap c x y h1 (by omega) (by omega) hx hy
theorem HS.step {lt : α → α → Prop} (ho : Ord lt) {a i hi : Nat} {l l2 : List α} (h : HS lt a (i + 1) hi l) (hi1 : i < hi) (hl : a + hi ≤ l.length) (hr : Rng a (a + i) (sw l a (a + i)) l2) (hh : Heap lt a 0 i l2) : HS lt a i hi l2 := by
  obtain ⟨z, hz⟩ : ∃ z, l[a]? = some z := ⟨_, List.getElem?_eq_getElem (by omega)⟩
  have top := h.heap.top ho (by omega) hz
  have g := fun k => sw_get (l := l) (i := a) (j := a + i) (by omega) (by omega) k
  have ei : l2[a + i]? = some z := by
    rw [hr.hi _ (by omega), g]
    by_cases e : a + i = a
    · rw [if_pos e, e, hz]
    · rw [if_neg e, if_pos rfl, hz]
  have em : ∀ m, i < m → l2[a + m]? = l[a + m]? := fun m hm => by rw [hr.hi _ (by omega), g, if_neg (by omega), if_neg (by omega)]
  refine ⟨hh, fun p q x y h1 h2 h3 hx hy => ?_, fun k m x y h1 h2 h3 hx hy => ?_⟩
  · obtain ⟨q, rfl⟩ : ∃ q', q = a + q' := ⟨q - a, by omega⟩
    obtain ⟨p, rfl⟩ : ∃ p', p = a + p' := ⟨p - a, by omega⟩
    rw [em q (by omega)] at hy
    by_cases e : p = i
    · subst e; rw [ei] at hx; cases hx
      exact h.le 0 q z y (by omega) (by omega) (by omega) hz hy
    · rw [em p (by omega)] at hx
      exact h.inc (a + p) (a + q) x y (by omega) (by omega) h3 hx hy
  · obtain ⟨j, j1, j2, hj⟩ := hr.mem (by omega) (by rw [sw_len]; omega) hx (by omega) (by omega)
    obtain ⟨j, rfl⟩ : ∃ j', j = a + j' := ⟨j - a, by omega⟩
    have : ∃ j', 0 < j' ∧ j' ≤ i ∧ l[a + j']? = some x := by
      rw [g] at hj
      by_cases e : j = 0
      · rw [if_pos (by omega)] at hj; exact ⟨i, by omega, by omega, hj⟩
      · rw [if_neg (by omega), if_neg (by omega)] at hj; exact ⟨j, by omega, by omega, hj⟩
    obtain ⟨j', k1, k2, k3⟩ := this
    by_cases e : m = i
    · subst e; rw [ei] at hy; cases hy
      exact top j' x k1 (by omega) k3
    · rw [em m (by omega)] at hy
      exact h.le j' m x y (by omega) (by omega) h3 k3 hy
theorem HS.done {lt : α → α → Prop} {a hi : Nat} {l : List α} (h : HS lt a 0 hi l) : Inc lt a (a + hi) l := h.inc
end Go.Proofs.YtpbhfolaoccpkaaGreat.Fw
set_option linter.unusedSimpArgs false
set_option linter.unusedVariables false
namespace Go.Proofs.YtpbhfolaoccpkaaGreat.Fw
open Go Go.RowKit
end Go.Proofs.YtpbhfolaoccpkaaGreat.Fw
