/- Sorting that keeps the order of equals: plain lists. -/
import Derived.Test.YtkhooppaenfkdaaFwZb
set_option linter.unusedSimpArgs false
set_option linter.unusedVariables false
namespace Go.Proofs.Ytkhooppaenfkdaa.Fw
open Go

theorem get_mid {α : Type} (A B : List α) (x : α) : (A ++ x :: B)[A.length]? = some x := by simp
theorem set_mid {α : Type} (A B : List α) (x y : α) : (A ++ x :: B).set A.length y = A ++ y :: B := by simp
theorem get_mid' {α : Type} {A B : List α} {x : α} {j : Nat} (h : j = A.length) : (A ++ x :: B)[j]? = some x := by subst h; simp
theorem set_mid' {α : Type} {A B : List α} {x y : α} {j : Nat} (h : j = A.length) : (A ++ x :: B).set j y = A ++ y :: B := by subst h; simp

section
variable {α : Type} (κ : α → Int)
def Srt (l : List α) : Prop := l.Pairwise fun a b => κ a ≤ κ b
/-- l' is l, sorted -/
def Stb (l l' : List α) : Prop := Srt κ l' ∧ ∀ v, l'.filter (fun x => κ x == v) = l.filter (fun x => κ x == v)

variable {κ}
theorem Stb.mem {l l' : List α} (h : Stb κ l l') (x : α) : x ∈ l' ↔ x ∈ l := by
  have h1 := h.2 (κ x)
  constructor
  · intro hx
    have : x ∈ l'.filter (fun y => κ y == κ x) := List.mem_filter.2 ⟨hx, by simp⟩
    rw [h1] at this; exact (List.mem_filter.1 this).1
  · intro hx
    have : x ∈ l.filter (fun y => κ y == κ x) := List.mem_filter.2 ⟨hx, by simp⟩
    rw [← h1] at this; exact (List.mem_filter.1 this).1
theorem Stb.uniq : ∀ {l1 l2 l : List α}, Stb κ l l1 → Stb κ l l2 → l1 = l2
  | [], [], _, _, _ => rfl
  | [], y :: r, l, h1, h2 => by have := (h1.mem y).2 ((h2.mem y).1 (by simp)); cases this
  | x :: r, [], l, h1, h2 => by have := (h2.mem x).2 ((h1.mem x).1 (by simp)); cases this
  | x :: r, y :: s, l, h1, h2 => by
    have hx : x ∈ y :: s := (h2.mem x).2 ((h1.mem x).1 (by simp))
    have hy : y ∈ x :: r := (h1.mem y).2 ((h2.mem y).1 (by simp))
    have a1 : κ x ≤ κ y := by
      cases hy with
      | head => exact Int.le_refl _
      | tail _ hm => exact (List.pairwise_cons.1 h1.1).1 y hm
    have a2 : κ y ≤ κ x := by
      cases hx with
      | head => exact Int.le_refl _
      | tail _ hm => exact (List.pairwise_cons.1 h2.1).1 x hm
    have e : κ x = κ y := by omega
    have hf : ∀ v, (x :: r).filter (fun z => κ z == v) = (y :: s).filter (fun z => κ z == v) := fun v => (h1.2 v).trans (h2.2 v).symm
    have hxy : x = y := by
      have := hf (κ x)
      simp only [List.filter_cons, beq_self_eq_true, e, if_true] at this
      exact (List.cons.inj this).1
    subst hxy
    have ht : ∀ v, r.filter (fun z => κ z == v) = s.filter (fun z => κ z == v) := by
      intro v
      have := hf v
      simp only [List.filter_cons] at this
      split at this
      · exact (List.cons.inj this).2
      · exact this
    rw [Stb.uniq (l := r) ⟨(List.pairwise_cons.1 h1.1).2, fun _ => rfl⟩ ⟨(List.pairwise_cons.1 h2.1).2, fun v => (ht v).symm⟩]
theorem Stb.refl {l : List α} (h : Srt κ l) : Stb κ l l := ⟨h, fun _ => rfl⟩
theorem Stb.trans {a b c : List α} (h : Stb κ a b) (k : Stb κ b c) : Stb κ a c := ⟨k.1, fun v => (k.2 v).trans (h.2 v)⟩

variable (κ)
def ins (x : α) (l : List α) : List α := l.takeWhile (fun y => decide (κ y ≤ κ x)) ++ x :: l.dropWhile (fun y => decide (κ y ≤ κ x))
def ssort (l : List α) : List α := l.foldl (fun acc x => ins κ x acc) []
variable {κ}
theorem mem_takeWhile {p : α → Bool} : ∀ {l : List α} {y : α}, y ∈ l.takeWhile p → p y = true
  | x :: l, y, h => by
    rw [List.takeWhile_cons] at h
    split at h
    · rename_i hx
      cases h with
      | head => exact hx
      | tail _ hm => exact mem_takeWhile hm
    · cases h
theorem srt_ins {x : α} {S1 S2 : List α} (hs : Srt κ (S1 ++ S2)) (h1 : ∀ y ∈ S1, κ y ≤ κ x) (h2 : ∀ y ∈ S2, κ x < κ y) : Srt κ (S1 ++ x :: S2) ∧ ins κ x (S1 ++ S2) = S1 ++ x :: S2 := by
  obtain ⟨p1, p2, p3⟩ := List.pairwise_append.1 hs
  refine ⟨List.pairwise_append.2 ⟨p1, List.pairwise_cons.2 ⟨fun y hy => by have := h2 y hy; omega, p2⟩, fun a ha b hb => ?_⟩, ?_⟩
  · cases hb with
    | head => exact h1 a ha
    | tail _ hm => exact p3 a ha b hm
  · have e1 : ∀ {S1 : List α}, (∀ y ∈ S1, κ y ≤ κ x) → (S1 ++ S2).takeWhile (fun y => decide (κ y ≤ κ x)) = S1 ∧ (S1 ++ S2).dropWhile (fun y => decide (κ y ≤ κ x)) = S2 := by
      intro S1
      induction S1 with
      | nil =>
        intro _
        cases S2 with
        | nil => exact ⟨rfl, rfl⟩
        | cons y s =>
          have := h2 y (by simp)
          rw [List.nil_append, List.takeWhile_cons, List.dropWhile_cons, if_neg (by simp; omega), if_neg (by simp; omega)]
          exact ⟨rfl, rfl⟩
      | cons z s ih =>
        intro h
        have hz := h z (by simp)
        have := ih fun y hy => h y (by simp [hy])
        rw [List.cons_append, List.takeWhile_cons, List.dropWhile_cons, if_pos (by simpa using hz), if_pos (by simpa using hz), this.1, this.2]
        exact ⟨rfl, rfl⟩
    unfold ins; rw [(e1 h1).1, (e1 h1).2]
theorem split_ins {x : α} {l : List α} (hs : Srt κ l) : ∃ S1 S2, l = S1 ++ S2 ∧ (∀ y ∈ S1, κ y ≤ κ x) ∧ (∀ y ∈ S2, κ x < κ y) := by
  induction l with
  | nil => exact ⟨[], [], rfl, by simp, by simp⟩
  | cons z l ih =>
    obtain ⟨hz, hl⟩ := List.pairwise_cons.1 hs
    by_cases h : κ z ≤ κ x
    · obtain ⟨S1, S2, rfl, h1, h2⟩ := ih hl
      exact ⟨z :: S1, S2, rfl, by simpa [h] using h1, h2⟩
    · refine ⟨[], z :: l, rfl, by simp, ?_⟩
      intro y hy
      cases hy with
      | head => omega
      | tail _ hm => have := hz y hm; omega
theorem Stb.ins {l acc : List α} (h : Stb κ l acc) (x : α) : Stb κ (l ++ [x]) (ins κ x acc) := by
  obtain ⟨S1, S2, rfl, h1, h2⟩ := split_ins (x := x) h.1
  obtain ⟨k1, k2⟩ := srt_ins h.1 h1 h2
  rw [k2]
  refine ⟨k1, fun v => ?_⟩
  rw [List.filter_append, List.filter_append, ← h.2 v, List.filter_append, List.filter_cons]
  by_cases e : κ x = v
  · have : S2.filter (fun z => κ z == v) = [] := List.filter_eq_nil_iff.2 fun y hy => by have := h2 y hy; simp; omega
    rw [if_pos (by simpa using e), this, List.append_nil, List.filter_cons, if_pos (by simpa using e)]; rfl
  · rw [if_neg (by simpa using e), List.filter_cons, if_neg (by simpa using e)]; simp
theorem stb_ssort (l : List α) : Stb κ l (ssort κ l) := by
  have : ∀ (l d acc : List α), Stb κ d acc → Stb κ (d ++ l) (l.foldl (fun acc x => Fw.ins κ x acc) acc) := by
    intro l
    induction l with
    | nil => intro d acc h; simpa using h
    | cons x l ih => intro d acc h; have := ih (d ++ [x]) _ (h.ins x); simpa using this
  simpa [ssort] using this l [] [] ⟨List.Pairwise.nil, fun _ => rfl⟩
theorem ssort_eq {l l' : List α} (h : Stb κ l l') : ssort κ l = l' := (stb_ssort l).uniq h
theorem ssort_snoc (l : List α) (x : α) : ssort κ (l ++ [x]) = ins κ x (ssort κ l) := by simp [ssort]
theorem ssort_length (l : List α) : (ssort κ l).length = l.length := by
  have hi : ∀ (x : α) (l : List α), (ins κ x l).length = l.length + 1 := by
    intro x l
    have := congrArg List.length (List.takeWhile_append_dropWhile (p := fun y => decide (κ y ≤ κ x)) (l := l))
    simp only [List.length_append] at this
    simp only [ins, List.length_append, List.length_cons]; omega
  have : ∀ (l acc : List α), (l.foldl (fun acc x => ins κ x acc) acc).length = acc.length + l.length := by
    intro l
    induction l with
    | nil => intro acc; rfl
    | cons x l ih => intro acc; rw [List.foldl_cons, ih, hi]; simp; omega
  simpa [ssort] using this l []
theorem ssort_of_srt {l : List α} (h : Srt κ l) : ssort κ l = l := ssort_eq (Stb.refl h)
theorem ssort_idem (X Y : List α) : ssort κ (ssort κ X ++ Y) = ssort κ (X ++ Y) := by
  refine ((stb_ssort (X ++ Y)).uniq ?_).symm
  refine ⟨(stb_ssort _).1, fun v => ?_⟩
  rw [(stb_ssort _).2, List.filter_append, List.filter_append, (stb_ssort X).2]
theorem ssort_idem' (X Y : List α) : ssort κ (X ++ ssort κ Y) = ssort κ (X ++ Y) := by
  refine ((stb_ssort (X ++ Y)).uniq ?_).symm
  refine ⟨(stb_ssort _).1, fun v => ?_⟩
  rw [(stb_ssort _).2, List.filter_append, List.filter_append, (stb_ssort Y).2]
/-- two runs, parted alike -/
theorem ssort_parts {X1 X2 Y1 Y2 : List α} (hx : Srt κ (X1 ++ X2)) (hy : Srt κ (Y1 ++ Y2)) (h1 : ∀ y ∈ Y1, ∀ x ∈ X2, κ y < κ x) (h2 : ∀ x ∈ X1, ∀ y ∈ Y2, κ x ≤ κ y) :
    ssort κ (X1 ++ X2 ++ (Y1 ++ Y2)) = ssort κ (X1 ++ Y1) ++ ssort κ (X2 ++ Y2) := by
  obtain ⟨x1, x2, x3⟩ := List.pairwise_append.1 hx
  obtain ⟨y1, y2, y3⟩ := List.pairwise_append.1 hy
  refine ssort_eq ⟨List.pairwise_append.2 ⟨(stb_ssort _).1, (stb_ssort _).1, fun a ha b hb => ?_⟩, fun v => ?_⟩
  · have ha := ((stb_ssort _).mem a).1 ha
    have hb := ((stb_ssort _).mem b).1 hb
    rcases List.mem_append.1 ha with ha | ha <;> rcases List.mem_append.1 hb with hb | hb
    · exact x3 a ha b hb
    · exact h2 a ha b hb
    · exact Int.le_of_lt (h1 a ha b hb)
    · exact y3 a ha b hb
  · simp only [List.filter_append, (stb_ssort _).2, List.append_assoc]
    congr 1
    rw [← List.append_assoc, ← List.append_assoc]
    congr 1
    by_cases e : X2.filter (fun z => κ z == v) = []
    · simp [e]
    · have : Y1.filter (fun z => κ z == v) = [] := List.filter_eq_nil_iff.2 fun y hy hv => by
        obtain ⟨x, hx⟩ := List.exists_mem_of_ne_nil _ e
        obtain ⟨hx1, hx2⟩ := List.mem_filter.1 hx
        have := h1 y hy x hx1
        simp at hx2 hv; omega
      simp [this]
end

section
variable {α : Type} {κ : α → Int}
theorem Srt.le {l : List α} (h : Srt κ l) {i j : Nat} {x y : α} (hij : i ≤ j) (hx : l[i]? = some x) (hy : l[j]? = some y) : κ x ≤ κ y := by
  obtain ⟨hi, rfl⟩ := List.getElem?_eq_some_iff.1 hx
  obtain ⟨hj, rfl⟩ := List.getElem?_eq_some_iff.1 hy
  rcases Nat.lt_or_ge i j with h' | h'
  · exact List.pairwise_iff_getElem.1 h i j hi hj h'
  · have : i = j := by omega
    subst this; exact Int.le_refl _
theorem of_take {l : List α} {k : Nat} {x : α} (h : x ∈ l.take k) : ∃ i, i < k ∧ l[i]? = some x := by
  obtain ⟨i, hi, rfl⟩ := List.getElem_of_mem h
  rw [List.length_take] at hi
  refine ⟨i, by omega, ?_⟩
  rw [List.getElem_take, List.getElem?_eq_getElem]
theorem of_drop {l : List α} {k : Nat} {x : α} (h : x ∈ l.drop k) : ∃ i, k ≤ i ∧ l[i]? = some x := by
  obtain ⟨i, hi, rfl⟩ := List.getElem_of_mem h
  rw [List.length_drop] at hi
  refine ⟨k + i, by omega, ?_⟩
  rw [List.getElem_drop, List.getElem?_eq_getElem]
theorem part_lt {X Y : List α} (hx : Srt κ X) (hy : Srt κ Y) {s t : Nat} {x y : α} (h1 : X[s]? = some x) (h2 : Y[t]? = some y) (h : κ y < κ x) : ∀ y' ∈ Y.take (t + 1), ∀ x' ∈ X.drop s, κ y' < κ x' := by
  intro y' hy' x' hx'
  obtain ⟨i, hi, e1⟩ := of_take hy'
  obtain ⟨j, hj, e2⟩ := of_drop hx'
  have := hy.le (by omega : i ≤ t) e1 h2
  have := hx.le hj h1 e2
  omega
theorem part_le {X Y : List α} (hx : Srt κ X) (hy : Srt κ Y) {s t : Nat} {x y : α} (h1 : X[s]? = some x) (h2 : Y[t]? = some y) (h : κ x ≤ κ y) : ∀ x' ∈ X.take (s + 1), ∀ y' ∈ Y.drop t, κ x' ≤ κ y' := by
  intro x' hx' y' hy'
  obtain ⟨i, hi, e1⟩ := of_take hx'
  obtain ⟨j, hj, e2⟩ := of_drop hy'
  have := hx.le (by omega : i ≤ s) e1 h1
  have := hy.le hj h2 e2
  omega
/-- one ahead of a run -/
theorem ssort_front {x : α} {Y1 Y2 : List α} (hy : Srt κ (Y1 ++ Y2)) (h1 : ∀ y ∈ Y1, κ y < κ x) (h2 : ∀ y ∈ Y2, κ x ≤ κ y) : ssort κ ([x] ++ (Y1 ++ Y2)) = Y1 ++ x :: Y2 := by
  have := ssort_parts (X1 := []) (X2 := [x]) (Y1 := Y1) (Y2 := Y2) (by simp [Srt]) hy (by simpa using h1) (by simp)
  simp only [List.nil_append] at this
  rw [this, ssort_of_srt (List.pairwise_append.1 hy).1, ssort_of_srt (l := [x] ++ Y2) (List.pairwise_cons.2 ⟨h2, (List.pairwise_append.1 hy).2.1⟩)]; rfl
/-- one behind a run -/
theorem ssort_back {y : α} {X1 X2 : List α} (hx : Srt κ (X1 ++ X2)) (h1 : ∀ x ∈ X1, κ x ≤ κ y) (h2 : ∀ x ∈ X2, κ y < κ x) : ssort κ (X1 ++ X2 ++ [y]) = X1 ++ y :: X2 := by
  have := ssort_parts (X1 := X1) (X2 := X2) (Y1 := [y]) (Y2 := []) hx (by simp [Srt]) (by simpa using h2) (by simp)
  simp only [List.append_nil] at this
  obtain ⟨p1, p2, p3⟩ := List.pairwise_append.1 hx
  rw [this, ssort_of_srt p2, ssort_of_srt (List.pairwise_append.2 ⟨p1, by simp, by simpa using h1⟩)]; simp
theorem srt_ssort (l : List α) : Srt κ (ssort κ l) := (stb_ssort l).1
inductive Chunks (κ : α → Int) (bs : Nat) : List α → List α → Prop where
  | last {l : List α} : l.length ≤ bs → Chunks κ bs l (ssort κ l)
  | cons {X R R' : List α} : X.length = bs → Chunks κ bs R R' → Chunks κ bs (X ++ R) (ssort κ X ++ R')
theorem Chunks.length {bs : Nat} {l l' : List α} (h : Chunks κ bs l l') : l'.length = l.length := by
  induction h with
  | last _ => exact ssort_length _
  | cons _ _ ih => simp [ssort_length, ih]
theorem Chunks.small {bs : Nat} {l l' : List α} (h : Chunks κ bs l l') (hl : l.length ≤ bs) (hb : 0 < bs) : l' = ssort κ l := by
  cases h with
  | last _ => rfl
  | @cons X R R' hx hr =>
    simp only [List.length_append] at hl
    have : R = [] := List.length_eq_zero_iff.1 (by omega)
    subst this
    have : R' = [] := List.length_eq_zero_iff.1 (by rw [hr.length]; rfl)
    subst this
    simp
/-- two chunks ahead -/
theorem Chunks.two {bs : Nat} {l l' : List α} (h : Chunks κ bs l l') (hl : 2 * bs ≤ l.length) (hb : 0 < bs) : ∃ X Y R R', l = X ++ Y ++ R ∧ X.length = bs ∧ Y.length = bs ∧ l' = ssort κ X ++ ssort κ Y ++ R' ∧ Chunks κ bs R R' := by
  cases h with
  | last h => omega
  | @cons X R R' hx hr =>
    simp only [List.length_append] at hl
    cases hr with
    | last h => exact ⟨X, R, [], [], by simp, hx, by omega, by simp, .last (by simp)⟩
    | @cons Y R R' hy hr => exact ⟨X, Y, R, R', by simp, hx, hy, by simp, hr⟩
theorem Chunks.one {bs : Nat} {l l' : List α} (h : Chunks κ bs l l') (hl : bs ≤ l.length) (hb : 0 < bs) : ∃ X R R', l = X ++ R ∧ X.length = bs ∧ l' = ssort κ X ++ R' ∧ Chunks κ bs R R' := by
  cases h with
  | last h => exact ⟨l, [], [], by simp, by omega, by simp, .last (by simp)⟩
  | @cons X R R' hx hr => exact ⟨X, R, R', rfl, hx, rfl, hr⟩
end
end Go.Proofs.Ytkhooppaenfkdaa.Fw
