/- What a sort in place does to a plain list: swaps, ranges, orders; heaps. -/
import Derived.Test.YtkhooppaenfkdaaFwZc
namespace Go.Proofs.Ytkhooppaenfkdaa.Fw
set_option linter.unusedVariables false
set_option linter.unusedSimpArgs false
variable {α : Type}

/-- the list with two places swapped -/
def sw (l : List α) (i j : Nat) : List α := match l[i]?, l[j]? with
  | some x, some y => (l.set i y).set j x
  | _, _ => l
theorem sw_len (l : List α) (i j : Nat) : (sw l i j).length = l.length := by
  unfold sw; split <;> simp
theorem sw_eq {l : List α} {i j : Nat} {x y : α} (hx : l[i]? = some x) (hy : l[j]? = some y) : sw l i j = (l.set i y).set j x := by
  unfold sw; rw [hx, hy]
theorem sw_eq' {l : List α} {i j : Nat} {x y : α} (hx : l[i]? = some x) (hy : l[j]? = some y) : sw l i j = (l.set j x).set i y := by
  rw [sw_eq hx hy]
  by_cases h : i = j
  · subst h; rw [hx] at hy; cases hy; rfl
  · rw [List.set_comm _ _ h]
theorem sw_get {l : List α} {i j : Nat} (hi : i < l.length) (hj : j < l.length) (k : Nat) : (sw l i j)[k]? = if k = i then l[j]? else if k = j then l[i]? else l[k]? := by
  rw [sw_eq (List.getElem?_eq_getElem hi) (List.getElem?_eq_getElem hj)]
  simp only [List.getElem?_set, List.length_set]
  by_cases h1 : k = i
  · subst h1
    by_cases h2 : k = j
    · subst h2; simp [hi]
    · simp [h2, hi, Ne.symm h2, List.getElem?_eq_getElem hj]
  · by_cases h2 : k = j
    · subst h2; simp [h1, hj, List.getElem?_eq_getElem hi]
    · simp [h1, h2, Ne.symm h1, Ne.symm h2]
theorem sw_perm (l : List α) (i j : Nat) : (sw l i j).Perm l := by
  unfold sw; split
  · rename_i x y hx hy
    obtain ⟨hi, rfl⟩ := List.getElem?_eq_some_iff.1 hx
    obtain ⟨hj, rfl⟩ := List.getElem?_eq_some_iff.1 hy
    exact List.set_set_perm hi hj
  · exact List.Perm.refl _

/-- l' is l, but for the order within [a, b) -/
structure Rng (a b : Nat) (l l' : List α) : Prop where
  lo : ∀ k, k < a → l'[k]? = l[k]?
  hi : ∀ k, b ≤ k → l'[k]? = l[k]?
  perm : l'.Perm l
theorem Rng.refl (a b : Nat) (l : List α) : Rng a b l l := ⟨fun _ _ => rfl, fun _ _ => rfl, List.Perm.refl _⟩
theorem Rng.trans {a b : Nat} {l l' l'' : List α} (h : Rng a b l l') (h' : Rng a b l' l'') : Rng a b l l'' :=
  ⟨fun k hk => (h'.lo k hk).trans (h.lo k hk), fun k hk => (h'.hi k hk).trans (h.hi k hk), h'.perm.trans h.perm⟩
theorem Rng.len {a b : Nat} {l l' : List α} (h : Rng a b l l') : l'.length = l.length := h.perm.length_eq
theorem Rng.wide {a b a' b' : Nat} {l l' : List α} (h : Rng a b l l') (ha : a' ≤ a) (hb : b ≤ b') : Rng a' b' l l' :=
  ⟨fun k hk => h.lo k (by omega), fun k hk => h.hi k (by omega), h.perm⟩
theorem Rng.sw {a b i j : Nat} {l : List α} (hi1 : a ≤ i) (hi2 : i < b) (hj1 : a ≤ j) (hj2 : j < b) (hb : b ≤ l.length) : Rng a b l (sw l i j) :=
  ⟨fun k hk => by rw [sw_get (by omega) (by omega), if_neg (by omega), if_neg (by omega)], fun k hk => by rw [sw_get (by omega) (by omega), if_neg (by omega), if_neg (by omega)], sw_perm l i j⟩
/-- what stands in [a, b) -/
def seg (a b : Nat) (l : List α) : List α := (l.take b).drop a
theorem seg_get {a b k : Nat} {l : List α} {x : α} (h : l[k]? = some x) (h1 : a ≤ k) (h2 : k < b) : x ∈ seg a b l := by
  unfold seg
  refine List.mem_iff_getElem?.2 ⟨k - a, ?_⟩
  rw [List.getElem?_drop, List.getElem?_take, show a + (k - a) = k by omega, if_pos h2, h]
theorem seg_mem {a b : Nat} {l : List α} {x : α} (h : x ∈ seg a b l) : ∃ k, a ≤ k ∧ k < b ∧ l[k]? = some x := by
  unfold seg at h
  obtain ⟨j, hj⟩ := List.mem_iff_getElem?.1 h
  rw [List.getElem?_drop, List.getElem?_take] at hj
  split at hj
  · exact ⟨a + j, by omega, by assumption, hj⟩
  · cases hj
theorem take_eq_of {l l' : List α} {a : Nat} (h : ∀ k, k < a → l'[k]? = l[k]?) : l'.take a = l.take a := by
  refine List.ext_getElem? fun k => ?_
  rw [List.getElem?_take, List.getElem?_take]
  split
  · exact h k (by assumption)
  · rfl
theorem drop_eq_of {l l' : List α} {b : Nat} (h : ∀ k, b ≤ k → l'[k]? = l[k]?) : l'.drop b = l.drop b := by
  refine List.ext_getElem? fun k => ?_
  rw [List.getElem?_drop, List.getElem?_drop]
  exact h _ (by omega)
theorem Rng.seg {a b : Nat} {l l' : List α} (h : Rng a b l l') (hab : a ≤ b) (hb : b ≤ l.length) : (seg a b l').Perm (seg a b l) := by
  have e : ∀ m : List α, b ≤ m.length → m = m.take a ++ (Fw.seg a b m ++ m.drop b) := by
    intro m hm
    unfold Fw.seg
    have h1 : m.take b = (m.take b).take a ++ (m.take b).drop a := (List.take_append_drop _ _).symm
    have h2 : (m.take b).take a = m.take a := by rw [List.take_take, Nat.min_eq_left hab]
    rw [h2] at h1
    rw [← List.append_assoc, ← h1, List.take_append_drop]
  have hp := h.perm
  rw [e l hb, e l' (by rw [h.len]; exact hb), take_eq_of h.lo, drop_eq_of h.hi] at hp
  exact (List.perm_append_right_iff _).1 ((List.perm_append_left_iff _).1 hp)
theorem Rng.mem {a b k : Nat} {l l' : List α} (h : Rng a b l l') (hab : a ≤ b) (hb : b ≤ l.length) {x : α} (hx : l'[k]? = some x) (h1 : a ≤ k) (h2 : k < b) : ∃ j, a ≤ j ∧ j < b ∧ l[j]? = some x :=
  seg_mem ((h.seg hab hb).mem_iff.1 (seg_get hx h1 h2))

/-- an order; what it does not tell apart is alike -/
structure Ord (lt : α → α → Prop) : Prop where
  irr : ∀ a, ¬ lt a a
  tr : ∀ {a b c}, lt a b → lt b c → lt a c
  ng : ∀ {a b c}, ¬ lt a b → ¬ lt b c → ¬ lt a c
theorem Ord.asy {lt : α → α → Prop} (ho : Ord lt) {a b : α} (h : lt a b) : ¬ lt b a := fun h' => ho.irr _ (ho.tr h h')
theorem Ord.ln {lt : α → α → Prop} (ho : Ord lt) {a b c : α} (h : lt a b) (h' : ¬ lt c b) : lt a c := Classical.byContradiction fun hn => ho.ng hn h' h
theorem Ord.nl {lt : α → α → Prop} (ho : Ord lt) {a b c : α} (h : ¬ lt b a) (h' : lt b c) : lt a c := Classical.byContradiction fun hn => ho.ng h hn h'
/-- [a, b) is in order -/
def Inc (lt : α → α → Prop) (a b : Nat) (l : List α) : Prop := ∀ (i j : Nat) (x y : α), a ≤ i → i < j → j < b → l[i]? = some x → l[j]? = some y → ¬ lt y x
/-- [a, i] is in order but for what stands at j, which goes ahead of all behind it -/
def Ins (lt : α → α → Prop) (a i j : Nat) (l : List α) : Prop :=
  (∀ (p q : Nat) (x y : α), a ≤ p → p < q → q ≤ i → p ≠ j → q ≠ j → l[p]? = some x → l[q]? = some y → ¬ lt y x) ∧
  (∀ (q : Nat) (x y : α), j < q → q ≤ i → l[j]? = some x → l[q]? = some y → ¬ lt y x)
theorem Ins.start {lt : α → α → Prop} {a i : Nat} {l : List α} (h : Inc lt a i l) : Ins lt a i i l :=
  ⟨fun p q x y h1 h2 h3 h4 h5 hx hy => h p q x y h1 h2 (by omega) hx hy, fun q x y h1 h2 => by omega⟩
theorem Ins.step {lt : α → α → Prop} (ho : Ord lt) {a i j : Nat} {l : List α} (h : Ins lt a i j l) (haj : a < j) (hji : j ≤ i) (hl : i < l.length) {x y : α} (hx : l[j]? = some x) (hy : l[j - 1]? = some y) (hlt : lt x y) :
    Ins lt a i (j - 1) (sw l j (j - 1)) := by
  constructor
  · intro p q u v h1 h2 h3 h4 h5 hu hv
    rw [sw_get (by omega) (by omega)] at hu hv
    rw [if_neg h4] at hu; rw [if_neg h5] at hv
    by_cases e1 : p = j
    · rw [if_pos e1] at hu
      rw [if_neg (by omega)] at hv
      exact h.1 (j - 1) q u v (by omega) (by omega) h3 (by omega) (by omega) hu hv
    · rw [if_neg e1] at hu
      by_cases e2 : q = j
      · rw [if_pos e2] at hv
        exact h.1 p (j - 1) u v h1 (by omega) (by omega) e1 (by omega) hu hv
      · rw [if_neg e2] at hv
        exact h.1 p q u v h1 h2 h3 e1 e2 hu hv
  · intro q u v h1 h2 hu hv
    rw [sw_get (by omega) (by omega)] at hu hv
    rw [if_neg (by omega), if_pos rfl] at hu
    by_cases e1 : q = j
    · rw [if_pos e1] at hv
      rw [hx] at hu; rw [hy] at hv; cases hu; cases hv; exact ho.asy hlt
    · rw [if_neg e1, if_neg (by omega)] at hv
      exact h.2 q u v (by omega) h2 hu hv
theorem Ins.done {lt : α → α → Prop} {a i j : Nat} {l : List α} (ho : Ord lt) (h : Ins lt a i j l) (haj : a ≤ j) (hji : j ≤ i) (hl : i < l.length)
    (hd : j = a ∨ ∀ x y, l[j]? = some x → l[j - 1]? = some y → ¬ lt x y) : Inc lt a (i + 1) l := by
  intro p q u v h1 h2 h3 hu hv
  by_cases e1 : p = j
  · subst e1; exact h.2 q u v h2 (by omega) hu hv
  · by_cases e2 : q = j
    · subst e2
      rcases hd with rfl | hd
      · omega
      · obtain ⟨w, hw⟩ : ∃ w, l[q - 1]? = some w := ⟨_, List.getElem?_eq_getElem (by omega)⟩
        have hwv := hd v w hv hw
        by_cases e3 : p = q - 1
        · subst e3; rw [hu] at hw; cases hw; exact hwv
        · exact ho.ng hwv (h.1 p (q - 1) u w h1 (by omega) (by omega) e1 (by omega) hu hw)
    · exact h.1 p q u v h1 h2 (by omega) e1 e2 hu hv

/-- [a, b) under way to be parted at what stands at a: what lies ahead of i is less, what lies behind j is not -/
structure Prt (lt : α → α → Prop) (a b i j : Nat) (l : List α) : Prop where
  ai : a < i
  ij : i ≤ j
  jb : j ≤ b
  lo : ∀ (k : Nat) (x y : α), a < k → k < i → l[k]? = some x → l[a]? = some y → lt x y
  hi : ∀ (k : Nat) (x y : α), j ≤ k → k < b → l[k]? = some x → l[a]? = some y → ¬ lt x y
theorem Prt.start {lt : α → α → Prop} {a b : Nat} {l : List α} (h : a < b) : Prt lt a b (a + 1) b l :=
  ⟨by omega, by omega, by omega, fun k _ _ h1 h2 => by omega, fun k _ _ h1 h2 => by omega⟩
theorem Prt.up {lt : α → α → Prop} {a b i j : Nat} {l : List α} (h : Prt lt a b i j l) (hij : i < j) {x y : α} (hx : l[i]? = some x) (hy : l[a]? = some y) (hlt : lt x y) : Prt lt a b (i + 1) j l :=
  ⟨by have := h.ai; omega, by omega, h.jb, fun k u v h1 h2 hu hv => by
    by_cases e : k = i
    · subst e; rw [hx] at hu; rw [hy] at hv; cases hu; cases hv; exact hlt
    · exact h.lo k u v h1 (by omega) hu hv, h.hi⟩
theorem Prt.down {lt : α → α → Prop} {a b i j : Nat} {l : List α} (h : Prt lt a b i (j + 1) l) (hij : i ≤ j) {x y : α} (hx : l[j]? = some x) (hy : l[a]? = some y) (hlt : ¬ lt x y) : Prt lt a b i j l :=
  ⟨h.ai, hij, by have := h.jb; omega, h.lo, fun k u v h1 h2 hu hv => by
    by_cases e : k = j
    · subst e; rw [hx] at hu; rw [hy] at hv; cases hu; cases hv; exact hlt
    · exact h.hi k u v (by omega) h2 hu hv⟩
/-- both stand on the wrong side: swapped -/
theorem Prt.swap {lt : α → α → Prop} {a b i j : Nat} {l : List α} (h : Prt lt a b i (j + 1) l) (hij : i < j) (hb : b ≤ l.length) {x y z : α} (hx : l[i]? = some x) (hy : l[j]? = some y) (hz : l[a]? = some z)
    (h1 : ¬ lt x z) (h2 : lt y z) : Prt lt a b (i + 1) j (sw l i j) := by
  have hai := h.ai
  have hjb := h.jb
  have ea : (sw l i j)[a]? = some z := by rw [sw_get (by omega) (by omega), if_neg (by omega), if_neg (by omega), hz]
  refine ⟨by omega, by omega, by omega, fun k u v k1 k2 hu hv => ?_, fun k u v k1 k2 hu hv => ?_⟩
  · rw [ea] at hv; cases hv
    rw [sw_get (by omega) (by omega)] at hu
    by_cases e : k = i
    · rw [if_pos e, hy] at hu; cases hu; exact h2
    · rw [if_neg e, if_neg (by omega)] at hu
      exact h.lo k u z k1 (by omega) hu hz
  · rw [ea] at hv; cases hv
    rw [sw_get (by omega) (by omega), if_neg (by omega)] at hu
    by_cases e : k = j
    · rw [if_pos e, hx] at hu; cases hu; exact h1
    · rw [if_neg e] at hu
      exact h.hi k u z (by omega) k2 hu hz
/-- [a, b) is parted at what stands at m -/
structure Parted (lt : α → α → Prop) (a b m : Nat) (l : List α) : Prop where
  am : a ≤ m
  mb : m < b
  lo : ∀ (k : Nat) (x y : α), a ≤ k → k < m → l[k]? = some x → l[m]? = some y → lt x y
  hi : ∀ (k : Nat) (x y : α), m < k → k < b → l[k]? = some x → l[m]? = some y → ¬ lt x y
theorem Prt.done {lt : α → α → Prop} {a b i : Nat} {l : List α} (h : Prt lt a b i i l) (hb : b ≤ l.length) (hab : a < b) : Parted lt a b (i - 1) (sw l (i - 1) a) := by
  have hai := h.ai
  have hib := h.jb
  obtain ⟨z, hz⟩ : ∃ z, l[a]? = some z := ⟨_, List.getElem?_eq_getElem (by omega)⟩
  have em : (sw l (i - 1) a)[i - 1]? = some z := by rw [sw_get (by omega) (by omega), if_pos rfl, hz]
  refine ⟨by omega, by omega, fun k u v k1 k2 hu hv => ?_, fun k u v k1 k2 hu hv => ?_⟩
  · rw [em] at hv; cases hv
    rw [sw_get (by omega) (by omega), if_neg (by omega)] at hu
    by_cases e : k = a
    · rw [if_pos e] at hu
      exact h.lo (i - 1) u z (by omega) (by omega) hu hz
    · rw [if_neg e] at hu
      exact h.lo k u z (by omega) (by omega) hu hz
  · rw [em] at hv; cases hv
    rw [sw_get (by omega) (by omega), if_neg (by omega), if_neg (by omega)] at hu
    exact h.hi k u z (by omega) k2 hu hz
/-- parted, and both parts in order: all is in order -/
theorem Parted.join {lt : α → α → Prop} {a b m : Nat} {l : List α} (ho : Ord lt) (h : Parted lt a b m l) (h1 : Inc lt a m l) (h2 : Inc lt (m + 1) b l) (hb : b ≤ l.length) : Inc lt a b l := by
  have hm := h.mb
  obtain ⟨z, hz⟩ : ∃ z, l[m]? = some z := ⟨_, List.getElem?_eq_getElem (by omega)⟩
  intro p q x y k1 k2 k3 hx hy
  rcases Nat.lt_trichotomy q m with e | e | e
  · exact h1 p q x y k1 k2 e hx hy
  · subst e; exact ho.asy (h.lo p x y k1 k2 hx hy)
  · rcases Nat.lt_trichotomy p m with e' | e' | e'
    · exact fun h' => h.hi q y z e k3 hy hz (ho.tr h' (h.lo p x z k1 e' hx hz))
    · subst e'; rw [hx] at hz; cases hz; exact h.hi q y _ e k3 hy hx
    · exact h2 p q x y e' k2 k3 hx hy
/-- what is done within a part leaves it parted -/
theorem Parted.left {lt : α → α → Prop} {a b m : Nat} {l l' : List α} (h : Parted lt a b m l) (hr : Rng a m l l') (hb : b ≤ l.length) : Parted lt a b m l' := by
  have hm := h.mb
  refine ⟨h.am, h.mb, fun k u v k1 k2 hu hv => ?_, fun k u v k1 k2 hu hv => ?_⟩
  · rw [hr.hi m (by omega)] at hv
    obtain ⟨j, j1, j2, hj⟩ := hr.mem h.am (by omega) hu k1 k2
    exact h.lo j u v j1 j2 hj hv
  · rw [hr.hi m (by omega)] at hv; rw [hr.hi k (by omega)] at hu
    exact h.hi k u v k1 k2 hu hv
theorem Parted.right {lt : α → α → Prop} {a b m : Nat} {l l' : List α} (h : Parted lt a b m l) (hr : Rng (m + 1) b l l') (hb : b ≤ l.length) : Parted lt a b m l' := by
  have hm := h.mb
  refine ⟨h.am, h.mb, fun k u v k1 k2 hu hv => ?_, fun k u v k1 k2 hu hv => ?_⟩
  · rw [hr.lo m (by omega)] at hv; rw [hr.lo k (by omega)] at hu
    exact h.lo k u v k1 k2 hu hv
  · rw [hr.lo m (by omega)] at hv
    obtain ⟨j, j1, j2, hj⟩ := hr.mem (by omega) hb hu (by omega) k2
    exact h.hi j u v (by omega) j2 hj hv
end Go.Proofs.Ytkhooppaenfkdaa.Fw
