/- Heaps in a plain list. -/
import Derived.Test.YtkhooppaenfkdaaFwZf
namespace Go.Proofs.Ytkhooppaenfkdaa.Fw
set_option linter.unusedVariables false
set_option linter.unusedSimpArgs false
variable {α : Type}

/-- from lo on, of hi in all, the parents are not less than their children (places told from f on) -/
def Heap (lt : α → α → Prop) (f lo hi : Nat) (l : List α) : Prop :=
  ∀ (c : Nat) (x y : α), 0 < c → c < hi → lo ≤ (c - 1) / 2 → l[f + (c - 1) / 2]? = some x → l[f + c]? = some y → ¬ lt x y
/-- so, but for r, whose children its parent is not less than -/
def Sft (lt : α → α → Prop) (f lo hi r : Nat) (l : List α) : Prop :=
  (∀ (c : Nat) (x y : α), 0 < c → c < hi → lo ≤ (c - 1) / 2 → (c - 1) / 2 ≠ r → l[f + (c - 1) / 2]? = some x → l[f + c]? = some y → ¬ lt x y) ∧
  (∀ (c : Nat) (x y : α), 0 < c → c < hi → (c - 1) / 2 = r → 0 < r → lo ≤ (r - 1) / 2 → l[f + (r - 1) / 2]? = some x → l[f + c]? = some y → ¬ lt x y)
theorem Sft.start {lt : α → α → Prop} {f lo hi : Nat} {l : List α} (h : Heap lt f (lo + 1) hi l) : Sft lt f lo hi lo l :=
  ⟨fun c x y h1 h2 h3 h4 hx hy => h c x y h1 h2 (by omega) hx hy, fun c x y h1 h2 h3 h4 h5 => by omega⟩
theorem Sft.step {lt : α → α → Prop} (ho : Ord lt) {f lo hi r ch : Nat} {l : List α} (h : Sft lt f lo hi r l) (hlo : lo ≤ r) (hl : f + hi ≤ l.length) (h0 : 0 < ch) (h1 : ch < hi) (h2 : (ch - 1) / 2 = r) {x y : α}
    (hx : l[f + r]? = some x) (hy : l[f + ch]? = some y) (hlt : lt x y) (hbig : ∀ (c : Nat) (z : α), 0 < c → c < hi → (c - 1) / 2 = r → c ≠ ch → l[f + c]? = some z → ¬ lt y z) :
    Sft lt f lo hi ch (sw l (f + r) (f + ch)) := by
  have g := fun k => sw_get (l := l) (i := f + r) (j := f + ch) (by omega) (by omega) k
  constructor
  · intro c u v c1 c2 c3 c4 hu hv
    rw [g] at hu hv
    by_cases e : (c - 1) / 2 = r
    · rw [if_pos (by omega), hy] at hu; cases hu
      rw [if_neg (by omega)] at hv
      by_cases e2 : c = ch
      · subst e2; rw [if_pos rfl, hx] at hv; cases hv
        exact fun h' => ho.irr _ (ho.tr hlt h')
      · rw [if_neg (by omega)] at hv
        exact hbig c v c1 c2 e e2 hv
    · rw [if_neg (by omega), if_neg (by omega)] at hu
      by_cases e2 : c = r
      · rw [if_pos (by omega), hy] at hv; cases hv
        subst e2
        exact h.2 ch u y h0 h1 h2 c1 c3 hu hy
      · rw [if_neg (by omega), if_neg (by omega)] at hv
        exact h.1 c u v c1 c2 c3 e hu hv
  · intro c u v c1 c2 c3 c4 c5 hu hv
    rw [g] at hu hv
    rw [if_pos (by omega), hy] at hu; cases hu
    rw [if_neg (by omega), if_neg (by omega)] at hv
    exact h.1 c y v c1 c2 (by omega) (by omega) (by rw [c3]; exact hy) hv
theorem Sft.leaf {lt : α → α → Prop} {f lo hi r : Nat} {l : List α} (h : Sft lt f lo hi r l) (hr : hi ≤ 2 * r + 1) : Heap lt f lo hi l :=
  fun c x y h1 h2 h3 hx hy => h.1 c x y h1 h2 h3 (by omega) hx hy
theorem Sft.done {lt : α → α → Prop} (ho : Ord lt) {f lo hi r ch : Nat} {l : List α} (h : Sft lt f lo hi r l) (h0 : 0 < ch) (h2 : (ch - 1) / 2 = r) {x y : α}
    (hx : l[f + r]? = some x) (hy : l[f + ch]? = some y) (hlt : ¬ lt x y) (hbig : ∀ (c : Nat) (z : α), 0 < c → c < hi → (c - 1) / 2 = r → c ≠ ch → l[f + c]? = some z → ¬ lt y z) : Heap lt f lo hi l := by
  intro c u v h3 h4 h5 hu hv
  by_cases e : (c - 1) / 2 = r
  · rw [e, hx] at hu; cases hu
    by_cases e2 : c = ch
    · subst e2; rw [hy] at hv; cases hv; exact hlt
    · exact ho.ng hlt (hbig c v h3 h4 e e2 hv)
  · exact h.1 c u v h3 h4 h5 e hu hv
/-- nothing in a heap is greater than its first -/
theorem Heap.top {lt : α → α → Prop} (ho : Ord lt) {f hi : Nat} {l : List α} (h : Heap lt f 0 hi l) (hl : f + hi ≤ l.length) {x : α} (hx : l[f]? = some x) :
    ∀ (c : Nat) (y : α), 0 < c → c < hi → l[f + c]? = some y → ¬ lt x y := by
  intro c
  induction c using Nat.strongRecOn with
  | ind c ih =>
    intro y h0 h1 hy
    obtain ⟨z, hz⟩ : ∃ z, l[f + (c - 1) / 2]? = some z := ⟨_, List.getElem?_eq_getElem (by omega)⟩
    have hzy : ¬ lt z y := h c z y h0 h1 (by omega) hz hy
    by_cases e : (c - 1) / 2 = 0
    · rw [e] at hz; rw [show f + 0 = f from rfl, hx] at hz; cases hz; exact hzy
    · exact ho.ng (ih _ (by omega) z (by omega) (by omega) hz) hzy

/-- of hi the first n are a heap, the others are in order, and greater -/
structure HS (lt : α → α → Prop) (a n hi : Nat) (l : List α) : Prop where
  heap : Heap lt a 0 n l
  inc : Inc lt (a + n) (a + hi) l
  le : ∀ (k m : Nat) (x y : α), k < n → n ≤ m → m < hi → l[a + k]? = some x → l[a + m]? = some y → ¬ lt y x
theorem HS.start {lt : α → α → Prop} {a hi : Nat} {l : List α} (h : Heap lt a 0 hi l) : HS lt a hi hi l :=
  ⟨h, fun p q x y h1 h2 h3 => by omega, fun k m x y h1 h2 h3 => by omega⟩
theorem Heap.nil {lt : α → α → Prop} {a hi : Nat} {l : List α} : Heap lt a ((hi - 1) / 2 + 1) hi l := fun c x y h1 h2 h3 => by omega
theorem HS.swap {lt : α → α → Prop} {a i hi : Nat} {l : List α} (h : HS lt a (i + 1) hi l) (hl : a + i < l.length) : Heap lt a 1 i (sw l a (a + i)) := by
  intro c x y h1 h2 h3 hx hy
  rw [sw_get (by omega) (by omega), if_neg (by omega), if_neg (by omega)] at hx hy
  exact h.heap c x y h1 (by omega) (by omega) hx hy
theorem HS.step {lt : α → α → Prop} (ho : Ord lt) {a i hi : Nat} {l l2 : List α} (h : HS lt a (i + 1) hi l) (hi1 : i < hi) (hl : a + hi ≤ l.length) (hr : Rng a (a + i) (sw l a (a + i)) l2) (hh : Heap lt a 0 i l2) : HS lt a i hi l2 := by
  obtain ⟨z, hz⟩ : ∃ z, l[a]? = some z := ⟨_, List.getElem?_eq_getElem (by omega)⟩
  have top := h.heap.top ho (by omega) hz
  have g := fun k => sw_get (l := l) (i := a) (j := a + i) (by omega) (by omega) k
  have ei : l2[a + i]? = some z := by
    rw [hr.hi _ (by omega), g]
    by_cases e : a + i = a
    · rw [if_pos e, e, hz]
    · rw [if_neg e, if_pos rfl, hz]
  have em : ∀ m, i < m → l2[a + m]? = l[a + m]? := fun m hm => by rw [hr.hi _ (by omega), g, if_neg (by omega), if_neg (by omega)]
  refine ⟨hh, fun p q x y h1 h2 h3 hx hy => ?_, fun k m x y h1 h2 h3 hx hy => ?_⟩
  · obtain ⟨q, rfl⟩ : ∃ q', q = a + q' := ⟨q - a, by omega⟩
    obtain ⟨p, rfl⟩ : ∃ p', p = a + p' := ⟨p - a, by omega⟩
    rw [em q (by omega)] at hy
    by_cases e : p = i
    · subst e; rw [ei] at hx; cases hx
      exact h.le 0 q z y (by omega) (by omega) (by omega) hz hy
    · rw [em p (by omega)] at hx
      exact h.inc (a + p) (a + q) x y (by omega) (by omega) h3 hx hy
  · obtain ⟨j, j1, j2, hj⟩ := hr.mem (by omega) (by rw [sw_len]; omega) hx (by omega) (by omega)
    obtain ⟨j, rfl⟩ : ∃ j', j = a + j' := ⟨j - a, by omega⟩
    have : ∃ j', 0 < j' ∧ j' ≤ i ∧ l[a + j']? = some x := by
      rw [g] at hj
      by_cases e : j = 0
      · rw [if_pos (by omega)] at hj; exact ⟨i, by omega, by omega, hj⟩
      · rw [if_neg (by omega), if_neg (by omega)] at hj; exact ⟨j, by omega, by omega, hj⟩
    obtain ⟨j', k1, k2, k3⟩ := this
    by_cases e : m = i
    · subst e; rw [ei] at hy; cases hy
      exact top j' x k1 (by omega) k3
    · rw [em m (by omega)] at hy
      exact h.le j' m x y (by omega) (by omega) h3 k3 hy
theorem HS.done {lt : α → α → Prop} {a hi : Nat} {l : List α} (h : HS lt a 0 hi l) : Inc lt a (a + hi) l := h.inc
end Go.Proofs.Ytkhooppaenfkdaa.Fw
