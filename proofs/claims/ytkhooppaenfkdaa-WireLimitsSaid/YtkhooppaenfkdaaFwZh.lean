/- Structs, and two slices, that have come in. -/
import Derived.Test.YtkhooppaenfkdaaFwZe
set_option linter.unusedSimpArgs false
set_option linter.unusedVariables false
namespace Go.Proofs.Ytkhooppaenfkdaa.Fw
open Go Go.RowKit

theorem came_ag {H : Type} {enc : TypeId × Value → H} {P : Program} {W : World} {t : TypeId} {fs : Array Field} {ks : List Ck} {n b : Nat} {v : Value} {d : DataW H} {ps : List MemPlace}
    (ht : P.underlying t = some (.struct fs)) (hk : flatK P n t = some ks) (hok : Value.okWide P W .any b t v) (h : DataW.Trod enc P W 0 (fun _ => true) true t v d ps) :
    ∃ l : List Sc, (∀ ι, VR ι (.ag l) v) ∧ All2 ScK ks l := by
  obtain ⟨cs, rfl, _⟩ := Go.WideShapes.okWide_struct ht hok
  obtain ⟨fuel, hf⟩ := h
  have hcs : (Value.agg cs).cells.toList = cs.toList := by simp [Value.cells]
  rw [hcs] at hf
  obtain ⟨l, h1, h2, _⟩ := flat_open (ι := fun _ => none) n hk hf
  exact ⟨l, fun ι => ⟨cs.toList, h1.mono fun _ _ => SR.mono (ι := fun _ => none) (fun _ _ h => by cases h), by cases cs; rfl⟩, h2⟩

def oat (k : Nat) (o : Option SlD) : Option SlD := o.map fun d => ⟨k, d.off, d.len, d.cap, d.z⟩
theorem came0 {α : Type} {T : Enc α} {H : Type} {enc : TypeId × Value → H} {P : Program} {W : World} {t e : TypeId} {ks : List Ck} {n b : Nat} {v : Value} {d : DataW H} {ps : List MemPlace}
    (ht : P.underlying t = some (.slice e)) (hk : flatK P n e = some ks) (hz : P.cellsOf e = T.z) (hz0 : 0 < T.z) (hE : ∀ x, All2 ScK ks x → ∃ a : α, x = T.e a)
    (hok : Value.okWide P W .any b t v) (h : DataW.Trod enc P W 0 (fun _ => true) true t v d ps) :
    ∃ (dd : Option IB) (o : Option SlD) (l : List α) (c : List Sc), (∀ d0, dd = some d0 → (∀ ι, OR ι d0 W (.cells true c)) ∧ d0.ro = true ∧ d0.blk < W.heap.size) ∧
      (∀ (ι : Inj) (k : Nat), ι k = dd → SR ι (.sl (oat k o)) v) ∧ ∀ (k : Nat) (H' : AH), H'.obj k = some (.cells true c) → k < H'.next → Star H' [.sl true T (oat k o) l] := by
  obtain ⟨a, len, cap, rfl⟩ := Go.WideShapes.okWide_slice ht hok
  obtain ⟨fuel, hf⟩ := h
  have hcs : (Value.slice a len cap).cells.toList = [.slice a len cap] := by simp [Value.cells]
  rw [hcs] at hf
  rcases Go.Deep.open_slice ht hf with ⟨h0, _⟩ | ⟨ad, len', cap', m, n', D, Pl, h0, hb, hl, hm, hmm, _, hx⟩
  · simp at h0
    obtain ⟨rfl, rfl, rfl⟩ := h0
    exact ⟨none, none, [], [], fun _ h => (by cases h), fun _ _ _ => rfl, fun _ H' h1 h2 => Star.slN.2 ⟨rfl, trivial⟩⟩
  · simp at h0
    obtain ⟨rfl, rfl, rfl⟩ := h0
    simp only [if_true] at hmm
    subst hmm
    rw [hz] at hx
    have hhas : ad.spot = none ∧ ad.block < W.heap.size := by
      simp only [Value.okWide, ht, Cell.okWide, Cell.ok, World.has] at hok
      obtain ⟨_, _, _, hsp, row, cells, hs, _⟩ := hok
      refine ⟨hsp, ?_⟩
      rcases Nat.lt_or_ge ad.block W.heap.size with h | h
      · exact h
      · simp [World.shape?, Array.getElem?_eq_none h] at hs
    obtain ⟨blk, off, spot⟩ := ad
    simp only at hhas
    obtain ⟨rfl, hblk⟩ := hhas
    -- the cells of all elements
    have cells : ∀ k, k ≤ m → ∃ (l : List α), l.length = k ∧ ∀ j x, (T.all l)[j]? = some x → ∃ v, W.cell? ⟨blk, off + j, none⟩ = some v ∧ ∀ ι, SR ι x v := by
      intro k
      induction k with
      | zero => intro _; exact ⟨[], rfl, fun j x h => by simp [Enc.all] at h⟩
      | succ k ih =>
        intro hk1
        obtain ⟨l, h1, h2⟩ := ih (by omega)
        obtain ⟨cs', hc, htr⟩ := hx k (by omega)
        obtain ⟨_, hlen, hget⟩ := World.cells?_some hc
        have hflat : ∀ ι : Inj, ∃ q : List Sc, All2 (SR ι) q cs' ∧ All2 ScK ks q ∧ cs'.length = ks.length := fun ι => flat_open n hk htr
        obtain ⟨q, q1, q2, q3⟩ := hflat fun _ => none
        obtain ⟨y, rfl⟩ := hE q q2
        refine ⟨l ++ [y], by simp [h1], fun j x hj => ?_⟩
        rw [T.all_append, show T.all [y] = T.e y by simp [Enc.all]] at hj
        have hlT := T.all_length l
        rw [h1] at hlT
        by_cases hlt : j < k * T.z
        · rw [List.getElem?_append_left (by omega)] at hj
          exact h2 j x hj
        · rw [List.getElem?_append_right (by omega), hlT] at hj
          obtain ⟨u, hu, hs⟩ := q1.get _ x hj
          have hjz : j - k * T.z < T.z := by have := (List.getElem?_eq_some_iff.1 hj).1; rwa [T.len y] at this
          have := hget (j - k * T.z) hjz
          rw [addr_add, addr_add, hu] at this
          refine ⟨u, by rw [← this]; congr 2; omega, fun ι => SR.mono (ι := fun _ => none) (fun _ _ h => by cases h) hs⟩
    obtain ⟨l, hll, hcell⟩ := cells m (Nat.le_refl _)
    have hlT := T.all_length l
    rw [hll] at hlT
    by_cases hm0 : m = 0
    · subst hm0
      have : l = [] := List.length_eq_zero_iff.1 hll
      subst this
      have hlen0 : len = 0 := by omega
      subst hlen0
      refine ⟨some ⟨blk, 0, 0, true⟩, some ⟨0, 0, 0, 0, T.z⟩, [], [], fun d0 h => ?_, fun ι k hk => ⟨⟨blk, 0, 0, true⟩, _, 0, hk, rfl, Nat.le_refl _, Nat.le_refl _, .inl rfl, .inl rfl⟩, fun k H' h1 h2 => ?_⟩
      · cases h
        exact ⟨fun ι => ⟨rfl, by simp, fun j x h => by simp at h, fun o h => by simp at h, fun h => by cases h⟩, rfl, hblk⟩
      · refine Star.slS.2 ⟨[], SlOk.mk' rfl (Nat.le_refl _) (by simp) (by simp [Enc.all]), one k (.cells true []), rfl, fun i o hi => ?_, trivial⟩
        simp only [one] at hi
        split at hi
        · rename_i e; cases hi; subst e; exact ⟨h1, h2, fun h => h⟩
        · cases hi
    · have hpos : 0 < m * T.z := Nat.mul_pos (by omega) hz0
      -- the block
      obtain ⟨cc, ty, fz, hblock⟩ : ∃ cc ty fz, W.heap[blk]? = some (.cells cc ty fz) := by
        obtain ⟨x, hx'⟩ : ∃ x, (T.all l)[0]? = some x := ⟨_, List.getElem?_eq_getElem (by omega)⟩
        obtain ⟨u, hu, _⟩ := hcell 0 x hx'
        unfold World.cell? at hu
        dsimp only at hu
        split at hu
        · rename_i c t f hh
          exact ⟨c, t, f, hh⟩
        · cases hu
      have hin : ∀ o, o < off + m * T.z → (W.cell? ⟨blk, o, none⟩).isSome = true := by
        have hlast : (W.cell? ⟨blk, off + (m * T.z - 1), none⟩).isSome = true := by
          obtain ⟨x, hx'⟩ : ∃ x, (T.all l)[m * T.z - 1]? = some x := ⟨_, List.getElem?_eq_getElem (by omega)⟩
          obtain ⟨u, hu, _⟩ := hcell _ x hx'
          rw [hu]; rfl
        intro o ho
        simp only [World.cell?, hblock] at hlast ⊢
        simp at hlast ⊢
        omega
      refine ⟨some ⟨blk, off, off + m * T.z, true⟩, some ⟨0, 0, len, m, T.z⟩, l.take len, T.all l, fun d0 h => ?_, fun ι k hk => ⟨⟨blk, off, off + m * T.z, true⟩, _, m, hk, rfl, hl, Nat.le_refl _, .inr rfl, .inl rfl⟩, fun k H' h1 h2 => ?_⟩
      · cases h
        exact ⟨fun ι => ⟨rfl, by simp only; omega, fun j x h => by obtain ⟨v, hv, hs⟩ := hcell j x h; exact ⟨v, hv, hs _⟩, hin, fun h => by cases h⟩, rfl, hblk⟩
      · refine Star.slS.2 ⟨T.all l, SlOk.mk' (by simp; omega) hl (by dsimp only; rw [hlT]; omega) (by simp [T.all_take]), one k (.cells true (T.all l)), rfl, fun i o hi => ?_, trivial⟩
        simp only [one] at hi
        split at hi
        · rename_i e; cases hi; subst e; exact ⟨h1, h2, fun h => h⟩
        · cases hi

/-- the heap with two slices' cells in it -/
def HB (c1 c2 : List Sc) : AH := ⟨2, fun j => if j = 0 then some (.cells true c1) else if j = 1 then some (.cells true c2) else none⟩
theorem came_two {W : World} {dd1 dd2 : Option IB} {c1 c2 : List Sc} (h1 : ∀ d0, dd1 = some d0 → (∀ ι, OR ι d0 W (.cells true c1)) ∧ d0.ro = true ∧ d0.blk < W.heap.size)
    (h2 : ∀ d0, dd2 = some d0 → (∀ ι, OR ι d0 W (.cells true c2)) ∧ d0.ro = true ∧ d0.blk < W.heap.size) :
    Came (fun j => if j = 0 then dd1 else if j = 1 then dd2 else none) (HB c1 c2) W := by
  have key : ∀ id d, (fun j => if j = 0 then dd1 else if j = 1 then dd2 else none) id = some d → (id = 0 ∧ dd1 = some d) ∨ (id = 1 ∧ dd2 = some d) := by
    intro id d h
    dsimp only at h
    split at h
    · exact .inl ⟨by assumption, h⟩
    · split at h
      · exact .inr ⟨by assumption, h⟩
      · cases h
  have ro : ∀ id d, (fun j => if j = 0 then dd1 else if j = 1 then dd2 else none) id = some d → d.ro = true ∧ d.blk < W.heap.size := by
    intro id d h
    rcases key id d h with ⟨_, h⟩ | ⟨_, h⟩
    · exact (h1 d h).2
    · exact (h2 d h).2
  refine ⟨⟨fun id d o h ho => ?_, fun id id' d d' _ h h' _ _ => .inl ⟨(ro id d h).1, (ro id' d' h').1⟩, fun id d h => (ro id d h).2, fun i hi => ?_⟩, fun id d h => (ro id d h).1, fun id hid => ?_⟩
  · rcases key id d h with ⟨rfl, h⟩ | ⟨rfl, h⟩
    · have : o = .cells true c1 := by simpa [HB] using ho.symm
      subst this; exact (h1 d h).1 _
    · have : o = .cells true c2 := by simpa [HB] using ho.symm
      subst this; exact (h2 d h).1 _
  · simp only [HB] at hi ⊢
    rw [if_neg (by omega), if_neg (by omega)]
  · simp only [HB] at hid ⊢
    rw [if_neg (by omega), if_neg (by omega)]
theorem star_two {H : AH} {α β : Type} {T1 : Enc α} {T2 : Enc β} {o1 o2 : Option SlD} {l1 : List α} {l2 : List β} (h1 : Star H [.sl true T1 (oat 0 o1) l1]) (h2 : Star H [.sl true T2 (oat 1 o2) l2]) :
    Star H [.sl true T1 (oat 0 o1) l1, .sl true T2 (oat 1 o2) l2] := by
  obtain ⟨m1, s1, p1, _⟩ := h1
  obtain ⟨m2, s2, p2, _⟩ := h2
  refine ⟨m1, s1, p1, m2, s2, fun i x hi => ⟨(p2 i x hi).1, (p2 i x hi).2.1, ?_⟩, trivial⟩
  rintro (h | h)
  · exact h
  · cases o1 with
    | none => obtain ⟨_, rfl⟩ := s1; exact h rfl
    | some d1 =>
      cases o2 with
      | none => obtain ⟨_, rfl⟩ := s2; cases hi
      | some d2 =>
        obtain ⟨_, _, rfl⟩ := s1
        obtain ⟨_, _, rfl⟩ := s2
        simp only [one] at h hi
        by_cases e : i = 0
        · subst e; cases hi
        · rw [if_neg e] at h; exact h rfl
end Go.Proofs.Ytkhooppaenfkdaa.Fw
