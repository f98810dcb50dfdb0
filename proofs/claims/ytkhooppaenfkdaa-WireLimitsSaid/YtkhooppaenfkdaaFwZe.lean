/- A slice that has come in: its cells as the abstract machine has them. -/
import Derived.Test.YtkhooppaenfkdaaFwZd
import Derived.Deep.Slices
import Derived.WideShapes
set_option linter.unusedSimpArgs false
set_option linter.unusedVariables false
namespace Go.Proofs.Ytkhooppaenfkdaa.Fw
open Go Go.RowKit

/-- the kinds of the cells of a flat type -/
def flatFs (P : Program) (g : TypeId → Option (List Ck)) : List Field → Nat → Option (List Ck)
  | [], _ => some []
  | f :: fs, off => if f.offset = off then match g f.type with
    | some ks => if P.cellsOf f.type = ks.length then (flatFs P g fs (off + ks.length)).map (ks ++ ·) else none
    | none => none
    else none
def flatK (P : Program) : Nat → TypeId → Option (List Ck)
  | 0, _ => none
  | n + 1, t => match P.underlying t with
    | some .bool => some [.b]
    | some (.int k) => some [.i k]
    | some .string => some [.s]
    | some (.struct fs) => match flatFs P (flatK P n) fs.toList 0 with
      | some ks => if P.cellsOf t = ks.length then some ks else none
      | none => none
    | _ => none
def ScK : Ck → Sc → Prop
  | .i k, x => ∃ n, x = .i k n ∧ (Lit.int k n).wf = true
  | .b, x => ∃ b, x = .b b
  | .s, x => ∃ s, x = .s s ∧ s.size ≤ maxLen
  | _, _ => False

section
variable {H : Type} {enc : TypeId × Value → H} {P : Program} {w : World} {base : Nat} {spare : Nat → Bool} {held : Bool} {ι : Inj}
theorem flat_open : ∀ (n : Nat) {t : TypeId} {ks : List Ck} {fuel : Nat} {cs : List Value} {x : DataW H × List MemPlace}, flatK P n t = some ks → DataW.trod enc P w base spare held fuel t cs = some x →
    ∃ l : List Sc, All2 (SR ι) l cs ∧ All2 ScK ks l ∧ cs.length = ks.length := by
  intro n
  induction n with
  | zero => intro t ks fuel cs x h; simp [flatK] at h
  | succ n ih =>
    intro t ks fuel cs x h ht
    cases fuel with
    | zero => simp [DataW.trod] at ht
    | succ fuel =>
      simp only [flatK] at h
      split at h
      · rename_i hu
        cases h
        obtain ⟨b, rfl, _⟩ := DataW.trod_bool hu ht
        exact ⟨[.b b], ⟨_, _, rfl, rfl, rfl⟩, ⟨_, _, rfl, ⟨b, rfl⟩, rfl⟩, rfl⟩
      · rename_i k hu
        cases h
        obtain ⟨m, rfl, _, hw⟩ := DataW.trod_int hu ht
        exact ⟨[.i k m], ⟨_, _, rfl, rfl, rfl⟩, ⟨_, _, rfl, ⟨m, rfl, hw⟩, rfl⟩, rfl⟩
      · rename_i hu
        cases h
        obtain ⟨q, rfl, _, hw⟩ := DataW.trod_string hu ht
        exact ⟨[.s q], ⟨_, _, rfl, rfl, rfl⟩, ⟨_, _, rfl, ⟨q, rfl, hw⟩, rfl⟩, rfl⟩
      · rename_i fs hu
        split at h
        case h_2 => cases h
        rename_i ks' hks
        split at h
        case isFalse => cases h
        rename_i hlen
        cases h
        have ht' : (if cs.length = P.cellsOf t then (fs.toList.mapM fun f => DataW.trod enc P w base spare held fuel f.type ((cs.drop f.offset).take (P.cellsOf f.type))).map fun xs => (DataW.agg (xs.map (·.1)), xs.flatMap (·.2)) else none) = some x := by
          unfold DataW.trod at ht
          rw [hu] at ht
          exact ht
        split at ht'
        case isFalse => cases ht'
        rename_i hcl
        rw [Option.map_eq_some_iff] at ht'
        obtain ⟨xs, hxs, _⟩ := ht'
        have go : ∀ (fs : List Field) (off : Nat) (ks : List Ck) (xs : List (DataW H × List MemPlace)), flatFs P (flatK P n) fs off = some ks →
            (fs.mapM fun f => DataW.trod enc P w base spare held fuel f.type ((cs.drop f.offset).take (P.cellsOf f.type))) = some xs → off + ks.length ≤ cs.length →
            ∃ l : List Sc, All2 (SR ι) l ((cs.drop off).take ks.length) ∧ All2 ScK ks l := by
          intro fs
          induction fs with
          | nil => intro off ks xs h _ _; simp [flatFs] at h; subst h; exact ⟨[], by simp [All2], rfl⟩
          | cons f fs ihf =>
            intro off ks xs h hm hle
            simp only [flatFs] at h
            split at h
            case isFalse => cases h
            rename_i hoff
            split at h
            case h_2 => cases h
            rename_i k1 hk1
            split at h
            case isFalse => cases h
            rename_i hc1
            rw [Option.map_eq_some_iff] at h
            obtain ⟨k2, hk2, rfl⟩ := h
            rw [List.mapM_cons] at hm
            simp only [Option.bind_eq_bind, Option.bind_eq_some_iff, Option.pure_def, Option.some.injEq] at hm
            obtain ⟨y, hy, ys, hys, _⟩ := hm
            rw [List.length_append] at hle
            obtain ⟨l1, a1, a2, _⟩ := ih hk1 hy
            obtain ⟨l2, b1, b2⟩ := ihf (off + k1.length) k2 ys hk2 hys (by omega)
            refine ⟨l1 ++ l2, ?_, a2.append b2⟩
            rw [hoff, hc1] at a1
            rw [List.length_append, List.take_add, List.drop_drop]
            exact a1.append b1
        obtain ⟨l, h1, h2⟩ := go fs.toList 0 ks xs hks hxs (by omega)
        rw [List.drop_zero, List.take_of_length_le (by omega)] at h1
        exact ⟨l, h1, h2, by omega⟩
      · cases h
end

/-- the heap with one slice's cells in it -/
def HA (c : List Sc) : AH := ⟨1, fun j => if j = 0 then some (.cells true c) else none⟩

theorem came1 {α : Type} {T : Enc α} {H : Type} {enc : TypeId × Value → H} {P : Program} {W : World} {t e : TypeId} {ks : List Ck} {n b : Nat} {v : Value} {d : DataW H} {ps : List MemPlace}
    (ht : P.underlying t = some (.slice e)) (hk : flatK P n e = some ks) (hz : P.cellsOf e = T.z) (hz0 : 0 < T.z) (hE : ∀ x, All2 ScK ks x → ∃ a : α, x = T.e a)
    (hok : Value.okWide P W .any b t v) (h : DataW.Trod enc P W 0 (fun _ => true) true t v d ps) :
    ∃ (ι : Inj) (o : Option SlD) (l : List α) (c : List Sc), Came ι (HA c) W ∧ SR ι (.sl o) v ∧ ∀ H' : AH, H'.obj 0 = some (.cells true c) → 0 < H'.next → Star H' [.sl true T o l] := by
  obtain ⟨a, len, cap, rfl⟩ := Go.WideShapes.okWide_slice ht hok
  obtain ⟨fuel, hf⟩ := h
  have hcs : (Value.slice a len cap).cells.toList = [.slice a len cap] := by simp [Value.cells]
  rw [hcs] at hf
  rcases Go.Deep.open_slice ht hf with ⟨h0, _⟩ | ⟨ad, len', cap', m, n', D, Pl, h0, hb, hl, hm, hmm, _, hx⟩
  · simp at h0
    obtain ⟨rfl, rfl, rfl⟩ := h0
    refine ⟨fun _ => none, none, [], [], ⟨⟨fun _ _ _ h => (by cases h), fun _ _ _ _ _ h => (by cases h), fun _ _ h => (by cases h), fun i hi => ?_⟩, fun _ _ h => (by cases h), fun _ _ => rfl⟩, rfl, fun H' h1 h2 => Star.slN.2 ⟨rfl, trivial⟩⟩
    simp only [HA] at hi ⊢
    rw [if_neg (by omega)]
  · simp at h0
    obtain ⟨rfl, rfl, rfl⟩ := h0
    simp only [if_true] at hmm
    subst hmm
    rw [hz] at hx
    have hhas : ad.spot = none ∧ ad.block < W.heap.size := by
      simp only [Value.okWide, ht, Cell.okWide, Cell.ok, World.has] at hok
      obtain ⟨_, _, _, hsp, row, cells, hs, _⟩ := hok
      refine ⟨hsp, ?_⟩
      rcases Nat.lt_or_ge ad.block W.heap.size with h | h
      · exact h
      · simp [World.shape?, Array.getElem?_eq_none h] at hs
    obtain ⟨blk, off, spot⟩ := ad
    simp only at hhas
    obtain ⟨rfl, hblk⟩ := hhas
    -- the cells of all elements
    have cells : ∀ k, k ≤ m → ∃ (l : List α), l.length = k ∧ ∀ j x, (T.all l)[j]? = some x → ∃ v, W.cell? ⟨blk, off + j, none⟩ = some v ∧ ∀ ι, SR ι x v := by
      intro k
      induction k with
      | zero => intro _; exact ⟨[], rfl, fun j x h => by simp [Enc.all] at h⟩
      | succ k ih =>
        intro hk1
        obtain ⟨l, h1, h2⟩ := ih (by omega)
        obtain ⟨cs', hc, htr⟩ := hx k (by omega)
        obtain ⟨_, hlen, hget⟩ := World.cells?_some hc
        have hflat : ∀ ι : Inj, ∃ q : List Sc, All2 (SR ι) q cs' ∧ All2 ScK ks q ∧ cs'.length = ks.length := fun ι => flat_open n hk htr
        obtain ⟨q, q1, q2, q3⟩ := hflat fun _ => none
        obtain ⟨y, rfl⟩ := hE q q2
        refine ⟨l ++ [y], by simp [h1], fun j x hj => ?_⟩
        rw [T.all_append, show T.all [y] = T.e y by simp [Enc.all]] at hj
        have hlT := T.all_length l
        rw [h1] at hlT
        by_cases hlt : j < k * T.z
        · rw [List.getElem?_append_left (by omega)] at hj
          exact h2 j x hj
        · rw [List.getElem?_append_right (by omega), hlT] at hj
          obtain ⟨u, hu, hs⟩ := q1.get _ x hj
          have hjz : j - k * T.z < T.z := by have := (List.getElem?_eq_some_iff.1 hj).1; rwa [T.len y] at this
          have := hget (j - k * T.z) hjz
          rw [addr_add, addr_add, hu] at this
          refine ⟨u, by rw [← this]; congr 2; omega, fun ι => SR.mono (ι := fun _ => none) (fun _ _ h => by cases h) hs⟩
    obtain ⟨l, hll, hcell⟩ := cells m (Nat.le_refl _)
    have hlT := T.all_length l
    rw [hll] at hlT
    by_cases hm0 : m = 0
    · subst hm0
      have : l = [] := List.length_eq_zero_iff.1 hll
      subst this
      have hlen0 : len = 0 := by omega
      subst hlen0
      refine ⟨fun j => if j = 0 then some ⟨blk, 0, 0, true⟩ else none, some ⟨0, 0, 0, 0, T.z⟩, [], [], ⟨⟨?_, ?_, ?_, ?_⟩, ?_, ?_⟩, ⟨⟨blk, 0, 0, true⟩, _, 0, rfl, rfl, Nat.le_refl _, Nat.le_refl _, .inl rfl, .inl rfl⟩, fun H' h1 h2 => ?_⟩
      · intro id d' o h1 h2
        split at h1
        · cases h1; rename_i e; subst e
          simp only [HA, if_true] at h2; cases h2
          exact ⟨rfl, by simp, fun j x h => by simp at h, fun o h => by simp at h, fun h => by cases h⟩
        · cases h1
      · intro id id' d1 d2 hne h1 h2 _ _
        split at h1
        · split at h2
          · omega
          · cases h2
        · cases h1
      · intro id d1 h1; (try dsimp only at h1); split at h1 <;> cases h1; exact hblk
      · intro i hi; simp only [HA] at hi ⊢; rw [if_neg (by omega)]
      · intro id d1 h1; (try dsimp only at h1); split at h1 <;> cases h1; rfl
      · intro id hid; simp only [HA] at hid; simp only; rw [if_neg (by omega)]
      · refine Star.slS.2 ⟨[], SlOk.mk' rfl (Nat.le_refl _) (by simp) (by simp [Enc.all]), one 0 (.cells true []), rfl, fun i o hi => ?_, trivial⟩
        simp only [one] at hi
        split at hi
        · rename_i e; cases hi; subst e; exact ⟨h1, h2, fun h => h⟩
        · cases hi
    · have hpos : 0 < m * T.z := Nat.mul_pos (by omega) hz0
      -- the block
      obtain ⟨cc, ty, fz, hblock⟩ : ∃ cc ty fz, W.heap[blk]? = some (.cells cc ty fz) := by
        obtain ⟨x, hx'⟩ : ∃ x, (T.all l)[0]? = some x := ⟨_, List.getElem?_eq_getElem (by omega)⟩
        obtain ⟨u, hu, _⟩ := hcell 0 x hx'
        unfold World.cell? at hu
        dsimp only at hu
        split at hu
        · rename_i c t f hh
          exact ⟨c, t, f, hh⟩
        · cases hu
      have hin : ∀ o, o < off + m * T.z → (W.cell? ⟨blk, o, none⟩).isSome = true := by
        have hlast : (W.cell? ⟨blk, off + (m * T.z - 1), none⟩).isSome = true := by
          obtain ⟨x, hx'⟩ : ∃ x, (T.all l)[m * T.z - 1]? = some x := ⟨_, List.getElem?_eq_getElem (by omega)⟩
          obtain ⟨u, hu, _⟩ := hcell _ x hx'
          rw [hu]; rfl
        intro o ho
        simp only [World.cell?, hblock] at hlast ⊢
        simp at hlast ⊢
        omega
      refine ⟨fun j => if j = 0 then some ⟨blk, off, off + m * T.z, true⟩ else none, some ⟨0, 0, len, m, T.z⟩, l.take len, T.all l, ⟨⟨?_, ?_, ?_, ?_⟩, ?_, ?_⟩, ⟨⟨blk, off, off + m * T.z, true⟩, _, m, rfl, rfl, hl, Nat.le_refl _, .inr rfl, .inl rfl⟩, fun H' h1 h2 => ?_⟩
      · intro id d' o h1 h2
        split at h1
        · cases h1; rename_i e; subst e
          simp only [HA, if_true] at h2; cases h2
          exact ⟨rfl, by simp only; omega, fun j x h => by obtain ⟨v, hv, hs⟩ := hcell j x h; exact ⟨v, hv, hs _⟩, hin, fun h => by cases h⟩
        · cases h1
      · intro id id' d1 d2 hne h1 h2 _ _
        split at h1
        · split at h2
          · omega
          · cases h2
        · cases h1
      · intro id d1 h1; (try dsimp only at h1); split at h1 <;> cases h1; exact hblk
      · intro i hi; simp only [HA] at hi ⊢; rw [if_neg (by omega)]
      · intro id d1 h1; (try dsimp only at h1); split at h1 <;> cases h1; rfl
      · intro id hid; simp only [HA] at hid; simp only; rw [if_neg (by omega)]
      · refine Star.slS.2 ⟨T.all l, SlOk.mk' (by simp; omega) hl (by rw [hlT]; omega) (by simp [T.all_take]), one 0 (.cells true (T.all l)), rfl, fun i o hi => ?_, trivial⟩
        simp only [one] at hi
        split at hi
        · rename_i e; cases hi; subst e; exact ⟨h1, h2, fun h => h⟩
        · cases hi
end Go.Proofs.Ytkhooppaenfkdaa.Fw
