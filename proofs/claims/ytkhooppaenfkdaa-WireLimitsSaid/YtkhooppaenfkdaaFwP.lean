/- Regions whose order is drawn: any order does what the one order did. -/
import Derived.Test.YtkhooppaenfkdaaFwO
set_option linter.unusedSimpArgs false
set_option linter.unusedVariables false
namespace Go.Proofs.Ytkhooppaenfkdaa.Fw
open Go

theorem nodupB_get : ∀ {l : List Nat} {p q x : Nat}, nodupB l = true → l[p]? = some x → l[q]? = some x → p = q
  | [], p, q, x, _, h, _ => by simp at h
  | y :: l, p, q, x, h, hp, hq => by
    simp only [nodupB, Bool.and_eq_true, Bool.not_eq_true'] at h
    have hmem : ∀ k : Nat, l[k]? = some y → False := by
      intro k hk
      have : y ∈ l := List.mem_of_getElem? hk
      have : l.contains y = true := by simpa using this
      rw [h.1] at this; cases this
    cases p with
    | zero =>
      simp at hp; subst hp
      cases q with
      | zero => rfl
      | succ q => exact (hmem q (by simpa using hq)).elim
    | succ p =>
      cases q with
      | zero => simp at hq; subst hq; exact (hmem p (by simpa using hp)).elim
      | succ q =>
        have : p = q := nodupB_get (x := x) h.2 (by simpa using hp) (by simpa using hq)
        rw [this]
theorem idxOf_get {l : List Nat} {p x : Nat} (h : nodupB l = true) (hp : l[p]? = some x) : l.idxOf x = p := by
  have hm : x ∈ l := List.mem_of_getElem? hp
  have h1 : l.idxOf x < l.length := List.idxOf_lt_length_of_mem hm
  have h2 : l[l.idxOf x]? = some x := by rw [List.getElem?_eq_getElem h1]; simp
  exact nodupB_get h h2 hp

/-- what okDraw says -/
structure OkD (A : List Nat) (ops : Array Oper) (L : List Nat) : Prop where
  len : L.length = ops.size
  nd : ∀ p q j : Nat, L[p]? = some j → L[q]? = some j → p = q
  mem : ∀ j : Nat, j < ops.size → ∃ p : Nat, L[p]? = some j
  lt : ∀ p j : Nat, L[p]? = some j → j < ops.size
  direct : ∀ (j : Nat) o e, ops[j]? = some o → e ∈ o.after.toList → bindsA e = true → isAhead A e.on j = true ∧ e.on < ops.size ∧ e.on ≠ j
  guard : ∀ (j : Nat) o g b, ops[j]? = some o → o.guard = some (g, b) → isAhead A g j = true
  back : ∀ (i j : Nat) o, ops[j]? = some o → i < ops.size → i ≠ j → isAhead A i j = true → ∃ e ∈ o.after.toList, bindsA e = true ∧ (e.on = i ∨ isAhead A i e.on = true)
  pos : ∀ p q i j : Nat, L[p]? = some i → L[q]? = some j → i ≠ j → isAhead A i j = true → p < q
  clash : ∀ (i j : Nat) o o', ops[i]? = some o → ops[j]? = some o' → i ≠ j → clashG ops.toList o o' = true → tied A i j = true
  eff : ∀ (i j : Nat) o o', ops[i]? = some o → ops[j]? = some o' → i ≠ j → clsOf o = .eff → clsOf o' = .eff → tied A i j = true
  load : ∀ (p q i j : Nat) o o', L[p]? = some i → L[q]? = some j → ops[i]? = some o → ops[j]? = some o' → i ≠ j → clsOf o = .load → clsOf o' = .eff → tied A i j = true ∨ p < q

theorem OkD.of {A : List Nat} {ops : Array Oper} {L : List Nat} (h : okDraw A ops.toList L = true) : OkD A ops L := by
  simp only [okDraw, Bool.and_eq_true, beq_iff_eq, Array.length_toList] at h
  obtain ⟨⟨⟨hlen, hnd⟩, hlt⟩, hall⟩ := h
  have hj := fun (j : Nat) (o : Oper) (ho : ops[j]? = some o) => List.all_eq_true.1 hall j (by
    have : j < ops.size := by
      rcases Nat.lt_or_ge j ops.size with h' | h'
      · exact h'
      · simp [Array.getElem?_eq_none h'] at ho
    simpa using this)
  have hsz : ∀ (j : Nat) o, ops[j]? = some o → j < ops.size := by
    intro j o ho
    rcases Nat.lt_or_ge j ops.size with h' | h'
    · exact h'
    · simp [Array.getElem?_eq_none h'] at ho
  have hget : ∀ (j : Nat) o, ops[j]? = some o → ops.toList[j]? = some o := fun j o ho => by simpa using ho
  have pair : ∀ (i j : Nat) o o', ops[i]? = some o → ops[j]? = some o' → i ≠ j →
      ((!isAhead A i j || (decide (L.idxOf i < L.idxOf j) && o'.after.toList.any fun e => bindsA e && (e.on == i || isAhead A i e.on))) = true ∧
       (!(clashG ops.toList o o') || tied A i j) = true ∧ (!(clsOf o == .eff && clsOf o' == .eff) || tied A i j) = true ∧
       (!(clsOf o == .load && clsOf o' == .eff) || tied A i j || decide (L.idxOf i < L.idxOf j)) = true) := by
    intro i j o o' hi hj' hne
    have h1 := hj j o' hj'
    rw [hget j o' hj'] at h1
    simp only [Bool.and_eq_true] at h1
    have h2 := List.all_eq_true.1 h1.2 i (by simpa using hsz i o hi)
    rw [hget i o hi] at h2
    simp only [Bool.or_eq_true, beq_iff_eq, hne, false_or, Bool.and_eq_true] at h2
    simp only [Bool.or_eq_true, Bool.and_eq_true]
    exact ⟨h2.1.1.1, h2.1.1.2, h2.1.2, h2.2⟩
  refine ⟨hlen, fun p q j => nodupB_get hnd, ?_, ?_, ?_, ?_, ?_, ?_, ?_, ?_, ?_⟩
  · intro j hjl
    obtain ⟨o, ho⟩ : ∃ o, ops[j]? = some o := ⟨ops[j], by simp [hjl]⟩
    have h1 := hj j o ho
    rw [hget j o ho] at h1
    simp only [Bool.and_eq_true] at h1
    have : j ∈ L := by simpa using h1.1.1.1
    exact List.mem_iff_getElem?.1 this
  · intro p j hp
    have := List.all_eq_true.1 hlt j (List.mem_of_getElem? hp)
    simpa using this
  · intro j o e ho he hb
    have h1 := hj j o ho
    rw [hget j o ho] at h1
    simp only [Bool.and_eq_true] at h1
    have := List.all_eq_true.1 h1.1.1.2 e he
    simp [hb] at this
    exact ⟨this.1.1, this.1.2, this.2⟩
  · intro j o g b ho hg
    have h1 := hj j o ho
    rw [hget j o ho] at h1
    simp only [Bool.and_eq_true, hg] at h1
    exact h1.1.2
  · intro i j o ho hi hne ha
    obtain ⟨o', ho'⟩ : ∃ o, ops[i]? = some o := ⟨ops[i], by simp [hi]⟩
    have := (pair i j o' o ho' ho hne).1
    simp only [ha, Bool.not_true, Bool.false_or, Bool.and_eq_true, List.any_eq_true, Bool.or_eq_true, beq_iff_eq] at this
    obtain ⟨_, e, he, hb, h3⟩ := this
    exact ⟨e, he, hb, h3⟩
  · intro p q i j hp hq hne ha
    have hi : i < ops.size := by have := List.all_eq_true.1 hlt i (List.mem_of_getElem? hp); simpa using this
    have hj2 : j < ops.size := by have := List.all_eq_true.1 hlt j (List.mem_of_getElem? hq); simpa using this
    have := (pair i j ops[i] ops[j] (by simp [hi]) (by simp [hj2]) hne).1
    simp only [ha, Bool.not_true, Bool.false_or, Bool.and_eq_true, decide_eq_true_eq] at this
    have h1 := this.1
    rwa [idxOf_get hnd hp, idxOf_get hnd hq] at h1
  · intro i j o o' hi hj' hne hc
    have := (pair i j o o' hi hj' hne).2.1
    simpa [hc] using this
  · intro i j o o' hi hj' hne h1 h2
    have := (pair i j o o' hi hj' hne).2.2.1
    simpa [h1, h2] using this
  · intro p q i j o o' hp hq hi hj' hne h1 h2
    have := (pair i j o o' hi hj' hne).2.2.2
    simp only [h1, h2, Bool.or_eq_true, decide_eq_true_eq] at this
    rw [idxOf_get hnd hp, idxOf_get hnd hq] at this
    simpa using this

theorem HR.grow {ι : Inj} {H H' : AH} {w : World} (h : HR ι H w) (hn : H.next ≤ H'.next) (ho : ∀ id, id < H.next → H'.obj id = H.obj id) (hf : ∀ id, H'.next ≤ id → H'.obj id = none)
    (hm : ∀ id d o, ι id = some d → H.next ≤ id → H'.obj id = some o → OR ι d w o) : HR ι H' w := by
  refine ⟨?_, ?_, h.lt, hf⟩
  · intro id d o hd hob
    by_cases hlt : id < H.next
    · rw [ho id hlt] at hob; exact h.obj id d o hd hob
    · exact hm id d o hd (by omega) hob
  · intro a b da db hne ha hb h1 h2
    have al : ∀ id, Alive H' id → Alive H id := by
      intro id hal
      by_cases hlt : id < H.next
      · rcases hal with hal | hal
        · omega
        · rw [ho id hlt] at hal; exact .inr hal
      · exact .inl (by omega)
    exact h.inj a b da db hne ha hb (al a h1) (al b h2)
/-- an object that is there already is laid into memory -/
theorem HR.link {ι : Inj} {H : AH} {w : World} (h : HR ι H w) {id : Nat} {ob : Obj} {d : IB} (g : ι id = none) (hb : d.blk = w.heap.size)
    (ho : ∀ o, H.obj id = some o → OR (ι.add id d) d (w.alloc ob) o) : HR (ι.add id d) H (w.alloc ob) := by
  have old : ∀ b, b < w.heap.size → (w.alloc ob).heap[b]? = w.heap[b]? := by
    intro b hb; show (w.heap.push ob)[b]? = _; rw [Array.getElem?_push, if_neg (by omega)]
  have hle := Inj.le_add (d := d) g
  refine ⟨?_, ?_, ?_, h.fut⟩
  · intro j dj oj hj hoj
    unfold Inj.add at hj
    split at hj
    · rename_i e; cases hj; subst e; exact ho oj hoj
    · exact (h.obj j dj oj hj hoj).mono hle (old _ (h.lt j dj hj))
  · intro a b da db hne ha hb' h1 h2
    unfold Inj.add at ha hb'
    by_cases ea : a = id
    · rw [if_pos ea] at ha; cases ha
      rw [if_neg (fun e => hne (ea.trans e.symm))] at hb'
      have := h.lt b db hb'; right; omega
    · rw [if_neg ea] at ha
      by_cases eb : b = id
      · rw [if_pos eb] at hb'; cases hb'
        have := h.lt a da ha; right; omega
      · rw [if_neg eb] at hb'
        exact h.inj a b da db hne ha hb' h1 h2
  · intro a da ha
    unfold Inj.add at ha
    split at ha
    · cases ha; simp; omega
    · have := h.lt a da ha; simp; omega
theorem Inj.add_ne {ι : Inj} {id j : Nat} {d : IB} (h : j ≠ id) : ι.add id d j = ι j := by simp [Inj.add, h]

end Go.Proofs.Ytkhooppaenfkdaa.Fw
