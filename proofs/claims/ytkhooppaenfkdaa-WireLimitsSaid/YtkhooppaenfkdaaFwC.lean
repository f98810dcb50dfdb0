/- Writing, making and growing objects: the relation between the two heaps is kept. -/
import Derived.Test.YtkhooppaenfkdaaFwB
namespace Go.Proofs.Ytkhooppaenfkdaa.Fw
open Go

theorem HR.live_lt {ι : Inj} {H : AH} {w : World} (h : HR ι H w) {id : Nat} (hl : H.obj id ≠ none) : id < H.next := by
  rcases Nat.lt_or_ge id H.next with h' | h'
  · exact h'
  · exact absurd (h.fut id h') hl

theorem HR.same_heap {ι : Inj} {H : AH} {w w' : World} (h : HR ι H w) (he : w'.heap = w.heap) : HR ι H w' := by
  refine ⟨fun id d o h1 h2 => (h.obj id d o h1 h2).mono (fun _ _ h => h) (by rw [he]), h.inj, fun id d hd => by rw [he]; exact h.lt id d hd, h.fut⟩
def SameW (w1 w : World) : Prop := w1.heap = w.heap ∧ w1.os = w.os ∧ w1.output = w.output ∧ w1.tape = w.tape
theorem Stp.same_heap {ι : Inj} {H : AH} {w w' : World} (hs : SameW w' w) : Stp ι H w ι H w' :=
  ⟨fun _ _ h => h, fun _ _ h h' => (by rw [h] at h'; cases h'), Nat.le_refl _, fun _ _ h => h, fun _ _ _ => rfl, by rw [hs.1]; exact Nat.le_refl _, fun _ _ _ => by rw [hs.1], hs.2⟩

theorem splice_get (l vs : List Sc) (off : Nat) (h : off + vs.length ≤ l.length) (j : Nat) :
    (l.take off ++ vs ++ l.drop (off + vs.length))[j]? = if j < off then l[j]? else if j < off + vs.length then vs[j - off]? else l[j]? := by
  have h1 : (l.take off).length = off := by simp; omega
  by_cases a : j < off
  · rw [if_pos a, List.append_assoc, List.getElem?_append_left (by omega), List.getElem?_take, if_pos a]
  · rw [if_neg a]
    by_cases b : j < off + vs.length
    · rw [if_pos b, List.append_assoc, List.getElem?_append_right (by omega), h1, List.getElem?_append_left (by omega)]
    · rw [if_neg b, List.getElem?_append_right (by simp; omega), List.getElem?_drop]
      congr 1
      simp; omega

theorem HR.write {ι : Inj} {H H' : AH} {w : World} (P : Program) (h : HR ι H w) {id off : Nat} {l : List Sc} {d : IB} {vs : List Value} (hd : ι id = some d) (hw : H.wr id off l = some H') (hl : LR ι l vs) :
    (storeCells ⟨d.blk, d.base + off, none⟩ vs).run P w = .ok () (w.setCells d.blk (d.base + off) vs) ∧ HR ι H' (w.setCells d.blk (d.base + off) vs) ∧ Stp ι H w ι H' (w.setCells d.blk (d.base + off) vs) := by
  unfold AH.wr at hw
  split at hw
  case h_2 => cases hw
  rename_i c hc
  split at hw
  case isFalse => cases hw
  rename_i hle
  cases hw
  obtain ⟨hro, hbs, hcell, hsome, hfro⟩ := h.obj id d _ hd hc
  have hlen := hl.length
  have hs : ∀ k, k < vs.length → (w.cell? ⟨d.blk, d.base + off + k, none⟩).isSome = true := fun k hk => hsome _ (by omega)
  have hidlt : id < H.next := h.live_lt (by rw [hc]; simp)
  have halive : Alive H id := .inr (by rw [hc]; simp)
  have own : Own ι H d.blk := ⟨id, d, hd, hidlt, by rw [hc]; simp, hro.symm, rfl⟩
  have hne : ∀ id' d', id' ≠ id → ι id' = some d' → Alive H id' → d'.blk ≠ d.blk := by
    intro id' d' hn hd' ha
    rcases h.inj id' id d' d hn hd' hd ha halive with ⟨_, h2⟩ | h2
    · rw [← hro] at h2; cases h2
    · exact h2
  have hal : ∀ id', Alive (H.put id (some (AO.cells false (List.take off c ++ l ++ List.drop (off + l.length) c)))) id' → Alive H id' := by
    intro id' ha
    rcases ha with ha | ha
    · exact .inl ha
    · unfold AH.put at ha; dsimp only at ha
      split at ha
      · rename_i e; subst e; exact halive
      · exact .inr ha
  refine ⟨?_, ?_, ?_⟩
  · have := run_storeCells_cells (P := P) d.blk (d.base + off) vs 0 w (by simpa using hs) (by
      intro j hj; exact hfro rfl _ (by omega)) (LR.oneCell hl)
    simpa using this
  · refine ⟨?_, ?_, ?_, ?_⟩
    · intro id' d' o' hd' ho'
      unfold AH.put at ho'; dsimp only at ho'
      split at ho'
      · rename_i e; subst e
        rw [hd] at hd'; cases hd'
        cases ho'
        refine ⟨hro, by simp; omega, fun j x hj => ?_, fun o ho => ?_, fun _ o ho => ?_⟩
        · rw [splice_get _ _ _ hle] at hj
          split at hj
          · obtain ⟨v, hv, hsx⟩ := hcell j x hj
            exact ⟨v, by rw [setCells_far _ _ _ _ _ (by omega)]; exact hv, hsx⟩
          · split at hj
            · obtain ⟨v, hv, hsx⟩ := hl.get _ x hj
              refine ⟨v, ?_, hsx⟩
              have := setCells_at d.blk vs (d.base + off) w (j - off) v hv hs
              rwa [show d.base + off + (j - off) = d.base + j by omega] at this
            · obtain ⟨v, hv, hsx⟩ := hcell j x hj
              exact ⟨v, by rw [setCells_far _ _ _ _ _ (by omega)]; exact hv, hsx⟩
        · by_cases hin : d.base + off ≤ o ∧ o < d.base + off + vs.length
          · have hj : o - (d.base + off) < vs.length := by omega
            have := setCells_at d.blk vs (d.base + off) w (o - (d.base + off)) vs[o - (d.base + off)] (by simp [hj]) hs
            rw [show d.base + off + (o - (d.base + off)) = o by omega] at this
            rw [this]; rfl
          · rw [setCells_far _ _ _ _ _ (by omega)]; exact hsome o ho
        · rw [setCells_frozen]; exact hfro rfl o ho
      · rename_i hn
        exact (h.obj id' d' o' hd' ho').mono (fun _ _ h => h) (setCells_heap _ _ _ _ _ (hne id' d' hn hd' (.inr (by rw [ho']; simp))))
    · intro a b da db hn ha hb h1 h2
      exact h.inj a b da db hn ha hb (hal a h1) (hal b h2)
    · intro a da ha; rw [setCells_size]; exact h.lt a da ha
    · intro a ha
      unfold AH.put at ha ⊢; dsimp only at ha ⊢
      rw [if_neg (by omega)]; exact h.fut a ha
  · refine ⟨fun _ _ h => h, fun _ _ h h' => (by rw [h] at h'; cases h'), Nat.le_refl _, ?_, ?_, by rw [setCells_size]; exact Nat.le_refl _, ?_, setCells_io _ _ _ _⟩
    · intro a ha hn
      unfold AH.put; dsimp only
      rw [if_neg (by rintro rfl; rw [hc] at hn; cases hn)]; exact hn
    · intro a ha hn
      unfold AH.put; dsimp only
      rw [if_neg (by rintro rfl; rw [hd] at hn; cases hn)]
    · intro b hb hno
      exact setCells_heap _ _ _ _ _ (fun e => hno (e ▸ own))

def Inj.add (ι : Inj) (id : Nat) (d : IB) : Inj := fun j => if j = id then some d else ι j
theorem Inj.le_add {ι : Inj} {id : Nat} {d : IB} (h : ι id = none) : ι.le (ι.add id d) := by
  intro j e hj
  unfold Inj.add
  rw [if_neg (by rintro rfl; rw [h] at hj; cases hj)]; exact hj
theorem Inj.add_at (ι : Inj) (id : Nat) (d : IB) : ι.add id d id = some d := by simp [Inj.add]

theorem wr_grow {H H' : AH} {id off : Nat} {l : List Sc} (h : H.wr id off l = some H') : Grow H H' := by
  unfold AH.wr at h
  split at h
  · rename_i hc
    split at h
    · cases h; exact Grow.put _ _ _ (.inl (by rw [hc]; simp))
    · cases h
  · cases h
theorem wrs_grow {H H' : AH} {z : Nat} {s : Option SlD} {l : List Sc} (h : H.wrs z s l = some H') : Grow H H' := by
  unfold AH.wrs at h
  split at h
  · cases h; exact Grow.refl _
  · split at h
    · cases h
    · split at h
      · exact wr_grow h
      · cases h
theorem app_grow {H H' : AH} {z eb n : Nat} {s s' : Option SlD} {l : List Sc} (h : H.app z eb s l n = some (s', H')) : Grow H H' := by
  unfold AH.app at h
  split at h
  case isFalse => cases h
  split at h
  · split at h
    · cases h; exact Grow.refl _
    · split at h
      · cases h; exact Grow.new _ _
      · cases h
  · split at h
    case isFalse => cases h
    split at h
    · split at h
      · cases h; exact Grow.refl _
      · simp only [obind_eq] at h
        obtain ⟨H1, h1, h2⟩ := h
        cases h2; exact wr_grow h1
    · split at h
      case isFalse => cases h
      split at h
      · split at h
        · cases h; exact (Grow.put _ _ _ (.inr rfl)).trans (Grow.new _ _)
        · cases h
      · cases h

/-- a new object in a new block -/
theorem HR.make {ι : Inj} {H : AH} {w : World} (h : HR ι H w) {o : AO} {ob : Obj} {d : IB} (g : ι H.next = none) (hb : d.blk = w.heap.size) (hro : d.ro = false)
    (ho : OR (ι.add H.next d) d (w.alloc ob) o) : HR (ι.add H.next d) (H.new o) (w.alloc ob) ∧ Stp ι H w (ι.add H.next d) (H.new o) (w.alloc ob) := by
  have old : ∀ b, b < w.heap.size → (w.alloc ob).heap[b]? = w.heap[b]? := by
    intro b hb; show (w.heap.push ob)[b]? = _; rw [Array.getElem?_push, if_neg (by omega)]
  have hle := Inj.le_add (d := d) g
  refine ⟨⟨?_, ?_, ?_, ?_⟩, ⟨hle, ?_, by simp [AH.new], ?_, fun a ha _ => (by simp [AH.new]; intro h; omega), by simp, fun b hb _ => old b hb, rfl, rfl, rfl⟩⟩
  · intro id d' o' hd' ho'
    unfold AH.new at ho'; dsimp only at ho'
    unfold Inj.add at hd'
    split at ho'
    · rename_i e; subst e; rw [if_pos rfl] at hd'; cases hd'; cases ho'; exact ho
    · rename_i hn
      rw [if_neg hn] at hd'
      exact (h.obj id d' o' hd' ho').mono hle (old _ (h.lt id d' hd'))
  · intro a b da db hn ha hb' h1 h2
    unfold Inj.add at ha hb'
    have al : ∀ id, id ≠ H.next → Alive (H.new o) id → Alive H id := by
      intro id hne hal
      rcases hal with hal | hal
      · exact .inl (by simp [AH.new] at hal; omega)
      · unfold AH.new at hal; dsimp only at hal; rw [if_neg hne] at hal; exact .inr hal
    by_cases ea : a = H.next
    · rw [if_pos ea] at ha; cases ha
      have eb : b ≠ H.next := fun e => hn (ea.trans e.symm)
      rw [if_neg eb] at hb'
      have := h.lt b db hb'
      right; omega
    · rw [if_neg ea] at ha
      by_cases eb : b = H.next
      · rw [if_pos eb] at hb'; cases hb'
        have := h.lt a da ha
        right; omega
      · rw [if_neg eb] at hb'
        exact h.inj a b da db hn ha hb' (al a ea h1) (al b eb h2)
  · intro a da ha
    unfold Inj.add at ha
    split at ha
    · cases ha; simp; omega
    · have := h.lt a da ha; simp; omega
  · intro a ha
    simp [AH.new] at ha ⊢
    rw [if_neg (by omega)]; exact h.fut a (by omega)
  · intro a da ha hn
    unfold Inj.add at ha
    split at ha
    · rename_i e; cases ha; subst e; exact ⟨Nat.le_refl _, by simp [AH.new], hro, .inl (by omega)⟩
    · rw [hn] at ha; cases ha
  · intro a ha hn
    simp [AH.new]; rw [if_neg (by omega)]; exact hn

theorem OR.cells_new {ι : Inj} {w : World} {e : TypeId} {l : List Sc} {vs : List Value} {c : Array Value} (hl : LR ι l vs) (hc : ∀ (j : Nat) v, vs[j]? = some v → c[j]? = some v) (hle : l.length ≤ c.size) :
    OR ι ⟨w.heap.size, 0, c.size, false⟩ (w.alloc (.cells c e)) (.cells false l) := by
  refine ⟨rfl, by simpa using hle, fun j x hj => ?_, fun o ho => ?_, fun _ o _ => ?_⟩
  · obtain ⟨v, hv, hs⟩ := hl.get j x hj
    exact ⟨v, by rw [World.cell?_alloc_new]; simpa using hc j v hv, hs⟩
  · rw [World.cell?_alloc_new]; dsimp only at ho; simp [ho]
  · rw [World.frozen?_alloc_new]

/-- an object that takes over another one's block -/
theorem HR.take {ι : Inj} {H : AH} {w : World} (h : HR ι H w) {id : Nat} {d d' : IB} {o0 o : AO} (g : ι H.next = none) (hd : ι id = some d) (h0 : H.obj id = some o0) (hro : d.ro = false)
    (hb : d'.blk = d.blk) (hro' : d'.ro = false) (ho : OR (ι.add H.next d') d' w o) :
    HR (ι.add H.next d') ((H.put id none).new o) w ∧ Stp ι H w (ι.add H.next d') ((H.put id none).new o) w := by
  have hle := Inj.le_add (d := d') g
  have hidlt : id < H.next := h.live_lt (by rw [h0]; simp)
  have halive : Alive H id := .inr (by rw [h0]; simp)
  have al : ∀ j, j ≠ H.next → Alive ((H.put id none).new o) j → Alive H j ∧ j ≠ id := by
    intro j hne hal
    rcases hal with hal | hal
    · have : H.next + 1 ≤ j := hal
      exact ⟨.inl (by omega), by omega⟩
    · unfold AH.new AH.put at hal; dsimp only at hal; rw [if_neg hne] at hal
      split at hal
      · exact absurd rfl hal
      · rename_i hj; exact ⟨.inr hal, hj⟩
  have far : ∀ j dj, j ≠ id → ι j = some dj → Alive H j → dj.blk ≠ d.blk := by
    intro j dj hn hj ha
    rcases h.inj j id dj d hn hj hd ha halive with ⟨_, h2⟩ | h2
    · rw [hro] at h2; cases h2
    · exact h2
  refine ⟨⟨?_, ?_, ?_, ?_⟩, ⟨hle, ?_, by simp [AH.new, AH.put], ?_, ?_, Nat.le_refl _, fun b hb _ => rfl, rfl, rfl, rfl⟩⟩
  · intro j dj oj hdj hoj
    unfold AH.new AH.put at hoj; dsimp only at hoj
    unfold Inj.add at hdj
    split at hoj
    · rename_i e; subst e; rw [if_pos rfl] at hdj; cases hdj; cases hoj; exact ho
    · rename_i hn
      rw [if_neg hn] at hdj
      split at hoj
      · cases hoj
      · exact (h.obj j dj oj hdj hoj).mono hle rfl
  · intro a b da db hn ha hb' h1 h2
    unfold Inj.add at ha hb'
    by_cases ea : a = H.next
    · rw [if_pos ea] at ha; cases ha
      have eb : b ≠ H.next := fun e => hn (ea.trans e.symm)
      rw [if_neg eb] at hb'
      obtain ⟨x, y⟩ := al b eb h2
      have := far b db y hb' x
      right; rw [hb]; exact fun e => this e.symm
    · rw [if_neg ea] at ha
      obtain ⟨x, y⟩ := al a ea h1
      by_cases eb : b = H.next
      · rw [if_pos eb] at hb'; cases hb'
        right; rw [hb]; exact far a da y ha x
      · rw [if_neg eb] at hb'
        obtain ⟨x', y'⟩ := al b eb h2
        exact h.inj a b da db hn ha hb' x x'
  · intro a da ha
    unfold Inj.add at ha
    split at ha
    · cases ha; rw [hb]; exact h.lt id d hd
    · exact h.lt a da ha
  · intro a ha
    have ha' : H.next + 1 ≤ a := ha
    unfold AH.new AH.put; dsimp only
    rw [if_neg (by omega), if_neg (by omega)]; exact h.fut a (by omega)
  · intro a da ha hn
    unfold Inj.add at ha
    split at ha
    · rename_i e; cases ha; subst e
      exact ⟨Nat.le_refl _, by simp [AH.new, AH.put], hro', .inr ⟨id, d, hd, hidlt, by rw [h0]; simp, hro, hb.symm⟩⟩
    · rw [hn] at ha; cases ha
  · intro a ha hn
    unfold AH.new AH.put; dsimp only
    rw [if_neg (by omega)]
    split
    · rfl
    · exact hn
  · intro a ha hn
    unfold AH.new AH.put; dsimp only
    rw [if_neg (by omega), if_neg (by rintro rfl; rw [hd] at hn; cases hn)]

end Go.Proofs.Ytkhooppaenfkdaa.Fw
