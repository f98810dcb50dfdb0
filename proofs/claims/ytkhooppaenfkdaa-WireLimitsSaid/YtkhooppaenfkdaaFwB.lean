/- What the abstract machine's values and heaps stand for: relations to the model's values and worlds, and how they are kept. -/
import Derived.Test.YtkhooppaenfkdaaFwA
import Derived.Calls
import Derived.Tactics
import Derived.Laws.Cells
import Derived.Laws.IdiomCopy
import Derived.Laws.Entries
namespace Go.Proofs.Ytkhooppaenfkdaa.Fw
open Go

structure IB where
  blk : Nat
  base : Nat
  bs : Nat
  ro : Bool
abbrev Inj := Nat → Option IB

def All2 {α β : Type} (R : α → β → Prop) : List α → List β → Prop
  | [], l => l = []
  | x :: r, l => ∃ y l', l = y :: l' ∧ R x y ∧ All2 R r l'

theorem All2.mono {α β : Type} {R S : α → β → Prop} (h : ∀ x y, R x y → S x y) : ∀ {l : List α} {l' : List β}, All2 R l l' → All2 S l l'
  | [], _, hl => hl
  | _ :: _, _, ⟨y, l', e, hr, ht⟩ => ⟨y, l', e, h _ _ hr, All2.mono h ht⟩
theorem All2.length {α β : Type} {R : α → β → Prop} : ∀ {l : List α} {l' : List β}, All2 R l l' → l'.length = l.length
  | [], _, hl => by cases hl; rfl
  | _ :: _, _, ⟨y, l', e, _, ht⟩ => by cases e; simp [All2.length ht]
theorem All2.get {α β : Type} {R : α → β → Prop} : ∀ {l : List α} {l' : List β}, All2 R l l' → ∀ (j : Nat) x, l[j]? = some x → ∃ y, l'[j]? = some y ∧ R x y
  | [], _, _, j, x, h => by simp at h
  | a :: l, _, ⟨y, l', e, hr, ht⟩, j, x, h => by
    cases e
    cases j with
    | zero => simp at h; subst h; exact ⟨y, rfl, hr⟩
    | succ j => simp at h; obtain ⟨z, hz, hR⟩ := All2.get ht j x h; exact ⟨z, by simpa using hz, hR⟩
theorem All2.of_get {α β : Type} {R : α → β → Prop} : ∀ {l : List α} {l' : List β}, l'.length = l.length → (∀ (j : Nat) x y, l[j]? = some x → l'[j]? = some y → R x y) → All2 R l l'
  | [], [], _, _ => rfl
  | [], _ :: _, h, _ => by simp at h
  | _ :: _, [], h, _ => by simp at h
  | a :: l, b :: l', h, hr => ⟨b, l', rfl, hr 0 a b rfl rfl, All2.of_get (by simpa using h) fun j x y hx hy => hr (j + 1) x y (by simpa using hx) (by simpa using hy)⟩
theorem All2.append {α β : Type} {R : α → β → Prop} : ∀ {l m : List α} {l' m' : List β}, All2 R l l' → All2 R m m' → All2 R (l ++ m) (l' ++ m')
  | [], _, _, _, hl, hm => by cases hl; exact hm
  | _ :: _, _, _, _, ⟨y, l', e, hr, ht⟩, hm => by cases e; exact ⟨y, _, rfl, hr, All2.append ht hm⟩
theorem All2.take {α β : Type} {R : α → β → Prop} : ∀ (n : Nat) {l : List α} {l' : List β}, All2 R l l' → All2 R (l.take n) (l'.take n)
  | 0, _, _, _ => by simp [All2]
  | _ + 1, [], _, h => by cases h; rfl
  | n + 1, _ :: _, _, ⟨y, l', e, hr, ht⟩ => by cases e; exact ⟨y, _, rfl, hr, All2.take n ht⟩
theorem All2.drop {α β : Type} {R : α → β → Prop} : ∀ (n : Nat) {l : List α} {l' : List β}, All2 R l l' → All2 R (l.drop n) (l'.drop n)
  | 0, _, _, h => h
  | _ + 1, [], _, h => by cases h; rfl
  | n + 1, _ :: _, _, ⟨_, _, e, _, ht⟩ => by cases e; exact All2.drop n ht

/-- one cell's value -/
def PtR (ι : Inj) (q : Nat × Nat) (v : Value) : Prop := ∃ d, ι q.1 = some d ∧ v = .pointer (some ⟨d.blk, d.base + q.2, none⟩)
def SR (ι : Inj) : Sc → Value → Prop
  | .b x, v => v = .bool x
  | .i k n, v => v = .int k n
  | .s x, v => v = .string x
  | .fl k n, v => v = .float k n
  | .cx k a b, v => v = .complex k a b
  | .p none, v => v = .pointer none
  | .p (some q), v => PtR ι q v
  | .sl none, v => v = .slice none 0 0
  | .sl (some s), v => ∃ d a c, ι s.id = some d ∧ v = .slice (some a) s.len c ∧ s.len ≤ s.cap ∧ s.cap ≤ c ∧ (c = 0 ∨ a = ⟨d.blk, d.base + s.off, none⟩) ∧ (c = s.cap ∨ d.base + s.off + c * s.z ≤ d.bs)
  | .fn f fs cs, v => ∃ l l', All2 (PtR ι) fs l ∧ All2 (PtR ι) cs l' ∧ v = .func (.func f) ⟨l⟩ ⟨l'⟩
  | .nf, v => v = .nilFunc
  | .ni, v => v = .nilIface
  | .it id, v => ∃ d, ι id = some d ∧ v = .pointer (some ⟨d.blk, 0, none⟩)
abbrev LR (ι : Inj) := All2 (SR ι)
def CR (ι : Inj) : CV → Value → Prop
  | .sc x, v => SR ι x v
  | .ag l, v => ∃ vs, LR ι l vs ∧ v = .agg ⟨vs⟩
def VR (ι : Inj) : AV → Value → Prop
  | .un, _ => True
  | .sc x, v => SR ι x v
  | .ag l, v => ∃ vs, LR ι l vs ∧ v = .agg ⟨vs⟩
  | .tu l, v => ∃ vs, All2 (CR ι) l vs ∧ v = .tuple ⟨vs⟩

def Inj.le (ι ι' : Inj) : Prop := ∀ id d, ι id = some d → ι' id = some d

theorem PtR.mono {ι ι' : Inj} (h : ι.le ι') {q : Nat × Nat} {v : Value} (hr : PtR ι q v) : PtR ι' q v := by
  obtain ⟨d, hd, e⟩ := hr; exact ⟨d, h _ _ hd, e⟩
theorem SR.mono {ι ι' : Inj} (h : ι.le ι') {x : Sc} {v : Value} (hr : SR ι x v) : SR ι' x v := by
  cases x with
  | p o => cases o with
    | none => exact hr
    | some q => exact PtR.mono h hr
  | sl o => cases o with
    | none => exact hr
    | some q => obtain ⟨d, a, c, hd, r⟩ := hr; exact ⟨d, a, c, h _ _ hd, r⟩
  | fn f fs cs => obtain ⟨l, l', h1, h2, e⟩ := hr; exact ⟨l, l', h1.mono fun _ _ => PtR.mono h, h2.mono fun _ _ => PtR.mono h, e⟩
  | it id => obtain ⟨d, hd, e⟩ := hr; exact ⟨d, h _ _ hd, e⟩
  | _ => exact hr
theorem CR.mono {ι ι' : Inj} (h : ι.le ι') {x : CV} {v : Value} (hr : CR ι x v) : CR ι' x v := by
  cases x with
  | sc x => exact SR.mono h hr
  | ag l => obtain ⟨vs, h1, e⟩ := hr; exact ⟨vs, h1.mono fun _ _ => SR.mono h, e⟩
theorem VR.mono {ι ι' : Inj} (h : ι.le ι') {x : AV} {v : Value} (hr : VR ι x v) : VR ι' x v := by
  cases x with
  | un => trivial
  | sc x => exact SR.mono h hr
  | ag l => obtain ⟨vs, h1, e⟩ := hr; exact ⟨vs, h1.mono fun _ _ => SR.mono h, e⟩
  | tu l => obtain ⟨vs, h1, e⟩ := hr; exact ⟨vs, h1.mono fun _ _ => CR.mono h, e⟩

/-- a scalar's value is one cell -/
theorem SR.oneCell {ι : Inj} {x : Sc} {v : Value} (h : SR ι x v) : v.oneCell' = true := by
  cases x with
  | p o => cases o with
    | none => cases h; rfl
    | some q => obtain ⟨d, _, rfl⟩ := h; rfl
  | sl o => cases o with
    | none => cases h; rfl
    | some q => obtain ⟨d, a, c, _, rfl, _⟩ := h; rfl
  | fn f fs cs => obtain ⟨l, l', _, _, rfl⟩ := h; rfl
  | it id => obtain ⟨d, _, rfl⟩ := h; rfl
  | _ => cases h; rfl
theorem SR.cells {ι : Inj} {x : Sc} {v : Value} (h : SR ι x v) : v.cells = #[v] := by
  cases x with
  | p o => cases o with
    | none => cases h; rfl
    | some q => obtain ⟨d, _, rfl⟩ := h; rfl
  | sl o => cases o with
    | none => cases h; rfl
    | some q => obtain ⟨d, a, c, _, rfl, _⟩ := h; rfl
  | fn f fs cs => obtain ⟨l, l', _, _, rfl⟩ := h; rfl
  | it id => obtain ⟨d, _, rfl⟩ := h; rfl
  | _ => cases h; rfl
theorem VR.cells {ι : Inj} {x : AV} {v : Value} {l : List Sc} (hc : x.cells = some l) (h : VR ι x v) : LR ι l v.cells.toList := by
  cases x with
  | sc x => simp [AV.cells] at hc; subst hc; have := SR.cells h; rw [this]; exact ⟨v, [], rfl, h, rfl⟩
  | ag l => simp [AV.cells] at hc; subst hc; obtain ⟨vs, h1, rfl⟩ := h; exact h1
  | _ => simp [AV.cells] at hc
theorem LR.oneCell {ι : Inj} : ∀ {l : List Sc} {vs : List Value}, LR ι l vs → ∀ v ∈ vs, v.oneCell' = true
  | [], _, h, v, hv => by cases h; cases hv
  | _ :: _, _, ⟨y, l', e, hr, ht⟩, v, hv => by
    cases e
    cases hv with
    | head => exact SR.oneCell hr
    | tail _ hm => exact LR.oneCell ht v hm

/-! #### objects and heaps -/
def cellAt (w : World) (b o : Nat) : Option Value := w.cell? ⟨b, o, none⟩
def OR (ι : Inj) (d : IB) (w : World) : AO → Prop
  | .cells ro l => ro = d.ro ∧ d.base + l.length ≤ d.bs ∧ (∀ j x, l[j]? = some x → ∃ v, w.cell? ⟨d.blk, d.base + j, none⟩ = some v ∧ SR ι x v) ∧
      (∀ o, o < d.bs → (w.cell? ⟨d.blk, o, none⟩).isSome = true) ∧ (ro = false → ∀ o, o < d.bs → w.frozen? ⟨d.blk, o, none⟩ = false)
  | .iter s pos => d.ro = false ∧ w.heap[d.blk]? = some (.stringIter s pos)

def Own (ι : Inj) (H : AH) (b : Nat) : Prop := ∃ id d, ι id = some d ∧ id < H.next ∧ H.obj id ≠ none ∧ d.ro = false ∧ d.blk = b
def Alive (H : AH) (id : Nat) : Prop := H.next ≤ id ∨ H.obj id ≠ none

structure HR (ι : Inj) (H : AH) (w : World) : Prop where
  obj : ∀ id d o, ι id = some d → H.obj id = some o → OR ι d w o
  inj : ∀ id id' d d', id ≠ id' → ι id = some d → ι id' = some d' → Alive H id → Alive H id' → (d.ro = true ∧ d'.ro = true) ∨ d.blk ≠ d'.blk
  lt : ∀ id d, ι id = some d → d.blk < w.heap.size
  fut : ∀ id, H.next ≤ id → H.obj id = none

structure Stp (ι : Inj) (H : AH) (w : World) (ι' : Inj) (H' : AH) (w' : World) : Prop where
  ext : ι.le ι'
  new : ∀ id d, ι' id = some d → ι id = none → H.next ≤ id ∧ id < H'.next ∧ d.ro = false ∧ (w.heap.size ≤ d.blk ∨ Own ι H d.blk)
  nx : H.next ≤ H'.next
  dead : ∀ id, id < H.next → H.obj id = none → H'.obj id = none
  keep : ∀ id, id < H.next → ι id = none → H'.obj id = H.obj id
  sz : w.heap.size ≤ w'.heap.size
  fr : ∀ b, b < w.heap.size → ¬ Own ι H b → w'.heap[b]? = w.heap[b]?
  io : w'.os = w.os ∧ w'.output = w.output ∧ w'.tape = w.tape

def Gap (ι : Inj) (H H' : AH) : Prop := ∀ id, H.next ≤ id → id < H'.next → ι id = none

theorem Stp.refl (ι : Inj) (H : AH) (w : World) : Stp ι H w ι H w :=
  ⟨fun _ _ h => h, fun _ _ h h' => (by rw [h] at h'; cases h'), Nat.le_refl _, fun _ _ h => h, fun _ _ _ => rfl, Nat.le_refl _, fun _ _ _ => rfl, rfl, rfl, rfl⟩

theorem Stp.own_back {ι ι1 : Inj} {H H1 : AH} {w w1 : World} (s : Stp ι H w ι1 H1 w1) (g : Gap ι H H1) {b : Nat} (hb : b < w.heap.size) (h : Own ι1 H1 b) : Own ι H b := by
  obtain ⟨id, d, hd, hlt, hl, hro, rfl⟩ := h
  cases hι : ι id with
  | none => rcases s.new id d hd hι with ⟨_, _, _, h | h⟩
            · omega
            · exact h
  | some d0 =>
    have := s.ext id d0 hι
    rw [hd] at this; cases this
    by_cases hid : id < H.next
    · exact ⟨id, d, hι, hid, fun hn => hl (s.dead id hid hn), hro, rfl⟩
    · have := g id (by omega) hlt; rw [hι] at this; cases this

theorem Stp.trans {ι ι1 ι2 : Inj} {H H1 H2 : AH} {w w1 w2 : World} (s : Stp ι H w ι1 H1 w1) (t : Stp ι1 H1 w1 ι2 H2 w2) (g : Gap ι H H2) : Stp ι H w ι2 H2 w2 := by
  have g1 : Gap ι H H1 := fun id h1 h2 => g id h1 (Nat.lt_of_lt_of_le h2 t.nx)
  refine ⟨fun id d h => t.ext _ _ (s.ext _ _ h), ?_, Nat.le_trans s.nx t.nx, fun id hlt h => t.dead id (Nat.lt_of_lt_of_le hlt s.nx) (s.dead id hlt h), ?_, Nat.le_trans s.sz t.sz, ?_, t.io.1.trans s.io.1, t.io.2.1.trans s.io.2.1, t.io.2.2.trans s.io.2.2⟩
  · intro id d hd hn
    cases h1 : ι1 id with
    | some d1 =>
      have := t.ext id d1 h1
      rw [hd] at this; cases this
      obtain ⟨a, b, c, e⟩ := s.new id d h1 hn
      exact ⟨a, Nat.lt_of_lt_of_le b t.nx, c, e⟩
    | none =>
      obtain ⟨a, b, c, e⟩ := t.new id d hd h1
      refine ⟨Nat.le_trans s.nx a, b, c, ?_⟩
      rcases e with e | e
      · exact .inl (Nat.le_trans s.sz e)
      · by_cases hb : d.blk < w.heap.size
        · exact .inr (s.own_back g1 hb e)
        · exact .inl (by omega)
  · intro id hlt hn
    have h1 : ι1 id = none := by
      cases h : ι1 id with
      | none => rfl
      | some d => have := (s.new id d h hn).1; omega
    rw [t.keep id (Nat.lt_of_lt_of_le hlt s.nx) h1, s.keep id hlt hn]
  · intro b hb ho
    rw [t.fr b (Nat.lt_of_lt_of_le hb s.sz) (fun h => ho (s.own_back g1 hb h)), s.fr b hb ho]

theorem Gap.left {ι : Inj} {H H1 H2 : AH} (g : Gap ι H H2) (h : H1.next ≤ H2.next) : Gap ι H H1 := fun id a b => g id a (Nat.lt_of_lt_of_le b h)
theorem Gap.right {ι ι1 : Inj} {H H1 H2 : AH} {w w1 : World} (g : Gap ι H H2) (s : Stp ι H w ι1 H1 w1) : Gap ι1 H1 H2 := by
  intro id a b
  cases h : ι1 id with
  | none => rfl
  | some d =>
    cases h0 : ι id with
    | some d0 => have := g id (Nat.le_trans s.nx a) b; rw [h0] at this; cases this
    | none => obtain ⟨_, c, _⟩ := s.new id d h h0; omega
theorem Gap.same (ι : Inj) (H : AH) : Gap ι H H := fun id a b => by omega

/-! #### reading -/
theorem addr_add (b o n : Nat) : (⟨b, o, none⟩ : Addr).add n = ⟨b, o + n, none⟩ := by
  unfold Addr.add; split
  · rename_i h; subst h; rfl
  · rfl

theorem OR.read {ι : Inj} {d : IB} {w : World} {ro : Bool} {c : List Sc} (ho : OR ι d w (.cells ro c)) : ∀ (m k : Nat), k + m ≤ c.length →
    ∃ vs : List Value, LR ι ((c.drop k).take m) vs ∧ ∀ (j : Nat) v, vs[j]? = some v → w.cell? ⟨d.blk, d.base + k + j, none⟩ = some v := by
  obtain ⟨_, _, hcell, _, _⟩ := ho
  intro m
  induction m with
  | zero => intro k _; exact ⟨[], by simp [All2], by simp⟩
  | succ m ih =>
    intro k hk
    obtain ⟨vs, h1, h2⟩ := ih (k + 1) (by omega)
    have hkc : k < c.length := by omega
    obtain ⟨v, hv, hs⟩ := hcell k c[k] (by simp [hkc])
    refine ⟨v :: vs, ?_, ?_⟩
    · rw [List.drop_eq_getElem_cons hkc, List.take_succ_cons]
      exact ⟨v, vs, rfl, hs, h1⟩
    · intro j u hj
      cases j with
      | zero => simp at hj; subst hj; simpa using hv
      | succ j => simp at hj; have := h2 j u hj; rwa [show d.base + (k + 1) + j = d.base + k + (j + 1) by omega] at this
theorem HR.read {ι : Inj} {H : AH} {w : World} (h : HR ι H w) {id off n : Nat} {l : List Sc} {d : IB} (hd : ι id = some d) (hr : H.rd id off n = some l) :
    ∃ vs, LR ι l vs ∧ vs.length = n ∧ l.length = n ∧ ∀ (j : Nat) v, vs[j]? = some v → w.cell? ⟨d.blk, d.base + off + j, none⟩ = some v := by
  unfold AH.rd at hr
  split at hr
  · rename_i ro c hc
    split at hr
    · rename_i hle
      cases hr
      have hlen : ((c.drop off).take n).length = n := by simp; omega
      obtain ⟨vs, h1, h2⟩ := (h.obj id d _ hd hc).read n off hle
      exact ⟨vs, h1, by rw [h1.length, hlen], hlen, h2⟩
    · cases hr
  · cases hr

/-- a heap that has grown -/
structure Grow (H H' : AH) : Prop where
  nx : H.next ≤ H'.next
  fut : (∀ id, H.next ≤ id → H.obj id = none) → ∀ id, H'.next ≤ id → H'.obj id = none
theorem Grow.refl (H : AH) : Grow H H := ⟨Nat.le_refl _, fun h => h⟩
theorem Grow.trans {H H1 H2 : AH} (a : Grow H H1) (b : Grow H1 H2) : Grow H H2 := ⟨Nat.le_trans a.nx b.nx, fun h => b.fut (a.fut h)⟩
theorem Grow.new (H : AH) (o : AO) : Grow H (H.new o) := by
  refine ⟨by simp [AH.new], fun h id hid => ?_⟩
  have : H.next + 1 ≤ id := hid
  unfold AH.new; dsimp only; rw [if_neg (by omega)]; exact h id (by omega)
theorem Grow.put (H : AH) (id : Nat) (o : Option AO) (h : H.obj id ≠ none ∨ o = none) : Grow H (H.put id o) := by
  refine ⟨Nat.le_refl _, fun hf j hj => ?_⟩
  have hj' : H.next ≤ j := hj
  unfold AH.put; dsimp only
  split
  · rename_i e; subst e
    rcases h with h | h
    · exact absurd (hf j hj') h
    · exact h
  · exact hf j hj'

/-! #### writing -/
theorem setCells_heap (b : Nat) : ∀ (vs : List Value) (o : Nat) (w : World) (b' : Nat), b' ≠ b → (w.setCells b o vs).heap[b']? = w.heap[b']?
  | [], _, _, _, _ => rfl
  | v :: r, o, w, b', hb => by
    rw [World.setCells, setCells_heap b r _ _ b' hb]
    simp [World.setCell, Array.getElem?_modify, Ne.symm hb]
theorem setCells_size (b : Nat) : ∀ (vs : List Value) (o : Nat) (w : World), (w.setCells b o vs).heap.size = w.heap.size
  | [], _, _ => rfl
  | v :: r, o, w => by rw [World.setCells, setCells_size b r]; simp
theorem setCells_io (b : Nat) : ∀ (vs : List Value) (o : Nat) (w : World), (w.setCells b o vs).os = w.os ∧ (w.setCells b o vs).output = w.output ∧ (w.setCells b o vs).tape = w.tape
  | [], _, _ => ⟨rfl, rfl, rfl⟩
  | v :: r, o, w => by rw [World.setCells]; exact setCells_io b r _ _
theorem setCells_frozen (b : Nat) (a : Addr) : ∀ (vs : List Value) (o : Nat) (w : World), (w.setCells b o vs).frozen? a = w.frozen? a
  | [], _, _ => rfl
  | v :: r, o, w => by rw [World.setCells, setCells_frozen b a r, World.frozen?_setCell]
theorem setCells_far (b : Nat) : ∀ (vs : List Value) (o : Nat) (w : World) (o' : Nat), (o' < o ∨ o + vs.length ≤ o') → (w.setCells b o vs).cell? ⟨b, o', none⟩ = w.cell? ⟨b, o', none⟩
  | [], _, _, _, _ => rfl
  | v :: r, o, w, o', h => by
    rw [World.setCells, setCells_far b r _ _ o' (by simp at h; omega), World.cell?_setCell_other]
    simp at h ⊢; omega
theorem setCells_at (b : Nat) : ∀ (vs : List Value) (o : Nat) (w : World) (j : Nat) (v : Value), vs[j]? = some v → (∀ k, k < vs.length → (w.cell? ⟨b, o + k, none⟩).isSome = true) →
    (w.setCells b o vs).cell? ⟨b, o + j, none⟩ = some v
  | [], _, _, _, _, h, _ => by simp at h
  | x :: r, o, w, j, v, h, hs => by
    rw [World.setCells]
    cases j with
    | zero =>
      simp at h; subst h
      rw [setCells_far b r _ _ _ (by simp)]
      obtain ⟨u, hu⟩ := Option.isSome_iff_exists.1 (hs 0 (by simp))
      simp at hu
      exact World.cell?_setCell_same _ _ _ hu
    | succ j =>
      simp at h
      have := setCells_at b r (o + 1) (w.setCell ⟨b, o, none⟩ x) j v h (fun k hk => by
        rw [World.cell?_setCell_other _ _ _ _ (by simp; omega)]
        have := hs (k + 1) (by simp; omega)
        rwa [show o + (k + 1) = o + 1 + k by omega] at this)
      rwa [show o + (j + 1) = o + 1 + j by omega]
theorem cell?_heap {w w' : World} {b : Nat} (h : w'.heap[b]? = w.heap[b]?) (o : Nat) : w'.cell? ⟨b, o, none⟩ = w.cell? ⟨b, o, none⟩ := by simp [World.cell?, h]
theorem frozen?_heap {w w' : World} {b : Nat} (h : w'.heap[b]? = w.heap[b]?) (o : Nat) : w'.frozen? ⟨b, o, none⟩ = w.frozen? ⟨b, o, none⟩ := by simp [World.frozen?, h]

theorem OR.mono {ι ι' : Inj} (h : ι.le ι') {d : IB} {w w' : World} (hb : w'.heap[d.blk]? = w.heap[d.blk]?) {o : AO} (hr : OR ι d w o) : OR ι' d w' o := by
  cases o with
  | cells ro l =>
    obtain ⟨h2, h3, h4, h5, h6⟩ := hr
    refine ⟨h2, h3, fun j x hj => ?_, fun o ho => ?_, fun hro o ho => ?_⟩
    · obtain ⟨v, hv, hs⟩ := h4 j x hj
      exact ⟨v, by rw [cell?_heap hb]; exact hv, SR.mono h hs⟩
    · rw [cell?_heap hb]; exact h5 o ho
    · rw [frozen?_heap hb]; exact h6 hro o ho
  | iter s pos => exact ⟨hr.1, by rw [hb]; exact hr.2⟩

end Go.Proofs.Ytkhooppaenfkdaa.Fw
