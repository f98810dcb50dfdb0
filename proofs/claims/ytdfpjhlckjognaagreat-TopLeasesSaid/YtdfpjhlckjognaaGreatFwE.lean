/- What the abstract machine's values and heaps stand for: relations to the model's values and worlds, and how they are kept. -/
import Derived.Test.YtdfpjhlckjognaaGreatFwX
import Derived.Calls
import Derived.Tactics
import Derived.Laws.Cells
import Derived.Laws.IdiomCopy
import Derived.Laws.Entries
import Derived.Laws.Concat
import Derived.Laws.Cover1
import Derived.Laws.Slices
import Derived.Laws.StructEq
import Derived.Laws.Cover3
namespace Go.Proofs.YtdfpjhlckjognaaGreat.Fw
open Go
structure IB where
  blk : Nat
  base : Nat
  bs : Nat
  ro : Bool
abbrev Inj := Nat → Option IB
def All2 {α β : Type} (R : α → β → Prop) : List α → List β → Prop
  | [], l => l = []
  | x :: r, l => ∃ y l', l = y :: l' ∧ R x y ∧ All2 R r l'
theorem All2.mono {α β : Type} {R S : α → β → Prop} (h : ∀ x y, R x y → S x y) : ∀ {l : List α} {l' : List β}, All2 R l l' → All2 S l l'
  | [], _, hl => hl
  | _ :: _, _, ⟨y, l', e, hr, ht⟩ => ⟨y, l', e, h _ _ hr, All2.mono h ht⟩
theorem All2.length {α β : Type} {R : α → β → Prop} : ∀ {l : List α} {l' : List β}, All2 R l l' → l'.length = l.length
  | [], _, hl => by cases hl; rfl
  | _ :: _, _, ⟨y, l', e, _, ht⟩ => by cases e; simp [All2.length ht]
theorem All2.get {α β : Type} {R : α → β → Prop} : ∀ {l : List α} {l' : List β}, All2 R l l' → ∀ (j : Nat) x, l[j]? = some x → ∃ y, l'[j]? = some y ∧ R x y
  | [], _, _, j, x, h => by simp at h
  | a :: l, _, ⟨y, l', e, hr, ht⟩, j, x, h => by
    cases e
    cases j with
    | zero => simp at h; subst h; exact ⟨y, rfl, hr⟩
    | succ j => simp at h; obtain ⟨z, hz, hR⟩ := All2.get ht j x h; exact ⟨z, by simpa using hz, hR⟩
theorem All2.of_get {α β : Type} {R : α → β → Prop} : ∀ {l : List α} {l' : List β}, l'.length = l.length → (∀ (j : Nat) x y, l[j]? = some x → l'[j]? = some y → R x y) → All2 R l l'
  | [], [], _, _ => rfl
  | [], _ :: _, h, _ => by simp at h
  | _ :: _, [], h, _ => by simp at h
  | a :: l, b :: l', h, hr => ⟨b, l', rfl, hr 0 a b rfl rfl, All2.of_get (by simpa using h) fun j x y hx hy => hr (j + 1) x y (by simpa using hx) (by simpa using hy)⟩
theorem All2.append {α β : Type} {R : α → β → Prop} : ∀ {l m : List α} {l' m' : List β}, All2 R l l' → All2 R m m' → All2 R (l ++ m) (l' ++ m')
  | [], _, _, _, hl, hm => by cases hl; exact hm
  | _ :: _, _, _, _, ⟨y, l', e, hr, ht⟩, hm => by cases e; exact ⟨y, _, rfl, hr, All2.append ht hm⟩
theorem All2.take {α β : Type} {R : α → β → Prop} : ∀ (n : Nat) {l : List α} {l' : List β}, All2 R l l' → All2 R (l.take n) (l'.take n)
  | 0, _, _, _ => by simp [All2]
  | _ + 1, [], _, h => by cases h; rfl
  | n + 1, _ :: _, _, ⟨y, l', e, hr, ht⟩ => by cases e; exact ⟨y, _, rfl, hr, All2.take n ht⟩
theorem All2.drop {α β : Type} {R : α → β → Prop} : ∀ (n : Nat) {l : List α} {l' : List β}, All2 R l l' → All2 R (l.drop n) (l'.drop n)
  | 0, _, _, h => h
  | _ + 1, [], _, h => by cases h; rfl
  | n + 1, _ :: _, _, ⟨_, _, e, _, ht⟩ => by cases e; exact All2.drop n ht
def PtR (ι : Inj) (q : Nat × Nat) (v : Value) : Prop := ∃ d, ι q.1 = some d ∧ v = .pointer (some ⟨d.blk, d.base + q.2, none⟩)
def SR (ι : Inj) : Sc → Value → Prop
  | .b x, v => v = .bool x
  | .i k n, v => v = .int k n
  | .s x, v => v = .string x
  | .fl k n, v => v = .float k n
  | .cx k a b, v => v = .complex k a b
  | .p none, v => v = .pointer none
  | .p (some q), v => PtR ι q v
  | .sl none, v => v = .slice none 0 0
  | .sl (some s), v => ∃ d a c, ι s.id = some d ∧ v = .slice (some a) s.len c ∧ s.len ≤ s.cap ∧ s.cap ≤ c ∧ (c = 0 ∨ a = ⟨d.blk, d.base + s.off, none⟩) ∧ (c = s.cap ∨ d.base + s.off + c * s.z ≤ d.bs)
  | .fn f fs cs, v => ∃ l l', All2 (PtR ι) fs l ∧ All2 (PtR ι) cs l' ∧ v = .func (.func f) ⟨l⟩ ⟨l'⟩
  | .nf, v => v = .nilFunc
  | .ni, v => v = .nilIface
  | .it id, v => ∃ d, ι id = some d ∧ v = .pointer (some ⟨d.blk, 0, none⟩)
abbrev LR (ι : Inj) := All2 (SR ι)
def CR (ι : Inj) : CV → Value → Prop
  | .sc x, v => SR ι x v
  | .ag l, v => ∃ vs, LR ι l vs ∧ v = .agg ⟨vs⟩
def VR (ι : Inj) : AV → Value → Prop
  | .un, _ => True
  | .sc x, v => SR ι x v
  | .ag l, v => ∃ vs, LR ι l vs ∧ v = .agg ⟨vs⟩
  | .tu l, v => ∃ vs, All2 (CR ι) l vs ∧ v = .tuple ⟨vs⟩
def Inj.le (ι ι' : Inj) : Prop := ∀ id d, ι id = some d → ι' id = some d
theorem PtR.mono {ι ι' : Inj} (h : ι.le ι') {q : Nat × Nat} {v : Value} (hr : PtR ι q v) : PtR ι' q v := by
  obtain ⟨d, hd, e⟩ := hr; exact ⟨d, h _ _ hd, e⟩
theorem SR.mono {ι ι' : Inj} (h : ι.le ι') {x : Sc} {v : Value} (hr : SR ι x v) : SR ι' x v := by
  cases x with
  | p o => cases o with
    | none => exact hr
    | some q => exact PtR.mono h hr
  | sl o => cases o with
    | none => exact hr
    | some q => obtain ⟨d, a, c, hd, r⟩ := hr; exact ⟨d, a, c, h _ _ hd, r⟩
  | fn f fs cs => obtain ⟨l, l', h1, h2, e⟩ := hr; exact ⟨l, l', h1.mono fun _ _ => PtR.mono h, h2.mono fun _ _ => PtR.mono h, e⟩
  | it id => obtain ⟨d, hd, e⟩ := hr; exact ⟨d, h _ _ hd, e⟩
  | _ => exact hr
theorem CR.mono {ι ι' : Inj} (h : ι.le ι') {x : CV} {v : Value} (hr : CR ι x v) : CR ι' x v := by
  cases x with
  | sc x => exact SR.mono h hr
  | ag l => obtain ⟨vs, h1, e⟩ := hr; exact ⟨vs, h1.mono fun _ _ => SR.mono h, e⟩
theorem VR.mono {ι ι' : Inj} (h : ι.le ι') {x : AV} {v : Value} (hr : VR ι x v) : VR ι' x v := by
  cases x with
  | un => trivial
  | sc x => exact SR.mono h hr
  | ag l => obtain ⟨vs, h1, e⟩ := hr; exact ⟨vs, h1.mono fun _ _ => SR.mono h, e⟩
  | tu l => obtain ⟨vs, h1, e⟩ := hr; exact ⟨vs, h1.mono fun _ _ => CR.mono h, e⟩
theorem SR.oneCell {ι : Inj} {x : Sc} {v : Value} (h : SR ι x v) : v.oneCell' = true := by
  cases x with
  | p o => cases o with
    | none => cases h; rfl
    | some q => obtain ⟨d, _, rfl⟩ := h; rfl
  | sl o => cases o with
    | none => cases h; rfl
    | some q => obtain ⟨d, a, c, _, rfl, _⟩ := h; rfl
  | fn f fs cs => obtain ⟨l, l', _, _, rfl⟩ := h; rfl
  | it id => obtain ⟨d, _, rfl⟩ := h; rfl
  | _ => cases h; rfl
theorem SR.cells {ι : Inj} {x : Sc} {v : Value} (h : SR ι x v) : v.cells = #[v] := by
  cases x with
  | p o => cases o with
    | none => cases h; rfl
    | some q => obtain ⟨d, _, rfl⟩ := h; rfl
  | sl o => cases o with
    | none => cases h; rfl
    | some q => obtain ⟨d, a, c, _, rfl, _⟩ := h; rfl
  | fn f fs cs => obtain ⟨l, l', _, _, rfl⟩ := h; rfl
  | it id => obtain ⟨d, _, rfl⟩ := h; rfl
  | _ => cases h; rfl
theorem VR.cells {ι : Inj} {x : AV} {v : Value} {l : List Sc} (hc : x.cells = some l) (h : VR ι x v) : LR ι l v.cells.toList := by
  cases x with
  | sc x => simp [AV.cells] at hc; subst hc; have := SR.cells h; rw [this]; exact ⟨v, [], rfl, h, rfl⟩
  | ag l => simp [AV.cells] at hc; subst hc; obtain ⟨vs, h1, rfl⟩ := h; exact h1
  | _ => simp [AV.cells] at hc
theorem LR.oneCell {ι : Inj} : ∀ {l : List Sc} {vs : List Value}, LR ι l vs → ∀ v ∈ vs, v.oneCell' = true
  | [], _, h, v, hv => by cases h; cases hv
  | _ :: _, _, ⟨y, l', e, hr, ht⟩, v, hv => by
    cases e
    cases hv with
    | head => exact SR.oneCell hr
    | tail _ hm => exact LR.oneCell ht v hm
def OR (ι : Inj) (d : IB) (w : World) : AO → Prop
  | .cells ro l => ro = d.ro ∧ d.base + l.length ≤ d.bs ∧ (∀ j x, l[j]? = some x → ∃ v, w.cell? ⟨d.blk, d.base + j, none⟩ = some v ∧ SR ι x v) ∧
      (∀ o, o < d.bs → (w.cell? ⟨d.blk, o, none⟩).isSome = true) ∧ (ro = false → ∀ o, o < d.bs → w.frozen? ⟨d.blk, o, none⟩ = false)
  | .iter s pos => d.ro = false ∧ w.heap[d.blk]? = some (.stringIter s pos)
def Own (ι : Inj) (H : AH) (b : Nat) : Prop := ∃ id d, ι id = some d ∧ id < H.next ∧ H.obj id ≠ none ∧ d.ro = false ∧ d.blk = b
def Alive (H : AH) (id : Nat) : Prop := H.next ≤ id ∨ H.obj id ≠ none
structure HR (ι : Inj) (H : AH) (w : World) : Prop where
  obj : ∀ id d o, ι id = some d → H.obj id = some o → OR ι d w o
  inj : ∀ id id' d d', id ≠ id' → ι id = some d → ι id' = some d' → Alive H id → Alive H id' → (d.ro = true ∧ d'.ro = true) ∨ d.blk ≠ d'.blk
  lt : ∀ id d, ι id = some d → d.blk < w.heap.size
  fut : ∀ id, H.next ≤ id → H.obj id = none
structure Stp (ι : Inj) (H : AH) (w : World) (ι' : Inj) (H' : AH) (w' : World) : Prop where
  ext : ι.le ι'
  new : ∀ id d, ι' id = some d → ι id = none → H.next ≤ id ∧ id < H'.next ∧ d.ro = false ∧ (w.heap.size ≤ d.blk ∨ Own ι H d.blk)
  nx : H.next ≤ H'.next
  dead : ∀ id, id < H.next → H.obj id = none → H'.obj id = none
  keep : ∀ id, id < H.next → ι id = none → H'.obj id = H.obj id
  sz : w.heap.size ≤ w'.heap.size
  fr : ∀ b, b < w.heap.size → ¬ Own ι H b → w'.heap[b]? = w.heap[b]?
  io : w'.os = w.os ∧ w'.output = w.output ∧ w'.tape = w.tape
def Gap (ι : Inj) (H H' : AH) : Prop := ∀ id, H.next ≤ id → id < H'.next → ι id = none
theorem Stp.refl (ι : Inj) (H : AH) (w : World) : Stp ι H w ι H w :=
  ⟨fun _ _ h => h, fun _ _ h h' => (by rw [h] at h'; cases h'), Nat.le_refl _, fun _ _ h => h, fun _ _ _ => rfl, Nat.le_refl _, fun _ _ _ => rfl, rfl, rfl, rfl⟩
theorem Stp.own_back {ι ι1 : Inj} {H H1 : AH} {w w1 : World} (s : Stp ι H w ι1 H1 w1) (g : Gap ι H H1) {b : Nat} (hb : b < w.heap.size) (h : Own ι1 H1 b) : Own ι H b := by
  obtain ⟨id, d, hd, hlt, hl, hro, rfl⟩ := h
  cases hι : ι id with
  | none => rcases s.new id d hd hι with ⟨_, _, _, h | h⟩
            · omega
            · exact h
  | some d0 =>
    have := s.ext id d0 hι
    rw [hd] at this; cases this
    by_cases hid : id < H.next
    · exact ⟨id, d, hι, hid, fun hn => hl (s.dead id hid hn), hro, rfl⟩
    · have := g id (by omega) hlt; rw [hι] at this; cases this
theorem Stp.trans {ι ι1 ι2 : Inj} {H H1 H2 : AH} {w w1 w2 : World} (s : Stp ι H w ι1 H1 w1) (t : Stp ι1 H1 w1 ι2 H2 w2) (g : Gap ι H H2) : Stp ι H w ι2 H2 w2 := by
  have g1 : Gap ι H H1 := fun id h1 h2 => g id h1 (Nat.lt_of_lt_of_le h2 t.nx)
  refine ⟨fun id d h => t.ext _ _ (s.ext _ _ h), ?_, Nat.le_trans s.nx t.nx, fun id hlt h => t.dead id (Nat.lt_of_lt_of_le hlt s.nx) (s.dead id hlt h), ?_, Nat.le_trans s.sz t.sz, ?_, t.io.1.trans s.io.1, t.io.2.1.trans s.io.2.1, t.io.2.2.trans s.io.2.2⟩
  · intro id d hd hn
    cases h1 : ι1 id with
    | some d1 =>
      have := t.ext id d1 h1
      rw [hd] at this; cases this
      obtain ⟨a, b, c, e⟩ := s.new id d h1 hn
      exact ⟨a, Nat.lt_of_lt_of_le b t.nx, c, e⟩
    | none =>
      obtain ⟨a, b, c, e⟩ := t.new id d hd h1
      refine ⟨Nat.le_trans s.nx a, b, c, ?_⟩
      rcases e with e | e
      · exact .inl (Nat.le_trans s.sz e)
      · by_cases hb : d.blk < w.heap.size
        · exact .inr (s.own_back g1 hb e)
        · exact .inl (by omega)
  · intro id hlt hn
    have h1 : ι1 id = none := by
      cases h : ι1 id with
      | none => rfl
      | some d => have := (s.new id d h hn).1; omega
    rw [t.keep id (Nat.lt_of_lt_of_le hlt s.nx) h1, s.keep id hlt hn]
  · intro b hb ho
    rw [t.fr b (Nat.lt_of_lt_of_le hb s.sz) (fun h => ho (s.own_back g1 hb h)), s.fr b hb ho]
theorem Gap.left {ι : Inj} {H H1 H2 : AH} (g : Gap ι H H2) (h : H1.next ≤ H2.next) : Gap ι H H1 := fun id a b => g id a (Nat.lt_of_lt_of_le b h)
theorem Gap.right {ι ι1 : Inj} {H H1 H2 : AH} {w w1 : World} (g : Gap ι H H2) (s : Stp ι H w ι1 H1 w1) : Gap ι1 H1 H2 := by
  intro id a b
  cases h : ι1 id with
  | none => rfl
  | some d =>
    cases h0 : ι id with
    | some d0 => have := g id (Nat.le_trans s.nx a) b; rw [h0] at this; cases this
    | none => obtain ⟨_, c, _⟩ := s.new id d h h0; omega
theorem Gap.same (ι : Inj) (H : AH) : Gap ι H H := fun id a b => by omega
theorem addr_add (b o n : Nat) : (⟨b, o, none⟩ : Addr).add n = ⟨b, o + n, none⟩ := by
  unfold Addr.add; split
  · rename_i h; subst h; rfl
  · rfl
theorem OR.read {ι : Inj} {d : IB} {w : World} {ro : Bool} {c : List Sc} (ho : OR ι d w (.cells ro c)) : ∀ (m k : Nat), k + m ≤ c.length →
    ∃ vs : List Value, LR ι ((c.drop k).take m) vs ∧ ∀ (j : Nat) v, vs[j]? = some v → w.cell? ⟨d.blk, d.base + k + j, none⟩ = some v := by
  obtain ⟨_, _, hcell, _, _⟩ := ho
  intro m
  induction m with
  | zero => intro k _; exact ⟨[], by simp [All2], by simp⟩
  | succ m ih =>
    intro k hk
    obtain ⟨vs, h1, h2⟩ := ih (k + 1) (by omega)
    have hkc : k < c.length := by omega
    obtain ⟨v, hv, hs⟩ := hcell k c[k] (by simp [hkc])
    refine ⟨v :: vs, ?_, ?_⟩
    · rw [List.drop_eq_getElem_cons hkc, List.take_succ_cons]
      exact ⟨v, vs, rfl, hs, h1⟩
    · intro j u hj
      cases j with
      | zero => simp at hj; subst hj; simpa using hv
      | succ j => simp at hj; have := h2 j u hj; rwa [show d.base + (k + 1) + j = d.base + k + (j + 1) by omega] at this
theorem HR.read {ι : Inj} {H : AH} {w : World} (h : HR ι H w) {id off n : Nat} {l : List Sc} {d : IB} (hd : ι id = some d) (hr : H.rd id off n = some l) :
    ∃ vs, LR ι l vs ∧ vs.length = n ∧ l.length = n ∧ ∀ (j : Nat) v, vs[j]? = some v → w.cell? ⟨d.blk, d.base + off + j, none⟩ = some v := by
  unfold AH.rd at hr
  split at hr
  · rename_i ro c hc
    split at hr
    · rename_i hle
      cases hr
      have hlen : ((c.drop off).take n).length = n := by simp; omega
      obtain ⟨vs, h1, h2⟩ := (h.obj id d _ hd hc).read n off hle
      exact ⟨vs, h1, by rw [h1.length, hlen], hlen, h2⟩
    · cases hr
  · cases hr
structure Grow (H H' : AH) : Prop where
  nx : H.next ≤ H'.next
  fut : (∀ id, H.next ≤ id → H.obj id = none) → ∀ id, H'.next ≤ id → H'.obj id = none
theorem Grow.refl (H : AH) : Grow H H := ⟨Nat.le_refl _, fun h => h⟩
theorem Grow.trans {H H1 H2 : AH} (a : Grow H H1) (b : Grow H1 H2) : Grow H H2 := ⟨Nat.le_trans a.nx b.nx, fun h => b.fut (a.fut h)⟩
theorem Grow.new (H : AH) (o : AO) : Grow H (H.new o) := by
  refine ⟨by simp [AH.new], fun h id hid => ?_⟩
  have : H.next + 1 ≤ id := hid
  unfold AH.new; dsimp only; rw [if_neg (by omega)]; exact h id (by omega)
theorem Grow.put (H : AH) (id : Nat) (o : Option AO) (h : H.obj id ≠ none ∨ o = none) : Grow H (H.put id o) := by
  refine ⟨Nat.le_refl _, fun hf j hj => ?_⟩
  have hj' : H.next ≤ j := hj
  unfold AH.put; dsimp only
  split
  · rename_i e; subst e
    rcases h with h | h
    · exact absurd (hf j hj') h
    · exact h
  · exact hf j hj'
theorem setCells_heap (b : Nat) : ∀ (vs : List Value) (o : Nat) (w : World) (b' : Nat), b' ≠ b → (w.setCells b o vs).heap[b']? = w.heap[b']?
  | [], _, _, _, _ => rfl
  | v :: r, o, w, b', hb => by
    rw [World.setCells, setCells_heap b r _ _ b' hb]
    simp [World.setCell, Array.getElem?_modify, Ne.symm hb]
theorem setCells_size (b : Nat) : ∀ (vs : List Value) (o : Nat) (w : World), (w.setCells b o vs).heap.size = w.heap.size
  | [], _, _ => rfl
  | v :: r, o, w => by rw [World.setCells, setCells_size b r]; simp
theorem setCells_io (b : Nat) : ∀ (vs : List Value) (o : Nat) (w : World), (w.setCells b o vs).os = w.os ∧ (w.setCells b o vs).output = w.output ∧ (w.setCells b o vs).tape = w.tape
  | [], _, _ => ⟨rfl, rfl, rfl⟩
  | v :: r, o, w => by rw [World.setCells]; exact setCells_io b r _ _
theorem setCells_frozen (b : Nat) (a : Addr) : ∀ (vs : List Value) (o : Nat) (w : World), (w.setCells b o vs).frozen? a = w.frozen? a
  | [], _, _ => rfl
  | v :: r, o, w => by rw [World.setCells, setCells_frozen b a r, World.frozen?_setCell]
theorem setCells_far (b : Nat) : ∀ (vs : List Value) (o : Nat) (w : World) (o' : Nat), (o' < o ∨ o + vs.length ≤ o') → (w.setCells b o vs).cell? ⟨b, o', none⟩ = w.cell? ⟨b, o', none⟩
  | [], _, _, _, _ => rfl
  | v :: r, o, w, o', h => by
    rw [World.setCells, setCells_far b r _ _ o' (by simp at h; omega), World.cell?_setCell_other]
    simp at h ⊢; omega
theorem setCells_at (b : Nat) : ∀ (vs : List Value) (o : Nat) (w : World) (j : Nat) (v : Value), vs[j]? = some v → (∀ k, k < vs.length → (w.cell? ⟨b, o + k, none⟩).isSome = true) →
    (w.setCells b o vs).cell? ⟨b, o + j, none⟩ = some v
  | [], _, _, _, _, h, _ => by simp at h
  | x :: r, o, w, j, v, h, hs => by
    rw [World.setCells]
    cases j with
    | zero =>
      simp at h; subst h
      rw [setCells_far b r _ _ _ (by simp)]
      obtain ⟨u, hu⟩ := Option.isSome_iff_exists.1 (hs 0 (by simp))
      simp at hu
      exact World.cell?_setCell_same _ _ _ hu
    | succ j =>
      simp at h
      have := setCells_at b r (o + 1) (w.setCell ⟨b, o, none⟩ x) j v h (fun k hk => by
        rw [World.cell?_setCell_other _ _ _ _ (by simp; omega)]
        have := hs (k + 1) (by simp; omega)
        rwa [show o + (k + 1) = o + 1 + k by omega] at this)
      rwa [show o + (j + 1) = o + 1 + j by omega]
theorem cell?_heap {w w' : World} {b : Nat} (h : w'.heap[b]? = w.heap[b]?) (o : Nat) : w'.cell? ⟨b, o, none⟩ = w.cell? ⟨b, o, none⟩ := by simp [World.cell?, h]
theorem frozen?_heap {w w' : World} {b : Nat} (h : w'.heap[b]? = w.heap[b]?) (o : Nat) : w'.frozen? ⟨b, o, none⟩ = w.frozen? ⟨b, o, none⟩ := by simp [World.frozen?, h]
theorem OR.mono {ι ι' : Inj} (h : ι.le ι') {d : IB} {w w' : World} (hb : w'.heap[d.blk]? = w.heap[d.blk]?) {o : AO} (hr : OR ι d w o) : OR ι' d w' o := by
  cases o with
  | cells ro l =>
    obtain ⟨h2, h3, h4, h5, h6⟩ := hr
    refine ⟨h2, h3, fun j x hj => ?_, fun o ho => ?_, fun hro o ho => ?_⟩
    · obtain ⟨v, hv, hs⟩ := h4 j x hj
      exact ⟨v, by rw [cell?_heap hb]; exact hv, SR.mono h hs⟩
    · rw [cell?_heap hb]; exact h5 o ho
    · rw [frozen?_heap hb]; exact h6 hro o ho
  | iter s pos => exact ⟨hr.1, by rw [hb]; exact hr.2⟩
end Go.Proofs.YtdfpjhlckjognaaGreat.Fw
namespace Go.Proofs.YtdfpjhlckjognaaGreat.Fw
open Go
theorem HR.live_lt {ι : Inj} {H : AH} {w : World} (h : HR ι H w) {id : Nat} (hl : H.obj id ≠ none) : id < H.next := by
  rcases Nat.lt_or_ge id H.next with h' | h'
  · exact h'
  · exact absurd (h.fut id h') hl
theorem HR.same_heap {ι : Inj} {H : AH} {w w' : World} (h : HR ι H w) (he : w'.heap = w.heap) : HR ι H w' := by
  refine ⟨fun id d o h1 h2 => (h.obj id d o h1 h2).mono (fun _ _ h => h) (by rw [he]), h.inj, fun id d hd => by rw [he]; exact h.lt id d hd, h.fut⟩
def SameW (w1 w : World) : Prop := w1.heap = w.heap ∧ w1.os = w.os ∧ w1.output = w.output ∧ w1.tape = w.tape
theorem Stp.same_heap {ι : Inj} {H : AH} {w w' : World} (hs : SameW w' w) : Stp ι H w ι H w' :=
  ⟨fun _ _ h => h, fun _ _ h h' => (by rw [h] at h'; cases h'), Nat.le_refl _, fun _ _ h => h, fun _ _ _ => rfl, by rw [hs.1]; exact Nat.le_refl _, fun _ _ _ => by rw [hs.1], hs.2⟩
theorem splice_get (l vs : List Sc) (off : Nat) (h : off + vs.length ≤ l.length) (j : Nat) :
    (l.take off ++ vs ++ l.drop (off + vs.length))[j]? = if j < off then l[j]? else if j < off + vs.length then vs[j - off]? else l[j]? := by
  have h1 : (l.take off).length = off := by simp; omega
  by_cases a : j < off
  · rw [if_pos a, List.append_assoc, List.getElem?_append_left (by omega), List.getElem?_take, if_pos a]
  · rw [if_neg a]
    by_cases b : j < off + vs.length
    · rw [if_pos b, List.append_assoc, List.getElem?_append_right (by omega), h1, List.getElem?_append_left (by omega)]
    · rw [if_neg b, List.getElem?_append_right (by simp; omega), List.getElem?_drop]
      congr 1
      simp; omega
theorem HR.write {ι : Inj} {H H' : AH} {w : World} (P : Program) (h : HR ι H w) {id off : Nat} {l : List Sc} {d : IB} {vs : List Value} (hd : ι id = some d) (hw : H.wr id off l = some H') (hl : LR ι l vs) :
    (storeCells ⟨d.blk, d.base + off, none⟩ vs).run P w = .ok () (w.setCells d.blk (d.base + off) vs) ∧ HR ι H' (w.setCells d.blk (d.base + off) vs) ∧ Stp ι H w ι H' (w.setCells d.blk (d.base + off) vs) := by
  unfold AH.wr at hw
  split at hw
  case h_2 => cases hw
  rename_i c hc
  split at hw
  case isFalse => cases hw
  rename_i hle
  cases hw
  obtain ⟨hro, hbs, hcell, hsome, hfro⟩ := h.obj id d _ hd hc
  have hlen := hl.length
  have hs : ∀ k, k < vs.length → (w.cell? ⟨d.blk, d.base + off + k, none⟩).isSome = true := fun k hk => hsome _ (by omega)
  have hidlt : id < H.next := h.live_lt (by rw [hc]; simp)
  have halive : Alive H id := .inr (by rw [hc]; simp)
  have own : Own ι H d.blk := ⟨id, d, hd, hidlt, by rw [hc]; simp, hro.symm, rfl⟩
  have hne : ∀ id' d', id' ≠ id → ι id' = some d' → Alive H id' → d'.blk ≠ d.blk := by
    intro id' d' hn hd' ha
    rcases h.inj id' id d' d hn hd' hd ha halive with ⟨_, h2⟩ | h2
    · rw [← hro] at h2; cases h2
    · exact h2
  have hal : ∀ id', Alive (H.put id (some (AO.cells false (List.take off c ++ l ++ List.drop (off + l.length) c)))) id' → Alive H id' := by
    intro id' ha
    rcases ha with ha | ha
    · exact .inl ha
    · unfold AH.put at ha; dsimp only at ha
      split at ha
      · rename_i e; subst e; exact halive
      · exact .inr ha
  refine ⟨?_, ?_, ?_⟩
  · have := run_storeCells_cells (P := P) d.blk (d.base + off) vs 0 w (by simpa using hs) (by
      intro j hj; exact hfro rfl _ (by omega)) (LR.oneCell hl)
    simpa using this
  · refine ⟨?_, ?_, ?_, ?_⟩
    · intro id' d' o' hd' ho'
      unfold AH.put at ho'; dsimp only at ho'
      split at ho'
      · rename_i e; subst e
        rw [hd] at hd'; cases hd'
        cases ho'
        refine ⟨hro, by simp; omega, fun j x hj => ?_, fun o ho => ?_, fun _ o ho => ?_⟩
        · rw [splice_get _ _ _ hle] at hj
          split at hj
          · obtain ⟨v, hv, hsx⟩ := hcell j x hj
            exact ⟨v, by rw [setCells_far _ _ _ _ _ (by omega)]; exact hv, hsx⟩
          · split at hj
            · obtain ⟨v, hv, hsx⟩ := hl.get _ x hj
              refine ⟨v, ?_, hsx⟩
              have := setCells_at d.blk vs (d.base + off) w (j - off) v hv hs
              rwa [show d.base + off + (j - off) = d.base + j by omega] at this
            · obtain ⟨v, hv, hsx⟩ := hcell j x hj
              exact ⟨v, by rw [setCells_far _ _ _ _ _ (by omega)]; exact hv, hsx⟩
        · by_cases hin : d.base + off ≤ o ∧ o < d.base + off + vs.length
          · have hj : o - (d.base + off) < vs.length := by omega
            have := setCells_at d.blk vs (d.base + off) w (o - (d.base + off)) vs[o - (d.base + off)] (by simp [hj]) hs
            rw [show d.base + off + (o - (d.base + off)) = o by omega] at this
            rw [this]; rfl
          · rw [setCells_far _ _ _ _ _ (by omega)]; exact hsome o ho
        · rw [setCells_frozen]; exact hfro rfl o ho
      · rename_i hn
        exact (h.obj id' d' o' hd' ho').mono (fun _ _ h => h) (setCells_heap _ _ _ _ _ (hne id' d' hn hd' (.inr (by rw [ho']; simp))))
    · intro a b da db hn ha hb h1 h2
      exact h.inj a b da db hn ha hb (hal a h1) (hal b h2)
    · intro a da ha; rw [setCells_size]; exact h.lt a da ha
    · intro a ha
      unfold AH.put at ha ⊢; dsimp only at ha ⊢
      rw [if_neg (by omega)]; exact h.fut a ha
  · refine ⟨fun _ _ h => h, fun _ _ h h' => (by rw [h] at h'; cases h'), Nat.le_refl _, ?_, ?_, by rw [setCells_size]; exact Nat.le_refl _, ?_, setCells_io _ _ _ _⟩
    · intro a ha hn
      unfold AH.put; dsimp only
      rw [if_neg (by rintro rfl; rw [hc] at hn; cases hn)]; exact hn
    · intro a ha hn
      unfold AH.put; dsimp only
      rw [if_neg (by rintro rfl; rw [hd] at hn; cases hn)]
    · intro b hb hno
      exact setCells_heap _ _ _ _ _ (fun e => hno (e ▸ own))
def Inj.add (ι : Inj) (id : Nat) (d : IB) : Inj := fun j => if j = id then some d else ι j
theorem Inj.le_add {ι : Inj} {id : Nat} {d : IB} (h : ι id = none) : ι.le (ι.add id d) := by
  intro j e hj
  unfold Inj.add
  rw [if_neg (by rintro rfl; rw [h] at hj; cases hj)]; exact hj
theorem Inj.add_at (ι : Inj) (id : Nat) (d : IB) : ι.add id d id = some d := by simp [Inj.add]
theorem wr_grow {H H' : AH} {id off : Nat} {l : List Sc} (h : H.wr id off l = some H') : Grow H H' := by
  unfold AH.wr at h
  split at h
  · rename_i hc
    split at h
    · cases h; exact Grow.put _ _ _ (.inl (by rw [hc]; simp))
    · cases h
  · cases h
theorem wrs_grow {H H' : AH} {z : Nat} {s : Option SlD} {l : List Sc} (h : H.wrs z s l = some H') : Grow H H' := by
  unfold AH.wrs at h
  split at h
  · cases h; exact Grow.refl _
  · split at h
    · cases h
    · split at h
      · exact wr_grow h
      · cases h
theorem app_grow {H H' : AH} {z eb n : Nat} {s s' : Option SlD} {l : List Sc} (h : H.app z eb s l n = some (s', H')) : Grow H H' := by
  unfold AH.app at h
  split at h
  case isFalse => cases h
  split at h
  · split at h
    · cases h; exact Grow.refl _
    · split at h
      · cases h; exact Grow.new _ _
      · cases h
  · split at h
    case isFalse => cases h
    split at h
    · split at h
      · cases h; exact Grow.refl _
      · simp only [obind_eq] at h
        obtain ⟨H1, h1, h2⟩ := h
        cases h2; exact wr_grow h1
    · split at h
      case isFalse => cases h
      split at h
      · split at h
        · cases h; exact (Grow.put _ _ _ (.inr rfl)).trans (Grow.new _ _)
        · cases h
      · cases h
theorem HR.make {ι : Inj} {H : AH} {w : World} (h : HR ι H w) {o : AO} {ob : Obj} {d : IB} (g : ι H.next = none) (hb : d.blk = w.heap.size) (hro : d.ro = false)
    (ho : OR (ι.add H.next d) d (w.alloc ob) o) : HR (ι.add H.next d) (H.new o) (w.alloc ob) ∧ Stp ι H w (ι.add H.next d) (H.new o) (w.alloc ob) := by
  have old : ∀ b, b < w.heap.size → (w.alloc ob).heap[b]? = w.heap[b]? := by
    intro b hb; show (w.heap.push ob)[b]? = _; rw [Array.getElem?_push, if_neg (by omega)]
  have hle := Inj.le_add (d := d) g
  refine ⟨⟨?_, ?_, ?_, ?_⟩, ⟨hle, ?_, by simp [AH.new], ?_, fun a ha _ => (by simp [AH.new]; intro h; omega), by simp, fun b hb _ => old b hb, rfl, rfl, rfl⟩⟩
  · intro id d' o' hd' ho'
    unfold AH.new at ho'; dsimp only at ho'
    unfold Inj.add at hd'
    split at ho'
    · rename_i e; subst e; rw [if_pos rfl] at hd'; cases hd'; cases ho'; exact ho
    · rename_i hn
      rw [if_neg hn] at hd'
      exact (h.obj id d' o' hd' ho').mono hle (old _ (h.lt id d' hd'))
  · intro a b da db hn ha hb' h1 h2
    unfold Inj.add at ha hb'
    have al : ∀ id, id ≠ H.next → Alive (H.new o) id → Alive H id := by
      intro id hne hal
      rcases hal with hal | hal
      · exact .inl (by simp [AH.new] at hal; omega)
      · unfold AH.new at hal; dsimp only at hal; rw [if_neg hne] at hal; exact .inr hal
    by_cases ea : a = H.next
    · rw [if_pos ea] at ha; cases ha
      have eb : b ≠ H.next := fun e => hn (ea.trans e.symm)
      rw [if_neg eb] at hb'
      have := h.lt b db hb'
      right; omega
    · rw [if_neg ea] at ha
      by_cases eb : b = H.next
      · rw [if_pos eb] at hb'; cases hb'
        have := h.lt a da ha
        right; omega
      · rw [if_neg eb] at hb'
        exact h.inj a b da db hn ha hb' (al a ea h1) (al b eb h2)
  · intro a da ha
    unfold Inj.add at ha
    split at ha
    · cases ha; simp; omega
    · have := h.lt a da ha; simp; omega
  · intro a ha
    simp [AH.new] at ha ⊢
    rw [if_neg (by omega)]; exact h.fut a (by omega)
  · intro a da ha hn
    unfold Inj.add at ha
    split at ha
    · rename_i e; cases ha; subst e; exact ⟨Nat.le_refl _, by simp [AH.new], hro, .inl (by omega)⟩
    · rw [hn] at ha; cases ha
  · intro a ha hn
    simp [AH.new]; rw [if_neg (by omega)]; exact hn
theorem OR.cells_new {ι : Inj} {w : World} {e : TypeId} {l : List Sc} {vs : List Value} {c : Array Value} (hl : LR ι l vs) (hc : ∀ (j : Nat) v, vs[j]? = some v → c[j]? = some v) (hle : l.length ≤ c.size) :
    OR ι ⟨w.heap.size, 0, c.size, false⟩ (w.alloc (.cells c e)) (.cells false l) := by
  refine ⟨rfl, by simpa using hle, fun j x hj => ?_, fun o ho => ?_, fun _ o _ => ?_⟩
  · obtain ⟨v, hv, hs⟩ := hl.get j x hj
    exact ⟨v, by rw [World.cell?_alloc_new]; simpa using hc j v hv, hs⟩
  · rw [World.cell?_alloc_new]; dsimp only at ho; simp [ho]
  · rw [World.frozen?_alloc_new]
theorem HR.take {ι : Inj} {H : AH} {w : World} (h : HR ι H w) {id : Nat} {d d' : IB} {o0 o : AO} (g : ι H.next = none) (hd : ι id = some d) (h0 : H.obj id = some o0) (hro : d.ro = false)
    (hb : d'.blk = d.blk) (hro' : d'.ro = false) (ho : OR (ι.add H.next d') d' w o) :
    HR (ι.add H.next d') ((H.put id none).new o) w ∧ Stp ι H w (ι.add H.next d') ((H.put id none).new o) w := by
  have hle := Inj.le_add (d := d') g
  have hidlt : id < H.next := h.live_lt (by rw [h0]; simp)
  have halive : Alive H id := .inr (by rw [h0]; simp)
  have al : ∀ j, j ≠ H.next → Alive ((H.put id none).new o) j → Alive H j ∧ j ≠ id := by
    intro j hne hal
    rcases hal with hal | hal
    · have : H.next + 1 ≤ j := hal
      exact ⟨.inl (by omega), by omega⟩
    · unfold AH.new AH.put at hal; dsimp only at hal; rw [if_neg hne] at hal
      split at hal
      · exact absurd rfl hal
      · rename_i hj; exact ⟨.inr hal, hj⟩
  have far : ∀ j dj, j ≠ id → ι j = some dj → Alive H j → dj.blk ≠ d.blk := by
    intro j dj hn hj ha
    rcases h.inj j id dj d hn hj hd ha halive with ⟨_, h2⟩ | h2
    · rw [hro] at h2; cases h2
    · exact h2
  refine ⟨⟨?_, ?_, ?_, ?_⟩, ⟨hle, ?_, by simp [AH.new, AH.put], ?_, ?_, Nat.le_refl _, fun b hb _ => rfl, rfl, rfl, rfl⟩⟩
  · intro j dj oj hdj hoj
    unfold AH.new AH.put at hoj; dsimp only at hoj
    unfold Inj.add at hdj
    split at hoj
    · rename_i e; subst e; rw [if_pos rfl] at hdj; cases hdj; cases hoj; exact ho
    · rename_i hn
      rw [if_neg hn] at hdj
      split at hoj
      · cases hoj
      · exact (h.obj j dj oj hdj hoj).mono hle rfl
  · intro a b da db hn ha hb' h1 h2
    unfold Inj.add at ha hb'
    by_cases ea : a = H.next
    · rw [if_pos ea] at ha; cases ha
      have eb : b ≠ H.next := fun e => hn (ea.trans e.symm)
      rw [if_neg eb] at hb'
      obtain ⟨x, y⟩ := al b eb h2
      have := far b db y hb' x
      right; rw [hb]; exact fun e => this e.symm
    · rw [if_neg ea] at ha
      obtain ⟨x, y⟩ := al a ea h1
      by_cases eb : b = H.next
      · rw [if_pos eb] at hb'; cases hb'
        right; rw [hb]; exact far a da y ha x
      · rw [if_neg eb] at hb'
        obtain ⟨x', y'⟩ := al b eb h2
        exact h.inj a b da db hn ha hb' x x'
  · intro a da ha
    unfold Inj.add at ha
    split at ha
    · cases ha; rw [hb]; exact h.lt id d hd
    · exact h.lt a da ha
  · intro a ha
    have ha' : H.next + 1 ≤ a := ha
    unfold AH.new AH.put; dsimp only
    rw [if_neg (by omega), if_neg (by omega)]; exact h.fut a (by omega)
  · intro a da ha hn
    unfold Inj.add at ha
    split at ha
    · rename_i e; cases ha; subst e
      exact ⟨Nat.le_refl _, by simp [AH.new, AH.put], hro', .inr ⟨id, d, hd, hidlt, by rw [h0]; simp, hro, hb.symm⟩⟩
    · rw [hn] at ha; cases ha
  · intro a ha hn
    unfold AH.new AH.put; dsimp only
    rw [if_neg (by omega)]
    split
    · rfl
    · exact hn
  · intro a ha hn
    unfold AH.new AH.put; dsimp only
    rw [if_neg (by omega), if_neg (by rintro rfl; rw [hd] at hn; cases hn)]
end Go.Proofs.YtdfpjhlckjognaaGreat.Fw
namespace Go.Proofs.YtdfpjhlckjognaaGreat.Fw
open Go
def tdm : TD → TypeDesc → Bool
  | .int k, .int k' => k == k'
  | .bool, .bool => true
  | .str, .string => true
  | .fl k, .float k' => k == k'
  | .cx k, .complex k' => k == k'
  | .ptr e, .pointer e' => e == e'
  | .slice e, .slice e' => e == e'
  | .arr n e, .array n' e' => n == n' && e == e'
  | .struct fs, .struct fa => fa.toList.map (fun f => (f.offset, f.type)) == fs && fa.toList.all fun f => f.name != "_"
  | .func, .func _ _ _ => true
  | .iface, .interface _ => true
  | .tup ts, .tuple ta => ta.toList == ts
  | _, _ => false
def tiOk (P : Program) (t : Nat) (i : TI) : Bool :=
  (match P.underlying t with | some d => tdm i.d d | none => false) &&
  (match P.info? t with
   | some inf => inf.size == i.size && inf.bytes == i.bytes && (match i.d with
      | .tup _ => true
      | _ => (match inf.zero with | some z => decide (constScs z.cells.toList = some i.zero) && i.zero.length == i.size | none => false) &&
        (isAggD i.d || i.size == 1) && (!(isAggD i.d && decide (i.size ≤ smallAgg)) || i.kinds.length == i.size))
   | none => false) &&
  (match i.d with | .struct _ => !P.eqGuardType P.depth t && !P.stoodInHeld t | _ => true)
def tOk (P : Program) : Nat → TTab → Bool
  | _, [] => true
  | t, o :: T => (match o with | some i => tiOk P t i | none => true) && tOk P (t + 1) T
def TOk (P : Program) (T : TTab) : Prop := ∀ t i, T.get t = some i → tiOk P t i = true
theorem tOk_get (P : Program) : ∀ (T : TTab) (s : Nat), tOk P s T = true → ∀ t i, T.getD t none = some i → tiOk P (s + t) i = true
  | [], _, _, t, i, h => by simp at h
  | o :: T, s, hT, t, i, h => by
    simp only [tOk, Bool.and_eq_true] at hT
    cases t with
    | zero => simp at h; subst h; simpa using hT.1
    | succ t => simp at h; have := tOk_get P T (s + 1) hT.2 t i (by simpa using h); rwa [show s + (t + 1) = s + 1 + t by omega]
theorem TOk.of {P : Program} {T : TTab} (h : tOk P 0 T = true) : TOk P T := fun t i hi => by have := tOk_get P T 0 h t i hi; simpa using this
theorem constSc_sound {v : Value} {x : Sc} (h : constSc v = some x) (ι : Inj) : SR ι x v := by
  unfold constSc at h
  split at h <;> first | (cases h; rfl) | cases h
theorem constScs_sound : ∀ {l : List Value} {r : List Sc}, constScs l = some r → ∀ ι : Inj, LR ι r l
  | [], r, h, ι => by cases h; rfl
  | v :: l, r, h, ι => by
    simp only [constScs] at h
    split at h
    · rename_i x r' hx hr
      cases h
      exact ⟨v, l, rfl, constSc_sound hx ι, constScs_sound hr ι⟩
    · cases h
theorem constAV_sound (v : Value) (ι : Inj) : VR ι (constAV v) v := by
  unfold constAV
  split
  · split
    · rename_i r hr; exact ⟨_, constScs_sound hr ι, rfl⟩
    · trivial
  · exact ⟨[], rfl, rfl⟩
  · split
    · rename_i x hx; exact constSc_sound hx ι
    · trivial
section table
variable {P : Program} {t : Nat} {i : TI} (h : tiOk P t i = true)
include h
theorem TI.und : ∃ d, P.underlying t = some d ∧ tdm i.d d = true := by
  simp only [tiOk, Bool.and_eq_true] at h
  cases hu : P.underlying t with
  | none => rw [hu] at h; simp at h
  | some d => rw [hu] at h; exact ⟨d, rfl, h.1.1⟩
theorem TI.inf : ∃ inf, P.info? t = some inf ∧ inf.size = i.size ∧ inf.bytes = i.bytes := by
  simp only [tiOk, Bool.and_eq_true] at h
  cases hu : P.info? t with
  | none => rw [hu] at h; simp at h
  | some d => rw [hu] at h; simp only [Bool.and_eq_true, beq_iff_eq] at h; exact ⟨d, rfl, h.1.2.1.1, h.1.2.1.2⟩
theorem TI.more (hn : ∀ ts, i.d ≠ .tup ts) : (∃ inf z, P.info? t = some inf ∧ inf.zero = some z ∧ constScs z.cells.toList = some i.zero ∧ i.zero.length = i.size) ∧
    (isAggD i.d = true ∨ i.size = 1) ∧ (isAggD i.d = true → i.size ≤ smallAgg → i.kinds.length = i.size) := by
  simp only [tiOk, Bool.and_eq_true] at h
  cases hu : P.info? t with
  | none => rw [hu] at h; simp at h
  | some d =>
    rw [hu] at h
    obtain ⟨⟨_, h⟩, _⟩ := h
    simp only [Bool.and_eq_true] at h
    obtain ⟨_, h⟩ := h
    · obtain ⟨⟨h1, h2⟩, h3⟩ := h
      refine ⟨?_, ?_, ?_⟩
      · split at h1
        · rename_i z hz
          simp only [Bool.and_eq_true, decide_eq_true_eq, beq_iff_eq] at h1
          exact ⟨d, z, rfl, hz, h1.1, h1.2⟩
        · cases h1
      · simpa using h2
      · intro a b; simpa [a, b] using h3
theorem TI.struct {fs : List (Nat × Nat)} (hd : i.d = .struct fs) : P.eqGuardType P.depth t = false ∧ P.stoodInHeld t = false := by
  simp only [tiOk, Bool.and_eq_true, hd] at h
  simpa using h.2
theorem TI.run_size (w : World) : (sizeOf t).run P w = .ok i.size w := by
  obtain ⟨inf, h1, h2, _⟩ := TI.inf h
  simp [sizeOf, typeInfo, h1, h2]
theorem TI.run_agg (w : World) : (isAgg t).run P w = .ok (isAggD i.d) w := by
  obtain ⟨d, h1, h2⟩ := TI.und h
  simp only [isAgg, Sem.run_bind, run_underlying h1, Result.andThen_ok]
  cases d <;> cases hi : i.d <;> rw [hi] at h2 <;> simp_all [tdm, isAggD]
end table
theorem tdm_slice {d : TypeDesc} {e : Nat} (h : tdm (.slice e) d = true) : d = .slice e := by
  cases d <;> simp_all [tdm]
theorem tdm_str {d : TypeDesc} (h : tdm .str d = true) : d = .string := by
  cases d <;> simp_all [tdm]
theorem tdm_int {d : TypeDesc} {k : IntKind} (h : tdm (.int k) d = true) : d = .int k := by
  cases d <;> simp_all [tdm]
theorem tdm_bool {d : TypeDesc} (h : tdm .bool d = true) : d = .bool := by
  cases d <;> simp_all [tdm]
theorem tdm_arr {d : TypeDesc} {n e : Nat} (h : tdm (.arr n e) d = true) : d = .array n e := by
  cases d <;> simp_all [tdm]
theorem tdm_struct {d : TypeDesc} {fs : List (Nat × Nat)} (h : tdm (.struct fs) d = true) : ∃ fa, d = .struct fa ∧ fa.toList.map (fun f => (f.offset, f.type)) = fs ∧ ∀ f ∈ fa.toList, f.name ≠ "_" := by
  cases d with
  | struct fa =>
    simp only [tdm, Bool.and_eq_true, beq_iff_eq, List.all_eq_true, bne_iff_ne] at h
    exact ⟨fa, rfl, h.1, h.2⟩
  | _ => simp [tdm] at h
section dec
variable {C : Ora} {n : Nat} {H : AH} {r : Res}
theorem asI_eq {k : IntKind} {v : AV} {j : Int} (h : v.asI k = some j) : v = .sc (.i k j) := by
  unfold AV.asI at h; split at h
  · split at h
    · cases h; subst_vars; rfl
    · cases h
  · cases h
theorem asB_eq {v : AV} {j : Bool} (h : v.asB = some j) : v = .sc (.b j) := by unfold AV.asB at h; split at h <;> cases h; rfl
theorem asS_eq {v : AV} {j : ByteArray} (h : v.asS = some j) : v = .sc (.s j) := by unfold AV.asS at h; split at h <;> cases h; rfl
theorem asP_eq {v : AV} {j : Option (Nat × Nat)} (h : v.asP = some j) : v = .sc (.p j) := by unfold AV.asP at h; split at h <;> cases h; rfl
theorem asL_eq {v : AV} {j : Option SlD} (h : v.asL = some j) : v = .sc (.sl j) := by unfold AV.asL at h; split at h <;> cases h; rfl
theorem asIt_eq {v : AV} {j : Nat} (h : v.asIt = some j) : v = .sc (.it j) := by unfold AV.asIt at h; split at h <;> cases h; rfl
theorem asF_eq {k : FloatKind} {v : AV} {j : Nat} (h : v.asF k = some j) : v = .sc (.fl k j) := by
  unfold AV.asF at h; split at h
  · split at h
    · cases h; subst_vars; rfl
    · cases h
  · cases h
theorem asC_eq {k : FloatKind} {v : AV} {j : Nat × Nat} (h : v.asC k = some j) : v = .sc (.cx k j.1 j.2) := by
  unfold AV.asC at h; split at h
  · split at h
    · cases h; subst_vars; rfl
    · cases h
  · cases h
theorem asA_eq {n : Nat} {v : AV} {j : List Sc} (h : v.asA n = some j) : v = .ag j ∧ j.length = n := by
  unfold AV.asA at h; split at h
  · split at h
    · rename_i hl; cases h; exact ⟨rfl, hl⟩
    · cases h
  · cases h
theorem asT_eq {n : Nat} {v : AV} {j : List CV} (h : v.asT n = some j) : v = .tu j ∧ j.length = n := by
  unfold AV.asT at h; split at h
  · split at h
    · rename_i hl; cases h; exact ⟨rfl, hl⟩
    · cases h
  · cases h
theorem decV_run {c : Ck} {x : AV} {f : AV → Tree} (h : run C n (decV c x f) H = some r) : run C n (f x) H = some r := by
  cases c <;> simp only [decV, run, obind_eq] at h
  case i => obtain ⟨j, h1, h2⟩ := h; rw [asI_eq h1]; exact h2
  case b => obtain ⟨j, h1, h2⟩ := h; rw [asB_eq h1]; exact h2
  case s => obtain ⟨j, h1, h2⟩ := h; rw [asS_eq h1]; exact h2
  case p => obtain ⟨j, h1, h2⟩ := h; rw [asP_eq h1]; exact h2
  case sl => obtain ⟨j, h1, h2⟩ := h; rw [asL_eq h1]; exact h2
  case it => obtain ⟨j, h1, h2⟩ := h; rw [asIt_eq h1]; exact h2
  case fl => obtain ⟨j, h1, h2⟩ := h; rw [asF_eq h1]; exact h2
  case cx => obtain ⟨j, h1, h2⟩ := h; rw [asC_eq h1]; exact h2
  case any => exact h
  case q => obtain ⟨j, h1, ⟨a, b⟩, h2, h3⟩ := h; rw [asP_eq h1, h2]; exact h3
  case ag => obtain ⟨j, h1, h2⟩ := h; rw [(asA_eq h1).1]; exact h2
  case x =>
    obtain ⟨j, h1, h2⟩ := h
    cases x with
    | sc y => cases h1; exact h2
    | _ => cases h1
theorem decS_run {c : Ck} {x : Sc} {f : Sc → Tree} (h : run C n (decS c x f) H = some r) : run C n (f x) H = some r := by
  cases c <;> simp only [decS, run, obind_eq] at h
  case i => obtain ⟨j, h1, h2⟩ := h; cases asI_eq h1; exact h2
  case b => obtain ⟨j, h1, h2⟩ := h; cases asB_eq h1; exact h2
  case s => obtain ⟨j, h1, h2⟩ := h; cases asS_eq h1; exact h2
  case p => obtain ⟨j, h1, h2⟩ := h; cases asP_eq h1; exact h2
  case sl => obtain ⟨j, h1, h2⟩ := h; cases asL_eq h1; exact h2
  case it => obtain ⟨j, h1, h2⟩ := h; cases asIt_eq h1; exact h2
  case fl => obtain ⟨j, h1, h2⟩ := h; cases asF_eq h1; exact h2
  case cx => obtain ⟨j, h1, h2⟩ := h; cases asC_eq h1; exact h2
  case any => exact h
  case q => obtain ⟨j, h1, ⟨a, b⟩, h2, h3⟩ := h; cases asP_eq h1; cases h2; exact h3
  case x => exact h
  case ag => exact h
theorem decL_run {l : List Sc} : ∀ (cs : List Ck) (j : Nat) (f : List Sc → Tree), run C n (decL l j cs f) H = some r → run C n (f ((l.drop j).take cs.length)) H = some r ∧ j + cs.length ≤ l.length ∨ cs = [] ∧ run C n (f []) H = some r
  | [], j, f, h => .inr ⟨rfl, h⟩
  | c :: cs, j, f, h => by
    left
    simp only [decL, run, obind_eq] at h
    obtain ⟨x, hx, h⟩ := h
    have h := decS_run h
    have hj : j < l.length := by
      rcases Nat.lt_or_ge j l.length with h' | h'
      · exact h'
      · simp [List.getElem?_eq_none h'] at hx
    have hxe : l[j] = x := by simpa [List.getElem?_eq_getElem hj] using hx
    rw [List.drop_eq_getElem_cons hj, List.length_cons, List.take_succ_cons, hxe]
    rcases decL_run cs (j + 1) _ h with ⟨h1, h2⟩ | ⟨h1, h2⟩
    · exact ⟨h1, by omega⟩
    · subst h1; exact ⟨by simpa using h2, by simp; omega⟩
theorem decT_run {P : Program} {t : Nat} {i : TI} (hi : tiOk P t i = true) (hn : ∀ ts, i.d ≠ .tup ts) {l : List Sc} (hl : l.length = i.size) {f : AV → Tree} (h : run C n (decT i l f) H = some r) :
    (isAggD i.d = true ∧ run C n (f (.ag l)) H = some r) ∨ (isAggD i.d = false ∧ ∃ x, l = [x] ∧ run C n (f (.sc x)) H = some r) := by
  obtain ⟨_, h1, h2⟩ := TI.more hi hn
  unfold decT at h
  split at h
  · rename_i ha
    left
    refine ⟨ha, ?_⟩
    split at h
    · rename_i hs
      rcases decL_run _ _ _ h with ⟨h3, _⟩ | ⟨h3, h4⟩
      · rw [h2 ha hs] at h3
        have e : (l.drop 0).take i.size = l := by simp [← hl]
        rw [e] at h3; exact h3
      · have h5 := h2 ha hs
        rw [h3] at h5
        have : l = [] := List.eq_nil_of_length_eq_zero (by rw [hl, ← h5]; rfl)
        subst this; exact h4
    · exact h
  · rename_i ha
    right
    refine ⟨by simpa using ha, ?_⟩
    simp only [run, obind_eq] at h
    obtain ⟨x, hx, h⟩ := h
    have h := decS_run h
    refine ⟨x, ?_, h⟩
    have hsz : i.size = 1 := by rcases h1 with h1 | h1
                                · exact absurd h1 ha
                                · exact h1
    rw [hsz] at hl
    match l, hl, hx with
    | [y], _, hx => simp at hx; rw [hx]
theorem decA_run {P : Program} {t : Nat} {i : TI} (hi : tiOk P t i = true) (hn : ∀ ts, i.d ≠ .tup ts) {v : AV} {f : AV → Tree} (h : run C n (decA i v f) H = some r) : run C n (f v) H = some r := by
  obtain ⟨_, h1, h2⟩ := TI.more hi hn
  unfold decA at h
  split at h
  · rename_i ha
    simp only [run, obind_eq] at h
    obtain ⟨l, hl0, h⟩ := h
    obtain ⟨rfl, hl⟩ := asA_eq hl0
    clear hl0
    split at h
    · rename_i hs
      rcases decL_run _ _ _ h with ⟨h3, _⟩ | ⟨h3, h4⟩
      · rw [h2 ha hs] at h3
        have e : (l.drop 0).take i.size = l := by simp [← hl]
        rw [e] at h3; exact h3
      · have h5 := h2 ha hs
        rw [h3] at h5
        have : l = [] := List.eq_nil_of_length_eq_zero (by rw [hl, ← h5]; rfl)
        subst this; exact h4
    · exact h
  · exact decV_run h
end dec
end Go.Proofs.YtdfpjhlckjognaaGreat.Fw
namespace Go.Proofs.YtdfpjhlckjognaaGreat.Fw
open Go
structure ER (ι : Inj) (e : List AV) (tmps : Array Value) : Prop where
  size : e.length ≤ tmps.size
  get : ∀ t, VR ι (e.getD t .un) (tmps.getD t undef)
theorem ER.mono {ι ι' : Inj} {e : List AV} {tmps : Array Value} (h : ER ι e tmps) (hle : ι.le ι') : ER ι' e tmps := ⟨h.size, fun t => VR.mono hle (h.get t)⟩
theorem ER.put {ι : Inj} {e : List AV} {a : Act} (h : ER ι e a.tmps) (d : Option Nat) {v : AV} {v' : Value} (hv : VR ι v v') : ER ι (putE e d v) (a.put d v').tmps := by
  cases d with
  | none => exact h
  | some t =>
    refine ⟨by simpa [putE, Act.put] using h.size, fun s => ?_⟩
    simp only [putE, Act.put]
    by_cases hs : s = t
    · subst hs
      by_cases hl : s < e.length
      · have : s < a.tmps.size := Nat.lt_of_lt_of_le hl h.size
        simpa [List.getD, hl, this] using hv
      · have : (e.set s v).getD s .un = .un := by
          rw [List.getD, List.getElem?_eq_none (by simp; omega)]; rfl
        rw [this]; trivial
    · have h1 : (e.set t v).getD s .un = e.getD s .un := by simp [List.getD, Ne.symm hs]
      have h2 : (a.tmps.setIfInBounds t v').getD s undef = a.tmps.getD s undef := by simp [Ne.symm hs]
      rw [h1, h2]; exact h.get s
def AEq (a0 a : Act) : Prop := a.defers = a0.defers ∧ a.tmps.size = a0.tmps.size
theorem AEq.refl (a : Act) : AEq a a := ⟨rfl, rfl⟩
theorem AEq.trans {a b c : Act} (h : AEq a b) (g : AEq b c) : AEq a c := ⟨g.1.trans h.1, g.2.trans h.2⟩
theorem AEq.put (a : Act) (d : Option Nat) (v : Value) : AEq a (a.put d v) := by cases d <;> simp [AEq, Act.put]
theorem ev_sound {ι : Inj} {e : List AV} {a : Act} (h : ER ι e a.tmps) (x : Operand) : VR ι (ev e x) (a.eval x) := by
  cases x with
  | tmp t => exact h.get t
  | const v => exact constAV_sound v ι
  | global g => trivial
  | func f => exact ⟨[], [], rfl, rfl, rfl⟩
def OpS (P : Program) (o : Oper) (e : List AV) (H : AH) (v : AV) (H1 : AH) : Prop :=
  ∀ (ι : Inj) (a : Act) (w : World), ER ι e a.tmps → HR ι H w → Gap ι H H1 → ∀ (next : Act → World → Prop) (Q : Exit → Act → World → Prop),
    (∀ v' w' ι', VR ι' v v' → HR ι' H1 w' → Stp ι H w ι' H1 w' → next (a.put o.dst v') w') → o.wp P a w next Q
def Done (P : Program) (o : Oper) (e : List AV) (C : Ora) (n : Nat) (H : AH) (f : AV → Tree) (r : Res) : Prop :=
  ∃ v H1, run C n (f v) H1 = some r ∧ Grow H H1 ∧ OpS P o e H v H1
def PureS (P : Program) (o : Oper) (e : List AV) (v : AV) : Prop :=
  ∀ (ι : Inj) (a : Act) (w : World), ER ι e a.tmps → ∃ v', (execOp a.eval o).run P w = .ok (.value v') w ∧ VR ι v v'
def DoneP (P : Program) (o : Oper) (e : List AV) (C : Ora) (n : Nat) (H : AH) (f : AV → Tree) (r : Res) : Prop :=
  ∃ v, run C n (f v) H = some r ∧ PureS P o e v
section pure_ops
variable {P : Program} {T : TTab} {o : Oper} {e : List AV} {C : Ora} {n : Nat} {H : AH} {f : AV → Tree} {r : Res}
theorem Done.pure {v : AV} (h : run C n (f v) H = some r) (hp : ∀ ι (a : Act) (w : World), ER ι e a.tmps → HR ι H w → ∃ v', (execOp a.eval o).run P w = .ok (.value v') w ∧ VR ι v v') : Done P o e C n H f r := by
  refine ⟨v, H, h, Grow.refl _, fun ι a w he hh _ next Q k => ?_⟩
  obtain ⟨v', h1, h2⟩ := hp ι a w he hh
  unfold Oper.wp
  rw [h1]
  exact k v' w ι h2 hh (Stp.refl _ _ _)
theorem DoneP.of {v : AV} (h : run C n (f v) H = some r) (hp : ∀ ι (a : Act) (w : World), ER ι e a.tmps → True → ∃ v', (execOp a.eval o).run P w = .ok (.value v') w ∧ VR ι v v') : DoneP P o e C n H f r :=
  ⟨v, h, fun ι a w he => hp ι a w he trivial⟩
theorem DoneP.done (h : DoneP P o e C n H f r) : Done P o e C n H f r := by
  obtain ⟨v, h1, h2⟩ := h
  exact Done.pure h1 fun ι a w he _ => h2 ι a w he
theorem eqTD_sound {td : TD} {x y : Sc} {r : Bool} (h : eqTD td x y = some r) {P : Program} {t : Nat} {d : TypeDesc} (hu : P.underlying t = some d) (hd : tdm td d = true) {ι : Inj} {v v' : Value} (hx : SR ι x v) (hy : SR ι y v') (k : Nat) (w : World) :
    (Op.equalIn (k + 1) t v v').run P w = .ok r w := by
  unfold eqTD at h
  split at h
  · split at h
    · cases h; subst_vars
      cases tdm_int hd
      exact run_equalIn_int w _ t _ _ _ _ hu
    · cases h
  · cases h; cases hx; cases hy; cases tdm_bool hd; exact run_equalIn_bool w _ t _ _ hu
  · cases h; cases hx; cases hy; cases tdm_str hd; exact run_equalIn_string w _ t _ _ hu
  · cases h
theorem run_part_agg {P : Program} {t : Nat} {i : TI} (hi : tiOk P t i = true) (ha : isAggD i.d = true) (cs : Array Value) (off : Nat) (w : World) : (part t cs off).run P w = .ok (.agg (cs.extract off (off + i.size))) w := by
  simp [part, TI.run_agg hi, ha, TI.run_size hi]
theorem run_part_one {P : Program} {t : Nat} {i : TI} (hi : tiOk P t i = true) (ha : isAggD i.d = false) (cs : Array Value) (off : Nat) (v : Value) (hv : cs[off]? = some v) (w : World) : (part t cs off).run P w = .ok v w := by
  simp [part, TI.run_agg hi, ha, hv]
theorem eqF_sound {P : Program} {T : TTab} (hT : TOk P T) : ∀ (d t : Nat) (a b : List Sc) (r : Bool), eqF T d t a b = some r → ∀ (ι : Inj) (va vb : List Value), LR ι a va → LR ι b vb → ∀ (k : Nat) (w : World), d ≤ k →
    (∀ i fs, T.get t = some i → i.d = .struct fs → (Op.equalIn k t (.agg ⟨va⟩) (.agg ⟨vb⟩)).run P w = .ok r w) ∧
    (∀ i, T.get t = some i → isAggD i.d = false → ∃ x y, va = [x] ∧ vb = [y] ∧ (Op.equalIn k t x y).run P w = .ok r w) := by
  intro d
  induction d with
  | zero => intro t a b r h; simp [eqF] at h
  | succ d ih =>
    intro t a b r h ι va vb ha hb k w hk
    obtain ⟨k, rfl⟩ : ∃ m, k = m + 1 := ⟨k - 1, by omega⟩
    simp only [eqF] at h
    cases hg : T.get t with
    | none => rw [hg] at h; cases h
    | some i =>
      have hi := hT t i hg
      obtain ⟨dd, hu, hm⟩ := TI.und hi
      rw [hg] at h; dsimp only at h
      refine ⟨?_, ?_⟩
      · intro i' fs hi' hfs
        cases hi'
        rw [hfs] at h hm; dsimp only at h
        split at h
        case isFalse => cases h
        rename_i hlen
        obtain ⟨fa, rfl, hfa, hnm⟩ := tdm_struct hm
        have hf0 : P.fieldsOf t = fa := by simp [Program.fieldsOf, hu]
        rw [run_equalIn_struct w k t ⟨va⟩ ⟨vb⟩ (by rw [hf0]; exact hu) (TI.struct hi hfs).2, hf0]
        clear hf0 hm hu
        have key : ∀ (L : List Field) (r : Bool), eqFs T (eqF T d) (L.map fun f => (f.offset, f.type)) a b = some r → (∀ f ∈ L, f.name ≠ "_") → (Op.eqFields k ⟨va⟩ ⟨vb⟩ L).run P w = .ok r w := by
          intro L
          induction L with
          | nil => intro r h _; simp [eqFs] at h; subst h; rfl
          | cons fl L ihL =>
            intro r h hn
            simp only [List.map_cons, eqFs] at h
            cases hfg : T.get fl.type with
            | none => rw [hfg] at h; cases h
            | some fi =>
              rw [hfg] at h; dsimp only at h
              split at h
              case h_2 => cases h
              rename_i r1 s hr1 hs
              cases h
              have hfi := hT _ _ hfg
              have hA := ha.drop fl.offset |>.take fi.size
              have hB := hb.drop fl.offset |>.take fi.size
              obtain ⟨h1, h2⟩ := ih fl.type _ _ r1 hr1 ι _ _ hA hB k w (by omega)
              have hL := ihL s hs (fun g hg => hn g (by simp [hg]))
              simp only [Op.eqFields, if_pos (hn fl (by simp)), Sem.run_bind]
              have step : ∃ x y, (part fl.type ⟨va⟩ fl.offset).run P w = .ok x w ∧ (part fl.type ⟨vb⟩ fl.offset).run P w = .ok y w ∧ (Op.equalIn k fl.type x y).run P w = .ok r1 w := by
                cases hag : isAggD fi.d with
                | true =>
                  refine ⟨_, _, run_part_agg hfi hag _ _ w, run_part_agg hfi hag _ _ w, ?_⟩
                  have e1 : ∀ (l : List Value), (Array.mk l).extract fl.offset (fl.offset + fi.size) = ⟨(l.drop fl.offset).take fi.size⟩ := by
                    intro l; apply Array.ext'; simp
                  rw [e1, e1]
                  cases hfd : fi.d with
                  | struct fs' => exact h1 fi fs' hfg hfd
                  | arr nn ee => 
                    exfalso
                    cases d with
                    | zero => simp [eqF] at hr1
                    | succ d =>
                      simp only [eqF, hfg, hfd] at hr1
                      split at hr1
                      · simp [eqTD] at hr1
                      · cases hr1
                  | _ => rw [hfd] at hag; simp [isAggD] at hag
                | false =>
                  obtain ⟨x, y, hx, hy, he⟩ := h2 fi hfg hag
                  have g1 : ∀ (l : List Value) z, (l.drop fl.offset).take fi.size = [z] → (Array.mk l)[fl.offset]? = some z := by
                    intro l z hz
                    have : ((l.drop fl.offset).take fi.size)[0]? = some z := by rw [hz]; rfl
                    rw [List.getElem?_take] at this
                    split at this
                    · simpa using this
                    · cases this
                  exact ⟨x, y, run_part_one hfi hag _ _ x (g1 va x hx) w, run_part_one hfi hag _ _ y (g1 vb y hy) w, he⟩
              obtain ⟨x, y, hx, hy, he⟩ := step
              rw [hx]; simp only [Result.andThen_ok, hy, he]
              cases r1
              · simp
              · simp [hL]
        exact key fa.toList r (by rw [hfa]; exact h) hnm
      · intro i' hi' hag
        cases hi'
        split at h
        · rename_i fs hfs; rw [hfs] at hag; simp [isAggD] at hag
        · split at h
          · rename_i x y
            obtain ⟨v, l1, rfl, hx, h1⟩ := ha
            obtain ⟨v', l2, rfl, hy, h2⟩ := hb
            cases h1; cases h2
            exact ⟨v, v', rfl, rfl, eqTD_sound h hu hm hx hy k w⟩
          · cases h
end pure_ops
end Go.Proofs.YtdfpjhlckjognaaGreat.Fw
