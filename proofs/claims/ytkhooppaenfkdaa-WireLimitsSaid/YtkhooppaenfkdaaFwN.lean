/- Regions whose order is drawn: what is got from the one order, and what it asks. -/
import Derived.Test.YtkhooppaenfkdaaFwM
import Derived.Orders
set_option linter.unusedSimpArgs false
set_option linter.unusedVariables false
namespace Go.Proofs.Ytkhooppaenfkdaa.Fw
open Go

/-! #### an operation sees its operands alone -/
def maskE (S : List Nat) (e : List AV) : List AV := (List.range e.length).map fun t => if S.contains t then e.getD t .un else .un
theorem maskE_length (S : List Nat) (e : List AV) : (maskE S e).length = e.length := by simp [maskE]
theorem maskE_get (S : List Nat) (e : List AV) (t : Nat) : (maskE S e).getD t .un = if S.contains t then e.getD t .un else .un := by
  by_cases h : t < e.length
  · simp [maskE, List.getD, h]
  · have h1 : (maskE S e).getD t .un = .un := by rw [List.getD, List.getElem?_eq_none (by rw [maskE_length]; omega)]; rfl
    have h2 : e.getD t .un = .un := by rw [List.getD, List.getElem?_eq_none (by omega)]; rfl
    rw [h1, h2]; simp

theorem opK_congr {T : TTab} {e e' : List AV} {o : Oper} (h : ∀ x ∈ o.op.operands.toList, ev e x = ev e' x) (f : AV → Tree) : opK T e o f = opK T e' o f := by
  have hl : ∀ l : List Operand, (∀ x ∈ l, ev e x = ev e' x) → evs e l = evs e' l := fun l hl => List.map_congr_left hl
  have hp : ∀ ps : Array (Nat × Operand), (∀ x ∈ ps.toList.map (·.2), ev e x = ev e' x) → (ps.toList.map fun p => (p.1, ev e p.2)) = (ps.toList.map fun p => (p.1, ev e' p.2)) := by
    intro ps hps
    apply List.map_congr_left
    intro p hp
    rw [hps p.2 (List.mem_map.2 ⟨p, hp, rfl⟩)]
  have ho : ∀ x : Option Operand, (∀ y ∈ x.toList, ev e y = ev e' y) → optI e x = optI e' x := by
    intro x hx
    cases x with
    | none => rfl
    | some y => simp only [optI, hx y (by simp)]
  cases hop : o.op with
  | move x => simp only [hop, Op.operands] at h; simp only [opK, hop]; rw [h x (by simp)]
  | assign x => simp only [hop, Op.operands] at h; simp only [opK, hop]; rw [h x (by simp)]
  | pick c a b => simp only [hop, Op.operands] at h; simp only [opK, hop]; rw [h c (by simp), h a (by simp), h b (by simp)]
  | box t x => simp only [hop, Op.operands] at h; simp only [opK, hop]; rw [h x (by simp)]
  | build t ps =>
    simp only [hop, Op.operands] at h
    have := hp ps (fun x hx => h x (by simpa using hx))
    simp only [opK, hop]; rw [this]
  | buildSlice t n ps =>
    simp only [hop, Op.operands] at h
    have := hp ps (fun x hx => h x (by simpa using hx))
    simp only [opK, hop]; rw [this]
  | load t a => simp only [hop, Op.operands] at h; simp only [opK, hop]; rw [h a (by simp)]
  | store t a x => simp only [hop, Op.operands] at h; simp only [opK, hop]; rw [h a (by simp), h x (by simp)]
  | nilCheck x => simp only [hop, Op.operands] at h; simp only [opK, hop]; rw [h x (by simp)]
  | binOp op t x y t' => simp only [hop, Op.operands] at h; simp only [opK, hop]; rw [h x (by simp), h y (by simp)]
  | unOp op t x => simp only [hop, Op.operands] at h; simp only [opK, hop]; rw [h x (by simp)]
  | convert s d x => simp only [hop, Op.operands] at h; simp only [opK, hop]; rw [h x (by simp)]
  | makeFunc fn fs cs =>
    simp only [hop, Op.operands] at h
    cases fn <;> simp only [opK, hop]
    rw [hl fs.toList (fun x hx => h x (by simp; left; simpa using hx)), hl cs.toList (fun x hx => h x (by simp; right; simpa using hx))]
  | makeSlice t l c => simp only [hop, Op.operands] at h; simp only [opK, hop]; rw [h l (by simp), h c (by simp)]
  | slice t x lo hi mx =>
    simp only [hop, Op.operands] at h
    simp only [opK, hop]
    rw [h x (by simp), ho lo (fun y hy => h y (by simp at hy ⊢; simp [hy])), ho hi (fun y hy => h y (by simp at hy ⊢; simp [hy])), ho mx (fun y hy => h y (by simp at hy ⊢; simp [hy]))]
  | fieldAddr t x j => simp only [hop, Op.operands] at h; simp only [opK, hop]; rw [h x (by simp)]
  | field t x j => simp only [hop, Op.operands] at h; simp only [opK, hop]; rw [h x (by simp)]
  | indexAddr t x j => simp only [hop, Op.operands] at h; simp only [opK, hop]; rw [h x (by simp), h j (by simp)]
  | index t x j => simp only [hop, Op.operands] at h; simp only [opK, hop]; rw [h x (by simp), h j (by simp)]
  | extract x j => simp only [hop, Op.operands] at h; simp only [opK, hop]; rw [h x (by simp)]
  | range t x => simp only [hop, Op.operands] at h; simp only [opK, hop]; rw [h x (by simp)]
  | next x b =>
    simp only [hop, Op.operands] at h
    cases b
    · simp only [opK, hop]
    · simp only [opK, hop]; rw [h x (by simp)]
  | call c =>
    simp only [hop, Op.operands, Call.operands] at h
    have ha : evs e c.args.toList = evs e' c.args.toList := hl _ (fun x hx => h x (by simp; right; simpa using hx))
    cases hc : c.callee with
    | builtin b => simp only [opK, hop, hc]; rw [ha]
    | value g => rw [hc] at h; simp only [opK, hop, hc]; rw [ha, h g (by simp)]
    | invoke a b => simp only [opK, hop, hc]
  | _ => simp only [opK, hop]

theorem ev_mask {ops : List Oper} {o : Oper} {e : List AV} : ∀ x ∈ o.op.operands.toList, ev e x = ev (maskE (readsG ops o) e) x := by
  intro x hx
  cases x with
  | tmp t =>
    simp only [ev]
    rw [maskE_get, if_pos]
    have : t ∈ readsG ops o := by
      unfold readsG readsOf
      exact List.mem_append.2 (.inl (List.mem_filterMap.2 ⟨.tmp t, hx, rfl⟩))
    simpa using this
  | _ => rfl
theorem wantedA_mask {ops : List Oper} {o : Oper} {e : List AV} : wantedA ops (maskE (readsG ops o) e) o = wantedA ops e o := by
  unfold wantedA
  cases hg : o.guard with
  | none => rfl
  | some g =>
    dsimp only
    cases hd : dstOf ops g.1 with
    | none => rfl
    | some t =>
      dsimp only
      rw [maskE_get, if_pos]
      unfold readsG
      rw [hg]; simp [hd]

end Go.Proofs.Ytkhooppaenfkdaa.Fw
