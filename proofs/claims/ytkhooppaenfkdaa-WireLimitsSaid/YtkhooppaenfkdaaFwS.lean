/- Regions, whole; then code. -/
import Derived.Test.YtkhooppaenfkdaaFwR
import Derived.Scope
import Derived.ScopeJumps
set_option linter.unusedSimpArgs false
set_option linter.unusedVariables false
set_option linter.unusedSectionVars false
namespace Go.Proofs.Ytkhooppaenfkdaa.Fw
open Go

section
variable {P : Program} {T : TTab} {C : Ora} {n : Nat}

theorem StepF.grow {ops : List Oper} {o : Oper} {H H' : AH} {e e' : List AV} {v : AV} {wd : Bool} (s : StepF P ops o H H' e e' v wd) : Grow H H' := by
  cases hw : wd with
  | false => rw [(s.skip hw).2]; exact Grow.refl _
  | true =>
    cases hc : clsOf o with
    | pure => rw [(s.pur hw hc).1]; exact Grow.refl _
    | load => rw [(s.load hw hc).1]; exact Grow.refl _
    | alloc => obtain ⟨l, h, _⟩ := s.alloc hw hc; rw [h]; exact Grow.new _ _
    | eff => exact (s.eff hw hc).1

/-- what a piece of code does, from heap H to H1, slots e to e1 -/
def WP (P : Program) (e : List AV) (H : AH) (e1 : List AV) (H1 : AH) (X : Act → World → (Act → World → Inj → Prop) → Prop) : Prop := True

theorem region_sound (hT : TOk P T) (hC : OraOk P C) (hmix : P.follows .mixedOrders = true) {id : Nat} {ops : Array Oper} {draw : Bool} {e : List AV} {H : AH} {f : List AV → Tree} {r : Res} (h : run C n (regionK T ops.toList draw e f) H = some r) :
    ∃ e1 H1, run C n (f e1) H1 = some r ∧ Grow H H1 ∧ ∀ (ι : Inj) (a : Act) (w : World), ER ι e a.tmps → HR ι H w → Gap ι H H1 → ∀ (Q : Exit → Act → World → Prop),
      (∀ a' w' ι', AEq a a' → ER ι' e1 a'.tmps → HR ι' H1 w' → Stp ι H w ι' H1 w' → Q .normal a' w') → (Code.region id ops draw).wp P Q a w := by
  unfold regionK at h
  cases draw with
  | false =>
    simp only [Bool.false_eq_true, if_false] at h
    obtain ⟨e1, H1, h1, h2, h3⟩ := opsK_sound hT hC ops ops.toList 0 e H f r h
    exact ⟨e1, H1, h1, h2, fun ι a w he hh g Q k => wp_region_list (h3 ι a w he hh g Q k)⟩
  | true =>
    simp only [if_true] at h
    split at h
    case isFalse => simp [run] at h
    rename_i hok
    generalize hL : eager (aheads ops.toList) ops.toList ops.toList.length (List.range ops.toList.length) [] = L at h hok
    have ok := OkD.of hok
    obtain ⟨Hs, es, vs, wd, h0, h0', hr, h1, _, h3⟩ := opsD_run hT hC L [] e H h
    have grow : ∀ p, p ≤ L.length → Grow (Hs 0) (Hs p) := by
      intro p
      induction p with
      | zero => intro _; exact Grow.refl _
      | succ p ih =>
        intro hp
        obtain ⟨o, _, s⟩ := h1 p L[p] (by simp)
        exact (ih (by omega)).trans s.grow
    refine ⟨es L.length, Hs L.length, hr, by rw [← h0]; exact grow _ (Nat.le_refl _), fun ι a w he hh g Q k => ?_⟩
    refine wp_region_draw fun t => ?_
    have hsch : Region.schedule (P.follows .mixedOrders) ops t = Region.linearise .any ops t := by unfold Region.schedule; simp [hmix]
    rw [hsch]
    unfold Region.linearise
    refine wpAny_sound _ _ _ _ _ ?_
    let c : Ctx := ⟨P, ops, aheads ops.toList, L, Hs, es, vs, wd, fun p => ops.getD (L.getD p 0) ⟨none, .move (.func 0), 0, "", #[], none⟩⟩
    have hget : ∀ p, p < L.length → L[p]? = some (L.getD p 0) := by intro p hp; simp [List.getD, hp]
    have hop : ∀ p, p < L.length → ∀ o, ops[L.getD p 0]? = some o → c.op p = o := by
      intro p hp o ho
      show ops.getD (L.getD p 0) _ = o
      rw [Array.getD_eq_getD_getElem?, ho]; rfl
    have hc : CtxOk c := by
      refine ⟨by show ∀ id, (Hs 0).next ≤ id → (Hs 0).obj id = none; rw [h0]; exact hh.fut, ok, ?_, ?_, ?_⟩
      · intro p hp
        obtain ⟨o, ho, _⟩ := h1 p _ (hget p hp)
        have ho : ops[L.getD p 0]? = some o := by simpa using ho
        rw [hop p hp o ho]; exact ho
      · intro p hp
        obtain ⟨o, ho, s⟩ := h1 p _ (hget p hp)
        have ho : ops[L.getD p 0]? = some o := by simpa using ho
        rw [hop p hp o ho]; exact s
      · intro p hp hw hcl
        obtain ⟨o, ho, s⟩ := h1 p _ (hget p hp)
        have ho' : ops[L.getD p 0]? = some o := by simpa using ho
        rw [hop p hp o ho'] at hcl ⊢
        obtain ⟨q, l, x, a1, a2, a3, a4⟩ := h3 p _ o (hget p hp) ho hw hcl
        refine ⟨q, l, x, a1, a2, a3, fun p' hp1 hp2 hw' hcl' ht => ?_⟩
        obtain ⟨o', ho2, _⟩ := h1 p' _ (hget p' hp2)
        have ho2' : ops[L.getD p' 0]? = some o' := by simpa using ho2
        rw [hop p' hp2 o' ho2'] at hcl'
        exact a4 p' _ o' hp1 (hget p' hp2) ho2 hw' hcl' ht
    have g0 : Gap ι (c.Hs 0) (c.Hs c.N) := by show Gap ι (Hs 0) (Hs L.length); rw [h0]; exact g
    have hh0 : HR ι (c.Hs 0) { w with drawn := w.drawn + 1 } := by show HR ι (Hs 0) _; rw [h0]; exact hh.same_heap rfl
    obtain ⟨τ, I⟩ := Inv.init hc (a0 := a) g0 (by show ER ι (es 0) a.tmps; rw [h0']; exact he) hh0
    refine any_order hc g0 (w0 := { w with drawn := w.drawn + 1 }) (fun a' w' ι' x1 x2 x3 x4 => ?_) ops.size (List.range ops.size) _ τ ι a _ I (by simp) (fun i hi _ => by simpa using hi)
    refine k a' w' ι' x1 x2 x3 ?_
    have x4 : Stp ι (Hs 0) { w with drawn := w.drawn + 1 } ι' (Hs L.length) w' := x4
    rw [h0] at x4
    exact (Stp.same_heap (w := w) (w' := { w with drawn := w.drawn + 1 }) ⟨rfl, rfl, rfl, rfl⟩).trans x4 g
end
end Go.Proofs.Ytkhooppaenfkdaa.Fw
