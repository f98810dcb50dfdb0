/- A law's run: from its tree on a known heap. -/
import Derived.Test.YtkhooppaenfkdaaFwZj
set_option linter.unusedVariables false
set_option linter.unusedSimpArgs false
namespace Go.Proofs.Ytkhooppaenfkdaa.Fw
open Go
/-- a byte, as a number that is one -/
abbrev By := { n : Int // 0 ≤ n ∧ n < 256 }
def byE : Enc By where
  z := 1
  e n := [.i .u8 n.1]
  len _ := rfl
theorem byE_ok (x : List Sc) (h : All2 ScK [.i .u8] x) : ∃ a, x = byE.e a := by
  obtain ⟨_, _, rfl, ⟨a, rfl, w⟩, rfl⟩ := h
  have hb : 0 ≤ a ∧ a < 256 := by
    simp [Lit.wf, IntKind.min, IntKind.max, IntKind.signed, IntKind.bits] at w
    omega
  exact ⟨⟨a, hb⟩, rfl⟩
section
variable {E : Env}
abbrev RT : AV → List Assn → Prop := fun v _ => v = .sc (.b true)
abbrev WT : Res → Prop := fun r => r.1.1 = 0 ∧ ∃ v, r.1.2 = [v] ∧ v = .sc (.b true)
theorem law_fin {f : FuncId} {fn : Func} {args : List AV} {t : Tree} {H : AH} (hf : E.P.funcs[f]? = some fn) (ht : bodyK E.T (E.hs f) fn args = t) (h : Wp E t H WT) :
    ∃ n H1, callA E.P E.T E.hs n f args H = some (.sc (.b true), H1) := by
  obtain ⟨n, v, H1, h1, rfl⟩ := CallWp.ofTri (R := fun v _ => v = .sc (.b true)) hf ht h
  exact ⟨n, H1, h1⟩
theorem Tri.fin {L : List Assn} {t : Tree} {H : AH} (h : Tri E L t (RQ [] RT)) (hs : Star H L) : Wp E t H WT :=
  Wp.mono _ (fun r hr => by
    obtain ⟨L', ⟨h0, v, L1, h1, h2, h3⟩, h4⟩ := hr
    exact ⟨h0, v, h1, h2⟩) (h.go H hs)
theorem Star.nil (H : AH) : Star H [] := trivial
theorem Star.cons {H : AH} {id : Nat} {o : AO} {L : List Assn} (ho : H.obj id = some o) (hn : id < H.next) (hL : StarU H (fun i => i = id) L) : Star H (.ob id o :: L) := by
  refine ⟨one id o, rfl, fun i x hi => ?_, StarU.weak (fun i hi => ?_) hL⟩
  · simp only [one] at hi
    split at hi
    · rename_i e; cases hi; subst e; exact ⟨ho, hn, fun h => h⟩
    · cases hi
  · rcases hi with hi | hi
    · exact hi.elim
    · simp only [one] at hi
      split at hi
      · assumption
      · exact absurd rfl hi
theorem Star.one_ {H : AH} {id : Nat} {o : AO} (ho : H.obj id = some o) (hn : id < H.next) : Star H [.ob id o] := Star.cons ho hn trivial
theorem Star.two_ {H : AH} {id id' : Nat} {o o' : AO} (hne : id' ≠ id) (ho : H.obj id = some o) (hn : id < H.next) (ho' : H.obj id' = some o') (hn' : id' < H.next) : Star H [.ob id o, .ob id' o'] := by
  refine Star.cons ho hn ⟨one id' o', rfl, fun i x hi => ?_, trivial⟩
  simp only [one] at hi
  split at hi
  · rename_i e; cases hi; subst e; exact ⟨ho', hn', hne⟩
  · cases hi
/-- what the examples leave, by a run of the kernel's -/
theorem ex_w1 {g n : Nat} {h : Nat → Option AO} (hx : (callA E.P E.T E.hs n g [] ⟨1, h⟩).map (fun r => (r.1, r.2.obj 0, decide (0 < r.2.next))) = some (.sc (.b true), h 0, true)) :
    CallWp E g [] ⟨1, h⟩ fun v H' => v = .sc (.b true) ∧ H'.obj 0 = h 0 ∧ 0 < H'.next := by
  cases hc : callA E.P E.T E.hs n g [] ⟨1, h⟩ with
  | none => rw [hc] at hx; cases hx
  | some r =>
    rw [hc] at hx
    simp only [Option.map_some, Option.some.injEq, Prod.mk.injEq, decide_eq_true_eq] at hx
    exact ⟨n, r.1, r.2, hc, hx.1, hx.2.1, hx.2.2⟩
theorem ex_w2 {g n : Nat} {h : Nat → Option AO} (hx : (callA E.P E.T E.hs n g [] ⟨2, h⟩).map (fun r => (r.1, r.2.obj 0, r.2.obj 1, decide (1 < r.2.next))) = some (.sc (.b true), h 0, h 1, true)) :
    CallWp E g [] ⟨2, h⟩ fun v H' => v = .sc (.b true) ∧ H'.obj 0 = h 0 ∧ H'.obj 1 = h 1 ∧ 1 < H'.next := by
  cases hc : callA E.P E.T E.hs n g [] ⟨2, h⟩ with
  | none => rw [hc] at hx; cases hx
  | some r =>
    rw [hc] at hx
    simp only [Option.map_some, Option.some.injEq, Prod.mk.injEq, decide_eq_true_eq] at hx
    exact ⟨n, r.1, r.2, hc, hx.1, hx.2.1, hx.2.2.1, hx.2.2.2⟩
end
end Go.Proofs.Ytkhooppaenfkdaa.Fw
