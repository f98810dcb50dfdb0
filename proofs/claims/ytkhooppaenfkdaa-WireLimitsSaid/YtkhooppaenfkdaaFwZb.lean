/- From a run of the abstract machine to a call in the model: the arguments as they come in. -/
import Derived.Test.YtkhooppaenfkdaaFwZa
import Derived.Test.YtkhooppaenfkdaaFwW
import Derived.Below
set_option linter.unusedSimpArgs false
set_option linter.unusedVariables false
namespace Go.Proofs.Ytkhooppaenfkdaa.Fw
open Go Go.RowKit

/-- what has come in: objects that are read only -/
def Came (ι : Inj) (H : AH) (w : World) : Prop := HR ι H w ∧ (∀ id d, ι id = some d → d.ro = true) ∧ ∀ id, H.next ≤ id → ι id = none

theorem Came.none (w : World) : Came (fun _ => none) ⟨0, fun _ => none⟩ w :=
  ⟨⟨fun _ _ _ h => (by cases h), fun _ _ _ _ _ h => (by cases h), fun _ _ h => (by cases h), fun _ _ => rfl⟩, fun _ _ h => (by cases h), fun _ _ => rfl⟩

theorem calls_of {P : Program} {T : TTab} {hs : Nat → Hints} (hT : TOk P T) (hmix : P.follows .mixedOrders = true) (hodd : NoOdd P) {n : Nat} {f : FuncId} {args : List AV} {H H1 : AH} {b : Bool}
    (h : callA P T hs n f args H = some (.sc (.b b), H1)) {ι : Inj} {w : World} (hc : Came ι H w) {args' : List Value} (hv : VRs ι args args') :
    Calls P f ⟨args'⟩ w fun e w' => e = .returned (.bool b) ∧ Below w.heap.size w w' := by
  obtain ⟨hr, hro, hn⟩ := hc
  obtain ⟨_, ⟨hS, _⟩ | ⟨_, fn, s, _, _, _, _, hx, e⟩⟩ := callA_sound hT hmix hodd hs n _ _ _ _ _ h
  case inr => cases e; exact (extA_nb hx).elim
  refine (hS ι w args' hv hr (fun id a _ => hn id a)).mono fun e w' hh => ?_
  obtain ⟨ι', v', he, hvr, _, s⟩ := hh
  cases hvr
  exact ⟨he, s.io.1, s.io.2.2, s.io.2.1, s.sz, fun k hk => s.fr k hk (fun ⟨id, d, h1, _, _, h2, _⟩ => by rw [hro id d h1] at h2; cases h2)⟩
end Go.Proofs.Ytkhooppaenfkdaa.Fw
namespace Go.Proofs.Ytkhooppaenfkdaa.Fw
open Go
theorem CallWp.ofTri {E : Env} {f : FuncId} {fn : Func} {args : List AV} {t : Tree} {R : AV → AH → Prop} {H : AH} (hf : E.P.funcs[f]? = some fn) (ht : bodyK E.T (E.hs f) fn args = t)
    (h : Wp E t H fun r => r.1.1 = 0 ∧ ∃ v, r.1.2 = [v] ∧ R v r.2) : CallWp E f args H R :=
  CallWp.of hf ht (Wp.mono _ (fun r hr => by
    obtain ⟨⟨tag, l⟩, H'⟩ := r
    obtain ⟨h0, v, h1, h2⟩ := hr
    cases h0; cases h1; exact h2) h)
/-- a law: its examples have been run; behind them it comes to true -/
theorem law_of {E : Env} {f g : FuncId} {fn : Func} {args : List AV} {k : AV → Tree} {H : AH} {L : List Assn} (hf : E.P.funcs[f]? = some fn) (ht : bodyK E.T (E.hs f) fn args = .call g [] k)
    (hex : CallWp E g [] H fun v H' => v = .sc (.b true) ∧ Star H' L) (h : Tri E L (k (.sc (.b true))) (RQ [] fun v _ => v = .sc (.b true))) :
    ∃ n H1, callA E.P E.T E.hs n f args H = some (.sc (.b true), H1) := by
  have : CallWp E f args H (fun v _ => v = .sc (.b true)) := by
    refine CallWp.ofTri hf ht (hex.mono fun v H' hv => ?_)
    obtain ⟨rfl, hs⟩ := hv
    refine Wp.mono _ (fun r hr => ?_) (h.go H' hs)
    obtain ⟨L', ⟨h0, v, L1, h1, h2, h3⟩, h4⟩ := hr
    exact ⟨h0, v, h1, h2⟩
  obtain ⟨n, v, H1, h1, rfl⟩ := this
  exact ⟨n, H1, h1⟩
theorem ex_of {E : Env} {g : FuncId} {n : Nat} {H : AH} {L : List Assn} (h : (callA E.P E.T E.hs n g [] H).map Prod.fst = some (.sc (.b true))) (hl : ∀ v H', callA E.P E.T E.hs n g [] H = some (v, H') → Star H' L) : CallWp E g [] H fun v H' => v = .sc (.b true) ∧ Star H' L := by
  cases hc : callA E.P E.T E.hs n g [] H with
  | none => rw [hc] at h; cases h
  | some r =>
    obtain ⟨v, H'⟩ := r
    rw [hc] at h
    simp only [Option.map_some, Option.some.injEq] at h
    exact ⟨n, v, H', hc, h, hl v H' hc⟩
end Go.Proofs.Ytkhooppaenfkdaa.Fw
