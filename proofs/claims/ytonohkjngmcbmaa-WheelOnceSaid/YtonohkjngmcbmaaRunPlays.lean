/- The law WheelPlays: the run, from a heap with the deeds in it. -/
import Derived.Test.YtonohkjngmcbmaaLawPlays
import Derived.Test.YtonohkjngmcbmaaEx
import Derived.Test.YtonohkjngmcbmaaFwZe
namespace Go.Proofs.Ytonohkjngmcbmaa
open Go Go.Proofs.Ytonohkjngmcbmaa.Fw
theorem exH (c : List Sc) : (callA Try.prog T hs 200 8 [] (HA c)).map (fun r => (r.1, r.2.obj 0, decide (0 < r.2.next))) = some (.sc (.b true), some (.cells true c), true) := by kernel_rfl
theorem exH1 (c : List Sc) : (callA Try.prog T hs 200 8 [] (HA c)).map Prod.fst = some (.sc (.b true)) := by
  have := exH c
  cases h : callA Try.prog T hs 200 8 [] (HA c) with
  | none => rw [h] at this; cases this
  | some r => rw [h] at this; simp only [Option.map_some, Option.some.injEq, Prod.mk.injEq] at this ⊢; exact this.1
theorem exH2 {c : List Sc} {v : AV} {H' : AH} (h : callA Try.prog T hs 200 8 [] (HA c) = some (v, H')) : H'.obj 0 = some (.cells true c) ∧ 0 < H'.next := by
  have := exH c
  rw [h] at this
  simp only [Option.map_some, Option.some.injEq, Prod.mk.injEq, decide_eq_true_eq] at this
  exact ⟨this.2.1, this.2.2⟩
theorem dE_ok (x : List Sc) (h : All2 ScK [.i .u8, .i .i64, .i .i64, .i .u64, .b] x) : ∃ a : Deed, x = dE.e a := by
  obtain ⟨_, _, rfl, ⟨a, rfl, _⟩, _, _, rfl, ⟨b, rfl, _⟩, _, _, rfl, ⟨c, rfl, _⟩, _, _, rfl, ⟨d, rfl, _⟩, _, _, rfl, ⟨e, rfl⟩, rfl⟩ := h
  exact ⟨⟨a, b, c, d, e⟩, rfl⟩
theorem plays_run (o : Option SlD) (l : List Deed) (c : List Sc) (hst : ∀ H' : AH, H'.obj 0 = some (.cells true c) → 0 < H'.next → Star H' [.sl true dE o l]) :
    ∃ n H1, callA Try.prog T hs n 3 [.sc (.sl o)] (HA c) = some (.sc (.b true), H1) :=
  law_of (E := E) (L := [.sl true dE o l]) (Try.func3 : Try.prog.funcs[3]? = some Try.f3) (t3_eq _) (ex_of (exH1 c) fun _ H' h => hst H' (exH2 h).1 (exH2 h).2) plays_tri
end Go.Proofs.Ytonohkjngmcbmaa
