/- The law WheelOnce: the run, from a heap with the times in it. -/
import Derived.Test.YtonohkjngmcbmaaLawOnce
import Derived.Test.YtonohkjngmcbmaaRunPlays
namespace Go.Proofs.Ytonohkjngmcbmaa
open Go Go.Proofs.Ytonohkjngmcbmaa.Fw
/-- a byte, as a number that is one -/
def byE : Enc { n : Int // 0 ≤ n ∧ n < 256 } where
  z := 1
  e n := [.i .u8 n.1]
  len _ := rfl
theorem byE_ok (x : List Sc) (h : All2 ScK [.i .u8] x) : ∃ a, x = byE.e a := by
  obtain ⟨_, _, rfl, ⟨a, rfl, w⟩, rfl⟩ := h
  have hb : 0 ≤ a ∧ a < 256 := by
    simp [Lit.wf, IntKind.min, IntKind.max, IntKind.signed, IntKind.bits] at w
    omega
  exact ⟨⟨a, hb⟩, rfl⟩
theorem by_all (l : List { n : Int // 0 ≤ n ∧ n < 256 }) : byE.all l = u8E.all (l.map Subtype.val) := by simp [Enc.all, byE, u8E]
theorem by_star {H : AH} {o : Option SlD} {l : List { n : Int // 0 ≤ n ∧ n < 256 }} (h : Star H [.sl true byE o l]) : Star H [.sl true u8E o (l.map Subtype.val)] := by
  cases o with
  | none => obtain ⟨rfl, h'⟩ := Star.slN.1 h; exact Star.slN.2 ⟨rfl, h'⟩
  | some d =>
    obtain ⟨c, k, h⟩ := Star.slS.1 h
    exact Star.slS.2 ⟨c, ⟨k.z, by simpa using k.len, k.cap, k.fit, k.at_.trans (by_all l)⟩, h⟩
theorem once_run (o : Option SlD) (l : List { n : Int // 0 ≤ n ∧ n < 256 }) (c : List Sc) (hst : ∀ H' : AH, H'.obj 0 = some (.cells true c) → 0 < H'.next → Star H' [.sl true byE o l]) (stop : Int) (hs0 : 0 ≤ stop ∧ stop < 256) :
    ∃ n H1, callA Try.prog T hs n 4 [.sc (.sl o), .sc (.i .u8 stop)] (HA c) = some (.sc (.b true), H1) :=
  law_of (E := E) (L := [.sl true u8E o (l.map Subtype.val)]) (Try.func4 : Try.prog.funcs[4]? = some Try.f4) (t4_eq _ _) (ex_of (exH1 c) fun _ H' h => by_star (hst H' (exH2 h).1 (exH2 h).2))
    (once_tri (fun x hx => by obtain ⟨y, _, rfl⟩ := List.mem_map.1 hx; exact y.2) hs0)
end Go.Proofs.Ytonohkjngmcbmaa
