/- The law NatboxThrough: two types, each of nine: the runs of Fin. -/
import Derived.Test.YtloiifcocgpnbaaFin
namespace Go.Proofs.Ytloiifcocgpnbaa
open Go Go.Proofs.Ytloiifcocgpnbaa.Fw
theorem u8mod {x : Int} (h : 0 ≤ x ∧ x < 256) : IntKind.wrap .i64 (Int.tmod x 3) = IntKind.wrap .i64 (Int.tmod ((x.toNat % 9 : Nat) : Int) 3) ∧ IntKind.wrap .i64 (Int.tmod (IntKind.wrap .u8 (Int.tdiv x 3)) 3) = IntKind.wrap .i64 (Int.tmod (IntKind.wrap .u8 (Int.tdiv ((x.toNat % 9 : Nat) : Int) 3)) 3) := by
  obtain ⟨n, rfl⟩ := Int.eq_ofNat_of_zero_le h.1
  have hn : n < 256 := by omega
  have : ∀ n : Fin 256, IntKind.wrap .i64 (Int.tmod (n.1 : Int) 3) = IntKind.wrap .i64 (Int.tmod ((n.1 % 9 : Nat) : Int) 3) ∧ IntKind.wrap .i64 (Int.tmod (IntKind.wrap .u8 (Int.tdiv (n.1 : Int) 3)) 3) = IntKind.wrap .i64 (Int.tmod (IntKind.wrap .u8 (Int.tdiv ((n.1 % 9 : Nat) : Int) 3)) 3) := by decide +kernel
  exact this ⟨n, hn⟩
theorem t8_mod {a b : Int} (ha : 0 ≤ a ∧ a < 256) (hb : 0 ≤ b ∧ b < 256) : t8 a b = t8 ((a.toNat % 9 : Nat) : Int) ((b.toNat % 9 : Nat) : Int) := by
  unfold t8
  rw [(u8mod ha).1, (u8mod ha).2, (u8mod hb).1, (u8mod hb).2]
theorem through_run {a b : Int} (ha : 0 ≤ a ∧ a < 256) (hb : 0 ≤ b ∧ b < 256) : ∃ n H1, callA Try.prog T hs n 8 [.sc (.i .u8 a), .sc (.i .u8 b)] H0 = some (.sc (.b true), H1) := by
  obtain ⟨H1, h⟩ := okR_eq (thr_all (a.toNat % 9) (by omega) (b.toNat % 9) (by omega))
  refine ⟨300, H1, callT_sound (E := E) TB_ok 300 ?_⟩
  rw [← h]
  show callT TB (299 + 1) 8 _ H0 = callT TB (299 + 1) 8 _ H0
  have e : ∀ x y : Int, callT TB (299 + 1) 8 [.sc (.i .u8 x), .sc (.i .u8 y)] H0 = (match run (callT TB 299) 299 (t8 x y) H0 with | some ((0, [v]), H') => some (v, H') | _ => none) := fun x y => rfl
  rw [e, e, t8_mod ha hb]
end Go.Proofs.Ytloiifcocgpnbaa
