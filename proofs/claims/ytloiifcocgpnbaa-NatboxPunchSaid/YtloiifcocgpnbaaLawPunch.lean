/- Law Punch: every one of its 81 runs by the kernel. -/
import Derived.Test.YtloiifcocgpnbaaLawThrough
namespace Go.Proofs.Ytloiifcocgpnbaa
open Go Go.Proofs.Ytloiifcocgpnbaa.Fw
def pun (x y : Nat) : Bool := okR (callT TB 300 9 [.sc (.i .u8 x), .sc (.i .u8 y)] H0)
theorem pun0 : ((List.range 9).all fun y => pun 0 y) = true := by kernel_rfl
theorem pun1 : ((List.range 9).all fun y => pun 1 y) = true := by kernel_rfl
theorem pun2 : ((List.range 9).all fun y => pun 2 y) = true := by kernel_rfl
theorem pun3 : ((List.range 9).all fun y => pun 3 y) = true := by kernel_rfl
theorem pun4 : ((List.range 9).all fun y => pun 4 y) = true := by kernel_rfl
theorem pun5 : ((List.range 9).all fun y => pun 5 y) = true := by kernel_rfl
theorem pun6 : ((List.range 9).all fun y => pun 6 y) = true := by kernel_rfl
theorem pun7 : ((List.range 9).all fun y => pun 7 y) = true := by kernel_rfl
theorem pun8 : ((List.range 9).all fun y => pun 8 y) = true := by kernel_rfl
theorem pun_all : ∀ x, x < 9 → ∀ y, y < 9 → pun x y = true := by
  intro x hx y hy
  have hm : y ∈ List.range 9 := List.mem_range.2 hy
  obtain h | h | h | h | h | h | h | h | h : x = 0 ∨ x = 1 ∨ x = 2 ∨ x = 3 ∨ x = 4 ∨ x = 5 ∨ x = 6 ∨ x = 7 ∨ x = 8 := by omega
  · subst h; exact List.all_eq_true.1 pun0 y hm
  · subst h; exact List.all_eq_true.1 pun1 y hm
  · subst h; exact List.all_eq_true.1 pun2 y hm
  · subst h; exact List.all_eq_true.1 pun3 y hm
  · subst h; exact List.all_eq_true.1 pun4 y hm
  · subst h; exact List.all_eq_true.1 pun5 y hm
  · subst h; exact List.all_eq_true.1 pun6 y hm
  · subst h; exact List.all_eq_true.1 pun7 y hm
  · subst h; exact List.all_eq_true.1 pun8 y hm
theorem t9_mod {a b : Int} (ha : 0 ≤ a ∧ a < 256) (hb : 0 ≤ b ∧ b < 256) : t9 a b = t9 ((a.toNat % 9 : Nat) : Int) ((b.toNat % 9 : Nat) : Int) := by
  unfold t9
  rw [(u8mod ha).1, (u8mod ha).2, (u8mod hb).1, (u8mod hb).2]
theorem punch_run {a b : Int} (ha : 0 ≤ a ∧ a < 256) (hb : 0 ≤ b ∧ b < 256) : ∃ n H1, callA Try.prog T hs n 9 [.sc (.i .u8 a), .sc (.i .u8 b)] H0 = some (.sc (.b true), H1) := by
  obtain ⟨H1, h⟩ := okR_eq (pun_all (a.toNat % 9) (by omega) (b.toNat % 9) (by omega))
  refine ⟨300, H1, callT_sound (E := E) TB_ok 300 ?_⟩
  rw [← h]
  show callT TB (299 + 1) 9 _ H0 = callT TB (299 + 1) 9 _ H0
  have e : ∀ x y : Int, callT TB (299 + 1) 9 [.sc (.i .u8 x), .sc (.i .u8 y)] H0 = (match run (callT TB 299) 299 (t9 x y) H0 with | some ((0, [v]), H') => some (v, H') | _ => none) := fun x y => rfl
  rw [e, e, t9_mod ha hb]
end Go.Proofs.Ytloiifcocgpnbaa
