/- Law Through: every one of its 81 runs by the kernel. -/
import Derived.Test.YtloiifcocgpnbaaTT
namespace Go.Proofs.Ytloiifcocgpnbaa
open Go Go.Proofs.Ytloiifcocgpnbaa.Fw
def H0 : AH := ⟨0, fun _ => none⟩
def okR (r : Option (AV × AH)) : Bool := match r with | some (.sc (.b true), _) => true | _ => false
theorem okR_eq {r : Option (AV × AH)} (h : okR r = true) : ∃ H1, r = some (.sc (.b true), H1) := by
  unfold okR at h
  split at h
  · exact ⟨_, rfl⟩
  · cases h
def thr (x y : Nat) : Bool := okR (callT TB 300 8 [.sc (.i .u8 x), .sc (.i .u8 y)] H0)
theorem thr0 : ((List.range 9).all fun y => thr 0 y) = true := by kernel_rfl
theorem thr1 : ((List.range 9).all fun y => thr 1 y) = true := by kernel_rfl
theorem thr2 : ((List.range 9).all fun y => thr 2 y) = true := by kernel_rfl
theorem thr3 : ((List.range 9).all fun y => thr 3 y) = true := by kernel_rfl
theorem thr4 : ((List.range 9).all fun y => thr 4 y) = true := by kernel_rfl
theorem thr5 : ((List.range 9).all fun y => thr 5 y) = true := by kernel_rfl
theorem thr6 : ((List.range 9).all fun y => thr 6 y) = true := by kernel_rfl
theorem thr7 : ((List.range 9).all fun y => thr 7 y) = true := by kernel_rfl
theorem thr8 : ((List.range 9).all fun y => thr 8 y) = true := by kernel_rfl
theorem thr_all : ∀ x, x < 9 → ∀ y, y < 9 → thr x y = true := by
  intro x hx y hy
  have hm : y ∈ List.range 9 := List.mem_range.2 hy
  obtain h | h | h | h | h | h | h | h | h : x = 0 ∨ x = 1 ∨ x = 2 ∨ x = 3 ∨ x = 4 ∨ x = 5 ∨ x = 6 ∨ x = 7 ∨ x = 8 := by omega
  · subst h; exact List.all_eq_true.1 thr0 y hm
  · subst h; exact List.all_eq_true.1 thr1 y hm
  · subst h; exact List.all_eq_true.1 thr2 y hm
  · subst h; exact List.all_eq_true.1 thr3 y hm
  · subst h; exact List.all_eq_true.1 thr4 y hm
  · subst h; exact List.all_eq_true.1 thr5 y hm
  · subst h; exact List.all_eq_true.1 thr6 y hm
  · subst h; exact List.all_eq_true.1 thr7 y hm
  · subst h; exact List.all_eq_true.1 thr8 y hm
end Go.Proofs.Ytloiifcocgpnbaa
