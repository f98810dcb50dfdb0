/- slices.Backward's own function (over ints) does what BackOk says. (TopLeases.) -/
import Derived.Test.YtdfpjhlckjognaaGreatGen
import Derived.RangeFuncBox
import Derived.RangeFuncLeaves
import Derived.Shelf.Abstract
import Derived.WalkKit
import Derived.OwnWalkIn
import Derived.TacticsInMore
import Derived.LoopNIn
import Derived.LoopIn
namespace Go.Proofs.YtdfpjhlckjognaaGreat
open Go Go.RowKit Go.Shelf Go.Proofs.YtdfpjhlckjognaaGreat.Fw
set_option maxRecDepth 100000 in
set_option maxHeartbeats 2000000 in
theorem back_ok : BackOk Tryz.prog 193 := by
  refine ⟨⟨Tryz.f193, Tryz.func193, by kernel_rfl, by kernel_rfl⟩, ?_⟩
  intro l B o len sv J W hlen hsv hcell h0 hY
  refine callsIn_of_wp Tryz.func193 rfl trivial ?_ rfl
  simp only [Tryz.ntmps193, List.size_toArray, List.length_cons, List.length_nil, Nat.reduceAdd, Nat.reduceSub, Array.replicate_succ, Array.replicate_zero, List.push_toArray, List.append_toArray, List.nil_append, List.cons_append]
  rcases hsv with ⟨rfl, rfl⟩ | ⟨a, c, rfl⟩
  · gi_wp2
    gi_loopw [3] (fun i wr => i = .int .i64 (-1) ∧ J 0 wr) (fun _ _ => 0)
    case atStart => exact ⟨rfl, h0⟩
    case round =>
      obtain ⟨rfl, hJs⟩ := hrel
      gi_wp2
      go_end0
      exact ⟨⟨_, rfl⟩, hJs⟩
  · gi_wp2
    gi_loopw [3] (fun i wr => ∃ k : Nat, k ≤ len ∧ i = .int .i64 ((len : Int) - 1 - k) ∧ J k wr) (fun i _ => (intOf i + 1).toNat)
    case atStart => exact ⟨0, Nat.zero_le _, by simp, h0⟩
    case round =>
      obtain ⟨k, hk, rfl, hJs⟩ := hrel
      by_cases hlt : k < len
      · obtain ⟨b, off, c', x, hc1, hc2, fn, tmps, assign, body, hy, hR⟩ := hY k wr hlt hJs
        rw [show ((len - 1 - k : Nat) : Int) = (len : Int) - 1 - (k : Int) by omega] at hy
        gi_wp2
        refine hR.mono ?_
        rintro e W3 ⟨rfl, hJ3⟩
        gi_wp2
        go_roundw
        case rel => exact ⟨k + 1, by omega, by simp; omega, hJ3⟩
        case measure => simp [intOf]; omega
      · obtain rfl : k = len := by omega
        gi_wp2
        go_end0
        exact ⟨⟨_, rfl⟩, hJs⟩
end Go.Proofs.YtdfpjhlckjognaaGreat
namespace Go.Proofs.YtdfpjhlckjognaaGreat
open Go Go.Proofs.YtdfpjhlckjognaaGreat.Fw
set_option maxRecDepth 100000
theorem look_all : ∀ {l : List (Nat × Hints)} {g : Nat} {h : Hints}, lookN l g = some h → (l.all fun x => x.2.back.all fun f => f == 193) = true → ∀ f, h.back.contains f = true → f = 193
  | [], _, _, h, _, _, _ => by cases h
  | (a, x) :: l, g, h, hl, ha, f, hf => by
    simp only [List.all_cons, Bool.and_eq_true] at ha
    simp only [lookN] at hl
    split at hl
    · cases hl
      have := List.all_eq_true.1 ha.1 f (by simpa using hf)
      simpa using this
    · exact look_all hl ha.2 f hf
theorem hl_all : (HL.all fun x => x.2.back.all fun f => f == 193) = true := by kernel_rfl
theorem hback : ∀ g f, (hs g).back.contains f = true → BackOk Tryz.prog f := by
  intro g f h
  unfold hs at h
  cases hl : lookN HL g with
  | none => rw [hl] at h; cases h
  | some x =>
    rw [hl] at h
    have := look_all hl hl_all f h
    subst this
    exact back_ok
end Go.Proofs.YtdfpjhlckjognaaGreat
