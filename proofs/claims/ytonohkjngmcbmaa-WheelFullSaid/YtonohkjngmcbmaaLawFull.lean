/- The law WheelFull on the abstract machine. -/
import Derived.Test.YtonohkjngmcbmaaSpecY
import Derived.Test.YtonohkjngmcbmaaEx
import Derived.Test.YtonohkjngmcbmaaTreeE
namespace Go.Proofs.Ytonohkjngmcbmaa
open Go Go.Proofs.Ytonohkjngmcbmaa.Fw
set_option linter.unusedVariables false
set_option linter.unusedSimpArgs false

def flT (n j : Nat) : Tm := ⟨((j % 16 : Nat) : Int), j, (n : Int) - j⟩
def fl (n i : Nat) : List Tm := (List.range i).map (flT n)
theorem fl_length (n i : Nat) : (fl n i).length = i := by simp [fl]
theorem fl_succ (n i : Nat) : fl n (i + 1) = fl n i ++ [flT n i] := by simp [fl, List.range_succ]
theorem fl_has {n i k : Nat} (h : i ≤ k) (q : Int) : has (fl n i) q k = false := by
  have : idx (fl n i) q k = (fl n i).length := by
    refine idx_none fun j x hj hx => ?_
    obtain ⟨hj', rfl⟩ := List.getElem?_eq_some_iff.1 hx
    simp [fl, flT, isT]
    intro _ h'
    simp [fl] at hj
    omega
  simp [has, this]
theorem fl_set {n i : Nat} (hi : i < 266) (m : Nat) (hm : m = min i 256) : setT (fl n m) ((i % 16 : Nat) : Int) i ((n : Int) - i) = if i < 256 then (0, fl n (i + 1)) else (4, fl n 256) := by
  have hok : okT ((i % 16 : Nat) : Int) i = true := by simp [okT]; omega
  have hh : has (fl n m) ((i % 16 : Nat) : Int) i = false := fl_has (by omega) _
  unfold setT
  rw [hok, hh, rmv_of_not hh, fl_length]
  by_cases h : i < 256
  · have : m = i := by omega
    subst this
    rw [if_neg (by simp), if_neg (by simp; omega), if_pos h, fl_succ]; rfl
  · have : m = 256 := by omega
    subst this
    rw [if_neg (by simp), if_pos (by simp), if_neg h]
def lastL (n : Nat) : List Tm := rmv (fl n 256) 3 3 ++ [⟨3, 3, 0⟩]
theorem idx3 (n : Nat) : idx (fl n 256) 3 3 = 3 := by
  refine idx_at (x := flT n 3) (fun i x hi hx => ?_) (by simp [fl]) (by simp [isT, flT])
  obtain ⟨hj', rfl⟩ := List.getElem?_eq_some_iff.1 hx
  simp [fl, flT, isT]
  omega
theorem last_set (n : Nat) : setT (fl n 256) 3 3 0 = (0, lastL n) := by
  have hh : has (fl n 256) 3 3 = true := by simp [has, idx3, fl_length]
  unfold setT
  rw [hh, if_neg (by decide), if_neg (by simp)]; rfl
theorem last_length (n : Nat) : (lastL n).length = 256 := by
  simp [lastL, rmv, idx3, List.length_eraseIdx, fl_length]
theorem last_first {n : Nat} (hn : 256 ≤ n) : ∃ r, ssort Tm.at_ (lastL n) = ⟨3, 3, 0⟩ :: r := by
  have hs := stb_ssort (κ := Tm.at_) (lastL n)
  have hm : (⟨3, 3, 0⟩ : Tm) ∈ ssort Tm.at_ (lastL n) := (hs.mem _).2 (by simp [lastL])
  cases hc : ssort Tm.at_ (lastL n) with
  | nil => rw [hc] at hm; cases hm
  | cons x r =>
    rw [hc] at hm hs
    have h0 : x.at_ ≤ 0 := by
      cases hm with
      | head => simp
      | tail _ h => exact (List.pairwise_cons.1 hs.1).1 _ h
    have hx : x ∈ lastL n := (hs.mem x).1 (by simp)
    rcases List.mem_append.1 hx with hx | hx
    · have hx : x ∈ fl n 256 := List.mem_of_mem_eraseIdx hx
      simp only [fl, List.mem_map, List.mem_range] at hx
      obtain ⟨j, hj, rfl⟩ := hx
      simp only [flT] at h0
      omega
    · simp at hx; exact ⟨r, by rw [hx]⟩

set_option maxHeartbeats 4000000 in
theorem full_run (a : Int) (ha : 0 ≤ a ∧ a < 256) : ∃ n H1, callA Try.prog T hs n 5 [.sc (.i .u8 a)] H0 = some (.sc (.b true), H1) := by
  refine law_of (E := E) (L := []) (Try.func5 : Try.prog.funcs[5]? = some Try.f5) (t5_eq _) (ex_of ex0 fun _ _ _ => trivial) ?_
  have ht : Int.tmod a 10 = a % 10 := Int.tmod_eq_emod_of_nonneg ha.1
  rw [ht, wr_i64 (n := a % 10) (by omega) (by omega), wr_i64 (by omega) (by omega)]
  obtain ⟨n, hn⟩ : ∃ n : Nat, (256 : Int) + a % 10 = n := ⟨((256 : Int) + a % 10).toNat, by omega⟩
  have hn1 : 256 ≤ n ∧ n ≤ 265 := by omega
  rw [hn]
  repeat (first|refine wa ?_|refine wb ?_|refine wc ?_|refine wd ?_|refine we ?_|refine wf ?_|refine wg ?_|refine wh rfl ?_|refine wi rfl ?_|refine wj rfl ?_|refine wk rfl ?_|refine wl rfl ?_|refine wm (by decide) ?_|refine wn ?_|refine wo ?_|refine wp (by decide) ?_|(apply Tri.ldE; (first|exact K0|exact K1|exact K2|exact K3|exact K4|exact K5|exact K6|exact K7|exact K8|exact K9|exact K10|exact K11); (exact rfl); (exact wz rfl))|(apply Tri.stE; (first|exact K0|exact K1|exact K2|exact K3|exact K4|exact K5|exact K6|exact K7|exact K8|exact K9|exact K10|exact K11); (exact rfl); (exact wz rfl))|(apply Tri.same; (first|exact K0|exact K1|exact K2|exact K3|exact K4|exact K5|exact K6|exact K7|exact K8|exact K9|exact K10|exact K11); (exact rfl); (exact wz rfl))|refine wq fun _ => ?_)
  refine Tri.cndF rfl ?_
  refine Tri.call new_spec (by repeat (first|exact Picks.nil|(apply Picks.cons; (first|exact K0|exact K1|exact K2|exact K3|exact K4|exact K5|exact K6|exact K7|exact K8|exact K9|exact K10|exact K11)))) ?_
  rintro v L' ⟨p, rfl, rfl⟩
  simp only [List.cons_append, List.nil_append]
  repeat (first|refine wa ?_|refine wb ?_|refine wc ?_|refine wd ?_|refine we ?_|refine wf ?_|refine wg ?_|refine wh rfl ?_|refine wi rfl ?_|refine wj rfl ?_|refine wk rfl ?_|refine wl rfl ?_|refine wm (by decide) ?_|refine wn ?_|refine wo ?_|refine wp (by decide) ?_|(apply Tri.ldE; (first|exact K0|exact K1|exact K2|exact K3|exact K4|exact K5|exact K6|exact K7|exact K8|exact K9|exact K10|exact K11); (exact rfl); (exact wz rfl))|(apply Tri.stE; (first|exact K0|exact K1|exact K2|exact K3|exact K4|exact K5|exact K6|exact K7|exact K8|exact K9|exact K10|exact K11); (exact rfl); (exact wz rfl))|(apply Tri.same; (first|exact K0|exact K1|exact K2|exact K3|exact K4|exact K5|exact K6|exact K7|exact K8|exact K9|exact K10|exact K11); (exact rfl); (exact wz rfl))|refine wq fun _ => ?_)
  refine Tri.cndF rfl ?_
  refine Tri.brT rfl ?_
  refine Tri.loop (I := fun k l' L => ∃ (i : Nat), k = n - i ∧ i ≤ n ∧
    l' = [.sc (.b true), .sc (.p (some (p, 0))), .sc (.i .i64 n), .sc (.i .i64 i)] ∧ L = [Wh p (fl n (min i 256))]) ⟨0, rfl, Nat.zero_le _, rfl, rfl⟩ (Sub.refl _) ?_
  rintro k l' L ⟨i, rfl, hi, rfl, rfl⟩
  repeat (first|refine wa ?_|refine wb ?_|refine wc ?_|refine wd ?_|refine we ?_|refine wf ?_|refine wg ?_|refine wh rfl ?_|refine wi rfl ?_|refine wj rfl ?_|refine wk rfl ?_|refine wl rfl ?_|refine wm (by decide) ?_|refine wn ?_|refine wo ?_|refine wp (by decide) ?_|(apply Tri.ldE; (first|exact K0|exact K1|exact K2|exact K3|exact K4|exact K5|exact K6|exact K7|exact K8|exact K9|exact K10|exact K11); (exact rfl); (exact wz rfl))|(apply Tri.stE; (first|exact K0|exact K1|exact K2|exact K3|exact K4|exact K5|exact K6|exact K7|exact K8|exact K9|exact K10|exact K11); (exact rfl); (exact wz rfl))|(apply Tri.same; (first|exact K0|exact K1|exact K2|exact K3|exact K4|exact K5|exact K6|exact K7|exact K8|exact K9|exact K10|exact K11); (exact rfl); (exact wz rfl))|refine wq fun _ => ?_)
  refine Tri.cnd (fun hc => ?_) (fun hc => ?_)
  · have hc : i < n := by simp at hc; omega
    refine Tri.brT rfl ?_
    rw [wr_i64 (n := (n : Int) - i) (by omega) (by omega), wr_u64 (by omega) (by omega), Int.tmod_eq_emod_of_nonneg (by omega), show (i : Int) % 16 = ((i % 16 : Nat) : Int) by omega]
    refine Tri.call (set_spec (l := fl n (min i 256)) (by rw [fl_length]; omega)) (by repeat (first|exact Picks.nil|(apply Picks.cons; (first|exact K0|exact K1|exact K2|exact K3|exact K4|exact K5|exact K6|exact K7|exact K8|exact K9|exact K10|exact K11)))) ?_
    rw [fl_set (by omega) _ rfl]
    rintro v L' ⟨rfl, rfl⟩
    simp only [List.cons_append, List.nil_append]
    repeat (first|refine wa ?_|refine wb ?_|refine wc ?_|refine wd ?_|refine we ?_|refine wf ?_|refine wg ?_|refine wh rfl ?_|refine wi rfl ?_|refine wj rfl ?_|refine wk rfl ?_|refine wl rfl ?_|refine wm (by decide) ?_|refine wn ?_|refine wo ?_|refine wp (by decide) ?_|(apply Tri.ldE; (first|exact K0|exact K1|exact K2|exact K3|exact K4|exact K5|exact K6|exact K7|exact K8|exact K9|exact K10|exact K11); (exact rfl); (exact wz rfl))|(apply Tri.stE; (first|exact K0|exact K1|exact K2|exact K3|exact K4|exact K5|exact K6|exact K7|exact K8|exact K9|exact K10|exact K11); (exact rfl); (exact wz rfl))|(apply Tri.same; (first|exact K0|exact K1|exact K2|exact K3|exact K4|exact K5|exact K6|exact K7|exact K8|exact K9|exact K10|exact K11); (exact rfl); (exact wz rfl))|refine wq fun _ => ?_)
    rw [wr_i64 (n := (i : Int) + 1) (by omega) (by omega), show (i : Int) + 1 = ((i + 1 : Nat) : Int) by omega]
    by_cases h : i < 256
    · rw [if_pos h]
      refine Tri.cndF (by simp; omega) ?_
      refine Tri.cndF rfl ?_
      exact Tri.back (m' := n - (i + 1)) (by omega) ⟨i + 1, rfl, by omega, rfl, by rw [Nat.min_eq_left (by omega)]⟩ (Sub.refl _)
    · rw [if_neg h]
      refine Tri.cndF (by simp; omega) ?_
      refine Tri.cndT rfl ?_
      refine Tri.cndF rfl ?_
      exact Tri.back (m' := n - (i + 1)) (by omega) ⟨i + 1, rfl, by omega, rfl, by rw [Nat.min_eq_right (by omega)]⟩ (Sub.refl _)
  · have hc : i = n := by simp at hc; omega
    subst hc
    repeat (first|refine wa ?_|refine wb ?_|refine wc ?_|refine wd ?_|refine we ?_|refine wf ?_|refine wg ?_|refine wh rfl ?_|refine wi rfl ?_|refine wj rfl ?_|refine wk rfl ?_|refine wl rfl ?_|refine wm (by decide) ?_|refine wn ?_|refine wo ?_|refine wp (by decide) ?_|(apply Tri.ldE; (first|exact K0|exact K1|exact K2|exact K3|exact K4|exact K5|exact K6|exact K7|exact K8|exact K9|exact K10|exact K11); (exact rfl); (exact wz rfl))|(apply Tri.stE; (first|exact K0|exact K1|exact K2|exact K3|exact K4|exact K5|exact K6|exact K7|exact K8|exact K9|exact K10|exact K11); (exact rfl); (exact wz rfl))|(apply Tri.same; (first|exact K0|exact K1|exact K2|exact K3|exact K4|exact K5|exact K6|exact K7|exact K8|exact K9|exact K10|exact K11); (exact rfl); (exact wz rfl))|refine wq fun _ => ?_)
    rw [Nat.min_eq_right hn1.1]
    refine Tri.call (set_spec (l := fl i 256) (by rw [fl_length]; omega)) (by repeat (first|exact Picks.nil|(apply Picks.cons; (first|exact K0|exact K1|exact K2|exact K3|exact K4|exact K5|exact K6|exact K7|exact K8|exact K9|exact K10|exact K11)))) ?_
    rw [last_set]
    rintro v L' ⟨rfl, rfl⟩
    simp only [List.cons_append, List.nil_append]
    repeat (first|refine wa ?_|refine wb ?_|refine wc ?_|refine wd ?_|refine we ?_|refine wf ?_|refine wg ?_|refine wh rfl ?_|refine wi rfl ?_|refine wj rfl ?_|refine wk rfl ?_|refine wl rfl ?_|refine wm (by decide) ?_|refine wn ?_|refine wo ?_|refine wp (by decide) ?_|(apply Tri.ldE; (first|exact K0|exact K1|exact K2|exact K3|exact K4|exact K5|exact K6|exact K7|exact K8|exact K9|exact K10|exact K11); (exact rfl); (exact wz rfl))|(apply Tri.stE; (first|exact K0|exact K1|exact K2|exact K3|exact K4|exact K5|exact K6|exact K7|exact K8|exact K9|exact K10|exact K11); (exact rfl); (exact wz rfl))|(apply Tri.same; (first|exact K0|exact K1|exact K2|exact K3|exact K4|exact K5|exact K6|exact K7|exact K8|exact K9|exact K10|exact K11); (exact rfl); (exact wz rfl))|refine wq fun _ => ?_)
    refine Tri.call (all_spec (l := lastL i) (by rw [last_length]; omega)) (by repeat (first|exact Picks.nil|(apply Picks.cons; (first|exact K0|exact K1|exact K2|exact K3|exact K4|exact K5|exact K6|exact K7|exact K8|exact K9|exact K10|exact K11)))) ?_
    rintro v L' ⟨o, rfl, rfl⟩
    simp only [List.cons_append, List.nil_append]
    repeat (first|refine wa ?_|refine wb ?_|refine wc ?_|refine wd ?_|refine we ?_|refine wf ?_|refine wg ?_|refine wh rfl ?_|refine wi rfl ?_|refine wj rfl ?_|refine wk rfl ?_|refine wl rfl ?_|refine wm (by decide) ?_|refine wn ?_|refine wo ?_|refine wp (by decide) ?_|(apply Tri.ldE; (first|exact K0|exact K1|exact K2|exact K3|exact K4|exact K5|exact K6|exact K7|exact K8|exact K9|exact K10|exact K11); (exact rfl); (exact wz rfl))|(apply Tri.stE; (first|exact K0|exact K1|exact K2|exact K3|exact K4|exact K5|exact K6|exact K7|exact K8|exact K9|exact K10|exact K11); (exact rfl); (exact wz rfl))|(apply Tri.same; (first|exact K0|exact K1|exact K2|exact K3|exact K4|exact K5|exact K6|exact K7|exact K8|exact K9|exact K10|exact K11); (exact rfl); (exact wz rfl))|refine wq fun _ => ?_)
    refine Tri.cndT rfl ?_
    refine Tri.cndT rfl ?_
    refine Tri.call len_spec (by repeat (first|exact Picks.nil|(apply Picks.cons; (first|exact K0|exact K1|exact K2|exact K3|exact K4|exact K5|exact K6|exact K7|exact K8|exact K9|exact K10|exact K11)))) ?_
    rintro v L' ⟨rfl, rfl⟩
    simp only [List.cons_append, List.nil_append]
    repeat (first|refine wa ?_|refine wb ?_|refine wc ?_|refine wd ?_|refine we ?_|refine wf ?_|refine wg ?_|refine wh rfl ?_|refine wi rfl ?_|refine wj rfl ?_|refine wk rfl ?_|refine wl rfl ?_|refine wm (by decide) ?_|refine wn ?_|refine wo ?_|refine wp (by decide) ?_|(apply Tri.ldE; (first|exact K0|exact K1|exact K2|exact K3|exact K4|exact K5|exact K6|exact K7|exact K8|exact K9|exact K10|exact K11); (exact rfl); (exact wz rfl))|(apply Tri.stE; (first|exact K0|exact K1|exact K2|exact K3|exact K4|exact K5|exact K6|exact K7|exact K8|exact K9|exact K10|exact K11); (exact rfl); (exact wz rfl))|(apply Tri.same; (first|exact K0|exact K1|exact K2|exact K3|exact K4|exact K5|exact K6|exact K7|exact K8|exact K9|exact K10|exact K11); (exact rfl); (exact wz rfl))|refine wq fun _ => ?_)
    rw [last_length]
    refine Tri.cndT rfl ?_
    refine Tri.slLen (T := tmE) (ro := false) (o := o) (l := ssort Tm.at_ (lastL i)) (by first|exact K0|exact K1|exact K2|exact K3|exact K4|exact K5|exact K6|exact K7|exact K8|exact K9|exact K10|exact K11) fun e1 e2 => ?_
    rw [e2, ssort_length, last_length]
    refine Tri.cndT rfl ?_
    obtain ⟨r, hr⟩ := last_first hn1.1
    rw [hr]
    refine Tri.ixld1 (T := tmE) (o := o) (l := ⟨3, 3, 0⟩ :: r) (by first|exact K0|exact K1|exact K2|exact K3|exact K4|exact K5|exact K6|exact K7|exact K8|exact K9|exact K10|exact K11) rfl (by decide) (by omega) (by simp) fun x hx y hy => ?_
    cases hx
    cases hy
    repeat (first|refine wa ?_|refine wb ?_|refine wc ?_|refine wd ?_|refine we ?_|refine wf ?_|refine wg ?_|refine wh rfl ?_|refine wi rfl ?_|refine wj rfl ?_|refine wk rfl ?_|refine wl rfl ?_|refine wm (by decide) ?_|refine wn ?_|refine wo ?_|refine wp (by decide) ?_|(apply Tri.ldE; (first|exact K0|exact K1|exact K2|exact K3|exact K4|exact K5|exact K6|exact K7|exact K8|exact K9|exact K10|exact K11); (exact rfl); (exact wz rfl))|(apply Tri.stE; (first|exact K0|exact K1|exact K2|exact K3|exact K4|exact K5|exact K6|exact K7|exact K8|exact K9|exact K10|exact K11); (exact rfl); (exact wz rfl))|(apply Tri.same; (first|exact K0|exact K1|exact K2|exact K3|exact K4|exact K5|exact K6|exact K7|exact K8|exact K9|exact K10|exact K11); (exact rfl); (exact wz rfl))|refine wq fun _ => ?_)
    refine Tri.cndT rfl ?_
    refine Tri.ixld1 (T := tmE) (o := o) (l := ⟨3, 3, 0⟩ :: r) (by first|exact K0|exact K1|exact K2|exact K3|exact K4|exact K5|exact K6|exact K7|exact K8|exact K9|exact K10|exact K11) rfl (by decide) (by omega) (by simp) fun x hx y hy => ?_
    cases hx
    cases hy
    repeat (first|refine wa ?_|refine wb ?_|refine wc ?_|refine wd ?_|refine we ?_|refine wf ?_|refine wg ?_|refine wh rfl ?_|refine wi rfl ?_|refine wj rfl ?_|refine wk rfl ?_|refine wl rfl ?_|refine wm (by decide) ?_|refine wn ?_|refine wo ?_|refine wp (by decide) ?_|(apply Tri.ldE; (first|exact K0|exact K1|exact K2|exact K3|exact K4|exact K5|exact K6|exact K7|exact K8|exact K9|exact K10|exact K11); (exact rfl); (exact wz rfl))|(apply Tri.stE; (first|exact K0|exact K1|exact K2|exact K3|exact K4|exact K5|exact K6|exact K7|exact K8|exact K9|exact K10|exact K11); (exact rfl); (exact wz rfl))|(apply Tri.same; (first|exact K0|exact K1|exact K2|exact K3|exact K4|exact K5|exact K6|exact K7|exact K8|exact K9|exact K10|exact K11); (exact rfl); (exact wz rfl))|refine wq fun _ => ?_)
    exact Tri.retF (L1 := []) rfl (Sub.nil _)
end Go.Proofs.Ytonohkjngmcbmaa
