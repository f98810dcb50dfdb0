/- The law WheelOnce on the abstract machine. -/
import Derived.Test.YtonohkjngmcbmaaSpecP
import Derived.Test.YtonohkjngmcbmaaEx
import Derived.Test.YtonohkjngmcbmaaTreeF
namespace Go.Proofs.Ytonohkjngmcbmaa
open Go Go.Proofs.Ytonohkjngmcbmaa.Fw
set_option linter.unusedVariables false
set_option linter.unusedSimpArgs false

def u8E : Enc Int where
  z := 1
  e n := [.i .u8 n]
  len _ := rfl
def onT (U : List Int) (j : Nat) : Tm := ⟨2, j, U.getD j 0 % 16⟩
def onL (U : List Int) (k : Nat) : List Tm := (List.range k).map (onT U)
theorem onL_length (U : List Int) (k : Nat) : (onL U k).length = k := by simp [onL]
theorem onL_succ (U : List Int) (k : Nat) : onL U (k + 1) = onL U k ++ [onT U k] := by simp [onL, List.range_succ]
theorem on_has {U : List Int} {i k : Nat} (h : i ≤ k) : has (onL U i) 2 k = false := by
  have : idx (onL U i) 2 k = (onL U i).length := by
    refine idx_none fun j x hj hx => ?_
    obtain ⟨hj', rfl⟩ := List.getElem?_eq_some_iff.1 hx
    simp [onL, onT, isT]
    simp [onL] at hj
    omega
  simp [has, this]
theorem on_set {U : List Int} {k : Nat} (hk : k < 31) : setT (onL U k) 2 k (U.getD k 0 % 16) = (0, onL U (k + 1)) := by
  have hok : okT 2 k = true := by simp [okT]; omega
  have hh : has (onL U k) 2 k = false := on_has (Nat.le_refl _)
  unfold setT
  rw [hok, hh, rmv_of_not hh, onL_length, if_neg (by simp), if_neg (by simp; omega), onL_succ]; rfl
theorem on_inc (U : List Int) (n : Nat) : (onL U n).Pairwise fun a b => a.id < b.id := by
  unfold onL
  rw [List.pairwise_map]
  refine List.Pairwise.imp (fun {a b} h => ?_) List.pairwise_lt_range
  simp [onT]; omega
theorem on_nodk (U : List Int) (n : Nat) : NodK (onL U n) := by
  refine List.Pairwise.imp (fun {a b} h => ?_) (on_inc U n)
  simp [isT]; omega
theorem on_at (U : List Int) (j : Nat) : 0 ≤ (onT U j).at_ ∧ (onT U j).at_ < 16 := ⟨Int.emod_nonneg _ (by decide), Int.emod_lt_of_pos _ (by decide)⟩
def on0 (U : List Int) (s : Nat) : List Tm := rmv (onL U U.length) 2 s
theorem on0_eq (U : List Int) (s : Nat) : on0 U s = (onL U U.length).filter fun t => !isT 2 s t := rmv_filter (on_nodk _ _)
theorem on0_inc (U : List Int) (s : Nat) : (on0 U s).Pairwise fun a b => a.id < b.id := by rw [on0_eq]; exact (on_inc U _).filter _
theorem on0_mem {U : List Int} {s : Nat} {x : Tm} (h : x ∈ on0 U s) : ∃ j, j < U.length ∧ j ≠ s ∧ x = onT U j := by
  rw [on0_eq] at h
  obtain ⟨h1, h2⟩ := List.mem_filter.1 h
  simp only [onL, List.mem_map, List.mem_range] at h1
  obtain ⟨j, hj, rfl⟩ := h1
  exact ⟨j, hj, by simp [isT, onT] at h2; omega, rfl⟩
theorem on_idx {U : List Int} {s : Nat} (hs : s < U.length) : idx (onL U U.length) 2 s = s := by
  refine idx_at (x := onT U s) (fun i x hi hx => ?_) (by simp [onL, hs]) (by simp [isT, onT])
  obtain ⟨hj', rfl⟩ := List.getElem?_eq_some_iff.1 hx
  simp [onL, onT, isT]
  omega
theorem on0_length {U : List Int} {s : Nat} (hs : s < U.length) : (on0 U s).length + 1 = U.length := by
  unfold on0 rmv
  rw [on_idx hs, List.length_eraseIdx, onL_length, if_pos hs]; omega
def onW (U : List Int) (s : Nat) (now : Int) : List Tm := (on0 U s).filter fun t => decide (now ≤ t.at_)
theorem onW_left (U : List Int) (s : Nat) (now : Int) : leftL (onW U s now) now = onW U s (now + 1) := by
  unfold leftL onW
  rw [List.filter_filter]
  refine List.filter_congr fun t _ => ?_
  rw [Bool.eq_iff_iff]; simp; omega
theorem onW_due (U : List Int) (s : Nat) (now : Int) : dueL (onW U s now) now = (on0 U s).filter fun t => t.at_ == now := by
  unfold dueL
  have h := stb_ssort (κ := Tm.at_) (onW U s now)
  have : (ssort Tm.at_ (onW U s now)).filter (fun t => decide (t.at_ ≤ now)) = (ssort Tm.at_ (onW U s now)).filter fun t => t.at_ == now := by
    refine List.filter_congr fun t ht => ?_
    have := (h.mem t).1 ht
    simp only [onW, List.mem_filter, decide_eq_true_eq] at this
    rw [Bool.eq_iff_iff]; simp; omega
  rw [this, h.2 now]
  unfold onW
  rw [List.filter_filter]
  refine List.filter_congr fun t _ => ?_
  rw [Bool.eq_iff_iff]; simp; omega
theorem count_step (now : Int) : ∀ l : List Tm, (l.filter fun t => decide (t.at_ < now)).length + (l.filter fun t => t.at_ == now).length = (l.filter fun t => decide (t.at_ < now + 1)).length
  | [] => rfl
  | t :: l => by
    have ih := count_step now l
    simp only [List.filter_cons]
    by_cases h1 : t.at_ < now
    · have h2 : ¬ t.at_ = now := by omega
      have h3 : t.at_ < now + 1 := by omega
      simp [h1, h2, h3]; omega
    · by_cases h2 : t.at_ = now
      · have h3 : now < now + 1 := by omega
        simp [h1, h2, h3]; omega
      · have h3 : ¬ t.at_ < now + 1 := by omega
        simp [h1, h2, h3]; omega
theorem on_all {U : List Int} {s : Nat} (hU : ∀ x ∈ U, 0 ≤ x) : ((on0 U s).filter fun t => decide (t.at_ < 16)) = on0 U s ∧ onW U s 16 = [] := by
  have h : ∀ t ∈ on0 U s, t.at_ < 16 := by
    intro t ht
    obtain ⟨j, _, _, rfl⟩ := on0_mem ht
    exact (on_at U j).2
  exact ⟨List.filter_eq_self.2 fun t ht => by simpa using h t ht, List.filter_eq_nil_iff.2 fun t ht => by have := h t ht; simp; omega⟩
theorem onW_zero (U : List Int) (s : Nat) : onW U s 0 = on0 U s := by
  refine List.filter_eq_self.2 fun t ht => ?_
  obtain ⟨j, _, _, rfl⟩ := on0_mem ht
  have := on_at U j
  simp only [decide_eq_true_eq]; omega
theorem on_none (U : List Int) (s : Nat) : ((on0 U s).filter fun t => decide (t.at_ < 0)) = [] := by
  refine List.filter_eq_nil_iff.2 fun t ht => ?_
  obtain ⟨j, _, _, rfl⟩ := on0_mem ht
  have := on_at U j
  simp only [decide_eq_true_eq]; omega
abbrev RT1 : AV → List Assn → Prop := fun v _ => v = .sc (.b true)

/-- one moment -/
def onI (o : Option SlD) (U : List Int) (p s : Nat) : Nat → List AV → List Assn → Prop := fun m l' L => ∃ now : Nat, m = 16 - now ∧ now ≤ 16 ∧
  l' = [.sc (.sl o), .sc (.b true), .sc (.p (some (p, 0))), .sc (.i .i64 s), .sc (.b true), .sc (.i .i64 (((on0 U s).filter fun t => decide (t.at_ < (now : Int))).length : Nat)), .sc (.i .u64 now)] ∧ L = [Wh p (onW U s now), .sl false u8E o U]
theorem once_round {o : Option SlD} {U : List Int} {p s now : Nat} (hU : ∀ x ∈ U, 0 ≤ x ∧ x < 256) (hn : U.length ≤ 31) (hs : s < U.length) (h16 : now ≤ 16) :
    Tri E [Wh p (onW U s now), .sl false u8E o U] (t4_b31 [.sc (.sl o), .sc (.b true), .sc (.p (some (p, 0))), .sc (.i .i64 s), .sc (.b true), .sc (.i .i64 (((on0 U s).filter fun t => decide (t.at_ < (now : Int))).length : Nat)), .sc (.i .u64 now)])
      (LQ E (onI o U p s) (16 - now) t4_k31 (RQ [] RT1)) := by
  have h0l := on0_length hs
  have hWl : (onW U s now).length ≤ 31 := Nat.le_trans (List.length_filter_le _ _) (by omega)
  unfold t4_b31
  repeat (first|refine wa ?_|refine wb ?_|refine wc ?_|refine wd ?_|refine we ?_|refine wf ?_|refine wg ?_|refine wh rfl ?_|refine wi rfl ?_|refine wj rfl ?_|refine wk rfl ?_|refine wl rfl ?_|refine wm (by decide) ?_|refine wn ?_|refine wo ?_|refine wp (by decide) ?_|(apply Tri.ldE; (first|exact K0|exact K1|exact K2|exact K3|exact K4|exact K5|exact K6|exact K7|exact K8|exact K9|exact K10|exact K11); (exact rfl); (exact wz rfl))|(apply Tri.stE; (first|exact K0|exact K1|exact K2|exact K3|exact K4|exact K5|exact K6|exact K7|exact K8|exact K9|exact K10|exact K11); (exact rfl); (exact wz rfl))|(apply Tri.same; (first|exact K0|exact K1|exact K2|exact K3|exact K4|exact K5|exact K6|exact K7|exact K8|exact K9|exact K10|exact K11); (exact rfl); (exact wz rfl))|refine wq fun _ => ?_)
  refine Tri.cnd (fun hc => ?_) (fun hc => ?_)
  · have hc : now < 16 := by simp at hc; omega
    refine Tri.call (due_spec (l := onW U s now) (by omega)) (by repeat (first|exact Picks.nil|(apply Picks.cons; (first|exact K0|exact K1|exact K2|exact K3|exact K4|exact K5|exact K6|exact K7|exact K8|exact K9|exact K10|exact K11)))) ?_
    rw [onW_left, onW_due]
    rintro v L' ⟨oS, rfl, rfl⟩
    simp only [List.cons_append, List.nil_append]
    repeat (first|refine wa ?_|refine wb ?_|refine wc ?_|refine wd ?_|refine we ?_|refine wf ?_|refine wg ?_|refine wh rfl ?_|refine wi rfl ?_|refine wj rfl ?_|refine wk rfl ?_|refine wl rfl ?_|refine wm (by decide) ?_|refine wn ?_|refine wo ?_|refine wp (by decide) ?_|(apply Tri.ldE; (first|exact K0|exact K1|exact K2|exact K3|exact K4|exact K5|exact K6|exact K7|exact K8|exact K9|exact K10|exact K11); (exact rfl); (exact wz rfl))|(apply Tri.stE; (first|exact K0|exact K1|exact K2|exact K3|exact K4|exact K5|exact K6|exact K7|exact K8|exact K9|exact K10|exact K11); (exact rfl); (exact wz rfl))|(apply Tri.same; (first|exact K0|exact K1|exact K2|exact K3|exact K4|exact K5|exact K6|exact K7|exact K8|exact K9|exact K10|exact K11); (exact rfl); (exact wz rfl))|refine wq fun _ => ?_)
    have hcnt := count_step (now : Int) (on0 U s)
    have hSm : ∀ x ∈ (on0 U s).filter fun t => t.at_ == (now : Int), x.at_ = now ∧ ∃ j, j < U.length ∧ j ≠ s ∧ x = onT U j := by
      intro x hx
      obtain ⟨h1, h2⟩ := List.mem_filter.1 hx
      exact ⟨by simpa using h2, on0_mem h1⟩
    have hSi : ((on0 U s).filter fun t => t.at_ == (now : Int)).Pairwise fun a b => a.id < b.id := (on0_inc U s).filter _
    have hcl : ((on0 U s).filter fun t => decide (t.at_ < (now : Int) + 1)).length ≤ 31 := Nat.le_trans (List.length_filter_le _ _) (by omega)
    generalize ((on0 U s).filter fun t => t.at_ == (now : Int)) = S at *
    generalize hc0 : ((on0 U s).filter fun t => decide (t.at_ < (now : Int))).length = c0 at *
    refine Tri.loop (I := fun m l' L => ∃ q : Nat, m = S.length - q ∧ q ≤ S.length ∧
      l' = [.sc (.sl o), .sc (.b true), .sc (.p (some (p, 0))), .sc (.i .i64 s), .sc (.b true), .sc (.i .i64 ((c0 + q : Nat) : Int)), .sc (.i .u64 now), .sc (.sl oS), .sc (.i .i64 q)] ∧
      L = [Wh p (onW U s ((now : Int) + 1)), .sl false tmE oS S, .sl false u8E o U]) ⟨0, rfl, Nat.zero_le _, rfl, rfl⟩ (by repeat (first|exact Sub.refl _|exact Sub.nil _|(apply Sub.cons; (first|exact K0|exact K1|exact K2|exact K3|exact K4|exact K5|exact K6|exact K7|exact K8|exact K9|exact K10|exact K11))|apply Sub.skip)) ?_
    rintro m l' L ⟨q, rfl, hq, rfl, rfl⟩
    unfold t4_b42
    repeat (first|refine wa ?_|refine wb ?_|refine wc ?_|refine wd ?_|refine we ?_|refine wf ?_|refine wg ?_|refine wh rfl ?_|refine wi rfl ?_|refine wj rfl ?_|refine wk rfl ?_|refine wl rfl ?_|refine wm (by decide) ?_|refine wn ?_|refine wo ?_|refine wp (by decide) ?_|(apply Tri.ldE; (first|exact K0|exact K1|exact K2|exact K3|exact K4|exact K5|exact K6|exact K7|exact K8|exact K9|exact K10|exact K11); (exact rfl); (exact wz rfl))|(apply Tri.stE; (first|exact K0|exact K1|exact K2|exact K3|exact K4|exact K5|exact K6|exact K7|exact K8|exact K9|exact K10|exact K11); (exact rfl); (exact wz rfl))|(apply Tri.same; (first|exact K0|exact K1|exact K2|exact K3|exact K4|exact K5|exact K6|exact K7|exact K8|exact K9|exact K10|exact K11); (exact rfl); (exact wz rfl))|refine wq fun _ => ?_)
    refine Tri.slLen (T := tmE) (ro := false) (o := oS) (l := S) (by first|exact K0|exact K1|exact K2|exact K3|exact K4|exact K5|exact K6|exact K7|exact K8|exact K9|exact K10|exact K11) fun e1 e2 => ?_
    rw [e2]
    refine Tri.cnd (fun hq2 => ?_) (fun hq2 => ?_)
    · have hq2 : q < S.length := by simp at hq2; omega
      obtain ⟨x, hx⟩ : ∃ x, S[q]? = some x := ⟨_, List.getElem?_eq_getElem hq2⟩
      obtain ⟨hat, j, hj, hjs, hxj⟩ := hSm x (List.mem_of_getElem? hx)
      have hid : x.id = (j : Int) := by rw [hxj]; rfl
      have hUj : U[j]? = some (U.getD j 0) := by rw [List.getElem?_eq_getElem hj, List.getD_eq_getElem?_getD, List.getElem?_eq_getElem hj]; rfl
      have hr := hU _ (List.mem_of_getElem? hUj)
      have hmod : U.getD j 0 % 16 = (now : Int) := by rw [← hat, hxj]; rfl
      refine Tri.ixld1 (T := tmE) (o := oS) (l := S) (by first|exact K0|exact K1|exact K2|exact K3|exact K4|exact K5|exact K6|exact K7|exact K8|exact K9|exact K10|exact K11) rfl (by decide) (by omega) (by omega) fun x' hx' z hz => ?_
      rw [Int.toNat_natCast, hx] at hx'; cases hx'
      cases hz
      repeat (first|refine wa ?_|refine wb ?_|refine wc ?_|refine wd ?_|refine we ?_|refine wf ?_|refine wg ?_|refine wh rfl ?_|refine wi rfl ?_|refine wj rfl ?_|refine wk rfl ?_|refine wl rfl ?_|refine wm (by decide) ?_|refine wn ?_|refine wo ?_|refine wp (by decide) ?_|(apply Tri.ldE; (first|exact K0|exact K1|exact K2|exact K3|exact K4|exact K5|exact K6|exact K7|exact K8|exact K9|exact K10|exact K11); (exact rfl); (exact wz rfl))|(apply Tri.stE; (first|exact K0|exact K1|exact K2|exact K3|exact K4|exact K5|exact K6|exact K7|exact K8|exact K9|exact K10|exact K11); (exact rfl); (exact wz rfl))|(apply Tri.same; (first|exact K0|exact K1|exact K2|exact K3|exact K4|exact K5|exact K6|exact K7|exact K8|exact K9|exact K10|exact K11); (exact rfl); (exact wz rfl))|refine wq fun _ => ?_)
      refine Tri.cndF (by simp [hat]) ?_
      refine Tri.ixld1 (T := tmE) (o := oS) (l := S) (by first|exact K0|exact K1|exact K2|exact K3|exact K4|exact K5|exact K6|exact K7|exact K8|exact K9|exact K10|exact K11) rfl (by decide) (by omega) (by omega) fun x' hx' z hz => ?_
      rw [Int.toNat_natCast, hx] at hx'; cases hx'
      cases hz
      repeat (first|refine wa ?_|refine wb ?_|refine wc ?_|refine wd ?_|refine we ?_|refine wf ?_|refine wg ?_|refine wh rfl ?_|refine wi rfl ?_|refine wj rfl ?_|refine wk rfl ?_|refine wl rfl ?_|refine wm (by decide) ?_|refine wn ?_|refine wo ?_|refine wp (by decide) ?_|(apply Tri.ldE; (first|exact K0|exact K1|exact K2|exact K3|exact K4|exact K5|exact K6|exact K7|exact K8|exact K9|exact K10|exact K11); (exact rfl); (exact wz rfl))|(apply Tri.stE; (first|exact K0|exact K1|exact K2|exact K3|exact K4|exact K5|exact K6|exact K7|exact K8|exact K9|exact K10|exact K11); (exact rfl); (exact wz rfl))|(apply Tri.same; (first|exact K0|exact K1|exact K2|exact K3|exact K4|exact K5|exact K6|exact K7|exact K8|exact K9|exact K10|exact K11); (exact rfl); (exact wz rfl))|refine wq fun _ => ?_)
      rw [hid]
      refine Tri.cndF (by simp) ?_
      refine Tri.ixld1 (T := tmE) (o := oS) (l := S) (by first|exact K0|exact K1|exact K2|exact K3|exact K4|exact K5|exact K6|exact K7|exact K8|exact K9|exact K10|exact K11) rfl (by decide) (by omega) (by omega) fun x' hx' z hz => ?_
      rw [Int.toNat_natCast, hx] at hx'; cases hx'
      cases hz
      repeat (first|refine wa ?_|refine wb ?_|refine wc ?_|refine wd ?_|refine we ?_|refine wf ?_|refine wg ?_|refine wh rfl ?_|refine wi rfl ?_|refine wj rfl ?_|refine wk rfl ?_|refine wl rfl ?_|refine wm (by decide) ?_|refine wn ?_|refine wo ?_|refine wp (by decide) ?_|(apply Tri.ldE; (first|exact K0|exact K1|exact K2|exact K3|exact K4|exact K5|exact K6|exact K7|exact K8|exact K9|exact K10|exact K11); (exact rfl); (exact wz rfl))|(apply Tri.stE; (first|exact K0|exact K1|exact K2|exact K3|exact K4|exact K5|exact K6|exact K7|exact K8|exact K9|exact K10|exact K11); (exact rfl); (exact wz rfl))|(apply Tri.same; (first|exact K0|exact K1|exact K2|exact K3|exact K4|exact K5|exact K6|exact K7|exact K8|exact K9|exact K10|exact K11); (exact rfl); (exact wz rfl))|refine wq fun _ => ?_)
      rw [hid]
      refine Tri.slLen (T := u8E) (ro := false) (o := o) (l := U) (by first|exact K0|exact K1|exact K2|exact K3|exact K4|exact K5|exact K6|exact K7|exact K8|exact K9|exact K10|exact K11) fun e3 e4 => ?_
      rw [e4]
      refine Tri.cndF (by simp; omega) ?_
      refine Tri.ixld1 (T := tmE) (o := oS) (l := S) (by first|exact K0|exact K1|exact K2|exact K3|exact K4|exact K5|exact K6|exact K7|exact K8|exact K9|exact K10|exact K11) rfl (by decide) (by omega) (by omega) fun x' hx' z hz => ?_
      rw [Int.toNat_natCast, hx] at hx'; cases hx'
      cases hz
      repeat (first|refine wa ?_|refine wb ?_|refine wc ?_|refine wd ?_|refine we ?_|refine wf ?_|refine wg ?_|refine wh rfl ?_|refine wi rfl ?_|refine wj rfl ?_|refine wk rfl ?_|refine wl rfl ?_|refine wm (by decide) ?_|refine wn ?_|refine wo ?_|refine wp (by decide) ?_|(apply Tri.ldE; (first|exact K0|exact K1|exact K2|exact K3|exact K4|exact K5|exact K6|exact K7|exact K8|exact K9|exact K10|exact K11); (exact rfl); (exact wz rfl))|(apply Tri.stE; (first|exact K0|exact K1|exact K2|exact K3|exact K4|exact K5|exact K6|exact K7|exact K8|exact K9|exact K10|exact K11); (exact rfl); (exact wz rfl))|(apply Tri.same; (first|exact K0|exact K1|exact K2|exact K3|exact K4|exact K5|exact K6|exact K7|exact K8|exact K9|exact K10|exact K11); (exact rfl); (exact wz rfl))|refine wq fun _ => ?_)
      rw [hid]
      refine Tri.ixld (T := u8E) (o := o) (l := U) (by first|exact K0|exact K1|exact K2|exact K3|exact K4|exact K5|exact K6|exact K7|exact K8|exact K9|exact K10|exact K11) rfl (by omega) (by omega) fun z hz => ?_
      rw [Int.toNat_natCast, hUj] at hz; cases hz
      repeat (first|refine wa ?_|refine wb ?_|refine wc ?_|refine wd ?_|refine we ?_|refine wf ?_|refine wg ?_|refine wh rfl ?_|refine wi rfl ?_|refine wj rfl ?_|refine wk rfl ?_|refine wl rfl ?_|refine wm (by decide) ?_|refine wn ?_|refine wo ?_|refine wp (by decide) ?_|(apply Tri.ldE; (first|exact K0|exact K1|exact K2|exact K3|exact K4|exact K5|exact K6|exact K7|exact K8|exact K9|exact K10|exact K11); (exact rfl); (exact wz rfl))|(apply Tri.stE; (first|exact K0|exact K1|exact K2|exact K3|exact K4|exact K5|exact K6|exact K7|exact K8|exact K9|exact K10|exact K11); (exact rfl); (exact wz rfl))|(apply Tri.same; (first|exact K0|exact K1|exact K2|exact K3|exact K4|exact K5|exact K6|exact K7|exact K8|exact K9|exact K10|exact K11); (exact rfl); (exact wz rfl))|refine wq fun _ => ?_)
      refine Tri.brT rfl ?_
      rw [Int.tmod_eq_emod_of_nonneg hr.1, hmod, wr_u64 (by omega) (by omega)]
      refine Tri.cndF (by simp) ?_
      refine Tri.ixld1 (T := tmE) (o := oS) (l := S) (by first|exact K0|exact K1|exact K2|exact K3|exact K4|exact K5|exact K6|exact K7|exact K8|exact K9|exact K10|exact K11) rfl (by decide) (by omega) (by omega) fun x' hx' z hz => ?_
      rw [Int.toNat_natCast, hx] at hx'; cases hx'
      cases hz
      repeat (first|refine wa ?_|refine wb ?_|refine wc ?_|refine wd ?_|refine we ?_|refine wf ?_|refine wg ?_|refine wh rfl ?_|refine wi rfl ?_|refine wj rfl ?_|refine wk rfl ?_|refine wl rfl ?_|refine wm (by decide) ?_|refine wn ?_|refine wo ?_|refine wp (by decide) ?_|(apply Tri.ldE; (first|exact K0|exact K1|exact K2|exact K3|exact K4|exact K5|exact K6|exact K7|exact K8|exact K9|exact K10|exact K11); (exact rfl); (exact wz rfl))|(apply Tri.stE; (first|exact K0|exact K1|exact K2|exact K3|exact K4|exact K5|exact K6|exact K7|exact K8|exact K9|exact K10|exact K11); (exact rfl); (exact wz rfl))|(apply Tri.same; (first|exact K0|exact K1|exact K2|exact K3|exact K4|exact K5|exact K6|exact K7|exact K8|exact K9|exact K10|exact K11); (exact rfl); (exact wz rfl))|refine wq fun _ => ?_)
      rw [hid]
      refine Tri.cndF (by simp; omega) ?_
      have back : Tri E [.sl false tmE oS S, .sl false u8E o U, Wh p (onW U s ((now : Int) + 1))] (.ret 0 [(.sc (.sl o)), (.sc (.b true)), (.sc (.p (some (p, 0)))), (.sc (.i .i64 s)), (.sc (.b true)), (.sc (.i .i64 (IntKind.wrap .i64 (((c0 + q : Nat) : Int) + (1 : Int))))), (.sc (.i .u64 now)), (.sc (.sl oS)), (.sc (.i .i64 (IntKind.wrap .i64 ((q : Int) + (1 : Int)))))])
          (LQ E (fun m l' L => ∃ q : Nat, m = S.length - q ∧ q ≤ S.length ∧
      l' = [.sc (.sl o), .sc (.b true), .sc (.p (some (p, 0))), .sc (.i .i64 s), .sc (.b true), .sc (.i .i64 ((c0 + q : Nat) : Int)), .sc (.i .u64 now), .sc (.sl oS), .sc (.i .i64 q)] ∧
      L = [Wh p (onW U s ((now : Int) + 1)), .sl false tmE oS S, .sl false u8E o U]) (S.length - q) t4_k42 (LQ E (onI o U p s) (16 - now) t4_k31 (RQ [] RT1))) := by
        refine Tri.back (m' := S.length - (q + 1)) (by omega) ⟨q + 1, rfl, by omega, ?_, rfl⟩ (by repeat (first|exact Sub.refl _|exact Sub.nil _|(apply Sub.cons; (first|exact K0|exact K1|exact K2|exact K3|exact K4|exact K5|exact K6|exact K7|exact K8|exact K9|exact K10|exact K11))|apply Sub.skip))
        rw [wr_i64 (by omega) (by omega), wr_i64 (by omega) (by omega)]; rfl
      refine Tri.cnd (fun hq0 => ?_) (fun hq0 => ?_)
      · have hq0 : 0 < q := by simp at hq0; omega
        obtain ⟨y, hy⟩ : ∃ y, S[q - 1]? = some y := ⟨_, List.getElem?_eq_getElem (by omega)⟩
        have hlt : y.id < x.id := by
          obtain ⟨h1, rfl⟩ := List.getElem?_eq_some_iff.1 hx
          obtain ⟨h2, rfl⟩ := List.getElem?_eq_some_iff.1 hy
          exact List.pairwise_iff_getElem.1 hSi (q - 1) q h2 h1 (by omega)
        rw [show IntKind.wrap .i64 ((q : Int) - 1) = ((q - 1 : Nat) : Int) by rw [wr_i64 (by omega) (by omega)]; omega]
        refine Tri.ixld1 (T := tmE) (o := oS) (l := S) (by first|exact K0|exact K1|exact K2|exact K3|exact K4|exact K5|exact K6|exact K7|exact K8|exact K9|exact K10|exact K11) rfl (by decide) (by omega) (by omega) fun x' hx' z hz => ?_
        rw [Int.toNat_natCast, hy] at hx'; cases hx'
        cases hz
        repeat (first|refine wa ?_|refine wb ?_|refine wc ?_|refine wd ?_|refine we ?_|refine wf ?_|refine wg ?_|refine wh rfl ?_|refine wi rfl ?_|refine wj rfl ?_|refine wk rfl ?_|refine wl rfl ?_|refine wm (by decide) ?_|refine wn ?_|refine wo ?_|refine wp (by decide) ?_|(apply Tri.ldE; (first|exact K0|exact K1|exact K2|exact K3|exact K4|exact K5|exact K6|exact K7|exact K8|exact K9|exact K10|exact K11); (exact rfl); (exact wz rfl))|(apply Tri.stE; (first|exact K0|exact K1|exact K2|exact K3|exact K4|exact K5|exact K6|exact K7|exact K8|exact K9|exact K10|exact K11); (exact rfl); (exact wz rfl))|(apply Tri.same; (first|exact K0|exact K1|exact K2|exact K3|exact K4|exact K5|exact K6|exact K7|exact K8|exact K9|exact K10|exact K11); (exact rfl); (exact wz rfl))|refine wq fun _ => ?_)
        refine Tri.ixld1 (T := tmE) (o := oS) (l := S) (by first|exact K0|exact K1|exact K2|exact K3|exact K4|exact K5|exact K6|exact K7|exact K8|exact K9|exact K10|exact K11) rfl (by decide) (by omega) (by omega) fun x' hx' z hz => ?_
        rw [Int.toNat_natCast, hx] at hx'; cases hx'
        cases hz
        repeat (first|refine wa ?_|refine wb ?_|refine wc ?_|refine wd ?_|refine we ?_|refine wf ?_|refine wg ?_|refine wh rfl ?_|refine wi rfl ?_|refine wj rfl ?_|refine wk rfl ?_|refine wl rfl ?_|refine wm (by decide) ?_|refine wn ?_|refine wo ?_|refine wp (by decide) ?_|(apply Tri.ldE; (first|exact K0|exact K1|exact K2|exact K3|exact K4|exact K5|exact K6|exact K7|exact K8|exact K9|exact K10|exact K11); (exact rfl); (exact wz rfl))|(apply Tri.stE; (first|exact K0|exact K1|exact K2|exact K3|exact K4|exact K5|exact K6|exact K7|exact K8|exact K9|exact K10|exact K11); (exact rfl); (exact wz rfl))|(apply Tri.same; (first|exact K0|exact K1|exact K2|exact K3|exact K4|exact K5|exact K6|exact K7|exact K8|exact K9|exact K10|exact K11); (exact rfl); (exact wz rfl))|refine wq fun _ => ?_)
        refine Tri.cndF (by simp; omega) ?_
        exact Tri.sub (by repeat (first|exact Sub.refl _|exact Sub.nil _|(apply Sub.cons; (first|exact K0|exact K1|exact K2|exact K3|exact K4|exact K5|exact K6|exact K7|exact K8|exact K9|exact K10|exact K11))|apply Sub.skip)) back
      · exact Tri.sub (by repeat (first|exact Sub.refl _|exact Sub.nil _|(apply Sub.cons; (first|exact K0|exact K1|exact K2|exact K3|exact K4|exact K5|exact K6|exact K7|exact K8|exact K9|exact K10|exact K11))|apply Sub.skip)) back
    · have hq2 : q = S.length := by simp at hq2; omega
      subst hq2
      refine Tri.exit (by decide) ?_
      unfold t4_k42
      repeat (first|refine wa ?_|refine wb ?_|refine wc ?_|refine wd ?_|refine we ?_|refine wf ?_|refine wg ?_|refine wh rfl ?_|refine wi rfl ?_|refine wj rfl ?_|refine wk rfl ?_|refine wl rfl ?_|refine wm (by decide) ?_|refine wn ?_|refine wo ?_|refine wp (by decide) ?_|(apply Tri.ldE; (first|exact K0|exact K1|exact K2|exact K3|exact K4|exact K5|exact K6|exact K7|exact K8|exact K9|exact K10|exact K11); (exact rfl); (exact wz rfl))|(apply Tri.stE; (first|exact K0|exact K1|exact K2|exact K3|exact K4|exact K5|exact K6|exact K7|exact K8|exact K9|exact K10|exact K11); (exact rfl); (exact wz rfl))|(apply Tri.same; (first|exact K0|exact K1|exact K2|exact K3|exact K4|exact K5|exact K6|exact K7|exact K8|exact K9|exact K10|exact K11); (exact rfl); (exact wz rfl))|refine wq fun _ => ?_)
      refine Tri.back (m' := 16 - (now + 1)) (by omega) ⟨now + 1, rfl, by omega, ?_, rfl⟩ (by repeat (first|exact Sub.refl _|exact Sub.nil _|(apply Sub.cons; (first|exact K0|exact K1|exact K2|exact K3|exact K4|exact K5|exact K6|exact K7|exact K8|exact K9|exact K10|exact K11))|apply Sub.skip))
      rw [wr_u64 (by omega) (by omega), show ((now + 1 : Nat) : Int) = (now : Int) + 1 by omega, ← hcnt]
  · have hc : now = 16 := by simp at hc; omega
    subst hc
    obtain ⟨f1, f2⟩ := on_all (s := s) fun x hx => (hU x hx).1
    refine Tri.exit (by decide) ?_
    unfold t4_k31
    repeat (first|refine wa ?_|refine wb ?_|refine wc ?_|refine wd ?_|refine we ?_|refine wf ?_|refine wg ?_|refine wh rfl ?_|refine wi rfl ?_|refine wj rfl ?_|refine wk rfl ?_|refine wl rfl ?_|refine wm (by decide) ?_|refine wn ?_|refine wo ?_|refine wp (by decide) ?_|(apply Tri.ldE; (first|exact K0|exact K1|exact K2|exact K3|exact K4|exact K5|exact K6|exact K7|exact K8|exact K9|exact K10|exact K11); (exact rfl); (exact wz rfl))|(apply Tri.stE; (first|exact K0|exact K1|exact K2|exact K3|exact K4|exact K5|exact K6|exact K7|exact K8|exact K9|exact K10|exact K11); (exact rfl); (exact wz rfl))|(apply Tri.same; (first|exact K0|exact K1|exact K2|exact K3|exact K4|exact K5|exact K6|exact K7|exact K8|exact K9|exact K10|exact K11); (exact rfl); (exact wz rfl))|refine wq fun _ => ?_)
    refine Tri.cndT rfl ?_
    refine Tri.cndT rfl ?_
    refine Tri.slLen (T := u8E) (ro := false) (o := o) (l := U) (by first|exact K0|exact K1|exact K2|exact K3|exact K4|exact K5|exact K6|exact K7|exact K8|exact K9|exact K10|exact K11) fun e3 e4 => ?_
    rw [e4, wr_i64 (by omega) (by omega)]
    have f1' : ((on0 U s).filter fun t => decide (t.at_ < ((16 : Nat) : Int))) = on0 U s := f1
    rw [f1']
    refine Tri.cndT (by simp; omega) ?_
    refine Tri.call len_spec (by repeat (first|exact Picks.nil|(apply Picks.cons; (first|exact K0|exact K1|exact K2|exact K3|exact K4|exact K5|exact K6|exact K7|exact K8|exact K9|exact K10|exact K11)))) ?_
    rintro v L' ⟨rfl, rfl⟩
    have f2' : onW U s ((16 : Nat) : Int) = [] := f2
    rw [f2']
    simp only [List.cons_append, List.nil_append]
    repeat (first|refine wa ?_|refine wb ?_|refine wc ?_|refine wd ?_|refine we ?_|refine wf ?_|refine wg ?_|refine wh rfl ?_|refine wi rfl ?_|refine wj rfl ?_|refine wk rfl ?_|refine wl rfl ?_|refine wm (by decide) ?_|refine wn ?_|refine wo ?_|refine wp (by decide) ?_|(apply Tri.ldE; (first|exact K0|exact K1|exact K2|exact K3|exact K4|exact K5|exact K6|exact K7|exact K8|exact K9|exact K10|exact K11); (exact rfl); (exact wz rfl))|(apply Tri.stE; (first|exact K0|exact K1|exact K2|exact K3|exact K4|exact K5|exact K6|exact K7|exact K8|exact K9|exact K10|exact K11); (exact rfl); (exact wz rfl))|(apply Tri.same; (first|exact K0|exact K1|exact K2|exact K3|exact K4|exact K5|exact K6|exact K7|exact K8|exact K9|exact K10|exact K11); (exact rfl); (exact wz rfl))|refine wq fun _ => ?_)
    exact Tri.retF (L1 := []) rfl (Sub.nil _)

theorem once_tri {o : Option SlD} {args : List Int} {stop : Int} (hA : ∀ x ∈ args, 0 ≤ x ∧ x < 256) (hst : 0 ≤ stop ∧ stop < 256) : Tri E [.sl true u8E o args] ((fun v0 : AV => match t4 o stop with | .call _ _ k => k v0 | _ => .fail) (.sc (.b true))) (RQ [] RT1) := by
  unfold t4
  dsimp only
  repeat (first|refine wa ?_|refine wb ?_|refine wc ?_|refine wd ?_|refine we ?_|refine wf ?_|refine wg ?_|refine wh rfl ?_|refine wi rfl ?_|refine wj rfl ?_|refine wk rfl ?_|refine wl rfl ?_|refine wm (by decide) ?_|refine wn ?_|refine wo ?_|refine wp (by decide) ?_|(apply Tri.ldE; (first|exact K0|exact K1|exact K2|exact K3|exact K4|exact K5|exact K6|exact K7|exact K8|exact K9|exact K10|exact K11); (exact rfl); (exact wz rfl))|(apply Tri.stE; (first|exact K0|exact K1|exact K2|exact K3|exact K4|exact K5|exact K6|exact K7|exact K8|exact K9|exact K10|exact K11); (exact rfl); (exact wz rfl))|(apply Tri.same; (first|exact K0|exact K1|exact K2|exact K3|exact K4|exact K5|exact K6|exact K7|exact K8|exact K9|exact K10|exact K11); (exact rfl); (exact wz rfl))|refine wq fun _ => ?_)
  refine Tri.cndF rfl ?_
  refine Tri.call new_spec (by repeat (first|exact Picks.nil|(apply Picks.cons; (first|exact K0|exact K1|exact K2|exact K3|exact K4|exact K5|exact K6|exact K7|exact K8|exact K9|exact K10|exact K11)))) ?_
  rintro v L' ⟨p, rfl, rfl⟩
  simp only [List.cons_append, List.nil_append]
  repeat (first|refine wa ?_|refine wb ?_|refine wc ?_|refine wd ?_|refine we ?_|refine wf ?_|refine wg ?_|refine wh rfl ?_|refine wi rfl ?_|refine wj rfl ?_|refine wk rfl ?_|refine wl rfl ?_|refine wm (by decide) ?_|refine wn ?_|refine wo ?_|refine wp (by decide) ?_|(apply Tri.ldE; (first|exact K0|exact K1|exact K2|exact K3|exact K4|exact K5|exact K6|exact K7|exact K8|exact K9|exact K10|exact K11); (exact rfl); (exact wz rfl))|(apply Tri.stE; (first|exact K0|exact K1|exact K2|exact K3|exact K4|exact K5|exact K6|exact K7|exact K8|exact K9|exact K10|exact K11); (exact rfl); (exact wz rfl))|(apply Tri.same; (first|exact K0|exact K1|exact K2|exact K3|exact K4|exact K5|exact K6|exact K7|exact K8|exact K9|exact K10|exact K11); (exact rfl); (exact wz rfl))|refine wq fun _ => ?_)
  rename_i a4
  refine Tri.slLen (T := u8E) (ro := true) (o := o) (l := args) (by first|exact K0|exact K1|exact K2|exact K3|exact K4|exact K5|exact K6|exact K7|exact K8|exact K9|exact K10|exact K11) fun e1 e2 => ?_
  rw [e2]
  obtain ⟨k, hk, hk2⟩ : ∃ k : Nat, minI (args.length : Int) 30 = k ∧ k ≤ 30 ∧ k ≤ args.length := by
    unfold minI
    split
    · exact ⟨30, rfl, by omega, by omega⟩
    · exact ⟨args.length, rfl, by omega, by omega⟩
  rw [hk]
  refine Tri.slcLds (T := u8E) (ro := true) (o := o) (l := args) 0 k (by first|exact K0|exact K1|exact K2|exact K3|exact K4|exact K5|exact K6|exact K7|exact K8|exact K9|exact K10|exact K11) rfl (by simp) (by simp) (by omega) (by omega) fun o5 h5 => ?_
  refine Tri.mkS (T := u8E) (ro := false) (d := ⟨a4, 0, 1, 1, 1⟩) (l := [5]) (c := [.i .u8 5]) (by first|exact K0|exact K1|exact K2|exact K3|exact K4|exact K5|exact K6|exact K7|exact K8|exact K9|exact K10|exact K11) (SlOk.mk' rfl (Nat.le_refl _) (Nat.le_refl _) rfl) ?_
  refine Tri.app (T := u8E) (o := some ⟨a4, 0, 1, 1, 1⟩) (l := [5]) ((args.take k).drop 0) (by first|exact K0|exact K1|exact K2|exact K3|exact K4|exact K5|exact K6|exact K7|exact K8|exact K9|exact K10|exact K11) rfl rfl (by simp; omega) (by decide) (by decide) (by simp only [appBound, List.length_cons, List.length_nil, List.length_drop, List.length_take]; omega) fun oU => ?_
  rw [List.drop_zero]
  generalize hUd : [5] ++ args.take k = U
  have hUl : U.length ≤ 31 ∧ 1 ≤ U.length := by rw [← hUd]; simp; omega
  have hU : ∀ x ∈ U, 0 ≤ x ∧ x < 256 := by
    rw [← hUd]
    intro x hx
    rcases List.mem_append.1 hx with hx | hx
    · simp at hx; subst hx; omega
    · exact hA x (List.mem_of_mem_take hx)
  refine Tri.loop (I := fun m l' L => ∃ i : Nat, m = U.length - i ∧ i ≤ U.length ∧ l' = [.sc (.sl oU), .sc (.i .u8 stop), .sc (.b true), .sc (.p (some (p, 0))), .sc (.i .i64 i)] ∧ L = [Wh p (onL U i), .sl false u8E oU U])
    ⟨0, rfl, Nat.zero_le _, rfl, rfl⟩ (by repeat (first|exact Sub.refl _|exact Sub.nil _|(apply Sub.cons; (first|exact K0|exact K1|exact K2|exact K3|exact K4|exact K5|exact K6|exact K7|exact K8|exact K9|exact K10|exact K11))|apply Sub.skip)) ?_
  rintro m l' L ⟨i, rfl, hi, rfl, rfl⟩
  unfold t4_b8
  repeat (first|refine wa ?_|refine wb ?_|refine wc ?_|refine wd ?_|refine we ?_|refine wf ?_|refine wg ?_|refine wh rfl ?_|refine wi rfl ?_|refine wj rfl ?_|refine wk rfl ?_|refine wl rfl ?_|refine wm (by decide) ?_|refine wn ?_|refine wo ?_|refine wp (by decide) ?_|(apply Tri.ldE; (first|exact K0|exact K1|exact K2|exact K3|exact K4|exact K5|exact K6|exact K7|exact K8|exact K9|exact K10|exact K11); (exact rfl); (exact wz rfl))|(apply Tri.stE; (first|exact K0|exact K1|exact K2|exact K3|exact K4|exact K5|exact K6|exact K7|exact K8|exact K9|exact K10|exact K11); (exact rfl); (exact wz rfl))|(apply Tri.same; (first|exact K0|exact K1|exact K2|exact K3|exact K4|exact K5|exact K6|exact K7|exact K8|exact K9|exact K10|exact K11); (exact rfl); (exact wz rfl))|refine wq fun _ => ?_)
  refine Tri.slLen (T := u8E) (ro := false) (o := oU) (l := U) (by first|exact K0|exact K1|exact K2|exact K3|exact K4|exact K5|exact K6|exact K7|exact K8|exact K9|exact K10|exact K11) fun e3 e4 => ?_
  rw [e4]
  refine Tri.cnd (fun hc => ?_) (fun hc => ?_)
  · have hc : i < U.length := by simp at hc; omega
    have hUi : U[i]? = some (U.getD i 0) := by rw [List.getElem?_eq_getElem hc, List.getD_eq_getElem?_getD, List.getElem?_eq_getElem hc]; rfl
    have hr := hU _ (List.mem_of_getElem? hUi)
    refine Tri.ixld (T := u8E) (o := oU) (l := U) (by first|exact K0|exact K1|exact K2|exact K3|exact K4|exact K5|exact K6|exact K7|exact K8|exact K9|exact K10|exact K11) rfl (by omega) (by omega) fun z hz => ?_
    rw [Int.toNat_natCast, hUi] at hz; cases hz
    repeat (first|refine wa ?_|refine wb ?_|refine wc ?_|refine wd ?_|refine we ?_|refine wf ?_|refine wg ?_|refine wh rfl ?_|refine wi rfl ?_|refine wj rfl ?_|refine wk rfl ?_|refine wl rfl ?_|refine wm (by decide) ?_|refine wn ?_|refine wo ?_|refine wp (by decide) ?_|(apply Tri.ldE; (first|exact K0|exact K1|exact K2|exact K3|exact K4|exact K5|exact K6|exact K7|exact K8|exact K9|exact K10|exact K11); (exact rfl); (exact wz rfl))|(apply Tri.stE; (first|exact K0|exact K1|exact K2|exact K3|exact K4|exact K5|exact K6|exact K7|exact K8|exact K9|exact K10|exact K11); (exact rfl); (exact wz rfl))|(apply Tri.same; (first|exact K0|exact K1|exact K2|exact K3|exact K4|exact K5|exact K6|exact K7|exact K8|exact K9|exact K10|exact K11); (exact rfl); (exact wz rfl))|refine wq fun _ => ?_)
    refine Tri.brT rfl ?_
    rw [Int.tmod_eq_emod_of_nonneg hr.1, wr_u64 (by omega) (by omega)]
    refine Tri.call (set_spec (l := onL U i) (by rw [onL_length]; omega)) (by repeat (first|exact Picks.nil|(apply Picks.cons; (first|exact K0|exact K1|exact K2|exact K3|exact K4|exact K5|exact K6|exact K7|exact K8|exact K9|exact K10|exact K11)))) ?_
    rw [on_set (by omega)]
    rintro v L' ⟨rfl, rfl⟩
    simp only [List.cons_append, List.nil_append]
    repeat (first|refine wa ?_|refine wb ?_|refine wc ?_|refine wd ?_|refine we ?_|refine wf ?_|refine wg ?_|refine wh rfl ?_|refine wi rfl ?_|refine wj rfl ?_|refine wk rfl ?_|refine wl rfl ?_|refine wm (by decide) ?_|refine wn ?_|refine wo ?_|refine wp (by decide) ?_|(apply Tri.ldE; (first|exact K0|exact K1|exact K2|exact K3|exact K4|exact K5|exact K6|exact K7|exact K8|exact K9|exact K10|exact K11); (exact rfl); (exact wz rfl))|(apply Tri.stE; (first|exact K0|exact K1|exact K2|exact K3|exact K4|exact K5|exact K6|exact K7|exact K8|exact K9|exact K10|exact K11); (exact rfl); (exact wz rfl))|(apply Tri.same; (first|exact K0|exact K1|exact K2|exact K3|exact K4|exact K5|exact K6|exact K7|exact K8|exact K9|exact K10|exact K11); (exact rfl); (exact wz rfl))|refine wq fun _ => ?_)
    refine Tri.cndF rfl ?_
    refine Tri.back (m' := U.length - (i + 1)) (by omega) ⟨i + 1, rfl, by omega, ?_, rfl⟩ (by repeat (first|exact Sub.refl _|exact Sub.nil _|(apply Sub.cons; (first|exact K0|exact K1|exact K2|exact K3|exact K4|exact K5|exact K6|exact K7|exact K8|exact K9|exact K10|exact K11))|apply Sub.skip))
    rw [wr_i64 (by omega) (by omega)]; rfl
  · have hc : i = U.length := by simp at hc; omega
    subst hc
    refine Tri.exit (by decide) ?_
    unfold t4_k8
    repeat (first|refine wa ?_|refine wb ?_|refine wc ?_|refine wd ?_|refine we ?_|refine wf ?_|refine wg ?_|refine wh rfl ?_|refine wi rfl ?_|refine wj rfl ?_|refine wk rfl ?_|refine wl rfl ?_|refine wm (by decide) ?_|refine wn ?_|refine wo ?_|refine wp (by decide) ?_|(apply Tri.ldE; (first|exact K0|exact K1|exact K2|exact K3|exact K4|exact K5|exact K6|exact K7|exact K8|exact K9|exact K10|exact K11); (exact rfl); (exact wz rfl))|(apply Tri.stE; (first|exact K0|exact K1|exact K2|exact K3|exact K4|exact K5|exact K6|exact K7|exact K8|exact K9|exact K10|exact K11); (exact rfl); (exact wz rfl))|(apply Tri.same; (first|exact K0|exact K1|exact K2|exact K3|exact K4|exact K5|exact K6|exact K7|exact K8|exact K9|exact K10|exact K11); (exact rfl); (exact wz rfl))|refine wq fun _ => ?_)
    refine Tri.slLen (T := u8E) (ro := false) (o := oU) (l := U) (by first|exact K0|exact K1|exact K2|exact K3|exact K4|exact K5|exact K6|exact K7|exact K8|exact K9|exact K10|exact K11) fun e5 e6 => ?_
    rw [e6]
    refine Tri.brT (by rw [bne_iff_ne]; omega) ?_
    rw [wr_i64 (n := stop) (by omega) (by omega), Int.tmod_eq_emod_of_nonneg hst.1]
    obtain ⟨s, hs⟩ : ∃ s : Nat, stop % (U.length : Int) = s := ⟨(stop % (U.length : Int)).toNat, (Int.toNat_of_nonneg (Int.emod_nonneg _ (by omega))).symm⟩
    have hsl : s < U.length := by have := Int.emod_lt_of_pos stop (b := (U.length : Int)) (by omega); rw [hs] at this; omega
    rw [hs]
    refine Tri.call (stop_spec (l := onL U U.length) (by rw [onL_length]; omega)) (by repeat (first|exact Picks.nil|(apply Picks.cons; (first|exact K0|exact K1|exact K2|exact K3|exact K4|exact K5|exact K6|exact K7|exact K8|exact K9|exact K10|exact K11)))) ?_
    rintro v L' ⟨rfl, rfl⟩
    have hh : has (onL U U.length) 2 s = true := by simp [has, on_idx hsl, onL_length, hsl]
    rw [hh]
    simp only [List.cons_append, List.nil_append]
    repeat (first|refine wa ?_|refine wb ?_|refine wc ?_|refine wd ?_|refine we ?_|refine wf ?_|refine wg ?_|refine wh rfl ?_|refine wi rfl ?_|refine wj rfl ?_|refine wk rfl ?_|refine wl rfl ?_|refine wm (by decide) ?_|refine wn ?_|refine wo ?_|refine wp (by decide) ?_|(apply Tri.ldE; (first|exact K0|exact K1|exact K2|exact K3|exact K4|exact K5|exact K6|exact K7|exact K8|exact K9|exact K10|exact K11); (exact rfl); (exact wz rfl))|(apply Tri.stE; (first|exact K0|exact K1|exact K2|exact K3|exact K4|exact K5|exact K6|exact K7|exact K8|exact K9|exact K10|exact K11); (exact rfl); (exact wz rfl))|(apply Tri.same; (first|exact K0|exact K1|exact K2|exact K3|exact K4|exact K5|exact K6|exact K7|exact K8|exact K9|exact K10|exact K11); (exact rfl); (exact wz rfl))|refine wq fun _ => ?_)
    refine Tri.loop (I := onI oU U p s) (L0 := [Wh p (onW U s (0 : Nat)), .sl false u8E oU U]) ⟨0, rfl, by omega, ?_, rfl⟩ ?_ ?_
    · rw [show (((0 : Nat) : Int)) = 0 from rfl, on_none]; rfl
    · rw [show (((0 : Nat) : Int)) = 0 from rfl, onW_zero]; exact (by repeat (first|exact Sub.refl _|exact Sub.nil _|(apply Sub.cons; (first|exact K0|exact K1|exact K2|exact K3|exact K4|exact K5|exact K6|exact K7|exact K8|exact K9|exact K10|exact K11))|apply Sub.skip))
    · rintro m l' L ⟨now, rfl, h16, rfl, rfl⟩
      exact once_round hU hUl.1 hsl h16
end Go.Proofs.Ytonohkjngmcbmaa
