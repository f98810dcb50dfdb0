/- The law LeasesHeld on the abstract machine. -/
import Derived.Test.YtmbnikcnmjpheaaLC
import Derived.Test.YtmbnikcnmjpheaaLawGone
namespace Go.Proofs.Ytmbnikcnmjpheaa
open Go Go.Proofs.Ytmbnikcnmjpheaa.Fw
set_option linter.unusedVariables false
set_option linter.unusedSimpArgs false

/-- how long the i-th was granted for -/
def grL (U : List By) (i : Nat) : Int := (U.getD i ⟨0, by decide⟩).1 % 60
theorem grL_b (U : List By) (i : Nat) : 0 ≤ grL U i ∧ grL U i < 60 := by unfold grL; omega
/-- what stands for the i-th at the end -/
def fin_ (U : List By) (lo : Int) (i : Nat) : Hd := if bitE lo i = 1 then hz else ⟨(i : Int) + 1, grL U i, 0⟩
structure Gv (U : List By) (lo : Int) (n i : Nat) (V : List Hd) : Prop where
  len : V.length = 33
  at_ : ∀ k : Nat, k < 33 → V[k]? = some (if 1 ≤ k ∧ k ≤ n then (if k ≤ i then fin_ U lo (k - 1) else ⟨k, 0, 0⟩) else hz)
theorem Gv.zero {U : List By} {lo : Int} {n : Nat} {V : List Hd} (h : Av n V) : Gv U lo n 0 V := ⟨h.len, fun k hk => by
  rw [h.at_ k hk]
  by_cases c : 1 ≤ k ∧ k ≤ n
  · rw [if_pos c, if_pos c, if_neg (by omega)]
  · rw [if_neg c, if_neg c]⟩
theorem Gv.step {U : List By} {lo : Int} {n i : Nat} {V W : List Hd} (h : Gv U lo n i V) (hi : i < n) (hn : n ≤ 8) (hW : W = V.set (i + 1) (fin_ U lo i)) : Gv U lo n (i + 1) W := by
  subst hW
  refine ⟨by simpa using h.len, fun k hk => ?_⟩
  by_cases e : k = i + 1
  · subst e
    rw [List.getElem?_set_self (by rw [h.len]; omega), if_pos (by omega), if_pos (Nat.le_refl _)]; rfl
  · rw [List.getElem?_set_ne (by omega), h.at_ k hk]
    by_cases c : 1 ≤ k ∧ k ≤ n
    · rw [if_pos c, if_pos c]
      by_cases c2 : k ≤ i
      · rw [if_pos c2, if_pos (by omega)]
      · rw [if_neg c2, if_neg (by omega)]
    · rw [if_neg c, if_neg c]
/-- is the i-th held at that time? -/
def isH (U : List By) (lo t : Int) (i : Nat) : Bool := decide (bitE lo i = 0) && decide (grL U i > t)
def hL (U : List By) (lo t : Int) (n : Nat) : List Int := ((List.range n).filter (isH U lo t)).map fun (i : Nat) => (i : Int) + 1
theorem hL_succ (U : List By) (lo t : Int) (n : Nat) : hL U lo t (n + 1) = hL U lo t n ++ if isH U lo t n = true then [(n : Int) + 1] else [] := by
  unfold hL
  rw [List.range_succ, List.filter_append, List.map_append]
  congr 1
  by_cases h : isH U lo t n = true
  · rw [if_pos h, List.filter_cons, if_pos h]; rfl
  · rw [if_neg h, List.filter_cons, if_neg h]; rfl
theorem hL_pre (U : List By) (lo t : Int) {i n : Nat} (h : i ≤ n) : ∃ T, hL U lo t n = hL U lo t i ++ T := by
  induction n with
  | zero => obtain rfl : i = 0 := by omega
            exact ⟨[], by simp⟩
  | succ n ih =>
    by_cases e : i = n + 1
    · subst e; exact ⟨[], by simp⟩
    · obtain ⟨T, hT⟩ := ih (by omega)
      rw [hL_succ, hT, List.append_assoc]; exact ⟨_, rfl⟩
theorem hL_len (U : List By) (lo t : Int) (n : Nat) : (hL U lo t n).length ≤ n := by
  unfold hL; rw [List.length_map]; exact Nat.le_trans (List.length_filter_le _ _) (by simp)
theorem Gv.shape {U : List By} {lo : Int} {n : Nat} {V : List Hd} (h : Gv U lo n n V) (hn : n ≤ 8) : V = [hz] ++ (List.range n).map (fin_ U lo) ++ List.replicate (32 - n) hz := by
  refine List.ext_getElem? fun k => ?_
  by_cases hk : k < 33
  · rw [h.at_ k hk]
    cases k with
    | zero => rw [if_neg (by omega)]; rfl
    | succ k =>
      rw [List.append_assoc, List.singleton_append, List.getElem?_cons_succ]
      by_cases c : k < n
      · rw [if_pos (by omega), if_pos (by omega), List.getElem?_append_left (by simpa using c)]
        simp [c]
      · rw [if_neg (by omega), List.getElem?_append_right (by simp; omega), List.getElem?_replicate, if_pos (by simp; omega)]
  · rw [List.getElem?_eq_none (by rw [h.len]; omega), List.getElem?_eq_none (by simp; omega)]
theorem Gv.held {U : List By} {lo t : Int} {n : Nat} {V : List Hd} (h : Gv U lo n n V) (hn : n ≤ 8) (hlo : 0 ≤ lo) (ht : 0 ≤ t) : heldL t V = hL U lo t n := by
  rw [h.shape hn]
  unfold heldL hL
  have e0 : ¬ ((hz.un) > t) := by simp [hz]; omega
  rw [List.filter_append, List.filter_append, List.map_append, List.map_append]
  have h1 : ([hz].filter fun x => decide (x.un > t)) = [] := by rw [List.filter_cons, if_neg (by simpa using e0)]; rfl
  have h2 : ((List.replicate (32 - n) hz).filter fun x => decide (x.un > t)) = [] := by
    rw [List.filter_eq_nil_iff]; intro x hx; rw [List.eq_of_mem_replicate hx]; simpa using e0
  rw [h1, h2, List.map_nil, List.nil_append, List.append_nil, List.filter_map, List.map_map]
  have h3 : ∀ i : Nat, ((fun x : Hd => decide (x.un > t)) ∘ fin_ U lo) i = isH U lo t i := by
    intro i
    rcases bit01 hlo i with hb | hb
    · have e : fin_ U lo i = ⟨(i : Int) + 1, grL U i, 0⟩ := by unfold fin_; rw [if_neg (by omega)]
      simp only [Function.comp, isH, e, hb, decide_true, Bool.true_and]
    · have e : fin_ U lo i = hz := by unfold fin_; rw [if_pos hb]
      simp only [Function.comp, isH, e, hb]
      simpa using e0
  rw [show (fun x : Hd => decide (x.un > t)) ∘ fin_ U lo = isH U lo t from funext h3]
  refine List.map_congr_left fun i hi => ?_
  have hi2 := (List.mem_filter.1 hi).2
  simp only [Function.comp, fin_]
  unfold isH at hi2
  simp only [Bool.and_eq_true, decide_eq_true_eq] at hi2
  rw [if_neg (by omega)]

set_option maxRecDepth 20000 in
set_option maxHeartbeats 4000000 in
theorem held_end {p n : Nat} {V : List Hd} {lo nw : Int} {o o5 oA : Option SlD} {U : List By} (hV : Gv U lo n n V) (hn : n ≤ 8) (hU : n ≤ U.length) (hlo : 0 ≤ lo) (hw : 0 ≤ nw ∧ nw < 256) :
    Tri E [pt p (leC 8 5 V), .sl false i64E o5 (idL n), .sl false i64E oA (idL n), .sl true byE o U] (t5_k35 6 [.sc (.sl o), .sc (.i .u8 lo), .sc (.i .u8 nw), .sc (.b true), .sc (.p (some (p, 0))), .sc (.sl o5), .sc (.sl oA)]) (RQ [] RT) := by
  unfold t5_k35
  repeat (first|refine wa ?_|refine wb ?_|refine wc ?_|refine wd ?_|refine we ?_|refine wf ?_|refine wg ?_|refine wh rfl ?_|refine wi rfl ?_|refine wj rfl ?_|refine wk rfl ?_|refine wl rfl ?_|refine wm (by decide) ?_|(refine hC ?_)|(apply Tri.ldE; (first|exact K0|exact K1|exact K2|exact K3|exact K4|exact K5|exact K6|exact K7|exact K8|exact K9|exact K10|exact K11); (exact rfl); (exact wz rfl))|(apply Tri.stE; (first|exact K0|exact K1|exact K2|exact K3|exact K4|exact K5|exact K6|exact K7|exact K8|exact K9|exact K10|exact K11); (exact rfl); (exact wz rfl))|(apply Tri.same; (first|exact K0|exact K1|exact K2|exact K3|exact K4|exact K5|exact K6|exact K7|exact K8|exact K9|exact K10|exact K11); (exact rfl); (exact wz rfl))|refine wq fun _ => ?_)
  refine Tri.brT rfl ?_
  rw [Int.tmod_eq_emod_of_nonneg hw.1, wr_u64 (n := nw % 60) (by omega) (by omega)]
  obtain ⟨t, ht⟩ : ∃ t, nw % 60 = t := ⟨_, rfl⟩
  rw [ht]
  have ht0 : 0 ≤ t := by omega
  refine Tri.call (held_spec (t := t) hV.len) (by repeat (first|exact Picks.nil|(apply Picks.cons; (first|exact K0|exact K1|exact K2|exact K3|exact K4|exact K5|exact K6|exact K7|exact K8|exact K9|exact K10|exact K11)))) ?_
  rw [hV.held hn hlo ht0]
  rintro v L' ⟨oh, rfl, rfl⟩
  simp only [List.cons_append, List.nil_append]
  repeat (first|refine wa ?_|refine wb ?_|refine wc ?_|refine wd ?_|refine we ?_|refine wf ?_|refine wg ?_|refine wh rfl ?_|refine wi rfl ?_|refine wj rfl ?_|refine wk rfl ?_|refine wl rfl ?_|refine wm (by decide) ?_|(refine hC ?_)|(apply Tri.ldE; (first|exact K0|exact K1|exact K2|exact K3|exact K4|exact K5|exact K6|exact K7|exact K8|exact K9|exact K10|exact K11); (exact rfl); (exact wz rfl))|(apply Tri.stE; (first|exact K0|exact K1|exact K2|exact K3|exact K4|exact K5|exact K6|exact K7|exact K8|exact K9|exact K10|exact K11); (exact rfl); (exact wz rfl))|(apply Tri.same; (first|exact K0|exact K1|exact K2|exact K3|exact K4|exact K5|exact K6|exact K7|exact K8|exact K9|exact K10|exact K11); (exact rfl); (exact wz rfl))|refine wq fun _ => ?_)
  have hil := idL_len n
  have hhl := hL_len U lo t n
  refine Tri.loop (I := fun m l' L => ∃ i : Nat, m = n - i ∧ i ≤ n ∧ l' = [.sc (.sl o), .sc (.i .u8 lo), .sc (.i .u8 nw), .sc (.b true), .sc (.p (some (p, 0))), .sc (.sl o5), .sc (.sl oA), .sc (.sl oh), .sc (.i .i64 (hL U lo t i).length), .sc (.i .i64 i)] ∧
    L = [pt p (leC 8 5 V), .sl false i64E oh (hL U lo t n), .sl false i64E o5 (idL n), .sl false i64E oA (idL n), .sl true byE o U])
    ⟨0, rfl, by omega, rfl, rfl⟩ (by repeat (first|exact Sub.refl _|exact Sub.nil _|(apply Sub.cons; (first|exact K0|exact K1|exact K2|exact K3|exact K4|exact K5|exact K6|exact K7|exact K8|exact K9|exact K10|exact K11))|apply Sub.skip)) ?_
  rintro m l' L ⟨i, rfl, hi, rfl, rfl⟩
  unfold t5_b84
  repeat (first|refine wa ?_|refine wb ?_|refine wc ?_|refine wd ?_|refine we ?_|refine wf ?_|refine wg ?_|refine wh rfl ?_|refine wi rfl ?_|refine wj rfl ?_|refine wk rfl ?_|refine wl rfl ?_|refine wm (by decide) ?_|(refine hC ?_)|(apply Tri.ldE; (first|exact K0|exact K1|exact K2|exact K3|exact K4|exact K5|exact K6|exact K7|exact K8|exact K9|exact K10|exact K11); (exact rfl); (exact wz rfl))|(apply Tri.stE; (first|exact K0|exact K1|exact K2|exact K3|exact K4|exact K5|exact K6|exact K7|exact K8|exact K9|exact K10|exact K11); (exact rfl); (exact wz rfl))|(apply Tri.same; (first|exact K0|exact K1|exact K2|exact K3|exact K4|exact K5|exact K6|exact K7|exact K8|exact K9|exact K10|exact K11); (exact rfl); (exact wz rfl))|refine wq fun _ => ?_)
  refine Tri.slLen (l := idL n) (o := o5) (ro := false) (T := i64E) (by first|exact K0|exact K1|exact K2|exact K3|exact K4|exact K5|exact K6|exact K7|exact K8|exact K9|exact K10|exact K11) fun e1 e2 => ?_
  rw [e2, idL_len]
  refine Tri.cnd (fun hc => ?_) (fun hc => ?_)
  · have hc : i < n := by simp at hc; omega
    refine Tri.brT (by simp) ?_
    refine Tri.brT rfl ?_
    rw [Int.toNat_natCast, show min i 8 = i by omega]
    have hli := hL_len U lo t i
    rw [wr_i64 (n := (i : Int) + 1) (by omega) (by omega)]
    have hsu := hL_succ U lo t i
    have hUi : U[i]? = some U[i] := List.getElem?_eq_getElem (by omega)
    have hgr : grL U i = U[i].1 % 60 := by unfold grL; rw [List.getD_eq_getElem?_getD, hUi]; rfl
    rcases bit01 hlo i with hb | hb
    · refine Tri.cndT (by show (bitE lo i == 0) = true; rw [hb]; rfl) ?_
      refine Tri.ixldR (T := byE) (o := o) (x := U[i]) (k := 0) (n := 1) (by first|exact K0|exact K1|exact K2|exact K3|exact K4|exact K5|exact K6|exact K7|exact K8|exact K9|exact K10|exact K11) rfl (by omega) (by rw [Int.toNat_natCast]; exact hUi) (by decide) rfl ?_
      repeat (first|refine wa ?_|refine wb ?_|refine wc ?_|refine wd ?_|refine we ?_|refine wf ?_|refine wg ?_|refine wh rfl ?_|refine wi rfl ?_|refine wj rfl ?_|refine wk rfl ?_|refine wl rfl ?_|refine wm (by decide) ?_|(refine hC ?_)|(apply Tri.ldE; (first|exact K0|exact K1|exact K2|exact K3|exact K4|exact K5|exact K6|exact K7|exact K8|exact K9|exact K10|exact K11); (exact rfl); (exact wz rfl))|(apply Tri.stE; (first|exact K0|exact K1|exact K2|exact K3|exact K4|exact K5|exact K6|exact K7|exact K8|exact K9|exact K10|exact K11); (exact rfl); (exact wz rfl))|(apply Tri.same; (first|exact K0|exact K1|exact K2|exact K3|exact K4|exact K5|exact K6|exact K7|exact K8|exact K9|exact K10|exact K11); (exact rfl); (exact wz rfl))|refine wq fun _ => ?_)
      refine Tri.brT rfl ?_
      refine Tri.brT rfl ?_
      have hu2 := U[i].2
      rw [Int.tmod_eq_emod_of_nonneg hu2.1, Int.tmod_eq_emod_of_nonneg hw.1, ht, ← hgr]
      refine Tri.cnd (fun hg => ?_) (fun hg => ?_)
      · have hg : grL U i > t := by simpa using hg
        have hH : isH U lo t i = true := by unfold isH; rw [decide_eq_true hb, decide_eq_true hg]; rfl
        rw [if_pos hH] at hsu
        obtain ⟨T, hT⟩ := hL_pre U lo t (i := i + 1) (n := n) (by omega)
        rw [hsu, List.append_assoc] at hT
        have hlt : (hL U lo t i).length < (hL U lo t n).length := by rw [hT]; simp
        refine Tri.slLen (l := hL U lo t n) (o := oh) (ro := false) (T := i64E) (by first|exact K0|exact K1|exact K2|exact K3|exact K4|exact K5|exact K6|exact K7|exact K8|exact K9|exact K10|exact K11) fun e3 e4 => ?_
        rw [e4]
        refine Tri.cndF (by simp; omega) ?_
        refine Tri.ixldR (T := i64E) (o := oh) (x := (i : Int) + 1) (k := 0) (n := 1) (by first|exact K0|exact K1|exact K2|exact K3|exact K4|exact K5|exact K6|exact K7|exact K8|exact K9|exact K10|exact K11) rfl (by omega) (by rw [Int.toNat_natCast, hT]; simp) (by decide) rfl ?_
        repeat (first|refine wa ?_|refine wb ?_|refine wc ?_|refine wd ?_|refine we ?_|refine wf ?_|refine wg ?_|refine wh rfl ?_|refine wi rfl ?_|refine wj rfl ?_|refine wk rfl ?_|refine wl rfl ?_|refine wm (by decide) ?_|(refine hC ?_)|(apply Tri.ldE; (first|exact K0|exact K1|exact K2|exact K3|exact K4|exact K5|exact K6|exact K7|exact K8|exact K9|exact K10|exact K11); (exact rfl); (exact wz rfl))|(apply Tri.stE; (first|exact K0|exact K1|exact K2|exact K3|exact K4|exact K5|exact K6|exact K7|exact K8|exact K9|exact K10|exact K11); (exact rfl); (exact wz rfl))|(apply Tri.same; (first|exact K0|exact K1|exact K2|exact K3|exact K4|exact K5|exact K6|exact K7|exact K8|exact K9|exact K10|exact K11); (exact rfl); (exact wz rfl))|refine wq fun _ => ?_)
        refine Tri.ixldR (T := i64E) (o := o5) (x := (i : Int) + 1) (k := 0) (n := 1) (by first|exact K0|exact K1|exact K2|exact K3|exact K4|exact K5|exact K6|exact K7|exact K8|exact K9|exact K10|exact K11) rfl (by omega) (by rw [Int.toNat_natCast]; exact idL_get hc) (by decide) rfl ?_
        repeat (first|refine wa ?_|refine wb ?_|refine wc ?_|refine wd ?_|refine we ?_|refine wf ?_|refine wg ?_|refine wh rfl ?_|refine wi rfl ?_|refine wj rfl ?_|refine wk rfl ?_|refine wl rfl ?_|refine wm (by decide) ?_|(refine hC ?_)|(apply Tri.ldE; (first|exact K0|exact K1|exact K2|exact K3|exact K4|exact K5|exact K6|exact K7|exact K8|exact K9|exact K10|exact K11); (exact rfl); (exact wz rfl))|(apply Tri.stE; (first|exact K0|exact K1|exact K2|exact K3|exact K4|exact K5|exact K6|exact K7|exact K8|exact K9|exact K10|exact K11); (exact rfl); (exact wz rfl))|(apply Tri.same; (first|exact K0|exact K1|exact K2|exact K3|exact K4|exact K5|exact K6|exact K7|exact K8|exact K9|exact K10|exact K11); (exact rfl); (exact wz rfl))|refine wq fun _ => ?_)
        refine Tri.cndF (by simp) ?_
        rw [wr_i64 (n := ((hL U lo t i).length : Int) + 1) (by omega) (by omega)]
        exact Tri.back (m' := n - (i + 1)) (by omega) ⟨i + 1, rfl, by omega, by rw [hsu]; simp, rfl⟩ (by repeat (first|exact Sub.refl _|exact Sub.nil _|(apply Sub.cons; (first|exact K0|exact K1|exact K2|exact K3|exact K4|exact K5|exact K6|exact K7|exact K8|exact K9|exact K10|exact K11))|apply Sub.skip))
      · have hg : ¬ grL U i > t := by simpa using hg
        have hH : ¬ isH U lo t i = true := by unfold isH; rw [decide_eq_false hg]; simp
        rw [if_neg hH, List.append_nil] at hsu
        exact Tri.back (m' := n - (i + 1)) (by omega) ⟨i + 1, rfl, by omega, by rw [hsu]; simp, rfl⟩ (by repeat (first|exact Sub.refl _|exact Sub.nil _|(apply Sub.cons; (first|exact K0|exact K1|exact K2|exact K3|exact K4|exact K5|exact K6|exact K7|exact K8|exact K9|exact K10|exact K11))|apply Sub.skip))
    · refine Tri.cndF (by show (bitE lo i == 0) = false; rw [hb]; rfl) ?_
      have hH : ¬ isH U lo t i = true := by unfold isH; rw [decide_eq_false (by omega)]; simp
      rw [if_neg hH, List.append_nil] at hsu
      exact Tri.back (m' := n - (i + 1)) (by omega) ⟨i + 1, rfl, by omega, by rw [hsu]; simp, rfl⟩ (by repeat (first|exact Sub.refl _|exact Sub.nil _|(apply Sub.cons; (first|exact K0|exact K1|exact K2|exact K3|exact K4|exact K5|exact K6|exact K7|exact K8|exact K9|exact K10|exact K11))|apply Sub.skip))
  · have hc : i = n := by simp at hc; omega
    subst hc
    refine Tri.exit (by decide) ?_
    unfold t5_k84
    repeat (first|refine wa ?_|refine wb ?_|refine wc ?_|refine wd ?_|refine we ?_|refine wf ?_|refine wg ?_|refine wh rfl ?_|refine wi rfl ?_|refine wj rfl ?_|refine wk rfl ?_|refine wl rfl ?_|refine wm (by decide) ?_|(refine hC ?_)|(apply Tri.ldE; (first|exact K0|exact K1|exact K2|exact K3|exact K4|exact K5|exact K6|exact K7|exact K8|exact K9|exact K10|exact K11); (exact rfl); (exact wz rfl))|(apply Tri.stE; (first|exact K0|exact K1|exact K2|exact K3|exact K4|exact K5|exact K6|exact K7|exact K8|exact K9|exact K10|exact K11); (exact rfl); (exact wz rfl))|(apply Tri.same; (first|exact K0|exact K1|exact K2|exact K3|exact K4|exact K5|exact K6|exact K7|exact K8|exact K9|exact K10|exact K11); (exact rfl); (exact wz rfl))|refine wq fun _ => ?_)
    refine Tri.cndT rfl ?_
    refine Tri.slLen (l := idL i) (o := oA) (ro := false) (T := i64E) (by first|exact K0|exact K1|exact K2|exact K3|exact K4|exact K5|exact K6|exact K7|exact K8|exact K9|exact K10|exact K11) fun e3 e4 => ?_
    refine Tri.slLen (l := hL U lo t i) (o := oh) (ro := false) (T := i64E) (by first|exact K0|exact K1|exact K2|exact K3|exact K4|exact K5|exact K6|exact K7|exact K8|exact K9|exact K10|exact K11) fun e5 e6 => ?_
    rw [e2, e4, e6]
    refine Tri.cndT (by simp) ?_
    refine Tri.cndT (by simp) ?_
    refine Tri.call (lost_no (j := 20) (x := hz) hV.len (by omega) (by omega) (by rw [hV.at_ 20 (by omega), if_neg (by omega)]) rfl) (by repeat (first|exact Picks.nil|(apply Picks.cons; (first|exact K0|exact K1|exact K2|exact K3|exact K4|exact K5|exact K6|exact K7|exact K8|exact K9|exact K10|exact K11)))) ?_
    rintro v L' ⟨rfl, rfl⟩
    simp only [List.cons_append, List.nil_append]
    repeat (first|refine wa ?_|refine wb ?_|refine wc ?_|refine wd ?_|refine we ?_|refine wf ?_|refine wg ?_|refine wh rfl ?_|refine wi rfl ?_|refine wj rfl ?_|refine wk rfl ?_|refine wl rfl ?_|refine wm (by decide) ?_|(refine hC ?_)|(apply Tri.ldE; (first|exact K0|exact K1|exact K2|exact K3|exact K4|exact K5|exact K6|exact K7|exact K8|exact K9|exact K10|exact K11); (exact rfl); (exact wz rfl))|(apply Tri.stE; (first|exact K0|exact K1|exact K2|exact K3|exact K4|exact K5|exact K6|exact K7|exact K8|exact K9|exact K10|exact K11); (exact rfl); (exact wz rfl))|(apply Tri.same; (first|exact K0|exact K1|exact K2|exact K3|exact K4|exact K5|exact K6|exact K7|exact K8|exact K9|exact K10|exact K11); (exact rfl); (exact wz rfl))|refine wq fun _ => ?_)
    exact Tri.retF (L1 := []) rfl (Sub.nil _)
set_option maxRecDepth 20000 in
set_option maxHeartbeats 4000000 in
theorem held_mid {p n : Nat} {lo nw : Int} {o o5 o6 : Option SlD} {U : List By} (hn : n ≤ 8) (hU : n ≤ U.length) (hlo : 0 ≤ lo) (hw : 0 ≤ nw ∧ nw < 256) :
    Tri E [pt p (leC 8 5 (List.replicate 33 hz)), .sl false i64E o5 (idL n), .sl false cxE o6 (plL n), .sl true byE o U] (t5_k8 2 [.sc (.sl o), .sc (.i .u8 lo), .sc (.i .u8 nw), .sc (.b true), .sc (.p (some (p, 0))), .sc (.sl o5), .sc (.sl o6)]) (RQ [] RT) := by
  unfold t5_k8
  repeat (first|refine wa ?_|refine wb ?_|refine wc ?_|refine wd ?_|refine we ?_|refine wf ?_|refine wg ?_|refine wh rfl ?_|refine wi rfl ?_|refine wj rfl ?_|refine wk rfl ?_|refine wl rfl ?_|refine wm (by decide) ?_|(refine hC ?_)|(apply Tri.ldE; (first|exact K0|exact K1|exact K2|exact K3|exact K4|exact K5|exact K6|exact K7|exact K8|exact K9|exact K10|exact K11); (exact rfl); (exact wz rfl))|(apply Tri.stE; (first|exact K0|exact K1|exact K2|exact K3|exact K4|exact K5|exact K6|exact K7|exact K8|exact K9|exact K10|exact K11); (exact rfl); (exact wz rfl))|(apply Tri.same; (first|exact K0|exact K1|exact K2|exact K3|exact K4|exact K5|exact K6|exact K7|exact K8|exact K9|exact K10|exact K11); (exact rfl); (exact wz rfl))|refine wq fun _ => ?_)
  refine Tri.call (ask_ok hn) (by repeat (first|exact Picks.nil|(apply Picks.cons; (first|exact K0|exact K1|exact K2|exact K3|exact K4|exact K5|exact K6|exact K7|exact K8|exact K9|exact K10|exact K11)))) ?_
  rintro v L' ⟨V0, oA, hV0, rfl, rfl⟩
  simp only [List.cons_append, List.nil_append]
  repeat (first|refine wa ?_|refine wb ?_|refine wc ?_|refine wd ?_|refine we ?_|refine wf ?_|refine wg ?_|refine wh rfl ?_|refine wi rfl ?_|refine wj rfl ?_|refine wk rfl ?_|refine wl rfl ?_|refine wm (by decide) ?_|(refine hC ?_)|(apply Tri.ldE; (first|exact K0|exact K1|exact K2|exact K3|exact K4|exact K5|exact K6|exact K7|exact K8|exact K9|exact K10|exact K11); (exact rfl); (exact wz rfl))|(apply Tri.stE; (first|exact K0|exact K1|exact K2|exact K3|exact K4|exact K5|exact K6|exact K7|exact K8|exact K9|exact K10|exact K11); (exact rfl); (exact wz rfl))|(apply Tri.same; (first|exact K0|exact K1|exact K2|exact K3|exact K4|exact K5|exact K6|exact K7|exact K8|exact K9|exact K10|exact K11); (exact rfl); (exact wz rfl))|refine wq fun _ => ?_)
  have hil := idL_len n
  refine Tri.loop (I := fun m l' L => ∃ (i : Nat) (V : List Hd), m = n - i ∧ i ≤ n ∧ Gv U lo n i V ∧ l' = [.sc (.sl o), .sc (.i .u8 lo), .sc (.i .u8 nw), .sc (.b true), .sc (.p (some (p, 0))), .sc (.sl o5), .sc (.sl oA), .sc (.i .i64 i)] ∧
    L = [pt p (leC 8 5 V), .sl false i64E o5 (idL n), .sl false i64E oA (idL n), .sl true byE o U])
    ⟨0, V0, rfl, by omega, Gv.zero hV0, rfl, rfl⟩ (by repeat (first|exact Sub.refl _|exact Sub.nil _|(apply Sub.cons; (first|exact K0|exact K1|exact K2|exact K3|exact K4|exact K5|exact K6|exact K7|exact K8|exact K9|exact K10|exact K11))|apply Sub.skip)) ?_
  rintro m l' L ⟨i, V, rfl, hi, hV, rfl, rfl⟩
  unfold t5_b35
  repeat (first|refine wa ?_|refine wb ?_|refine wc ?_|refine wd ?_|refine we ?_|refine wf ?_|refine wg ?_|refine wh rfl ?_|refine wi rfl ?_|refine wj rfl ?_|refine wk rfl ?_|refine wl rfl ?_|refine wm (by decide) ?_|(refine hC ?_)|(apply Tri.ldE; (first|exact K0|exact K1|exact K2|exact K3|exact K4|exact K5|exact K6|exact K7|exact K8|exact K9|exact K10|exact K11); (exact rfl); (exact wz rfl))|(apply Tri.stE; (first|exact K0|exact K1|exact K2|exact K3|exact K4|exact K5|exact K6|exact K7|exact K8|exact K9|exact K10|exact K11); (exact rfl); (exact wz rfl))|(apply Tri.same; (first|exact K0|exact K1|exact K2|exact K3|exact K4|exact K5|exact K6|exact K7|exact K8|exact K9|exact K10|exact K11); (exact rfl); (exact wz rfl))|refine wq fun _ => ?_)
  refine Tri.slLen (l := idL n) (o := o5) (ro := false) (T := i64E) (by first|exact K0|exact K1|exact K2|exact K3|exact K4|exact K5|exact K6|exact K7|exact K8|exact K9|exact K10|exact K11) fun e1 e2 => ?_
  rw [e2, idL_len]
  refine Tri.cnd (fun hc => ?_) (fun hc => ?_)
  · have hc : i < n := by simp at hc; omega
    have hUi : U[i]? = some U[i] := List.getElem?_eq_getElem (by omega)
    have hgr : grL U i = U[i].1 % 60 := by unfold grL; rw [List.getD_eq_getElem?_getD, hUi]; rfl
    have hgb := grL_b U i
    have hu2 := U[i].2
    refine Tri.ixldR (T := i64E) (o := o5) (x := (i : Int) + 1) (k := 0) (n := 1) (by first|exact K0|exact K1|exact K2|exact K3|exact K4|exact K5|exact K6|exact K7|exact K8|exact K9|exact K10|exact K11) rfl (by omega) (by rw [Int.toNat_natCast]; exact idL_get hc) (by decide) rfl ?_
    repeat (first|refine wa ?_|refine wb ?_|refine wc ?_|refine wd ?_|refine we ?_|refine wf ?_|refine wg ?_|refine wh rfl ?_|refine wi rfl ?_|refine wj rfl ?_|refine wk rfl ?_|refine wl rfl ?_|refine wm (by decide) ?_|(refine hC ?_)|(apply Tri.ldE; (first|exact K0|exact K1|exact K2|exact K3|exact K4|exact K5|exact K6|exact K7|exact K8|exact K9|exact K10|exact K11); (exact rfl); (exact wz rfl))|(apply Tri.stE; (first|exact K0|exact K1|exact K2|exact K3|exact K4|exact K5|exact K6|exact K7|exact K8|exact K9|exact K10|exact K11); (exact rfl); (exact wz rfl))|(apply Tri.same; (first|exact K0|exact K1|exact K2|exact K3|exact K4|exact K5|exact K6|exact K7|exact K8|exact K9|exact K10|exact K11); (exact rfl); (exact wz rfl))|refine wq fun _ => ?_)
    refine Tri.ixldR (T := byE) (o := o) (x := U[i]) (k := 0) (n := 1) (by first|exact K0|exact K1|exact K2|exact K3|exact K4|exact K5|exact K6|exact K7|exact K8|exact K9|exact K10|exact K11) rfl (by omega) (by rw [Int.toNat_natCast]; exact hUi) (by decide) rfl ?_
    repeat (first|refine wa ?_|refine wb ?_|refine wc ?_|refine wd ?_|refine we ?_|refine wf ?_|refine wg ?_|refine wh rfl ?_|refine wi rfl ?_|refine wj rfl ?_|refine wk rfl ?_|refine wl rfl ?_|refine wm (by decide) ?_|(refine hC ?_)|(apply Tri.ldE; (first|exact K0|exact K1|exact K2|exact K3|exact K4|exact K5|exact K6|exact K7|exact K8|exact K9|exact K10|exact K11); (exact rfl); (exact wz rfl))|(apply Tri.stE; (first|exact K0|exact K1|exact K2|exact K3|exact K4|exact K5|exact K6|exact K7|exact K8|exact K9|exact K10|exact K11); (exact rfl); (exact wz rfl))|(apply Tri.same; (first|exact K0|exact K1|exact K2|exact K3|exact K4|exact K5|exact K6|exact K7|exact K8|exact K9|exact K10|exact K11); (exact rfl); (exact wz rfl))|refine wq fun _ => ?_)
    refine Tri.brT rfl ?_
    refine Tri.ixE (T := byE) (o := o) (by first|exact K0|exact K1|exact K2|exact K3|exact K4|exact K5|exact K6|exact K7|exact K8|exact K9|exact K10|exact K11) rfl (by omega) (by omega) fun d hd => ?_
    subst hd
    rw [Int.toNat_natCast]
    refine Tri.ldR (T := byE) (z := 1) (d := d) (j := i) (k := 0) (n := 1) (by first|exact K0|exact K1|exact K2|exact K3|exact K4|exact K5|exact K6|exact K7|exact K8|exact K9|exact K10|exact K11) rfl hUi rfl (Nat.le_refl _) rfl ?_
    repeat (first|refine wa ?_|refine wb ?_|refine wc ?_|refine wd ?_|refine we ?_|refine wf ?_|refine wg ?_|refine wh rfl ?_|refine wi rfl ?_|refine wj rfl ?_|refine wk rfl ?_|refine wl rfl ?_|refine wm (by decide) ?_|(refine hC ?_)|(apply Tri.ldE; (first|exact K0|exact K1|exact K2|exact K3|exact K4|exact K5|exact K6|exact K7|exact K8|exact K9|exact K10|exact K11); (exact rfl); (exact wz rfl))|(apply Tri.stE; (first|exact K0|exact K1|exact K2|exact K3|exact K4|exact K5|exact K6|exact K7|exact K8|exact K9|exact K10|exact K11); (exact rfl); (exact wz rfl))|(apply Tri.same; (first|exact K0|exact K1|exact K2|exact K3|exact K4|exact K5|exact K6|exact K7|exact K8|exact K9|exact K10|exact K11); (exact rfl); (exact wz rfl))|refine wq fun _ => ?_)
    refine Tri.brT rfl ?_
    rw [Int.tmod_eq_emod_of_nonneg hu2.1, ← hgr, wr_u64 (n := grL U i) (by omega) (by omega), show (i : Int) + 1 = ((i + 1 : Nat) : Int) by omega]
    have hx : V[i + 1]? = some ⟨((i + 1 : Nat) : Int), 0, 0⟩ := by rw [hV.at_ (i + 1) (by omega), if_pos (by omega), if_neg (by omega)]
    refine Tri.call (got_spec (j := i + 1) (u := grL U i) hV.len (by omega) (by omega) hx (by simp only; omega) (by omega)) (by repeat (first|exact Picks.nil|(apply Picks.cons; (first|exact K0|exact K1|exact K2|exact K3|exact K4|exact K5|exact K6|exact K7|exact K8|exact K9|exact K10|exact K11)))) ?_
    rintro v L' ⟨rfl, rfl⟩
    simp only [List.cons_append, List.nil_append]
    repeat (first|refine wa ?_|refine wb ?_|refine wc ?_|refine wd ?_|refine we ?_|refine wf ?_|refine wg ?_|refine wh rfl ?_|refine wi rfl ?_|refine wj rfl ?_|refine wk rfl ?_|refine wl rfl ?_|refine wm (by decide) ?_|(refine hC ?_)|(apply Tri.ldE; (first|exact K0|exact K1|exact K2|exact K3|exact K4|exact K5|exact K6|exact K7|exact K8|exact K9|exact K10|exact K11); (exact rfl); (exact wz rfl))|(apply Tri.stE; (first|exact K0|exact K1|exact K2|exact K3|exact K4|exact K5|exact K6|exact K7|exact K8|exact K9|exact K10|exact K11); (exact rfl); (exact wz rfl))|(apply Tri.same; (first|exact K0|exact K1|exact K2|exact K3|exact K4|exact K5|exact K6|exact K7|exact K8|exact K9|exact K10|exact K11); (exact rfl); (exact wz rfl))|refine wq fun _ => ?_)
    refine Tri.sameR (T := byE) (z := 1) (d := d) (j := i) (k := 0) (by first|exact K0|exact K1|exact K2|exact K3|exact K4|exact K5|exact K6|exact K7|exact K8|exact K9|exact K10|exact K11) rfl hUi rfl (Nat.le_refl _) rfl ?_
    refine Tri.cndF (by simp) ?_
    refine Tri.brT (by simp) ?_
    refine Tri.brT rfl ?_
    rw [show min i 8 = i by omega, wr_i64 (n := ((i + 1 : Nat) : Int)) (by omega) (by omega)]
    have hgx : (gotV V (i + 1) ⟨((i + 1 : Nat) : Int), 0, 0⟩ (grL U i)) = V.set (i + 1) ⟨((i + 1 : Nat) : Int), grL U i, 0⟩ := by
      unfold gotV
      by_cases hz0 : grL U i ≤ 0
      · rw [if_pos hz0, show grL U i = 0 by omega]
        obtain ⟨hj, he⟩ := List.getElem?_eq_some_iff.1 hx
        rw [← he, List.set_getElem_self]
      · rw [if_neg hz0]
    rw [hgx]
    have hl2 : (V.set (i + 1) ⟨((i + 1 : Nat) : Int), grL U i, 0⟩).length = 33 := by simpa using hV.len
    have hx2 : (V.set (i + 1) (⟨((i + 1 : Nat) : Int), grL U i, 0⟩ : Hd))[i + 1]? = some ⟨((i + 1 : Nat) : Int), grL U i, 0⟩ := List.getElem?_set_self (by rw [hV.len]; omega)
    rcases bit01 hlo i with hb | hb
    · refine Tri.cndF (by show (bitE lo i == 1) = false; rw [hb]; rfl) ?_
      exact Tri.back (m' := n - (i + 1)) (by omega) ⟨i + 1, _, rfl, by omega, hV.step hc hn (by unfold fin_; rw [if_neg (by omega)]), rfl, rfl⟩ (by repeat (first|exact Sub.refl _|exact Sub.nil _|(apply Sub.cons; (first|exact K0|exact K1|exact K2|exact K3|exact K4|exact K5|exact K6|exact K7|exact K8|exact K9|exact K10|exact K11))|apply Sub.skip))
    · refine Tri.cndT (by show (bitE lo i == 1) = true; rw [hb]; rfl) ?_
      refine Tri.ixldR (T := i64E) (o := o5) (x := (i : Int) + 1) (k := 0) (n := 1) (by first|exact K0|exact K1|exact K2|exact K3|exact K4|exact K5|exact K6|exact K7|exact K8|exact K9|exact K10|exact K11) rfl (by omega) (by rw [Int.toNat_natCast]; exact idL_get hc) (by decide) rfl ?_
      repeat (first|refine wa ?_|refine wb ?_|refine wc ?_|refine wd ?_|refine we ?_|refine wf ?_|refine wg ?_|refine wh rfl ?_|refine wi rfl ?_|refine wj rfl ?_|refine wk rfl ?_|refine wl rfl ?_|refine wm (by decide) ?_|(refine hC ?_)|(apply Tri.ldE; (first|exact K0|exact K1|exact K2|exact K3|exact K4|exact K5|exact K6|exact K7|exact K8|exact K9|exact K10|exact K11); (exact rfl); (exact wz rfl))|(apply Tri.stE; (first|exact K0|exact K1|exact K2|exact K3|exact K4|exact K5|exact K6|exact K7|exact K8|exact K9|exact K10|exact K11); (exact rfl); (exact wz rfl))|(apply Tri.same; (first|exact K0|exact K1|exact K2|exact K3|exact K4|exact K5|exact K6|exact K7|exact K8|exact K9|exact K10|exact K11); (exact rfl); (exact wz rfl))|refine wq fun _ => ?_)
      rw [show (i : Int) + 1 = ((i + 1 : Nat) : Int) by omega]
      refine Tri.call (lost_yes (j := i + 1) hl2 (by omega) (by omega) hx2 (by simp only; omega)) (by repeat (first|exact Picks.nil|(apply Picks.cons; (first|exact K0|exact K1|exact K2|exact K3|exact K4|exact K5|exact K6|exact K7|exact K8|exact K9|exact K10|exact K11)))) ?_
      rintro v L' ⟨rfl, rfl⟩
      simp only [List.cons_append, List.nil_append]
      repeat (first|refine wa ?_|refine wb ?_|refine wc ?_|refine wd ?_|refine we ?_|refine wf ?_|refine wg ?_|refine wh rfl ?_|refine wi rfl ?_|refine wj rfl ?_|refine wk rfl ?_|refine wl rfl ?_|refine wm (by decide) ?_|(refine hC ?_)|(apply Tri.ldE; (first|exact K0|exact K1|exact K2|exact K3|exact K4|exact K5|exact K6|exact K7|exact K8|exact K9|exact K10|exact K11); (exact rfl); (exact wz rfl))|(apply Tri.stE; (first|exact K0|exact K1|exact K2|exact K3|exact K4|exact K5|exact K6|exact K7|exact K8|exact K9|exact K10|exact K11); (exact rfl); (exact wz rfl))|(apply Tri.same; (first|exact K0|exact K1|exact K2|exact K3|exact K4|exact K5|exact K6|exact K7|exact K8|exact K9|exact K10|exact K11); (exact rfl); (exact wz rfl))|refine wq fun _ => ?_)
      rw [List.set_set]
      refine Tri.cndF rfl ?_
      exact Tri.back (m' := n - (i + 1)) (by omega) ⟨i + 1, _, rfl, by omega, hV.step hc hn (by unfold fin_; rw [if_pos hb]), rfl, rfl⟩ (by repeat (first|exact Sub.refl _|exact Sub.nil _|(apply Sub.cons; (first|exact K0|exact K1|exact K2|exact K3|exact K4|exact K5|exact K6|exact K7|exact K8|exact K9|exact K10|exact K11))|apply Sub.skip))
  · have hc : i = n := by simp at hc; omega
    subst hc
    refine Tri.exit (by decide) ?_
    exact Tri.sub (by repeat (first|exact Sub.refl _|exact Sub.nil _|(apply Sub.cons; (first|exact K0|exact K1|exact K2|exact K3|exact K4|exact K5|exact K6|exact K7|exact K8|exact K9|exact K10|exact K11))|apply Sub.skip)) (held_end hV hn hU hlo hw)
set_option maxRecDepth 20000 in
set_option maxHeartbeats 4000000 in
theorem held_tri {o : Option SlD} {U : List By} {lo nw : Int} (hlo : 0 ≤ lo ∧ lo < 256) (hw : 0 ≤ nw ∧ nw < 256) : Tri E [.sl true byE o U] ((fun v0 : AV => match t5 o lo nw with | .call _ _ f => f v0 | _ => .fail) (.sc (.b true))) (RQ [] RT) := by
  unfold t5
  dsimp only
  repeat (first|refine wa ?_|refine wb ?_|refine wc ?_|refine wd ?_|refine we ?_|refine wf ?_|refine wg ?_|refine wh rfl ?_|refine wi rfl ?_|refine wj rfl ?_|refine wk rfl ?_|refine wl rfl ?_|refine wm (by decide) ?_|(refine hC ?_)|(apply Tri.ldE; (first|exact K0|exact K1|exact K2|exact K3|exact K4|exact K5|exact K6|exact K7|exact K8|exact K9|exact K10|exact K11); (exact rfl); (exact wz rfl))|(apply Tri.stE; (first|exact K0|exact K1|exact K2|exact K3|exact K4|exact K5|exact K6|exact K7|exact K8|exact K9|exact K10|exact K11); (exact rfl); (exact wz rfl))|(apply Tri.same; (first|exact K0|exact K1|exact K2|exact K3|exact K4|exact K5|exact K6|exact K7|exact K8|exact K9|exact K10|exact K11); (exact rfl); (exact wz rfl))|refine wq fun _ => ?_)
  refine Tri.cndF rfl ?_
  refine Tri.call (newL_ok (r := 8) (h := 5) (by omega) (by omega) (by omega) (by omega)) (by repeat (first|exact Picks.nil|(apply Picks.cons; (first|exact K0|exact K1|exact K2|exact K3|exact K4|exact K5|exact K6|exact K7|exact K8|exact K9|exact K10|exact K11)))) ?_
  rintro v L' ⟨p, rfl, rfl⟩
  simp only [List.cons_append, List.nil_append]
  repeat (first|refine wa ?_|refine wb ?_|refine wc ?_|refine wd ?_|refine we ?_|refine wf ?_|refine wg ?_|refine wh rfl ?_|refine wi rfl ?_|refine wj rfl ?_|refine wk rfl ?_|refine wl rfl ?_|refine wm (by decide) ?_|(refine hC ?_)|(apply Tri.ldE; (first|exact K0|exact K1|exact K2|exact K3|exact K4|exact K5|exact K6|exact K7|exact K8|exact K9|exact K10|exact K11); (exact rfl); (exact wz rfl))|(apply Tri.stE; (first|exact K0|exact K1|exact K2|exact K3|exact K4|exact K5|exact K6|exact K7|exact K8|exact K9|exact K10|exact K11); (exact rfl); (exact wz rfl))|(apply Tri.same; (first|exact K0|exact K1|exact K2|exact K3|exact K4|exact K5|exact K6|exact K7|exact K8|exact K9|exact K10|exact K11); (exact rfl); (exact wz rfl))|refine wq fun _ => ?_)
  refine Tri.cndF rfl ?_
  refine Tri.cndF rfl ?_
  refine Tri.mkN false i64E ?_
  refine Tri.mkN false cxE ?_
  refine Tri.loop (I := fun m l' L => ∃ (i : Nat) (o5 o6 : Option SlD), m = 8 - i ∧ i ≤ 8 ∧ i ≤ U.length ∧ l' = [.sc (.sl o), .sc (.i .u8 lo), .sc (.i .u8 nw), .sc (.b true), .sc (.p (some (p, 0))), .sc (.sl o5), .sc (.sl o6), .sc (.i .i64 i)] ∧
    L = [pt p (leC 8 5 (List.replicate 33 hz)), .sl false i64E o5 (idL i), .sl false cxE o6 (plL i), .sl true byE o U])
    (L0 := [pt p (leC 8 5 (List.replicate 33 hz)), .sl false i64E none (idL 0), .sl false cxE none (plL 0), .sl true byE o U])
    ⟨0, none, none, rfl, by omega, by omega, rfl, rfl⟩ (by repeat (first|exact Sub.refl _|exact Sub.nil _|(apply Sub.cons; (first|exact K0|exact K1|exact K2|exact K3|exact K4|exact K5|exact K6|exact K7|exact K8|exact K9|exact K10|exact K11))|apply Sub.skip)) ?_
  rintro m l' L ⟨i, o5, o6, rfl, hi, hiU, rfl, rfl⟩
  unfold t5_b8
  repeat (first|refine wa ?_|refine wb ?_|refine wc ?_|refine wd ?_|refine we ?_|refine wf ?_|refine wg ?_|refine wh rfl ?_|refine wi rfl ?_|refine wj rfl ?_|refine wk rfl ?_|refine wl rfl ?_|refine wm (by decide) ?_|(refine hC ?_)|(apply Tri.ldE; (first|exact K0|exact K1|exact K2|exact K3|exact K4|exact K5|exact K6|exact K7|exact K8|exact K9|exact K10|exact K11); (exact rfl); (exact wz rfl))|(apply Tri.stE; (first|exact K0|exact K1|exact K2|exact K3|exact K4|exact K5|exact K6|exact K7|exact K8|exact K9|exact K10|exact K11); (exact rfl); (exact wz rfl))|(apply Tri.same; (first|exact K0|exact K1|exact K2|exact K3|exact K4|exact K5|exact K6|exact K7|exact K8|exact K9|exact K10|exact K11); (exact rfl); (exact wz rfl))|refine wq fun _ => ?_)
  refine Tri.slLen (l := U) (o := o) (ro := true) (T := byE) (by first|exact K0|exact K1|exact K2|exact K3|exact K4|exact K5|exact K6|exact K7|exact K8|exact K9|exact K10|exact K11) fun e1 e2 => ?_
  rw [e2]
  refine Tri.cnd (fun hc => ?_) (fun hc => ?_)
  · have hc : i < U.length := by simp at hc; omega
    refine Tri.cnd (fun h8 => ?_) (fun h8 => ?_)
    · have h8 : i < 8 := by simp at h8; omega
      repeat (first|refine wa ?_|refine wb ?_|refine wc ?_|refine wd ?_|refine we ?_|refine wf ?_|refine wg ?_|refine wh rfl ?_|refine wi rfl ?_|refine wj rfl ?_|refine wk rfl ?_|refine wl rfl ?_|refine wm (by decide) ?_|(refine hC ?_)|(apply Tri.ldE; (first|exact K0|exact K1|exact K2|exact K3|exact K4|exact K5|exact K6|exact K7|exact K8|exact K9|exact K10|exact K11); (exact rfl); (exact wz rfl))|(apply Tri.stE; (first|exact K0|exact K1|exact K2|exact K3|exact K4|exact K5|exact K6|exact K7|exact K8|exact K9|exact K10|exact K11); (exact rfl); (exact wz rfl))|(apply Tri.same; (first|exact K0|exact K1|exact K2|exact K3|exact K4|exact K5|exact K6|exact K7|exact K8|exact K9|exact K10|exact K11); (exact rfl); (exact wz rfl))|refine wq fun _ => ?_)
      rw [wr_i64 (n := (i : Int) + 1) (by omega) (by omega)]
      refine Tri.ldsD (d := ⟨_, 0, 1, 1, 1⟩) (by first|exact K0|exact K1|exact K2|exact K3|exact K4|exact K5|exact K6|exact K7|exact K8|exact K9|exact K10|exact K11) rfl (Nat.le_refl _) (Nat.le_of_ble_eq_true rfl) ?_
      refine Tri.app (T := i64E) (o := o5) (l := idL i) [(i : Int) + 1] (by first|exact K0|exact K1|exact K2|exact K3|exact K4|exact K5|exact K6|exact K7|exact K8|exact K9|exact K10|exact K11) rfl rfl rfl (by decide) (by decide) (by rw [idL_len]; simp [appBound]; omega) fun o5' => ?_
      repeat (first|refine wa ?_|refine wb ?_|refine wc ?_|refine wd ?_|refine we ?_|refine wf ?_|refine wg ?_|refine wh rfl ?_|refine wi rfl ?_|refine wj rfl ?_|refine wk rfl ?_|refine wl rfl ?_|refine wm (by decide) ?_|(refine hC ?_)|(apply Tri.ldE; (first|exact K0|exact K1|exact K2|exact K3|exact K4|exact K5|exact K6|exact K7|exact K8|exact K9|exact K10|exact K11); (exact rfl); (exact wz rfl))|(apply Tri.stE; (first|exact K0|exact K1|exact K2|exact K3|exact K4|exact K5|exact K6|exact K7|exact K8|exact K9|exact K10|exact K11); (exact rfl); (exact wz rfl))|(apply Tri.same; (first|exact K0|exact K1|exact K2|exact K3|exact K4|exact K5|exact K6|exact K7|exact K8|exact K9|exact K10|exact K11); (exact rfl); (exact wz rfl))|refine wq fun _ => ?_)
      refine Tri.ldsD (d := ⟨_, 0, 1, 1, 1⟩) (by first|exact K0|exact K1|exact K2|exact K3|exact K4|exact K5|exact K6|exact K7|exact K8|exact K9|exact K10|exact K11) rfl (Nat.le_refl _) (Nat.le_of_ble_eq_true rfl) ?_
      refine Tri.app (T := cxE) (o := o6) (l := plL i) [(FloatKind.f64.nearest (i : Int), 0)] (by first|exact K0|exact K1|exact K2|exact K3|exact K4|exact K5|exact K6|exact K7|exact K8|exact K9|exact K10|exact K11) rfl rfl rfl (by decide) (by decide) (by rw [plL_len]; simp [appBound]; omega) fun o6' => ?_
      rw [← idL_succ, ← plL_succ]
      exact Tri.back (m' := 8 - (i + 1)) (by omega) ⟨i + 1, o5', o6', rfl, by omega, by omega, rfl, rfl⟩ (by repeat (first|exact Sub.refl _|exact Sub.nil _|(apply Sub.cons; (first|exact K0|exact K1|exact K2|exact K3|exact K4|exact K5|exact K6|exact K7|exact K8|exact K9|exact K10|exact K11))|apply Sub.skip))
    · refine Tri.exit (by decide) ?_
      exact Tri.sub (by repeat (first|exact Sub.refl _|exact Sub.nil _|(apply Sub.cons; (first|exact K0|exact K1|exact K2|exact K3|exact K4|exact K5|exact K6|exact K7|exact K8|exact K9|exact K10|exact K11))|apply Sub.skip)) (held_mid hi hiU hlo.1 hw)
  · refine Tri.exit (by decide) ?_
    exact Tri.sub (by repeat (first|exact Sub.refl _|exact Sub.nil _|(apply Sub.cons; (first|exact K0|exact K1|exact K2|exact K3|exact K4|exact K5|exact K6|exact K7|exact K8|exact K9|exact K10|exact K11))|apply Sub.skip)) (held_mid hi hiU hlo.1 hw)
theorem held_run (o : Option SlD) (l : List By) (c : List Sc) (hst : ∀ H' : AH, H'.obj 0 = some (.cells true c) → 0 < H'.next → Star H' [.sl true byE o l]) (lo nw : Int) (hlo : 0 ≤ lo ∧ lo < 256) (hw : 0 ≤ nw ∧ nw < 256) :
    ∃ n H1, callA Try.prog T hs n 5 [.sc (.sl o), .sc (.i .u8 lo), .sc (.i .u8 nw)] (HA c) = some (.sc (.b true), H1) := by
  refine law_fin (E := E) (Try.func5 : Try.prog.funcs[5]? = some Try.f5) (t5_eq o lo nw) ?_
  refine CallWp.mono (exW1 _) ?_
  rintro v H' ⟨rfl, h0', hn⟩
  exact Tri.fin (held_tri hlo hw) (hst H' h0' hn)
end Go.Proofs.Ytmbnikcnmjpheaa
