/- The law LeaseGone on the abstract machine. -/
import Derived.Test.YtmbnikcnmjpheaaLawRoom
namespace Go.Proofs.Ytmbnikcnmjpheaa
open Go Go.Proofs.Ytmbnikcnmjpheaa.Fw
set_option linter.unusedVariables false
set_option linter.unusedSimpArgs false

def bitE (g : Int) (q : Nat) : Int := Int.tmod (Int.fdiv g ((2 : Int) ^ q)) (2 : Int)
theorem bit01 {g : Int} (hg : 0 ≤ g) (q : Nat) : bitE g q = 0 ∨ bitE g q = 1 := by
  unfold bitE
  have h : 0 ≤ Int.fdiv g ((2 : Int) ^ q) := Int.fdiv_nonneg hg (Int.le_of_lt (Int.pow_pos (by decide)))
  rw [Int.tmod_eq_emod_of_nonneg h]; omega
structure Gn (h : Int) (j : Nat) (V : List Cl) : Prop where
  ok : Okv V
  at_ : ∀ k : Nat, 1 ≤ k → k < 33 → V[k]? = some (if k ≤ j ∧ (k : Int) + h > j then ⟨k, k, 1, k + h⟩ else cz)
  cnt : (clL V).length ≤ j
structure Gr (h g : Int) (q : Nat) (V : List Cl) : Prop where
  ok : Okv V
  at_ : ∀ k : Nat, 1 ≤ k → k < 33 → V[k]? = some (if k ≤ 8 ∧ (k : Int) + h > 8 ∧ ¬ (k ≤ q ∧ bitE g (k - 1) = 1) then ⟨k, k, 1, k + h⟩ else cz)
theorem Gn.zero (h : Int) : Gn h 0 (List.replicate 33 cz) := ⟨Okv.zero, fun k h1 h2 => by
  rw [List.getElem?_replicate, if_pos h2, if_neg (by omega)], by decide⟩
theorem Gn.step {h : Int} {j : Nat} {V : List Cl} (hv : Gn h j V) (hh : 1 ≤ h) (hj : j < 8) : Gn h (j + 1) ((swV V ((j + 1 : Nat) : Int)).set (j + 1) ⟨((j + 1 : Nat) : Int), ((j + 1 : Nat) : Int), 1, ((j + 1 : Nat) : Int) + h⟩) := by
  have hw := hv.ok.sw ((j + 1 : Nat) : Int)
  refine ⟨hw.set (.inr ⟨rfl, by omega⟩), fun k h1 h2 => ?_, ?_⟩
  · by_cases e : k = j + 1
    · subst e
      rw [List.getElem?_set_self (by have := hw.len; omega), if_pos (by omega)]
    · rw [List.getElem?_set_ne (by omega), swV_get, hv.at_ k h1 h2]
      simp only [Option.map_some]
      by_cases c1 : k ≤ j ∧ (k : Int) + h > j
      · rw [if_pos c1]
        by_cases c2 : (k : Int) + h > ((j + 1 : Nat) : Int)
        · rw [if_neg (by simp only; omega), if_pos ⟨by omega, c2⟩]
        · rw [if_pos (by simp only; omega), if_neg (fun hc => c2 hc.2)]
      · rw [if_neg c1, if_pos (by simp only [cz]; omega), if_neg (fun hc => c1 ⟨by omega, by omega⟩)]
  · have h1 := clL_sw ((j + 1 : Nat) : Int) V
    have h2 := (clL_set (V := swV V ((j + 1 : Nat) : Int)) (k := j + 1) (c := ⟨((j + 1 : Nat) : Int), ((j + 1 : Nat) : Int), 1, ((j + 1 : Nat) : Int) + h⟩) (by have := hw.len; omega)).1
    have := hv.cnt
    omega
theorem Gn.grant {h : Int} {j : Nat} {V : List Cl} (hv : Gn h j V) (hh : 1 ≤ h ∧ h ≤ 40) (hj : j < 8) :
    grV 8 h V ((j + 1 : Nat) : Int) ((j + 1 : Nat) : Int) 1 ((j + 1 : Nat) : Int) = ((((j + 1 : Nat) : Int) + h, 0), (swV V ((j + 1 : Nat) : Int)).set (j + 1) ⟨((j + 1 : Nat) : Int), ((j + 1 : Nat) : Int), 1, ((j + 1 : Nat) : Int) + h⟩) := by
  unfold grV
  have h1 := clL_sw ((j + 1 : Nat) : Int) V
  have := hv.cnt
  rw [if_neg (fun hc => by omega), wr_u64 (by omega) (by omega), Int.toNat_natCast]
theorem Gn.gr {h g : Int} {V : List Cl} (hv : Gn h 8 V) : Gr h g 0 V := ⟨hv.ok, fun k h1 h2 => by
  rw [hv.at_ k h1 h2]
  by_cases c : k ≤ 8 ∧ (k : Int) + h > 8
  · rw [if_pos ⟨c.1, by simpa using c.2⟩, if_pos ⟨c.1, c.2, by omega⟩]
  · rw [if_neg (fun hc => c ⟨hc.1, by simpa using hc.2⟩), if_neg (fun hc => c ⟨hc.1, hc.2.1⟩)]⟩
theorem Gr.stay {h g : Int} {q : Nat} {V : List Cl} (hv : Gr h g q V) (hb : bitE g q ≠ 1) : Gr h g (q + 1) V := ⟨hv.ok, fun k h1 h2 => by
  rw [hv.at_ k h1 h2]
  by_cases e : k = q + 1
  · subst e
    by_cases c : q + 1 ≤ 8 ∧ ((q + 1 : Nat) : Int) + h > 8
    · rw [if_pos ⟨c.1, c.2, by omega⟩, if_pos ⟨c.1, c.2, fun hc => hb hc.2⟩]
    · rw [if_neg (fun hc => c ⟨hc.1, hc.2.1⟩), if_neg (fun hc => c ⟨hc.1, hc.2.1⟩)]
  · by_cases c : k ≤ 8 ∧ (k : Int) + h > 8 ∧ ¬ (k ≤ q ∧ bitE g (k - 1) = 1)
    · rw [if_pos c, if_pos ⟨c.1, c.2.1, fun hc => c.2.2 ⟨by omega, hc.2⟩⟩]
    · rw [if_neg c, if_neg (fun hc => c ⟨hc.1, hc.2.1, fun hd => hc.2.2 ⟨by omega, hd.2⟩⟩)]⟩
theorem Gr.go {h g : Int} {q : Nat} {V : List Cl} (hv : Gr h g q V) (hq : q < 8) (hb : bitE g q = 1) : Gr h g (q + 1) (V.set (q + 1) cz) := ⟨hv.ok.set (.inl rfl), fun k h1 h2 => by
  by_cases e : k = q + 1
  · subst e
    rw [List.getElem?_set_self (by have := hv.ok.len; omega), if_neg (fun hc => hc.2.2 ⟨Nat.le_refl _, hb⟩)]
  · rw [List.getElem?_set_ne (by omega), hv.at_ k h1 h2]
    by_cases c : k ≤ 8 ∧ (k : Int) + h > 8 ∧ ¬ (k ≤ q ∧ bitE g (k - 1) = 1)
    · rw [if_pos c, if_pos ⟨c.1, c.2.1, fun hc => c.2.2 ⟨by omega, hc.2⟩⟩]
    · rw [if_neg c, if_neg (fun hc => c ⟨hc.1, hc.2.1, fun hd => hc.2.2 ⟨by omega, hd.2⟩⟩)]⟩
theorem Gr.of {h g at_ : Int} {V : List Cl} (hv : Gr h g 8 V) (hat : 8 ≤ at_) {q : Nat} (hq : q < 8) : ofB V ((q + 1 : Nat) : Int) at_ = (decide (bitE g q ≠ 1) && decide (((q + 1 : Nat) : Int) + h > at_)) := by
  have hg := hv.at_ (q + 1) (by omega) (by omega)
  have hD : V.getD (q + 1) cz = if q + 1 ≤ 8 ∧ ((q + 1 : Nat) : Int) + h > 8 ∧ ¬ (q + 1 ≤ 8 ∧ bitE g (q + 1 - 1) = 1) then ⟨((q + 1 : Nat) : Int), ((q + 1 : Nat) : Int), 1, ((q + 1 : Nat) : Int) + h⟩ else cz := by
    rw [List.getD_eq_getElem?_getD, hg]; rfl
  unfold ofB
  rw [Int.toNat_natCast, hD, Nat.add_sub_cancel]
  have e1 : decide (1 ≤ ((q + 1 : Nat) : Int)) = true := by simp; omega
  have e2 : decide (((q + 1 : Nat) : Int) ≤ 32) = true := by simp; omega
  rw [e1, e2]
  by_cases c : bitE g q = 1
  · rw [if_neg (fun hc => hc.2.2 ⟨by omega, c⟩)]
    simp [cz, c]
  · by_cases c2 : ((q + 1 : Nat) : Int) + h > 8
    · rw [if_pos ⟨by omega, c2, fun hc => c hc.2⟩]
      have : ¬ ((q + 1 : Nat) : Int) = 0 := by omega
      simp only [decide_eq_true c, ne_eq, Bool.true_and]
      rw [show ((((q + 1 : Nat) : Int)) == 0) = false by simpa using this]
      simp only [Bool.not_false, Bool.true_and]
      by_cases c3 : ((q + 1 : Nat) : Int) + h ≤ at_
      · rw [decide_eq_true c3, decide_eq_false (by omega)]; rfl
      · rw [decide_eq_false c3, decide_eq_true (by omega)]; rfl
    · rw [if_neg (fun hc => c2 hc.2.1)]
      have : ¬ ((q + 1 : Nat) : Int) + h > at_ := by omega
      rw [decide_eq_false this]; simp [cz]
theorem clL_inc {V : List Cl} (h : Okv V) : (clL V).Pairwise fun a b => a.id < b.id := by
  unfold clL
  rw [List.pairwise_filter, List.pairwise_iff_getElem]
  intro i j hi hj hij h1 h2
  rcases h.at_ i _ (List.getElem?_eq_getElem hi) with e | ⟨e, _⟩
  · rw [e] at h1; simp [cz] at h1
  rcases h.at_ j _ (List.getElem?_eq_getElem hj) with e' | ⟨e', _⟩
  · rw [e'] at h2; simp [cz] at h2
  omega
theorem Gr.mem {h g : Int} {V : List Cl} (hv : Gr h g 8 V) {c : Cl} (hc : c ∈ clL V) : ∃ q : Nat, q < 8 ∧ c.id = ((q + 1 : Nat) : Int) ∧ bitE g q ≠ 1 := by
  obtain ⟨k, k1, k2, k3, k4⟩ := clL_mem hv.ok hc
  have hg := hv.at_ k k1 k2
  rw [k3] at hg
  simp only [Option.some.injEq] at hg
  split at hg
  · rename_i hh
    refine ⟨k - 1, by omega, by omega, fun e => hh.2.2 ⟨hh.1, e⟩⟩
  · subst hg; simp [cz] at k4; omega
theorem clL_sw_un {V : List Cl} {now : Int} {c : Cl} (hc : c ∈ clL (swV V now)) : now < c.un := by
  obtain ⟨h1, h2⟩ := List.mem_filter.1 hc
  obtain ⟨x, _, e⟩ := List.mem_map.1 h1
  split at e
  · subst e; simp [cz] at h2
  · subst e; omega

set_option maxRecDepth 20000 in
set_option maxHeartbeats 4000000 in
theorem gone_end {p : Nat} {h : Int} {W : List Cl} {at_ : Int} (hW : Okv W) (hat : 0 ≤ at_) : Tri E [pt p (tbC 8 h W)] (t4_k73 14 [.sc (.b true), .sc (.p (some (p, 0))), .sc (.i .u64 at_)]) (RQ [] RT) := by
  unfold t4_k73
  repeat (first|refine wa ?_|refine wb ?_|refine wc ?_|refine wd ?_|refine we ?_|refine wf ?_|refine wg ?_|refine wh rfl ?_|refine wi rfl ?_|refine wj rfl ?_|refine wk rfl ?_|refine wl rfl ?_|refine wm (by decide) ?_|(apply Tri.ldE; (first|exact K0|exact K1|exact K2|exact K3|exact K4|exact K5|exact K6|exact K7|exact K8|exact K9|exact K10|exact K11); (exact rfl); (exact wz rfl))|(apply Tri.stE; (first|exact K0|exact K1|exact K2|exact K3|exact K4|exact K5|exact K6|exact K7|exact K8|exact K9|exact K10|exact K11); (exact rfl); (exact wz rfl))|(apply Tri.same; (first|exact K0|exact K1|exact K2|exact K3|exact K4|exact K5|exact K6|exact K7|exact K8|exact K9|exact K10|exact K11); (exact rfl); (exact wz rfl))|refine wq fun _ => ?_)
  refine Tri.call (sweep_spec hW hat) (by repeat (first|exact Picks.nil|(apply Picks.cons; (first|exact K0|exact K1|exact K2|exact K3|exact K4|exact K5|exact K6|exact K7|exact K8|exact K9|exact K10|exact K11)))) ?_
  rintro v L' ⟨o1, rfl, rfl⟩
  simp only [List.cons_append, List.nil_append]
  repeat (first|refine wa ?_|refine wb ?_|refine wc ?_|refine wd ?_|refine we ?_|refine wf ?_|refine wg ?_|refine wh rfl ?_|refine wi rfl ?_|refine wj rfl ?_|refine wk rfl ?_|refine wl rfl ?_|refine wm (by decide) ?_|(apply Tri.ldE; (first|exact K0|exact K1|exact K2|exact K3|exact K4|exact K5|exact K6|exact K7|exact K8|exact K9|exact K10|exact K11); (exact rfl); (exact wz rfl))|(apply Tri.stE; (first|exact K0|exact K1|exact K2|exact K3|exact K4|exact K5|exact K6|exact K7|exact K8|exact K9|exact K10|exact K11); (exact rfl); (exact wz rfl))|(apply Tri.same; (first|exact K0|exact K1|exact K2|exact K3|exact K4|exact K5|exact K6|exact K7|exact K8|exact K9|exact K10|exact K11); (exact rfl); (exact wz rfl))|refine wq fun _ => ?_)
  have hX := hW.sw at_
  refine Tri.call (clients_spec hX.len) (by repeat (first|exact Picks.nil|(apply Picks.cons; (first|exact K0|exact K1|exact K2|exact K3|exact K4|exact K5|exact K6|exact K7|exact K8|exact K9|exact K10|exact K11)))) ?_
  rintro v L' ⟨o2, rfl, rfl⟩
  simp only [List.cons_append, List.nil_append]
  repeat (first|refine wa ?_|refine wb ?_|refine wc ?_|refine wd ?_|refine we ?_|refine wf ?_|refine wg ?_|refine wh rfl ?_|refine wi rfl ?_|refine wj rfl ?_|refine wk rfl ?_|refine wl rfl ?_|refine wm (by decide) ?_|(apply Tri.ldE; (first|exact K0|exact K1|exact K2|exact K3|exact K4|exact K5|exact K6|exact K7|exact K8|exact K9|exact K10|exact K11); (exact rfl); (exact wz rfl))|(apply Tri.stE; (first|exact K0|exact K1|exact K2|exact K3|exact K4|exact K5|exact K6|exact K7|exact K8|exact K9|exact K10|exact K11); (exact rfl); (exact wz rfl))|(apply Tri.same; (first|exact K0|exact K1|exact K2|exact K3|exact K4|exact K5|exact K6|exact K7|exact K8|exact K9|exact K10|exact K11); (exact rfl); (exact wz rfl))|refine wq fun _ => ?_)
  have hun : ∀ c ∈ clL (swV W at_), at_ < c.un := fun c hc => clL_sw_un hc
  have hlen := clL_le (swV W at_)
  rw [hX.len] at hlen
  generalize swV W at_ = X at hX hun hlen
  generalize clL X = C at hun hlen
  refine Tri.loop (I := fun m l' L => ∃ i : Nat, m = C.length - i ∧ i ≤ C.length ∧ l' = [.sc (.b true), .sc (.p (some (p, 0))), .sc (.i .u64 at_), .sc (.sl o2), .sc (.i .i64 i)] ∧ L = [pt p (tbC 8 h X), .sl false cE o2 C])
    ⟨0, rfl, by omega, rfl, rfl⟩ (by repeat (first|exact Sub.refl _|exact Sub.nil _|(apply Sub.cons; (first|exact K0|exact K1|exact K2|exact K3|exact K4|exact K5|exact K6|exact K7|exact K8|exact K9|exact K10|exact K11))|apply Sub.skip)) ?_
  rintro m l' L ⟨i, rfl, hi, rfl, rfl⟩
  unfold t4_b120
  repeat (first|refine wa ?_|refine wb ?_|refine wc ?_|refine wd ?_|refine we ?_|refine wf ?_|refine wg ?_|refine wh rfl ?_|refine wi rfl ?_|refine wj rfl ?_|refine wk rfl ?_|refine wl rfl ?_|refine wm (by decide) ?_|(apply Tri.ldE; (first|exact K0|exact K1|exact K2|exact K3|exact K4|exact K5|exact K6|exact K7|exact K8|exact K9|exact K10|exact K11); (exact rfl); (exact wz rfl))|(apply Tri.stE; (first|exact K0|exact K1|exact K2|exact K3|exact K4|exact K5|exact K6|exact K7|exact K8|exact K9|exact K10|exact K11); (exact rfl); (exact wz rfl))|(apply Tri.same; (first|exact K0|exact K1|exact K2|exact K3|exact K4|exact K5|exact K6|exact K7|exact K8|exact K9|exact K10|exact K11); (exact rfl); (exact wz rfl))|refine wq fun _ => ?_)
  refine Tri.slLen (l := C) (o := o2) (ro := false) (T := cE) (by first|exact K0|exact K1|exact K2|exact K3|exact K4|exact K5|exact K6|exact K7|exact K8|exact K9|exact K10|exact K11) fun e1 e2 => ?_
  rw [e2]
  refine Tri.cnd (fun hc => ?_) (fun hc => ?_)
  · have hc : i < C.length := by simp at hc; omega
    refine Tri.ixldR (T := cE) (o := o2) (x := C[i]) (k := 3) (n := 1) (by first|exact K0|exact K1|exact K2|exact K3|exact K4|exact K5|exact K6|exact K7|exact K8|exact K9|exact K10|exact K11) rfl (by omega) (by rw [Int.toNat_natCast]; exact List.getElem?_eq_getElem hc) (by decide) rfl ?_
    repeat (first|refine wa ?_|refine wb ?_|refine wc ?_|refine wd ?_|refine we ?_|refine wf ?_|refine wg ?_|refine wh rfl ?_|refine wi rfl ?_|refine wj rfl ?_|refine wk rfl ?_|refine wl rfl ?_|refine wm (by decide) ?_|(apply Tri.ldE; (first|exact K0|exact K1|exact K2|exact K3|exact K4|exact K5|exact K6|exact K7|exact K8|exact K9|exact K10|exact K11); (exact rfl); (exact wz rfl))|(apply Tri.stE; (first|exact K0|exact K1|exact K2|exact K3|exact K4|exact K5|exact K6|exact K7|exact K8|exact K9|exact K10|exact K11); (exact rfl); (exact wz rfl))|(apply Tri.same; (first|exact K0|exact K1|exact K2|exact K3|exact K4|exact K5|exact K6|exact K7|exact K8|exact K9|exact K10|exact K11); (exact rfl); (exact wz rfl))|refine wq fun _ => ?_)
    have := hun C[i] (List.getElem_mem hc)
    refine Tri.cndF (by simp; omega) ?_
    rw [wr_i64 (n := (i : Int) + 1) (by omega) (by omega)]
    exact Tri.back (m' := C.length - (i + 1)) (by omega) ⟨i + 1, rfl, by omega, rfl, rfl⟩ (by repeat (first|exact Sub.refl _|exact Sub.nil _|(apply Sub.cons; (first|exact K0|exact K1|exact K2|exact K3|exact K4|exact K5|exact K6|exact K7|exact K8|exact K9|exact K10|exact K11))|apply Sub.skip))
  · refine Tri.exit (by decide) ?_
    unfold t4_k120
    repeat (first|refine wa ?_|refine wb ?_|refine wc ?_|refine wd ?_|refine we ?_|refine wf ?_|refine wg ?_|refine wh rfl ?_|refine wi rfl ?_|refine wj rfl ?_|refine wk rfl ?_|refine wl rfl ?_|refine wm (by decide) ?_|(apply Tri.ldE; (first|exact K0|exact K1|exact K2|exact K3|exact K4|exact K5|exact K6|exact K7|exact K8|exact K9|exact K10|exact K11); (exact rfl); (exact wz rfl))|(apply Tri.stE; (first|exact K0|exact K1|exact K2|exact K3|exact K4|exact K5|exact K6|exact K7|exact K8|exact K9|exact K10|exact K11); (exact rfl); (exact wz rfl))|(apply Tri.same; (first|exact K0|exact K1|exact K2|exact K3|exact K4|exact K5|exact K6|exact K7|exact K8|exact K9|exact K10|exact K11); (exact rfl); (exact wz rfl))|refine wq fun _ => ?_)
    refine Tri.cndT rfl ?_
    refine Tri.call (release_spec (n := 0) hX.len) (by repeat (first|exact Picks.nil|(apply Picks.cons; (first|exact K0|exact K1|exact K2|exact K3|exact K4|exact K5|exact K6|exact K7|exact K8|exact K9|exact K10|exact K11)))) ?_
    rw [show relV X 0 = (false, X) from by unfold relV; rw [if_neg (by omega)]]
    rintro v L' ⟨rfl, rfl⟩
    simp only [List.cons_append, List.nil_append]
    repeat (first|refine wa ?_|refine wb ?_|refine wc ?_|refine wd ?_|refine we ?_|refine wf ?_|refine wg ?_|refine wh rfl ?_|refine wi rfl ?_|refine wj rfl ?_|refine wk rfl ?_|refine wl rfl ?_|refine wm (by decide) ?_|(apply Tri.ldE; (first|exact K0|exact K1|exact K2|exact K3|exact K4|exact K5|exact K6|exact K7|exact K8|exact K9|exact K10|exact K11); (exact rfl); (exact wz rfl))|(apply Tri.stE; (first|exact K0|exact K1|exact K2|exact K3|exact K4|exact K5|exact K6|exact K7|exact K8|exact K9|exact K10|exact K11); (exact rfl); (exact wz rfl))|(apply Tri.same; (first|exact K0|exact K1|exact K2|exact K3|exact K4|exact K5|exact K6|exact K7|exact K8|exact K9|exact K10|exact K11); (exact rfl); (exact wz rfl))|refine wq fun _ => ?_)
    refine Tri.cndT rfl ?_
    refine Tri.call (release_spec (n := 33) hX.len) (by repeat (first|exact Picks.nil|(apply Picks.cons; (first|exact K0|exact K1|exact K2|exact K3|exact K4|exact K5|exact K6|exact K7|exact K8|exact K9|exact K10|exact K11)))) ?_
    rw [show relV X 33 = (false, X) from by unfold relV; rw [if_neg (by omega)]]
    rintro v L' ⟨rfl, rfl⟩
    simp only [List.cons_append, List.nil_append]
    repeat (first|refine wa ?_|refine wb ?_|refine wc ?_|refine wd ?_|refine we ?_|refine wf ?_|refine wg ?_|refine wh rfl ?_|refine wi rfl ?_|refine wj rfl ?_|refine wk rfl ?_|refine wl rfl ?_|refine wm (by decide) ?_|(apply Tri.ldE; (first|exact K0|exact K1|exact K2|exact K3|exact K4|exact K5|exact K6|exact K7|exact K8|exact K9|exact K10|exact K11); (exact rfl); (exact wz rfl))|(apply Tri.stE; (first|exact K0|exact K1|exact K2|exact K3|exact K4|exact K5|exact K6|exact K7|exact K8|exact K9|exact K10|exact K11); (exact rfl); (exact wz rfl))|(apply Tri.same; (first|exact K0|exact K1|exact K2|exact K3|exact K4|exact K5|exact K6|exact K7|exact K8|exact K9|exact K10|exact K11); (exact rfl); (exact wz rfl))|refine wq fun _ => ?_)
    exact Tri.retF (L1 := []) rfl (Sub.nil _)
set_option maxRecDepth 20000 in
set_option maxHeartbeats 4000000 in
theorem gone_mid {p : Nat} {h g : Int} {W : List Cl} {at_ : Int} (hW : Gr h g 8 W) (hat : 8 ≤ at_) (hg : 0 ≤ g) : Tri E [pt p (tbC 8 h W)] (t4_k46 10 [.sc (.i .u8 g), .sc (.b true), .sc (.p (some (p, 0))), .sc (.i .u64 at_)]) (RQ [] RT) := by
  unfold t4_k46
  repeat (first|refine wa ?_|refine wb ?_|refine wc ?_|refine wd ?_|refine we ?_|refine wf ?_|refine wg ?_|refine wh rfl ?_|refine wi rfl ?_|refine wj rfl ?_|refine wk rfl ?_|refine wl rfl ?_|refine wm (by decide) ?_|(apply Tri.ldE; (first|exact K0|exact K1|exact K2|exact K3|exact K4|exact K5|exact K6|exact K7|exact K8|exact K9|exact K10|exact K11); (exact rfl); (exact wz rfl))|(apply Tri.stE; (first|exact K0|exact K1|exact K2|exact K3|exact K4|exact K5|exact K6|exact K7|exact K8|exact K9|exact K10|exact K11); (exact rfl); (exact wz rfl))|(apply Tri.same; (first|exact K0|exact K1|exact K2|exact K3|exact K4|exact K5|exact K6|exact K7|exact K8|exact K9|exact K10|exact K11); (exact rfl); (exact wz rfl))|refine wq fun _ => ?_)
  refine Tri.call (clients_spec hW.ok.len) (by repeat (first|exact Picks.nil|(apply Picks.cons; (first|exact K0|exact K1|exact K2|exact K3|exact K4|exact K5|exact K6|exact K7|exact K8|exact K9|exact K10|exact K11)))) ?_
  rintro v L' ⟨o2, rfl, rfl⟩
  simp only [List.cons_append, List.nil_append]
  repeat (first|refine wa ?_|refine wb ?_|refine wc ?_|refine wd ?_|refine we ?_|refine wf ?_|refine wg ?_|refine wh rfl ?_|refine wi rfl ?_|refine wj rfl ?_|refine wk rfl ?_|refine wl rfl ?_|refine wm (by decide) ?_|(apply Tri.ldE; (first|exact K0|exact K1|exact K2|exact K3|exact K4|exact K5|exact K6|exact K7|exact K8|exact K9|exact K10|exact K11); (exact rfl); (exact wz rfl))|(apply Tri.stE; (first|exact K0|exact K1|exact K2|exact K3|exact K4|exact K5|exact K6|exact K7|exact K8|exact K9|exact K10|exact K11); (exact rfl); (exact wz rfl))|(apply Tri.same; (first|exact K0|exact K1|exact K2|exact K3|exact K4|exact K5|exact K6|exact K7|exact K8|exact K9|exact K10|exact K11); (exact rfl); (exact wz rfl))|refine wq fun _ => ?_)
  have hm : ∀ c ∈ clL W, ∃ q : Nat, q < 8 ∧ c.id = ((q + 1 : Nat) : Int) ∧ bitE g q ≠ 1 := fun c hc => hW.mem hc
  have hp := clL_inc hW.ok
  have hlen := clL_le W
  rw [hW.ok.len] at hlen
  generalize clL W = C at hm hp hlen
  rw [List.pairwise_iff_getElem] at hp
  refine Tri.loop (I := fun m l' L => ∃ i : Nat, m = C.length - i ∧ i ≤ C.length ∧ l' = [.sc (.i .u8 g), .sc (.b true), .sc (.p (some (p, 0))), .sc (.i .u64 at_), .sc (.sl o2), .sc (.i .i64 i)] ∧ L = [pt p (tbC 8 h W), .sl false cE o2 C])
    ⟨0, rfl, by omega, rfl, rfl⟩ (by repeat (first|exact Sub.refl _|exact Sub.nil _|(apply Sub.cons; (first|exact K0|exact K1|exact K2|exact K3|exact K4|exact K5|exact K6|exact K7|exact K8|exact K9|exact K10|exact K11))|apply Sub.skip)) ?_
  rintro m l' L ⟨i, rfl, hi, rfl, rfl⟩
  unfold t4_b73
  repeat (first|refine wa ?_|refine wb ?_|refine wc ?_|refine wd ?_|refine we ?_|refine wf ?_|refine wg ?_|refine wh rfl ?_|refine wi rfl ?_|refine wj rfl ?_|refine wk rfl ?_|refine wl rfl ?_|refine wm (by decide) ?_|(apply Tri.ldE; (first|exact K0|exact K1|exact K2|exact K3|exact K4|exact K5|exact K6|exact K7|exact K8|exact K9|exact K10|exact K11); (exact rfl); (exact wz rfl))|(apply Tri.stE; (first|exact K0|exact K1|exact K2|exact K3|exact K4|exact K5|exact K6|exact K7|exact K8|exact K9|exact K10|exact K11); (exact rfl); (exact wz rfl))|(apply Tri.same; (first|exact K0|exact K1|exact K2|exact K3|exact K4|exact K5|exact K6|exact K7|exact K8|exact K9|exact K10|exact K11); (exact rfl); (exact wz rfl))|refine wq fun _ => ?_)
  refine Tri.slLen (l := C) (o := o2) (ro := false) (T := cE) (by first|exact K0|exact K1|exact K2|exact K3|exact K4|exact K5|exact K6|exact K7|exact K8|exact K9|exact K10|exact K11) fun e1 e2 => ?_
  rw [e2]
  refine Tri.cnd (fun hc => ?_) (fun hc => ?_)
  · have hc : i < C.length := by simp at hc; omega
    obtain ⟨q, q1, q2, q3⟩ := hm C[i] (List.getElem_mem hc)
    have hix : C[((i : Int)).toNat]? = some C[i] := by rw [Int.toNat_natCast]; exact List.getElem?_eq_getElem hc
    refine Tri.ixldR (T := cE) (o := o2) (x := C[i]) (k := 0) (n := 1) (by first|exact K0|exact K1|exact K2|exact K3|exact K4|exact K5|exact K6|exact K7|exact K8|exact K9|exact K10|exact K11) rfl (by omega) hix (by decide) rfl ?_
    repeat (first|refine wa ?_|refine wb ?_|refine wc ?_|refine wd ?_|refine we ?_|refine wf ?_|refine wg ?_|refine wh rfl ?_|refine wi rfl ?_|refine wj rfl ?_|refine wk rfl ?_|refine wl rfl ?_|refine wm (by decide) ?_|(apply Tri.ldE; (first|exact K0|exact K1|exact K2|exact K3|exact K4|exact K5|exact K6|exact K7|exact K8|exact K9|exact K10|exact K11); (exact rfl); (exact wz rfl))|(apply Tri.stE; (first|exact K0|exact K1|exact K2|exact K3|exact K4|exact K5|exact K6|exact K7|exact K8|exact K9|exact K10|exact K11); (exact rfl); (exact wz rfl))|(apply Tri.same; (first|exact K0|exact K1|exact K2|exact K3|exact K4|exact K5|exact K6|exact K7|exact K8|exact K9|exact K10|exact K11); (exact rfl); (exact wz rfl))|refine wq fun _ => ?_)
    refine Tri.cndF (by simp; omega) ?_
    refine Tri.ixldR (T := cE) (o := o2) (x := C[i]) (k := 0) (n := 1) (by first|exact K0|exact K1|exact K2|exact K3|exact K4|exact K5|exact K6|exact K7|exact K8|exact K9|exact K10|exact K11) rfl (by omega) hix (by decide) rfl ?_
    repeat (first|refine wa ?_|refine wb ?_|refine wc ?_|refine wd ?_|refine we ?_|refine wf ?_|refine wg ?_|refine wh rfl ?_|refine wi rfl ?_|refine wj rfl ?_|refine wk rfl ?_|refine wl rfl ?_|refine wm (by decide) ?_|(apply Tri.ldE; (first|exact K0|exact K1|exact K2|exact K3|exact K4|exact K5|exact K6|exact K7|exact K8|exact K9|exact K10|exact K11); (exact rfl); (exact wz rfl))|(apply Tri.stE; (first|exact K0|exact K1|exact K2|exact K3|exact K4|exact K5|exact K6|exact K7|exact K8|exact K9|exact K10|exact K11); (exact rfl); (exact wz rfl))|(apply Tri.same; (first|exact K0|exact K1|exact K2|exact K3|exact K4|exact K5|exact K6|exact K7|exact K8|exact K9|exact K10|exact K11); (exact rfl); (exact wz rfl))|refine wq fun _ => ?_)
    refine Tri.cndF (by simp; omega) ?_
    refine Tri.ixldR (T := cE) (o := o2) (x := C[i]) (k := 0) (n := 1) (by first|exact K0|exact K1|exact K2|exact K3|exact K4|exact K5|exact K6|exact K7|exact K8|exact K9|exact K10|exact K11) rfl (by omega) hix (by decide) rfl ?_
    repeat (first|refine wa ?_|refine wb ?_|refine wc ?_|refine wd ?_|refine we ?_|refine wf ?_|refine wg ?_|refine wh rfl ?_|refine wi rfl ?_|refine wj rfl ?_|refine wk rfl ?_|refine wl rfl ?_|refine wm (by decide) ?_|(apply Tri.ldE; (first|exact K0|exact K1|exact K2|exact K3|exact K4|exact K5|exact K6|exact K7|exact K8|exact K9|exact K10|exact K11); (exact rfl); (exact wz rfl))|(apply Tri.stE; (first|exact K0|exact K1|exact K2|exact K3|exact K4|exact K5|exact K6|exact K7|exact K8|exact K9|exact K10|exact K11); (exact rfl); (exact wz rfl))|(apply Tri.same; (first|exact K0|exact K1|exact K2|exact K3|exact K4|exact K5|exact K6|exact K7|exact K8|exact K9|exact K10|exact K11); (exact rfl); (exact wz rfl))|refine wq fun _ => ?_)
    rw [q2, wr_i64 (n := ((q + 1 : Nat) : Int) - 1) (by omega) (by omega), show ((q + 1 : Nat) : Int) - 1 = (q : Int) by omega]
    refine Tri.brT (by simp) ?_
    refine Tri.brT rfl ?_
    rw [Int.toNat_natCast, show min q 8 = q by omega]
    refine Tri.cndF (by show (bitE g q == 1) = false; simpa using q3) ?_
    rw [wr_i64 (n := (i : Int) + 1) (by omega) (by omega)]
    refine Tri.cnd (fun h0 => ?_) (fun h0 => ?_)
    · have h0 : 0 < i := by simp at h0; omega
      rw [wr_i64 (n := (i : Int) - 1) (by omega) (by omega), show (i : Int) - 1 = ((i - 1 : Nat) : Int) by omega]
      refine Tri.ixldR (T := cE) (o := o2) (x := C[i - 1]) (k := 0) (n := 1) (by first|exact K0|exact K1|exact K2|exact K3|exact K4|exact K5|exact K6|exact K7|exact K8|exact K9|exact K10|exact K11) rfl (by omega) (by rw [Int.toNat_natCast]; exact List.getElem?_eq_getElem (by omega)) (by decide) rfl ?_
      repeat (first|refine wa ?_|refine wb ?_|refine wc ?_|refine wd ?_|refine we ?_|refine wf ?_|refine wg ?_|refine wh rfl ?_|refine wi rfl ?_|refine wj rfl ?_|refine wk rfl ?_|refine wl rfl ?_|refine wm (by decide) ?_|(apply Tri.ldE; (first|exact K0|exact K1|exact K2|exact K3|exact K4|exact K5|exact K6|exact K7|exact K8|exact K9|exact K10|exact K11); (exact rfl); (exact wz rfl))|(apply Tri.stE; (first|exact K0|exact K1|exact K2|exact K3|exact K4|exact K5|exact K6|exact K7|exact K8|exact K9|exact K10|exact K11); (exact rfl); (exact wz rfl))|(apply Tri.same; (first|exact K0|exact K1|exact K2|exact K3|exact K4|exact K5|exact K6|exact K7|exact K8|exact K9|exact K10|exact K11); (exact rfl); (exact wz rfl))|refine wq fun _ => ?_)
      refine Tri.ixldR (T := cE) (o := o2) (x := C[i]) (k := 0) (n := 1) (by first|exact K0|exact K1|exact K2|exact K3|exact K4|exact K5|exact K6|exact K7|exact K8|exact K9|exact K10|exact K11) rfl (by omega) hix (by decide) rfl ?_
      repeat (first|refine wa ?_|refine wb ?_|refine wc ?_|refine wd ?_|refine we ?_|refine wf ?_|refine wg ?_|refine wh rfl ?_|refine wi rfl ?_|refine wj rfl ?_|refine wk rfl ?_|refine wl rfl ?_|refine wm (by decide) ?_|(apply Tri.ldE; (first|exact K0|exact K1|exact K2|exact K3|exact K4|exact K5|exact K6|exact K7|exact K8|exact K9|exact K10|exact K11); (exact rfl); (exact wz rfl))|(apply Tri.stE; (first|exact K0|exact K1|exact K2|exact K3|exact K4|exact K5|exact K6|exact K7|exact K8|exact K9|exact K10|exact K11); (exact rfl); (exact wz rfl))|(apply Tri.same; (first|exact K0|exact K1|exact K2|exact K3|exact K4|exact K5|exact K6|exact K7|exact K8|exact K9|exact K10|exact K11); (exact rfl); (exact wz rfl))|refine wq fun _ => ?_)
      have := hp (i - 1) i (by omega) hc (by omega)
      refine Tri.cndF (by simp; omega) ?_
      exact Tri.back (m' := C.length - (i + 1)) (by omega) ⟨i + 1, rfl, by omega, rfl, rfl⟩ (by repeat (first|exact Sub.refl _|exact Sub.nil _|(apply Sub.cons; (first|exact K0|exact K1|exact K2|exact K3|exact K4|exact K5|exact K6|exact K7|exact K8|exact K9|exact K10|exact K11))|apply Sub.skip))
    · exact Tri.back (m' := C.length - (i + 1)) (by omega) ⟨i + 1, rfl, by omega, rfl, rfl⟩ (by repeat (first|exact Sub.refl _|exact Sub.nil _|(apply Sub.cons; (first|exact K0|exact K1|exact K2|exact K3|exact K4|exact K5|exact K6|exact K7|exact K8|exact K9|exact K10|exact K11))|apply Sub.skip))
  · refine Tri.exit (by decide) ?_
    exact Tri.sub (by repeat (first|exact Sub.refl _|exact Sub.nil _|(apply Sub.cons; (first|exact K0|exact K1|exact K2|exact K3|exact K4|exact K5|exact K6|exact K7|exact K8|exact K9|exact K10|exact K11))|apply Sub.skip)) (gone_end hW.ok (by omega))
set_option maxRecDepth 20000 in
set_option maxHeartbeats 4000000 in
theorem gone_of {p : Nat} {h g : Int} {W : List Cl} {nw : Int} (hW : Gr h g 8 W) (hn : 0 ≤ nw ∧ nw < 256) (hg : 0 ≤ g) (hh : 1 ≤ h ∧ h ≤ 40) : Tri E [pt p (tbC 8 h W)] (t4_k29 6 [.sc (.i .u8 g), .sc (.i .u8 nw), .sc (.b true), .sc (.i .u64 h), .sc (.p (some (p, 0)))]) (RQ [] RT) := by
  unfold t4_k29
  repeat (first|refine wa ?_|refine wb ?_|refine wc ?_|refine wd ?_|refine we ?_|refine wf ?_|refine wg ?_|refine wh rfl ?_|refine wi rfl ?_|refine wj rfl ?_|refine wk rfl ?_|refine wl rfl ?_|refine wm (by decide) ?_|(apply Tri.ldE; (first|exact K0|exact K1|exact K2|exact K3|exact K4|exact K5|exact K6|exact K7|exact K8|exact K9|exact K10|exact K11); (exact rfl); (exact wz rfl))|(apply Tri.stE; (first|exact K0|exact K1|exact K2|exact K3|exact K4|exact K5|exact K6|exact K7|exact K8|exact K9|exact K10|exact K11); (exact rfl); (exact wz rfl))|(apply Tri.same; (first|exact K0|exact K1|exact K2|exact K3|exact K4|exact K5|exact K6|exact K7|exact K8|exact K9|exact K10|exact K11); (exact rfl); (exact wz rfl))|refine wq fun _ => ?_)
  rw [wr_u64 (n := nw) (by omega) (by omega), wr_u64 (n := 8 + nw) (by omega) (by omega)]
  refine Tri.loop (I := fun m l' L => ∃ q : Nat, m = 8 - q ∧ q ≤ 8 ∧ l' = [.sc (.i .u8 g), .sc (.b true), .sc (.i .u64 h), .sc (.p (some (p, 0))), .sc (.i .u64 (8 + nw)), .sc (.i .i64 ((q + 1 : Nat) : Int))] ∧ L = [pt p (tbC 8 h W)])
    ⟨0, rfl, by omega, rfl, rfl⟩ (by repeat (first|exact Sub.refl _|exact Sub.nil _|(apply Sub.cons; (first|exact K0|exact K1|exact K2|exact K3|exact K4|exact K5|exact K6|exact K7|exact K8|exact K9|exact K10|exact K11))|apply Sub.skip)) ?_
  rintro m l' L ⟨q, rfl, hq, rfl, rfl⟩
  unfold t4_b46
  repeat (first|refine wa ?_|refine wb ?_|refine wc ?_|refine wd ?_|refine we ?_|refine wf ?_|refine wg ?_|refine wh rfl ?_|refine wi rfl ?_|refine wj rfl ?_|refine wk rfl ?_|refine wl rfl ?_|refine wm (by decide) ?_|(apply Tri.ldE; (first|exact K0|exact K1|exact K2|exact K3|exact K4|exact K5|exact K6|exact K7|exact K8|exact K9|exact K10|exact K11); (exact rfl); (exact wz rfl))|(apply Tri.stE; (first|exact K0|exact K1|exact K2|exact K3|exact K4|exact K5|exact K6|exact K7|exact K8|exact K9|exact K10|exact K11); (exact rfl); (exact wz rfl))|(apply Tri.same; (first|exact K0|exact K1|exact K2|exact K3|exact K4|exact K5|exact K6|exact K7|exact K8|exact K9|exact K10|exact K11); (exact rfl); (exact wz rfl))|refine wq fun _ => ?_)
  refine Tri.cnd (fun hc => ?_) (fun hc => ?_)
  · have hc : q < 8 := by simp at hc; omega
    refine Tri.call (of_spec (n := ((q + 1 : Nat) : Int)) (now := 8 + nw) hW.ok.len) (by repeat (first|exact Picks.nil|(apply Picks.cons; (first|exact K0|exact K1|exact K2|exact K3|exact K4|exact K5|exact K6|exact K7|exact K8|exact K9|exact K10|exact K11)))) ?_
    rw [hW.of (by omega) hc]
    rintro v L' ⟨rfl, rfl⟩
    simp only [List.cons_append, List.nil_append]
    repeat (first|refine wa ?_|refine wb ?_|refine wc ?_|refine wd ?_|refine we ?_|refine wf ?_|refine wg ?_|refine wh rfl ?_|refine wi rfl ?_|refine wj rfl ?_|refine wk rfl ?_|refine wl rfl ?_|refine wm (by decide) ?_|(apply Tri.ldE; (first|exact K0|exact K1|exact K2|exact K3|exact K4|exact K5|exact K6|exact K7|exact K8|exact K9|exact K10|exact K11); (exact rfl); (exact wz rfl))|(apply Tri.stE; (first|exact K0|exact K1|exact K2|exact K3|exact K4|exact K5|exact K6|exact K7|exact K8|exact K9|exact K10|exact K11); (exact rfl); (exact wz rfl))|(apply Tri.same; (first|exact K0|exact K1|exact K2|exact K3|exact K4|exact K5|exact K6|exact K7|exact K8|exact K9|exact K10|exact K11); (exact rfl); (exact wz rfl))|refine wq fun _ => ?_)
    rw [wr_i64 (n := ((q + 1 : Nat) : Int) - 1) (by omega) (by omega), show ((q + 1 : Nat) : Int) - 1 = (q : Int) by omega]
    refine Tri.brT (by simp) ?_
    refine Tri.brT rfl ?_
    rw [Int.toNat_natCast, show min q 8 = q by omega, wr_u64 (n := ((q + 1 : Nat) : Int)) (by omega) (by omega), wr_u64 (n := ((q + 1 : Nat) : Int) + h) (by omega) (by omega), wr_i64 (n := ((q + 1 : Nat) : Int) + 1) (by omega) (by omega)]
    rcases bit01 hg q with hb | hb
    · refine Tri.cndT (by show (bitE g q == 0) = true; rw [hb]; rfl) ?_
      refine Tri.cndF (by rw [hb]; simp) ?_
      exact Tri.back (m' := 8 - (q + 1)) (by omega) ⟨q + 1, rfl, by omega, rfl, rfl⟩ (by repeat (first|exact Sub.refl _|exact Sub.nil _|(apply Sub.cons; (first|exact K0|exact K1|exact K2|exact K3|exact K4|exact K5|exact K6|exact K7|exact K8|exact K9|exact K10|exact K11))|apply Sub.skip))
    · refine Tri.cndF (by show (bitE g q == 0) = false; rw [hb]; rfl) ?_
      refine Tri.cndF (by rw [hb]; simp) ?_
      exact Tri.back (m' := 8 - (q + 1)) (by omega) ⟨q + 1, rfl, by omega, rfl, rfl⟩ (by repeat (first|exact Sub.refl _|exact Sub.nil _|(apply Sub.cons; (first|exact K0|exact K1|exact K2|exact K3|exact K4|exact K5|exact K6|exact K7|exact K8|exact K9|exact K10|exact K11))|apply Sub.skip))
  · refine Tri.exit (by decide) ?_
    exact Tri.sub (by repeat (first|exact Sub.refl _|exact Sub.nil _|(apply Sub.cons; (first|exact K0|exact K1|exact K2|exact K3|exact K4|exact K5|exact K6|exact K7|exact K8|exact K9|exact K10|exact K11))|apply Sub.skip)) (gone_mid hW (by omega) hg)
set_option maxRecDepth 20000 in
set_option maxHeartbeats 4000000 in
theorem gone_rel {p : Nat} {h g : Int} {W : List Cl} {nw : Int} (hW : Gn h 8 W) (hn : 0 ≤ nw ∧ nw < 256) (hg : 0 ≤ g) (hh : 1 ≤ h ∧ h ≤ 40) : Tri E [pt p (tbC 8 h W)] (t4_k8 2 [.sc (.i .u8 g), .sc (.i .u8 nw), .sc (.b true), .sc (.i .u64 h), .sc (.p (some (p, 0)))]) (RQ [] RT) := by
  unfold t4_k8
  repeat (first|refine wa ?_|refine wb ?_|refine wc ?_|refine wd ?_|refine we ?_|refine wf ?_|refine wg ?_|refine wh rfl ?_|refine wi rfl ?_|refine wj rfl ?_|refine wk rfl ?_|refine wl rfl ?_|refine wm (by decide) ?_|(apply Tri.ldE; (first|exact K0|exact K1|exact K2|exact K3|exact K4|exact K5|exact K6|exact K7|exact K8|exact K9|exact K10|exact K11); (exact rfl); (exact wz rfl))|(apply Tri.stE; (first|exact K0|exact K1|exact K2|exact K3|exact K4|exact K5|exact K6|exact K7|exact K8|exact K9|exact K10|exact K11); (exact rfl); (exact wz rfl))|(apply Tri.same; (first|exact K0|exact K1|exact K2|exact K3|exact K4|exact K5|exact K6|exact K7|exact K8|exact K9|exact K10|exact K11); (exact rfl); (exact wz rfl))|refine wq fun _ => ?_)
  refine Tri.loop (I := fun m l' L => ∃ (q : Nat) (V : List Cl), m = 8 - q ∧ q ≤ 8 ∧ Gr h g q V ∧ l' = [.sc (.i .u8 g), .sc (.i .u8 nw), .sc (.b true), .sc (.i .u64 h), .sc (.p (some (p, 0))), .sc (.i .i64 ((q + 1 : Nat) : Int))] ∧ L = [pt p (tbC 8 h V)])
    ⟨0, W, rfl, by omega, hW.gr, rfl, rfl⟩ (by repeat (first|exact Sub.refl _|exact Sub.nil _|(apply Sub.cons; (first|exact K0|exact K1|exact K2|exact K3|exact K4|exact K5|exact K6|exact K7|exact K8|exact K9|exact K10|exact K11))|apply Sub.skip)) ?_
  rintro m l' L ⟨q, V, rfl, hq, hV, rfl, rfl⟩
  unfold t4_b29
  repeat (first|refine wa ?_|refine wb ?_|refine wc ?_|refine wd ?_|refine we ?_|refine wf ?_|refine wg ?_|refine wh rfl ?_|refine wi rfl ?_|refine wj rfl ?_|refine wk rfl ?_|refine wl rfl ?_|refine wm (by decide) ?_|(apply Tri.ldE; (first|exact K0|exact K1|exact K2|exact K3|exact K4|exact K5|exact K6|exact K7|exact K8|exact K9|exact K10|exact K11); (exact rfl); (exact wz rfl))|(apply Tri.stE; (first|exact K0|exact K1|exact K2|exact K3|exact K4|exact K5|exact K6|exact K7|exact K8|exact K9|exact K10|exact K11); (exact rfl); (exact wz rfl))|(apply Tri.same; (first|exact K0|exact K1|exact K2|exact K3|exact K4|exact K5|exact K6|exact K7|exact K8|exact K9|exact K10|exact K11); (exact rfl); (exact wz rfl))|refine wq fun _ => ?_)
  refine Tri.cnd (fun hc => ?_) (fun hc => ?_)
  · have hc : q < 8 := by simp at hc; omega
    rw [wr_i64 (n := ((q + 1 : Nat) : Int) - 1) (by omega) (by omega), show ((q + 1 : Nat) : Int) - 1 = (q : Int) by omega]
    refine Tri.brT (by simp) ?_
    refine Tri.brT rfl ?_
    rw [Int.toNat_natCast, show min q 8 = q by omega, wr_i64 (n := ((q + 1 : Nat) : Int) + 1) (by omega) (by omega)]
    rcases bit01 hg q with hb | hb
    · refine Tri.cndF (by show (bitE g q == 1) = false; rw [hb]; rfl) ?_
      exact Tri.back (m' := 8 - (q + 1)) (by omega) ⟨q + 1, V, rfl, by omega, hV.stay (by omega), rfl, rfl⟩ (by repeat (first|exact Sub.refl _|exact Sub.nil _|(apply Sub.cons; (first|exact K0|exact K1|exact K2|exact K3|exact K4|exact K5|exact K6|exact K7|exact K8|exact K9|exact K10|exact K11))|apply Sub.skip))
    · refine Tri.cndT (by show (bitE g q == 1) = true; rw [hb]; rfl) ?_
      refine Tri.call (release_spec (n := ((q + 1 : Nat) : Int)) hV.ok.len) (by repeat (first|exact Picks.nil|(apply Picks.cons; (first|exact K0|exact K1|exact K2|exact K3|exact K4|exact K5|exact K6|exact K7|exact K8|exact K9|exact K10|exact K11)))) ?_
      rw [relV_at hV.ok (by omega) (by omega), Int.toNat_natCast]
      rintro v L' ⟨rfl, rfl⟩
      simp only [List.cons_append, List.nil_append]
      repeat (first|refine wa ?_|refine wb ?_|refine wc ?_|refine wd ?_|refine we ?_|refine wf ?_|refine wg ?_|refine wh rfl ?_|refine wi rfl ?_|refine wj rfl ?_|refine wk rfl ?_|refine wl rfl ?_|refine wm (by decide) ?_|(apply Tri.ldE; (first|exact K0|exact K1|exact K2|exact K3|exact K4|exact K5|exact K6|exact K7|exact K8|exact K9|exact K10|exact K11); (exact rfl); (exact wz rfl))|(apply Tri.stE; (first|exact K0|exact K1|exact K2|exact K3|exact K4|exact K5|exact K6|exact K7|exact K8|exact K9|exact K10|exact K11); (exact rfl); (exact wz rfl))|(apply Tri.same; (first|exact K0|exact K1|exact K2|exact K3|exact K4|exact K5|exact K6|exact K7|exact K8|exact K9|exact K10|exact K11); (exact rfl); (exact wz rfl))|refine wq fun _ => ?_)
      exact Tri.back (m' := 8 - (q + 1)) (by omega) ⟨q + 1, _, rfl, by omega, hV.go hc hb, rfl, rfl⟩ (by repeat (first|exact Sub.refl _|exact Sub.nil _|(apply Sub.cons; (first|exact K0|exact K1|exact K2|exact K3|exact K4|exact K5|exact K6|exact K7|exact K8|exact K9|exact K10|exact K11))|apply Sub.skip))
  · have hc : q = 8 := by simp at hc; omega
    subst hc
    refine Tri.exit (by decide) ?_
    exact Tri.sub (by repeat (first|exact Sub.refl _|exact Sub.nil _|(apply Sub.cons; (first|exact K0|exact K1|exact K2|exact K3|exact K4|exact K5|exact K6|exact K7|exact K8|exact K9|exact K10|exact K11))|apply Sub.skip)) (gone_of hV hn hg hh)
set_option maxRecDepth 20000 in
set_option maxHeartbeats 4000000 in
theorem gone_tri {h0 g nw : Int} (hh0 : 0 ≤ h0 ∧ h0 < 256) (hg : 0 ≤ g ∧ g < 256) (hn : 0 ≤ nw ∧ nw < 256) : Tri E [] ((fun v0 : AV => match t4 h0 g nw with | .call _ _ f => f v0 | _ => .fail) (.sc (.b true))) (RQ [] RT) := by
  unfold t4
  dsimp only
  repeat (first|refine wa ?_|refine wb ?_|refine wc ?_|refine wd ?_|refine we ?_|refine wf ?_|refine wg ?_|refine wh rfl ?_|refine wi rfl ?_|refine wj rfl ?_|refine wk rfl ?_|refine wl rfl ?_|refine wm (by decide) ?_|(apply Tri.ldE; (first|exact K0|exact K1|exact K2|exact K3|exact K4|exact K5|exact K6|exact K7|exact K8|exact K9|exact K10|exact K11); (exact rfl); (exact wz rfl))|(apply Tri.stE; (first|exact K0|exact K1|exact K2|exact K3|exact K4|exact K5|exact K6|exact K7|exact K8|exact K9|exact K10|exact K11); (exact rfl); (exact wz rfl))|(apply Tri.same; (first|exact K0|exact K1|exact K2|exact K3|exact K4|exact K5|exact K6|exact K7|exact K8|exact K9|exact K10|exact K11); (exact rfl); (exact wz rfl))|refine wq fun _ => ?_)
  refine Tri.cndF rfl ?_
  refine Tri.brT rfl ?_
  rw [Int.tmod_eq_emod_of_nonneg hh0.1, wr_u64 (n := h0 % 40) (by omega) (by omega), wr_u64 (n := 1 + h0 % 40) (by omega) (by omega)]
  obtain ⟨h, hh'⟩ : ∃ h, h = 1 + h0 % 40 := ⟨_, rfl⟩
  rw [← hh']
  have hh : 1 ≤ h ∧ h ≤ 40 := by omega
  refine Tri.call (new_ok (r := 8) (h := h) (by omega) (by omega) (by omega) (by omega)) (by repeat (first|exact Picks.nil|(apply Picks.cons; (first|exact K0|exact K1|exact K2|exact K3|exact K4|exact K5|exact K6|exact K7|exact K8|exact K9|exact K10|exact K11)))) ?_
  rintro v L' ⟨p, rfl, rfl⟩
  simp only [List.cons_append, List.nil_append]
  repeat (first|refine wa ?_|refine wb ?_|refine wc ?_|refine wd ?_|refine we ?_|refine wf ?_|refine wg ?_|refine wh rfl ?_|refine wi rfl ?_|refine wj rfl ?_|refine wk rfl ?_|refine wl rfl ?_|refine wm (by decide) ?_|(apply Tri.ldE; (first|exact K0|exact K1|exact K2|exact K3|exact K4|exact K5|exact K6|exact K7|exact K8|exact K9|exact K10|exact K11); (exact rfl); (exact wz rfl))|(apply Tri.stE; (first|exact K0|exact K1|exact K2|exact K3|exact K4|exact K5|exact K6|exact K7|exact K8|exact K9|exact K10|exact K11); (exact rfl); (exact wz rfl))|(apply Tri.same; (first|exact K0|exact K1|exact K2|exact K3|exact K4|exact K5|exact K6|exact K7|exact K8|exact K9|exact K10|exact K11); (exact rfl); (exact wz rfl))|refine wq fun _ => ?_)
  refine Tri.cndF rfl ?_
  refine Tri.cndF rfl ?_
  refine Tri.loop (I := fun m l' L => ∃ (j : Nat) (V : List Cl), m = 8 - j ∧ j ≤ 8 ∧ Gn h j V ∧ l' = [.sc (.i .u8 g), .sc (.i .u8 nw), .sc (.b true), .sc (.i .u64 h), .sc (.p (some (p, 0))), .sc (.i .i64 ((j + 1 : Nat) : Int))] ∧ L = [pt p (tbC 8 h V)])
    ⟨0, _, rfl, by omega, Gn.zero h, rfl, rfl⟩ (by repeat (first|exact Sub.refl _|exact Sub.nil _|(apply Sub.cons; (first|exact K0|exact K1|exact K2|exact K3|exact K4|exact K5|exact K6|exact K7|exact K8|exact K9|exact K10|exact K11))|apply Sub.skip)) ?_
  rintro m l' L ⟨j, V, rfl, hj, hV, rfl, rfl⟩
  unfold t4_b8
  repeat (first|refine wa ?_|refine wb ?_|refine wc ?_|refine wd ?_|refine we ?_|refine wf ?_|refine wg ?_|refine wh rfl ?_|refine wi rfl ?_|refine wj rfl ?_|refine wk rfl ?_|refine wl rfl ?_|refine wm (by decide) ?_|(apply Tri.ldE; (first|exact K0|exact K1|exact K2|exact K3|exact K4|exact K5|exact K6|exact K7|exact K8|exact K9|exact K10|exact K11); (exact rfl); (exact wz rfl))|(apply Tri.stE; (first|exact K0|exact K1|exact K2|exact K3|exact K4|exact K5|exact K6|exact K7|exact K8|exact K9|exact K10|exact K11); (exact rfl); (exact wz rfl))|(apply Tri.same; (first|exact K0|exact K1|exact K2|exact K3|exact K4|exact K5|exact K6|exact K7|exact K8|exact K9|exact K10|exact K11); (exact rfl); (exact wz rfl))|refine wq fun _ => ?_)
  refine Tri.cnd (fun hc => ?_) (fun hc => ?_)
  · have hc : j < 8 := by simp at hc; omega
    rw [wr_u32 (n := ((j + 1 : Nat) : Int)) (by omega) (by omega), wr_u64 (n := ((j + 1 : Nat) : Int)) (by omega) (by omega), wr_i64 (n := ((j + 1 : Nat) : Int) + 1) (by omega) (by omega)]
    refine Tri.call (grant_spec (n := ((j + 1 : Nat) : Int)) (ip := ((j + 1 : Nat) : Int)) (port := 1) (now := ((j + 1 : Nat) : Int)) hV.ok (by omega) (by omega) (by simp [noneB]; omega) (by omega) (by omega)) (by repeat (first|exact Picks.nil|(apply Picks.cons; (first|exact K0|exact K1|exact K2|exact K3|exact K4|exact K5|exact K6|exact K7|exact K8|exact K9|exact K10|exact K11)))) ?_
    rw [hV.grant hh hc]
    rintro v L' ⟨rfl, rfl⟩
    simp only [List.cons_append, List.nil_append]
    repeat (first|refine wa ?_|refine wb ?_|refine wc ?_|refine wd ?_|refine we ?_|refine wf ?_|refine wg ?_|refine wh rfl ?_|refine wi rfl ?_|refine wj rfl ?_|refine wk rfl ?_|refine wl rfl ?_|refine wm (by decide) ?_|(apply Tri.ldE; (first|exact K0|exact K1|exact K2|exact K3|exact K4|exact K5|exact K6|exact K7|exact K8|exact K9|exact K10|exact K11); (exact rfl); (exact wz rfl))|(apply Tri.stE; (first|exact K0|exact K1|exact K2|exact K3|exact K4|exact K5|exact K6|exact K7|exact K8|exact K9|exact K10|exact K11); (exact rfl); (exact wz rfl))|(apply Tri.same; (first|exact K0|exact K1|exact K2|exact K3|exact K4|exact K5|exact K6|exact K7|exact K8|exact K9|exact K10|exact K11); (exact rfl); (exact wz rfl))|refine wq fun _ => ?_)
    refine Tri.cndF rfl ?_
    exact Tri.back (m' := 8 - (j + 1)) (by omega) ⟨j + 1, _, rfl, by omega, hV.step hh.1 hc, rfl, rfl⟩ (by repeat (first|exact Sub.refl _|exact Sub.nil _|(apply Sub.cons; (first|exact K0|exact K1|exact K2|exact K3|exact K4|exact K5|exact K6|exact K7|exact K8|exact K9|exact K10|exact K11))|apply Sub.skip))
  · have hc : j = 8 := by simp at hc; omega
    subst hc
    refine Tri.exit (by decide) ?_
    exact Tri.sub (by repeat (first|exact Sub.refl _|exact Sub.nil _|(apply Sub.cons; (first|exact K0|exact K1|exact K2|exact K3|exact K4|exact K5|exact K6|exact K7|exact K8|exact K9|exact K10|exact K11))|apply Sub.skip)) (gone_rel hV hn hg.1 hh)
theorem gone_run {h0 g nw : Int} (hh0 : 0 ≤ h0 ∧ h0 < 256) (hg : 0 ≤ g ∧ g < 256) (hn : 0 ≤ nw ∧ nw < 256) :
    ∃ n H1, callA Try.prog T hs n 4 [.sc (.i .u8 h0), .sc (.i .u8 g), .sc (.i .u8 nw)] ⟨0, fun _ => none⟩ = some (.sc (.b true), H1) := by
  refine law_fin (E := E) (Try.func4 : Try.prog.funcs[4]? = some Try.f4) (t4_eq h0 g nw) ?_
  refine CallWp.mono exW0 ?_
  rintro v H' rfl
  exact Tri.fin (gone_tri hh0 hg hn) (Star.nil _)
end Go.Proofs.Ytmbnikcnmjpheaa
