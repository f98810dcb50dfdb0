/- The law ReachOnce on the abstract machine. -/
import Derived.Test.YtbgmnnfajohmaaaRC
import Derived.Test.YtbgmnnfajohmaaaEx
import Derived.Test.YtbgmnnfajohmaaaTreeE
namespace Go.Proofs.Ytbgmnnfajohmaaa
open Go Go.Proofs.Ytbgmnnfajohmaaa.Fw
set_option linter.unusedVariables false
set_option linter.unusedSimpArgs false

theorem rep_set {α : Type} {z v : α} {p : α → Bool} (hz : p z = false) (hv : p v = true) : ∀ {n j : Nat}, j < n → ((List.replicate n z).set j v).filter p = [v]
  | n + 1, 0, _ => by
    rw [List.replicate_succ, List.set_cons_zero, List.filter_cons, if_pos hv, List.filter_eq_nil_iff.2 fun x hx => by rw [List.eq_of_mem_replicate hx, hz]; decide]
  | n + 1, j + 1, h => by
    rw [List.replicate_succ, List.set_cons_succ, List.filter_cons, if_neg (by rw [hz]; decide)]
    exact rep_set hz hv (by omega)
theorem votes_set {r h : Int} {w : Int} {v : Vt} (h1 : 1 ≤ w) (h2 : w ≤ 32) (hv : v.who = w) : votesL { rs0 r h with V := (rs0 r h).V.set w.toNat v } = [v] := by
  obtain ⟨k, hk⟩ : ∃ k : Nat, w.toNat = k + 1 := ⟨w.toNat - 1, by omega⟩
  unfold votesL
  simp only [rs0, hk]
  rw [show List.replicate 33 (⟨0, 0, 0, 0⟩ : Vt) = ⟨0, 0, 0, 0⟩ :: List.replicate 32 ⟨0, 0, 0, 0⟩ from rfl, List.set_cons_succ, List.drop_succ_cons, List.drop_zero]
  exact rep_set (by simp) (by simp [hv]; omega) (by omega)
theorem votes_rs0 (r h : Int) : votesL (rs0 r h) = [] := by
  unfold votesL rs0
  refine List.filter_eq_nil_iff.2 fun x hx => ?_
  rw [List.eq_of_mem_replicate (List.mem_of_mem_drop hx)]; decide
theorem Best.nil {ip port : Int} {ok : Bool} (h : Best [] ip port ok) : ok = false := by
  rcases h with h | ⟨_, h, _⟩
  · exact h.2.2.2
  · exact absurd h (by unfold cnt; simp)
theorem Best.one {v : Vt} {ip port : Int} {ok : Bool} (h : Best [v] ip port ok) : ok = true ∧ ip = v.ip ∧ port = v.port := by
  rcases h with ⟨h, _⟩ | ⟨h1, h2, _⟩
  · cases h
  · refine ⟨h1, ?_⟩
    obtain ⟨w, hw, hw2⟩ := List.countP_pos_iff.1 h2
    simp at hw; subst hw
    rw [isA_iff] at hw2; omega
set_option maxRecDepth 20000 in
theorem fin_tri {a0 a1 a2 a3 p : Nat} {ai ap bi bp xi xp wi wp f g : Int} {may ok there : Bool} {s : Rs} (hV : s.V.length = 33) (h1 : (f == 0) = (may && !noneB ai ap)) (h2 : (g == 0) = (may && !noneB bi bp)) (h3 : ok = there)
    (h4 : there = true → xi = wi ∧ xp = wp) (h5 : (((votesL s).length : Int) == 1) = there) :
    Tri E [pt a0 [.i .u32 ai, .i .u16 ap], pt a1 [.i .u32 bi, .i .u16 bp], pt a2 [.i .u32 xi, .i .u16 xp], pt a3 [.i .u32 wi, .i .u16 wp], Re p s]
      (t5_k55 0 [.sc (.p (some (a0, 0))), .sc (.p (some (a1, 0))), .sc (.b true), .sc (.p (some (p, 0))), .sc (.b may), .sc (.i .i64 f), .sc (.i .i64 g), .sc (.p (some (a2, 0))), .sc (.b ok), .sc (.p (some (a3, 0))), .sc (.b there)]) (RQ [] RT) := by
  unfold t5_k55
  repeat (first|refine wa ?_|refine wb ?_|refine wc ?_|refine wd ?_|refine we ?_|refine wf ?_|refine wg ?_|refine wh rfl ?_|refine wi rfl ?_|refine wj rfl ?_|refine wk rfl ?_|refine wl rfl ?_|refine wm (by decide) ?_|(apply Tri.ldE; (first|exact K0|exact K1|exact K2|exact K3|exact K4|exact K5|exact K6|exact K7|exact K8|exact K9|exact K10|exact K11); (exact rfl); (exact wz rfl))|(apply Tri.stE; (first|exact K0|exact K1|exact K2|exact K3|exact K4|exact K5|exact K6|exact K7|exact K8|exact K9|exact K10|exact K11); (exact rfl); (exact wz rfl))|(apply Tri.same; (first|exact K0|exact K1|exact K2|exact K3|exact K4|exact K5|exact K6|exact K7|exact K8|exact K9|exact K10|exact K11); (exact rfl); (exact wz rfl))|refine wq fun _ => ?_)
  refine Tri.cndT rfl ?_
  cases may with
  | true =>
    refine Tri.cndT rfl ?_
    repeat (first|refine wa ?_|refine wb ?_|refine wc ?_|refine wd ?_|refine we ?_|refine wf ?_|refine wg ?_|refine wh rfl ?_|refine wi rfl ?_|refine wj rfl ?_|refine wk rfl ?_|refine wl rfl ?_|refine wm (by decide) ?_|(apply Tri.ldE; (first|exact K0|exact K1|exact K2|exact K3|exact K4|exact K5|exact K6|exact K7|exact K8|exact K9|exact K10|exact K11); (exact rfl); (exact wz rfl))|(apply Tri.stE; (first|exact K0|exact K1|exact K2|exact K3|exact K4|exact K5|exact K6|exact K7|exact K8|exact K9|exact K10|exact K11); (exact rfl); (exact wz rfl))|(apply Tri.same; (first|exact K0|exact K1|exact K2|exact K3|exact K4|exact K5|exact K6|exact K7|exact K8|exact K9|exact K10|exact K11); (exact rfl); (exact wz rfl))|refine wq fun _ => ?_)
    refine Tri.call none_spec (by repeat (first|exact Picks.nil|(apply Picks.cons; (first|exact K0|exact K1|exact K2|exact K3|exact K4|exact K5|exact K6|exact K7|exact K8|exact K9|exact K10|exact K11)))) ?_
    rintro v L' ⟨rfl, rfl⟩
    simp only [List.cons_append, List.nil_append]
    repeat (first|refine wa ?_|refine wb ?_|refine wc ?_|refine wd ?_|refine we ?_|refine wf ?_|refine wg ?_|refine wh rfl ?_|refine wi rfl ?_|refine wj rfl ?_|refine wk rfl ?_|refine wl rfl ?_|refine wm (by decide) ?_|(apply Tri.ldE; (first|exact K0|exact K1|exact K2|exact K3|exact K4|exact K5|exact K6|exact K7|exact K8|exact K9|exact K10|exact K11); (exact rfl); (exact wz rfl))|(apply Tri.stE; (first|exact K0|exact K1|exact K2|exact K3|exact K4|exact K5|exact K6|exact K7|exact K8|exact K9|exact K10|exact K11); (exact rfl); (exact wz rfl))|(apply Tri.same; (first|exact K0|exact K1|exact K2|exact K3|exact K4|exact K5|exact K6|exact K7|exact K8|exact K9|exact K10|exact K11); (exact rfl); (exact wz rfl))|refine wq fun _ => ?_)
    refine Tri.cndT (by rw [h1]; simp) ?_
    refine Tri.cndT rfl ?_
    repeat (first|refine wa ?_|refine wb ?_|refine wc ?_|refine wd ?_|refine we ?_|refine wf ?_|refine wg ?_|refine wh rfl ?_|refine wi rfl ?_|refine wj rfl ?_|refine wk rfl ?_|refine wl rfl ?_|refine wm (by decide) ?_|(apply Tri.ldE; (first|exact K0|exact K1|exact K2|exact K3|exact K4|exact K5|exact K6|exact K7|exact K8|exact K9|exact K10|exact K11); (exact rfl); (exact wz rfl))|(apply Tri.stE; (first|exact K0|exact K1|exact K2|exact K3|exact K4|exact K5|exact K6|exact K7|exact K8|exact K9|exact K10|exact K11); (exact rfl); (exact wz rfl))|(apply Tri.same; (first|exact K0|exact K1|exact K2|exact K3|exact K4|exact K5|exact K6|exact K7|exact K8|exact K9|exact K10|exact K11); (exact rfl); (exact wz rfl))|refine wq fun _ => ?_)
    refine Tri.call none_spec (by repeat (first|exact Picks.nil|(apply Picks.cons; (first|exact K0|exact K1|exact K2|exact K3|exact K4|exact K5|exact K6|exact K7|exact K8|exact K9|exact K10|exact K11)))) ?_
    rintro v L' ⟨rfl, rfl⟩
    simp only [List.cons_append, List.nil_append]
    repeat (first|refine wa ?_|refine wb ?_|refine wc ?_|refine wd ?_|refine we ?_|refine wf ?_|refine wg ?_|refine wh rfl ?_|refine wi rfl ?_|refine wj rfl ?_|refine wk rfl ?_|refine wl rfl ?_|refine wm (by decide) ?_|(apply Tri.ldE; (first|exact K0|exact K1|exact K2|exact K3|exact K4|exact K5|exact K6|exact K7|exact K8|exact K9|exact K10|exact K11); (exact rfl); (exact wz rfl))|(apply Tri.stE; (first|exact K0|exact K1|exact K2|exact K3|exact K4|exact K5|exact K6|exact K7|exact K8|exact K9|exact K10|exact K11); (exact rfl); (exact wz rfl))|(apply Tri.same; (first|exact K0|exact K1|exact K2|exact K3|exact K4|exact K5|exact K6|exact K7|exact K8|exact K9|exact K10|exact K11); (exact rfl); (exact wz rfl))|refine wq fun _ => ?_)
    refine Tri.cndT (by rw [h2]; simp) ?_
    refine Tri.cndT (by rw [h3]; simp) ?_
    by_cases ht : there = true
    · subst ht
      obtain ⟨e1, e2⟩ := h4 rfl
      subst e1; subst e2
      rw [h3]
      refine Tri.cndF rfl ?_
      repeat (first|refine wa ?_|refine wb ?_|refine wc ?_|refine wd ?_|refine we ?_|refine wf ?_|refine wg ?_|refine wh rfl ?_|refine wi rfl ?_|refine wj rfl ?_|refine wk rfl ?_|refine wl rfl ?_|refine wm (by decide) ?_|(apply Tri.ldE; (first|exact K0|exact K1|exact K2|exact K3|exact K4|exact K5|exact K6|exact K7|exact K8|exact K9|exact K10|exact K11); (exact rfl); (exact wz rfl))|(apply Tri.stE; (first|exact K0|exact K1|exact K2|exact K3|exact K4|exact K5|exact K6|exact K7|exact K8|exact K9|exact K10|exact K11); (exact rfl); (exact wz rfl))|(apply Tri.same; (first|exact K0|exact K1|exact K2|exact K3|exact K4|exact K5|exact K6|exact K7|exact K8|exact K9|exact K10|exact K11); (exact rfl); (exact wz rfl))|refine wq fun _ => ?_)
      refine Tri.cndT (by simp) ?_
      refine Tri.call (votes_spec hV) (by repeat (first|exact Picks.nil|(apply Picks.cons; (first|exact K0|exact K1|exact K2|exact K3|exact K4|exact K5|exact K6|exact K7|exact K8|exact K9|exact K10|exact K11)))) ?_
      rintro v L' ⟨ov, rfl, rfl⟩
      simp only [List.cons_append, List.nil_append]
      repeat (first|refine wa ?_|refine wb ?_|refine wc ?_|refine wd ?_|refine we ?_|refine wf ?_|refine wg ?_|refine wh rfl ?_|refine wi rfl ?_|refine wj rfl ?_|refine wk rfl ?_|refine wl rfl ?_|refine wm (by decide) ?_|(apply Tri.ldE; (first|exact K0|exact K1|exact K2|exact K3|exact K4|exact K5|exact K6|exact K7|exact K8|exact K9|exact K10|exact K11); (exact rfl); (exact wz rfl))|(apply Tri.stE; (first|exact K0|exact K1|exact K2|exact K3|exact K4|exact K5|exact K6|exact K7|exact K8|exact K9|exact K10|exact K11); (exact rfl); (exact wz rfl))|(apply Tri.same; (first|exact K0|exact K1|exact K2|exact K3|exact K4|exact K5|exact K6|exact K7|exact K8|exact K9|exact K10|exact K11); (exact rfl); (exact wz rfl))|refine wq fun _ => ?_)
      refine Tri.slLen (l := votesL s) (o := ov) (ro := false) (T := vE) (by first|exact K0|exact K1|exact K2|exact K3|exact K4|exact K5|exact K6|exact K7|exact K8|exact K9|exact K10|exact K11) fun e1 e2 => ?_
      rw [e2]
      exact Tri.retF (L1 := []) (by rw [h5]; rfl) (Sub.nil _)
    · have ht : there = false := by simpa using ht
      subst ht
      rw [h3]
      refine Tri.cndT rfl ?_
      refine Tri.call (votes_spec hV) (by repeat (first|exact Picks.nil|(apply Picks.cons; (first|exact K0|exact K1|exact K2|exact K3|exact K4|exact K5|exact K6|exact K7|exact K8|exact K9|exact K10|exact K11)))) ?_
      rintro v L' ⟨ov, rfl, rfl⟩
      simp only [List.cons_append, List.nil_append]
      repeat (first|refine wa ?_|refine wb ?_|refine wc ?_|refine wd ?_|refine we ?_|refine wf ?_|refine wg ?_|refine wh rfl ?_|refine wi rfl ?_|refine wj rfl ?_|refine wk rfl ?_|refine wl rfl ?_|refine wm (by decide) ?_|(apply Tri.ldE; (first|exact K0|exact K1|exact K2|exact K3|exact K4|exact K5|exact K6|exact K7|exact K8|exact K9|exact K10|exact K11); (exact rfl); (exact wz rfl))|(apply Tri.stE; (first|exact K0|exact K1|exact K2|exact K3|exact K4|exact K5|exact K6|exact K7|exact K8|exact K9|exact K10|exact K11); (exact rfl); (exact wz rfl))|(apply Tri.same; (first|exact K0|exact K1|exact K2|exact K3|exact K4|exact K5|exact K6|exact K7|exact K8|exact K9|exact K10|exact K11); (exact rfl); (exact wz rfl))|refine wq fun _ => ?_)
      refine Tri.slLen (l := votesL s) (o := ov) (ro := false) (T := vE) (by first|exact K0|exact K1|exact K2|exact K3|exact K4|exact K5|exact K6|exact K7|exact K8|exact K9|exact K10|exact K11) fun e1 e2 => ?_
      rw [e2]
      exact Tri.retF (L1 := []) (by rw [h5]; rfl) (Sub.nil _)
  | false =>
    refine Tri.cndF rfl ?_
    refine Tri.cndT (by rw [h1]; rfl) ?_
    refine Tri.cndF rfl ?_
    refine Tri.cndT (by rw [h2]; rfl) ?_
    refine Tri.cndT (by rw [h3]; simp) ?_
    by_cases ht : there = true
    · subst ht
      obtain ⟨e1, e2⟩ := h4 rfl
      subst e1; subst e2
      rw [h3]
      refine Tri.cndF rfl ?_
      repeat (first|refine wa ?_|refine wb ?_|refine wc ?_|refine wd ?_|refine we ?_|refine wf ?_|refine wg ?_|refine wh rfl ?_|refine wi rfl ?_|refine wj rfl ?_|refine wk rfl ?_|refine wl rfl ?_|refine wm (by decide) ?_|(apply Tri.ldE; (first|exact K0|exact K1|exact K2|exact K3|exact K4|exact K5|exact K6|exact K7|exact K8|exact K9|exact K10|exact K11); (exact rfl); (exact wz rfl))|(apply Tri.stE; (first|exact K0|exact K1|exact K2|exact K3|exact K4|exact K5|exact K6|exact K7|exact K8|exact K9|exact K10|exact K11); (exact rfl); (exact wz rfl))|(apply Tri.same; (first|exact K0|exact K1|exact K2|exact K3|exact K4|exact K5|exact K6|exact K7|exact K8|exact K9|exact K10|exact K11); (exact rfl); (exact wz rfl))|refine wq fun _ => ?_)
      refine Tri.cndT (by simp) ?_
      refine Tri.call (votes_spec hV) (by repeat (first|exact Picks.nil|(apply Picks.cons; (first|exact K0|exact K1|exact K2|exact K3|exact K4|exact K5|exact K6|exact K7|exact K8|exact K9|exact K10|exact K11)))) ?_
      rintro v L' ⟨ov, rfl, rfl⟩
      simp only [List.cons_append, List.nil_append]
      repeat (first|refine wa ?_|refine wb ?_|refine wc ?_|refine wd ?_|refine we ?_|refine wf ?_|refine wg ?_|refine wh rfl ?_|refine wi rfl ?_|refine wj rfl ?_|refine wk rfl ?_|refine wl rfl ?_|refine wm (by decide) ?_|(apply Tri.ldE; (first|exact K0|exact K1|exact K2|exact K3|exact K4|exact K5|exact K6|exact K7|exact K8|exact K9|exact K10|exact K11); (exact rfl); (exact wz rfl))|(apply Tri.stE; (first|exact K0|exact K1|exact K2|exact K3|exact K4|exact K5|exact K6|exact K7|exact K8|exact K9|exact K10|exact K11); (exact rfl); (exact wz rfl))|(apply Tri.same; (first|exact K0|exact K1|exact K2|exact K3|exact K4|exact K5|exact K6|exact K7|exact K8|exact K9|exact K10|exact K11); (exact rfl); (exact wz rfl))|refine wq fun _ => ?_)
      refine Tri.slLen (l := votesL s) (o := ov) (ro := false) (T := vE) (by first|exact K0|exact K1|exact K2|exact K3|exact K4|exact K5|exact K6|exact K7|exact K8|exact K9|exact K10|exact K11) fun e1 e2 => ?_
      rw [e2]
      exact Tri.retF (L1 := []) (by rw [h5]; rfl) (Sub.nil _)
    · have ht : there = false := by simpa using ht
      subst ht
      rw [h3]
      refine Tri.cndT rfl ?_
      refine Tri.call (votes_spec hV) (by repeat (first|exact Picks.nil|(apply Picks.cons; (first|exact K0|exact K1|exact K2|exact K3|exact K4|exact K5|exact K6|exact K7|exact K8|exact K9|exact K10|exact K11)))) ?_
      rintro v L' ⟨ov, rfl, rfl⟩
      simp only [List.cons_append, List.nil_append]
      repeat (first|refine wa ?_|refine wb ?_|refine wc ?_|refine wd ?_|refine we ?_|refine wf ?_|refine wg ?_|refine wh rfl ?_|refine wi rfl ?_|refine wj rfl ?_|refine wk rfl ?_|refine wl rfl ?_|refine wm (by decide) ?_|(apply Tri.ldE; (first|exact K0|exact K1|exact K2|exact K3|exact K4|exact K5|exact K6|exact K7|exact K8|exact K9|exact K10|exact K11); (exact rfl); (exact wz rfl))|(apply Tri.stE; (first|exact K0|exact K1|exact K2|exact K3|exact K4|exact K5|exact K6|exact K7|exact K8|exact K9|exact K10|exact K11); (exact rfl); (exact wz rfl))|(apply Tri.same; (first|exact K0|exact K1|exact K2|exact K3|exact K4|exact K5|exact K6|exact K7|exact K8|exact K9|exact K10|exact K11); (exact rfl); (exact wz rfl))|refine wq fun _ => ?_)
      refine Tri.slLen (l := votesL s) (o := ov) (ro := false) (T := vE) (by first|exact K0|exact K1|exact K2|exact K3|exact K4|exact K5|exact K6|exact K7|exact K8|exact K9|exact K10|exact K11) fun e1 e2 => ?_
      rw [e2]
      exact Tri.retF (L1 := []) (by rw [h5]; rfl) (Sub.nil _)
theorem see_no {s : Rs} {w ip port now : Int} (h : ¬ (1 ≤ w ∧ w ≤ 32 ∧ noneB ip port = false)) : seeR s w ip port now = (1, s) := by
  unfold seeR; rw [if_neg (fun h' => h ⟨h'.1, h'.2.1, h'.2.2.1⟩)]
theorem see_yes {s : Rs} {w ip port now : Int} (h1 : 1 ≤ w) (h2 : w ≤ 32) (h3 : noneB ip port = false) (h4 : now < 65536) : seeR s w ip port now = (0, { s with V := s.V.set w.toNat ⟨w, ip, port, now⟩ }) := by
  unfold seeR; rw [if_pos ⟨h1, h2, h3, by omega⟩]
/-- what two votes of one come to -/
structure Two (w ai ap bi bp t1 t2 : Int) (may : Bool) (f g : Int) (s : Rs) (there : Bool) (wi wp : Int) : Prop where
  V : s.V.length = 33
  ff : (f == 0) = (may && !noneB ai ap)
  gg : (g == 0) = (may && !noneB bi bp)
  th : there = ((may && !noneB ai ap) || (may && !noneB bi bp))
  no : there = false → votesL s = []
  yes : there = true → ∃ t : Int, votesL s = [⟨w, wi, wp, t⟩] ∧ 0 ≤ t ∧ t < 65536
  hold : s.hold = 1000
theorem two {w ai ap bi bp t1 t2 : Int} (h1 : 0 ≤ t1 ∧ t1 < 65536) (h2 : 0 ≤ t2 ∧ t2 < 65536) :
    Two w ai ap bi bp t1 t2 (decide (1 ≤ w) && decide (w ≤ 32)) (seeR (rs0 1 1000) w ai ap t1).1 (seeR (seeR (rs0 1 1000) w ai ap t1).2 w bi bp t2).1 (seeR (seeR (rs0 1 1000) w ai ap t1).2 w bi bp t2).2
      (((decide (1 ≤ w) && decide (w ≤ 32)) && !noneB ai ap) || ((decide (1 ≤ w) && decide (w ≤ 32)) && !noneB bi bp))
      (if (decide (1 ≤ w) && decide (w ≤ 32) && !noneB bi bp) = true then bi else ai) (if (decide (1 ≤ w) && decide (w ≤ 32) && !noneB bi bp) = true then bp else ap) := by
  by_cases hw : 1 ≤ w ∧ w ≤ 32
  · have hm : (decide (1 ≤ w) && decide (w ≤ 32)) = true := by simp [hw]
    rw [hm]
    by_cases ha : noneB ai ap = true
    · rw [see_no (s := rs0 1 1000) (w := w) (ip := ai) (port := ap) (by simp [ha])]
      by_cases hb : noneB bi bp = true
      · rw [see_no (s := rs0 1 1000) (w := w) (ip := bi) (port := bp) (by simp [hb])]
        exact ⟨rfl, by simp [ha], by simp [hb], by simp [ha, hb], fun _ => votes_rs0 _ _, fun h => by simp [ha, hb] at h, rfl⟩
      · have hb : noneB bi bp = false := by simpa using hb
        rw [see_yes (s := rs0 1 1000) hw.1 hw.2 hb h2.2]
        refine ⟨by simp [rs0], by simp [ha], by simp [hb], by simp [ha, hb], fun h => by simp [ha, hb] at h, fun _ => ⟨t2, ?_, h2⟩, rfl⟩
        rw [if_pos (by simp [hb]), if_pos (by simp [hb])]
        exact votes_set hw.1 hw.2 rfl
    · have ha : noneB ai ap = false := by simpa using ha
      rw [see_yes (s := rs0 1 1000) hw.1 hw.2 ha h1.2]
      by_cases hb : noneB bi bp = true
      · rw [see_no (w := w) (ip := bi) (port := bp) (by simp [hb])]
        refine ⟨by simp [rs0], by simp [ha], by simp [hb], by simp [ha, hb], fun h => by simp [ha, hb] at h, fun _ => ⟨t1, ?_, h1⟩, rfl⟩
        rw [if_neg (by simp [hb]), if_neg (by simp [hb])]
        exact votes_set hw.1 hw.2 rfl
      · have hb : noneB bi bp = false := by simpa using hb
        rw [see_yes hw.1 hw.2 hb h2.2]
        refine ⟨by simp [rs0], by simp [ha], by simp [hb], by simp [ha, hb], fun h => by simp [ha, hb] at h, fun _ => ⟨t2, ?_, h2⟩, rfl⟩
        rw [if_pos (by simp [hb]), if_pos (by simp [hb])]
        simp only [List.set_set]
        exact votes_set hw.1 hw.2 rfl
  · have hm : (decide (1 ≤ w) && decide (w ≤ 32)) = false := by
      rw [Bool.eq_false_iff]; intro h; simp at h; exact hw h
    rw [hm, see_no (s := rs0 1 1000) (w := w) (ip := ai) (port := ap) (fun h => hw ⟨h.1, h.2.1⟩), see_no (s := rs0 1 1000) (w := w) (ip := bi) (port := bp) (fun h => hw ⟨h.1, h.2.1⟩)]
    exact ⟨rfl, rfl, rfl, rfl, fun _ => votes_rs0 _ _, fun h => by simp at h, rfl⟩
theorem two_best {w ai ap bi bp t1 t2 : Int} {may : Bool} {f g : Int} {s : Rs} {there : Bool} {wi wp xi xp : Int} {ok : Bool} (h : Two w ai ap bi bp t1 t2 may f g s there wi wp) (hb : Best (liveL s 0) xi xp ok) :
    ok = there ∧ (there = true → xi = wi ∧ xp = wp) ∧ (((votesL s).length : Int) == 1) = there := by
  cases ht : there with
  | false =>
    have hv := h.no ht
    unfold liveL at hb
    rw [hv] at hb ⊢
    exact ⟨hb.nil, fun h => by simp at h, rfl⟩
  | true =>
    obtain ⟨t, hv, h0, h1⟩ := h.yes ht
    have hl : liveL s 0 = [⟨w, wi, wp, t⟩] := by
      unfold liveL
      rw [hv, List.filter_cons, if_pos, List.filter_nil]
      simp only [oldB, h.hold, Bool.not_eq_true', decide_eq_false_iff_not]
      rw [wr_u64 (by omega) (by omega)]; omega
    rw [hl] at hb
    obtain ⟨b1, b2, b3⟩ := hb.one
    rw [hv]
    exact ⟨b1, fun _ => ⟨b2, b3⟩, rfl⟩
set_option maxRecDepth 20000 in
set_option maxHeartbeats 4000000 in
theorem once_tri {w ai ap bi bp t1 t2 : Int} (h1 : 0 ≤ t1 ∧ t1 < 65536) (ht2 : 0 ≤ t2 ∧ t2 < 65536) : Tri E [pt 0 [.i .u32 ai, .i .u16 ap], pt 1 [.i .u32 bi, .i .u16 bp]]
    ((fun v0 : AV => match t5 w ai ap bi bp t1 t2 with | .al _ f => (match f 0 with | .al _ f => (match f 1 with | .call _ _ k => k v0 | _ => .fail) | _ => .fail) | _ => .fail) (.sc (.b true))) (RQ [] RT) := by
  unfold t5
  dsimp only
  repeat (first|refine wa ?_|refine wb ?_|refine wc ?_|refine wd ?_|refine we ?_|refine wf ?_|refine wg ?_|refine wh rfl ?_|refine wi rfl ?_|refine wj rfl ?_|refine wk rfl ?_|refine wl rfl ?_|refine wm (by decide) ?_|(apply Tri.ldE; (first|exact K0|exact K1|exact K2|exact K3|exact K4|exact K5|exact K6|exact K7|exact K8|exact K9|exact K10|exact K11); (exact rfl); (exact wz rfl))|(apply Tri.stE; (first|exact K0|exact K1|exact K2|exact K3|exact K4|exact K5|exact K6|exact K7|exact K8|exact K9|exact K10|exact K11); (exact rfl); (exact wz rfl))|(apply Tri.same; (first|exact K0|exact K1|exact K2|exact K3|exact K4|exact K5|exact K6|exact K7|exact K8|exact K9|exact K10|exact K11); (exact rfl); (exact wz rfl))|refine wq fun _ => ?_)
  refine Tri.cndF rfl ?_
  refine Tri.call (new_ok (r := 1) (h := 1000) (by decide) (by decide) (by decide) (by decide)) (by repeat (first|exact Picks.nil|(apply Picks.cons; (first|exact K0|exact K1|exact K2|exact K3|exact K4|exact K5|exact K6|exact K7|exact K8|exact K9|exact K10|exact K11)))) ?_
  rintro v L' ⟨p, rfl, rfl⟩
  simp only [List.cons_append, List.nil_append]
  repeat (first|refine wa ?_|refine wb ?_|refine wc ?_|refine wd ?_|refine we ?_|refine wf ?_|refine wg ?_|refine wh rfl ?_|refine wi rfl ?_|refine wj rfl ?_|refine wk rfl ?_|refine wl rfl ?_|refine wm (by decide) ?_|(apply Tri.ldE; (first|exact K0|exact K1|exact K2|exact K3|exact K4|exact K5|exact K6|exact K7|exact K8|exact K9|exact K10|exact K11); (exact rfl); (exact wz rfl))|(apply Tri.stE; (first|exact K0|exact K1|exact K2|exact K3|exact K4|exact K5|exact K6|exact K7|exact K8|exact K9|exact K10|exact K11); (exact rfl); (exact wz rfl))|(apply Tri.same; (first|exact K0|exact K1|exact K2|exact K3|exact K4|exact K5|exact K6|exact K7|exact K8|exact K9|exact K10|exact K11); (exact rfl); (exact wz rfl))|refine wq fun _ => ?_)
  refine Tri.cndF rfl ?_
  refine Tri.cndF rfl ?_
  have h2 := two (w := w) (ai := ai) (ap := ap) (bi := bi) (bp := bp) h1 ht2
  have hVa : (seeR (rs0 1 1000) w ai ap t1).2.V.length = 33 := by unfold seeR; split <;> simp [rs0]
  simp only [wr_u64 (n := t1) (by omega) (by omega), wr_u64 (n := t2) (by omega) (by omega)]
  refine Tri.cnd (fun c1 => ?_) (fun c1 => ?_)
  · have c1 : 1 ≤ w := by simpa using c1
    repeat (first|refine wa ?_|refine wb ?_|refine wc ?_|refine wd ?_|refine we ?_|refine wf ?_|refine wg ?_|refine wh rfl ?_|refine wi rfl ?_|refine wj rfl ?_|refine wk rfl ?_|refine wl rfl ?_|refine wm (by decide) ?_|(apply Tri.ldE; (first|exact K0|exact K1|exact K2|exact K3|exact K4|exact K5|exact K6|exact K7|exact K8|exact K9|exact K10|exact K11); (exact rfl); (exact wz rfl))|(apply Tri.stE; (first|exact K0|exact K1|exact K2|exact K3|exact K4|exact K5|exact K6|exact K7|exact K8|exact K9|exact K10|exact K11); (exact rfl); (exact wz rfl))|(apply Tri.same; (first|exact K0|exact K1|exact K2|exact K3|exact K4|exact K5|exact K6|exact K7|exact K8|exact K9|exact K10|exact K11); (exact rfl); (exact wz rfl))|refine wq fun _ => ?_)
    refine Tri.call (see_spec (s := rs0 1 1000) (who := w) (ip := ai) (port := ap) (now := t1) rfl) (by repeat (first|exact Picks.nil|(apply Picks.cons; (first|exact K0|exact K1|exact K2|exact K3|exact K4|exact K5|exact K6|exact K7|exact K8|exact K9|exact K10|exact K11)))) ?_
    rintro v L' ⟨rfl, rfl⟩
    simp only [List.cons_append, List.nil_append]
    repeat (first|refine wa ?_|refine wb ?_|refine wc ?_|refine wd ?_|refine we ?_|refine wf ?_|refine wg ?_|refine wh rfl ?_|refine wi rfl ?_|refine wj rfl ?_|refine wk rfl ?_|refine wl rfl ?_|refine wm (by decide) ?_|(apply Tri.ldE; (first|exact K0|exact K1|exact K2|exact K3|exact K4|exact K5|exact K6|exact K7|exact K8|exact K9|exact K10|exact K11); (exact rfl); (exact wz rfl))|(apply Tri.stE; (first|exact K0|exact K1|exact K2|exact K3|exact K4|exact K5|exact K6|exact K7|exact K8|exact K9|exact K10|exact K11); (exact rfl); (exact wz rfl))|(apply Tri.same; (first|exact K0|exact K1|exact K2|exact K3|exact K4|exact K5|exact K6|exact K7|exact K8|exact K9|exact K10|exact K11); (exact rfl); (exact wz rfl))|refine wq fun _ => ?_)
    refine Tri.call (see_spec (s := (seeR (rs0 1 1000) w ai ap t1).2) (who := w) (ip := bi) (port := bp) (now := t2) hVa) (by repeat (first|exact Picks.nil|(apply Picks.cons; (first|exact K0|exact K1|exact K2|exact K3|exact K4|exact K5|exact K6|exact K7|exact K8|exact K9|exact K10|exact K11)))) ?_
    rintro v L' ⟨rfl, rfl⟩
    simp only [List.cons_append, List.nil_append]
    repeat (first|refine wa ?_|refine wb ?_|refine wc ?_|refine wd ?_|refine we ?_|refine wf ?_|refine wg ?_|refine wh rfl ?_|refine wi rfl ?_|refine wj rfl ?_|refine wk rfl ?_|refine wl rfl ?_|refine wm (by decide) ?_|(apply Tri.ldE; (first|exact K0|exact K1|exact K2|exact K3|exact K4|exact K5|exact K6|exact K7|exact K8|exact K9|exact K10|exact K11); (exact rfl); (exact wz rfl))|(apply Tri.stE; (first|exact K0|exact K1|exact K2|exact K3|exact K4|exact K5|exact K6|exact K7|exact K8|exact K9|exact K10|exact K11); (exact rfl); (exact wz rfl))|(apply Tri.same; (first|exact K0|exact K1|exact K2|exact K3|exact K4|exact K5|exact K6|exact K7|exact K8|exact K9|exact K10|exact K11); (exact rfl); (exact wz rfl))|refine wq fun _ => ?_)
    refine Tri.call (addr_spec (s := (seeR (seeR (rs0 1 1000) w ai ap t1).2 w bi bp t2).2) (now := 0) h2.V) (by repeat (first|exact Picks.nil|(apply Picks.cons; (first|exact K0|exact K1|exact K2|exact K3|exact K4|exact K5|exact K6|exact K7|exact K8|exact K9|exact K10|exact K11)))) ?_
    rintro v L' ⟨xi, xp, ok, rfl, hbest, rfl⟩
    obtain ⟨q1, q2, q3⟩ := two_best h2 hbest
    simp only [List.cons_append, List.nil_append]
    repeat (first|refine wa ?_|refine wb ?_|refine wc ?_|refine wd ?_|refine we ?_|refine wf ?_|refine wg ?_|refine wh rfl ?_|refine wi rfl ?_|refine wj rfl ?_|refine wk rfl ?_|refine wl rfl ?_|refine wm (by decide) ?_|(apply Tri.ldE; (first|exact K0|exact K1|exact K2|exact K3|exact K4|exact K5|exact K6|exact K7|exact K8|exact K9|exact K10|exact K11); (exact rfl); (exact wz rfl))|(apply Tri.stE; (first|exact K0|exact K1|exact K2|exact K3|exact K4|exact K5|exact K6|exact K7|exact K8|exact K9|exact K10|exact K11); (exact rfl); (exact wz rfl))|(apply Tri.same; (first|exact K0|exact K1|exact K2|exact K3|exact K4|exact K5|exact K6|exact K7|exact K8|exact K9|exact K10|exact K11); (exact rfl); (exact wz rfl))|refine wq fun _ => ?_)
    rename_i b0 b1
    by_cases c2 : w ≤ 32
    · rw [decide_eq_true c2]
      have hm : (decide (1 ≤ w) && decide (w ≤ 32)) = true := by simp [c1, c2]
      refine Tri.cndT rfl ?_
      repeat (first|refine wa ?_|refine wb ?_|refine wc ?_|refine wd ?_|refine we ?_|refine wf ?_|refine wg ?_|refine wh rfl ?_|refine wi rfl ?_|refine wj rfl ?_|refine wk rfl ?_|refine wl rfl ?_|refine wm (by decide) ?_|(apply Tri.ldE; (first|exact K0|exact K1|exact K2|exact K3|exact K4|exact K5|exact K6|exact K7|exact K8|exact K9|exact K10|exact K11); (exact rfl); (exact wz rfl))|(apply Tri.stE; (first|exact K0|exact K1|exact K2|exact K3|exact K4|exact K5|exact K6|exact K7|exact K8|exact K9|exact K10|exact K11); (exact rfl); (exact wz rfl))|(apply Tri.same; (first|exact K0|exact K1|exact K2|exact K3|exact K4|exact K5|exact K6|exact K7|exact K8|exact K9|exact K10|exact K11); (exact rfl); (exact wz rfl))|refine wq fun _ => ?_)
      refine Tri.call none_spec (by repeat (first|exact Picks.nil|(apply Picks.cons; (first|exact K0|exact K1|exact K2|exact K3|exact K4|exact K5|exact K6|exact K7|exact K8|exact K9|exact K10|exact K11)))) ?_
      rintro v L' ⟨rfl, rfl⟩
      simp only [List.cons_append, List.nil_append]
      repeat (first|refine wa ?_|refine wb ?_|refine wc ?_|refine wd ?_|refine we ?_|refine wf ?_|refine wg ?_|refine wh rfl ?_|refine wi rfl ?_|refine wj rfl ?_|refine wk rfl ?_|refine wl rfl ?_|refine wm (by decide) ?_|(apply Tri.ldE; (first|exact K0|exact K1|exact K2|exact K3|exact K4|exact K5|exact K6|exact K7|exact K8|exact K9|exact K10|exact K11); (exact rfl); (exact wz rfl))|(apply Tri.stE; (first|exact K0|exact K1|exact K2|exact K3|exact K4|exact K5|exact K6|exact K7|exact K8|exact K9|exact K10|exact K11); (exact rfl); (exact wz rfl))|(apply Tri.same; (first|exact K0|exact K1|exact K2|exact K3|exact K4|exact K5|exact K6|exact K7|exact K8|exact K9|exact K10|exact K11); (exact rfl); (exact wz rfl))|refine wq fun _ => ?_)
      refine Tri.call none_spec (by repeat (first|exact Picks.nil|(apply Picks.cons; (first|exact K0|exact K1|exact K2|exact K3|exact K4|exact K5|exact K6|exact K7|exact K8|exact K9|exact K10|exact K11)))) ?_
      rintro v L' ⟨rfl, rfl⟩
      simp only [List.cons_append, List.nil_append]
      repeat (first|refine wa ?_|refine wb ?_|refine wc ?_|refine wd ?_|refine we ?_|refine wf ?_|refine wg ?_|refine wh rfl ?_|refine wi rfl ?_|refine wj rfl ?_|refine wk rfl ?_|refine wl rfl ?_|refine wm (by decide) ?_|(apply Tri.ldE; (first|exact K0|exact K1|exact K2|exact K3|exact K4|exact K5|exact K6|exact K7|exact K8|exact K9|exact K10|exact K11); (exact rfl); (exact wz rfl))|(apply Tri.stE; (first|exact K0|exact K1|exact K2|exact K3|exact K4|exact K5|exact K6|exact K7|exact K8|exact K9|exact K10|exact K11); (exact rfl); (exact wz rfl))|(apply Tri.same; (first|exact K0|exact K1|exact K2|exact K3|exact K4|exact K5|exact K6|exact K7|exact K8|exact K9|exact K10|exact K11); (exact rfl); (exact wz rfl))|refine wq fun _ => ?_)
      refine Tri.join ?_
      refine Tri.cnd (fun c3 => ?_) (fun c3 => ?_)
      · have c3 : noneB bi bp = false := by simpa using c3
        repeat (first|refine wa ?_|refine wb ?_|refine wc ?_|refine wd ?_|refine we ?_|refine wf ?_|refine wg ?_|refine wh rfl ?_|refine wi rfl ?_|refine wj rfl ?_|refine wk rfl ?_|refine wl rfl ?_|refine wm (by decide) ?_|(apply Tri.ldE; (first|exact K0|exact K1|exact K2|exact K3|exact K4|exact K5|exact K6|exact K7|exact K8|exact K9|exact K10|exact K11); (exact rfl); (exact wz rfl))|(apply Tri.stE; (first|exact K0|exact K1|exact K2|exact K3|exact K4|exact K5|exact K6|exact K7|exact K8|exact K9|exact K10|exact K11); (exact rfl); (exact wz rfl))|(apply Tri.same; (first|exact K0|exact K1|exact K2|exact K3|exact K4|exact K5|exact K6|exact K7|exact K8|exact K9|exact K10|exact K11); (exact rfl); (exact wz rfl))|refine wq fun _ => ?_)
        refine Tri.thru ?_
        have hth : (((decide (1 ≤ w) && decide (w ≤ 32)) && !noneB ai ap) || ((decide (1 ≤ w) && decide (w ≤ 32)) && !noneB bi bp)) = true := by rw [hm, c3]; simp
        have hwi : (if (decide (1 ≤ w) && decide (w ≤ 32) && !noneB bi bp) = true then bi else ai) = bi := by rw [if_pos (by rw [hm, c3]; rfl)]
        have hwp : (if (decide (1 ≤ w) && decide (w ≤ 32) && !noneB bi bp) = true then bp else ap) = bp := by rw [if_pos (by rw [hm, c3]; rfl)]
        refine Tri.sub (L' := [pt 0 [.i .u32 ai, .i .u16 ap], pt 1 [.i .u32 bi, .i .u16 bp], pt _ [.i .u32 xi, .i .u16 xp], pt _ [.i .u32 _, .i .u16 _], Re p (seeR (seeR (rs0 1 1000) w ai ap t1).2 w bi bp t2).2]) (by repeat (first|exact Sub.refl _|exact Sub.nil _|(apply Sub.cons; (first|exact K0|exact K1|exact K2|exact K3|exact K4|exact K5|exact K6|exact K7|exact K8|exact K9|exact K10|exact K11))|apply Sub.skip)) ?_
        exact fin_tri h2.V (by rw [h2.ff, hm]) (by rw [h2.gg, hm]) (by rw [q1, hth]) (fun h => by have := q2 (hth.trans h); rw [hwi, hwp] at this; exact this) (by rw [q3, hth])
      · have c3 : noneB bi bp = true := by simpa using c3
        refine Tri.thru ?_
        have hth : (((decide (1 ≤ w) && decide (w ≤ 32)) && !noneB ai ap) || ((decide (1 ≤ w) && decide (w ≤ 32)) && !noneB bi bp)) = !noneB ai ap := by rw [hm, c3]; simp
        have hwi : (if (decide (1 ≤ w) && decide (w ≤ 32) && !noneB bi bp) = true then bi else ai) = ai := by rw [if_neg (by rw [hm, c3]; decide)]
        have hwp : (if (decide (1 ≤ w) && decide (w ≤ 32) && !noneB bi bp) = true then bp else ap) = ap := by rw [if_neg (by rw [hm, c3]; decide)]
        refine Tri.sub (L' := [pt 0 [.i .u32 ai, .i .u16 ap], pt 1 [.i .u32 bi, .i .u16 bp], pt _ [.i .u32 xi, .i .u16 xp], pt _ [.i .u32 _, .i .u16 _], Re p (seeR (seeR (rs0 1 1000) w ai ap t1).2 w bi bp t2).2]) (by repeat (first|exact Sub.refl _|exact Sub.nil _|(apply Sub.cons; (first|exact K0|exact K1|exact K2|exact K3|exact K4|exact K5|exact K6|exact K7|exact K8|exact K9|exact K10|exact K11))|apply Sub.skip)) ?_
        exact fin_tri h2.V (by rw [h2.ff, hm]) (by rw [h2.gg, hm]) (by rw [q1, hth]) (fun h => by have := q2 (hth.trans h); rw [hwi, hwp] at this; exact this) (by rw [q3, hth])
    · rw [decide_eq_false c2]
      have hm : (decide (1 ≤ w) && decide (w ≤ 32)) = false := by simp [c2]
      have hth : (((decide (1 ≤ w) && decide (w ≤ 32)) && !noneB ai ap) || ((decide (1 ≤ w) && decide (w ≤ 32)) && !noneB bi bp)) = false := by rw [hm]; rfl
      have hwi : (if (decide (1 ≤ w) && decide (w ≤ 32) && !noneB bi bp) = true then bi else ai) = ai := by rw [if_neg (by rw [hm]; simp)]
      have hwp : (if (decide (1 ≤ w) && decide (w ≤ 32) && !noneB bi bp) = true then bp else ap) = ap := by rw [if_neg (by rw [hm]; simp)]
      refine Tri.cndF rfl ?_
      refine Tri.cndF rfl ?_
      refine Tri.join ?_
      refine Tri.thru ?_
      refine Tri.sub (L' := [pt 0 [.i .u32 ai, .i .u16 ap], pt 1 [.i .u32 bi, .i .u16 bp], pt _ [.i .u32 xi, .i .u16 xp], pt _ [.i .u32 _, .i .u16 _], Re p (seeR (seeR (rs0 1 1000) w ai ap t1).2 w bi bp t2).2]) (by repeat (first|exact Sub.refl _|exact Sub.nil _|(apply Sub.cons; (first|exact K0|exact K1|exact K2|exact K3|exact K4|exact K5|exact K6|exact K7|exact K8|exact K9|exact K10|exact K11))|apply Sub.skip)) ?_
      exact fin_tri h2.V (by rw [h2.ff, hm]) (by rw [h2.gg, hm]) (by rw [q1, hth]) (fun h => by have := q2 (hth.trans h); rw [hwi, hwp] at this; exact this) (by rw [q3, hth])
  · have c1 : ¬ 1 ≤ w := by simpa using c1
    repeat (first|refine wa ?_|refine wb ?_|refine wc ?_|refine wd ?_|refine we ?_|refine wf ?_|refine wg ?_|refine wh rfl ?_|refine wi rfl ?_|refine wj rfl ?_|refine wk rfl ?_|refine wl rfl ?_|refine wm (by decide) ?_|(apply Tri.ldE; (first|exact K0|exact K1|exact K2|exact K3|exact K4|exact K5|exact K6|exact K7|exact K8|exact K9|exact K10|exact K11); (exact rfl); (exact wz rfl))|(apply Tri.stE; (first|exact K0|exact K1|exact K2|exact K3|exact K4|exact K5|exact K6|exact K7|exact K8|exact K9|exact K10|exact K11); (exact rfl); (exact wz rfl))|(apply Tri.same; (first|exact K0|exact K1|exact K2|exact K3|exact K4|exact K5|exact K6|exact K7|exact K8|exact K9|exact K10|exact K11); (exact rfl); (exact wz rfl))|refine wq fun _ => ?_)
    refine Tri.call (see_spec (s := rs0 1 1000) (who := w) (ip := ai) (port := ap) (now := t1) rfl) (by repeat (first|exact Picks.nil|(apply Picks.cons; (first|exact K0|exact K1|exact K2|exact K3|exact K4|exact K5|exact K6|exact K7|exact K8|exact K9|exact K10|exact K11)))) ?_
    rintro v L' ⟨rfl, rfl⟩
    simp only [List.cons_append, List.nil_append]
    repeat (first|refine wa ?_|refine wb ?_|refine wc ?_|refine wd ?_|refine we ?_|refine wf ?_|refine wg ?_|refine wh rfl ?_|refine wi rfl ?_|refine wj rfl ?_|refine wk rfl ?_|refine wl rfl ?_|refine wm (by decide) ?_|(apply Tri.ldE; (first|exact K0|exact K1|exact K2|exact K3|exact K4|exact K5|exact K6|exact K7|exact K8|exact K9|exact K10|exact K11); (exact rfl); (exact wz rfl))|(apply Tri.stE; (first|exact K0|exact K1|exact K2|exact K3|exact K4|exact K5|exact K6|exact K7|exact K8|exact K9|exact K10|exact K11); (exact rfl); (exact wz rfl))|(apply Tri.same; (first|exact K0|exact K1|exact K2|exact K3|exact K4|exact K5|exact K6|exact K7|exact K8|exact K9|exact K10|exact K11); (exact rfl); (exact wz rfl))|refine wq fun _ => ?_)
    refine Tri.call (see_spec (s := (seeR (rs0 1 1000) w ai ap t1).2) (who := w) (ip := bi) (port := bp) (now := t2) hVa) (by repeat (first|exact Picks.nil|(apply Picks.cons; (first|exact K0|exact K1|exact K2|exact K3|exact K4|exact K5|exact K6|exact K7|exact K8|exact K9|exact K10|exact K11)))) ?_
    rintro v L' ⟨rfl, rfl⟩
    simp only [List.cons_append, List.nil_append]
    repeat (first|refine wa ?_|refine wb ?_|refine wc ?_|refine wd ?_|refine we ?_|refine wf ?_|refine wg ?_|refine wh rfl ?_|refine wi rfl ?_|refine wj rfl ?_|refine wk rfl ?_|refine wl rfl ?_|refine wm (by decide) ?_|(apply Tri.ldE; (first|exact K0|exact K1|exact K2|exact K3|exact K4|exact K5|exact K6|exact K7|exact K8|exact K9|exact K10|exact K11); (exact rfl); (exact wz rfl))|(apply Tri.stE; (first|exact K0|exact K1|exact K2|exact K3|exact K4|exact K5|exact K6|exact K7|exact K8|exact K9|exact K10|exact K11); (exact rfl); (exact wz rfl))|(apply Tri.same; (first|exact K0|exact K1|exact K2|exact K3|exact K4|exact K5|exact K6|exact K7|exact K8|exact K9|exact K10|exact K11); (exact rfl); (exact wz rfl))|refine wq fun _ => ?_)
    refine Tri.call (addr_spec (s := (seeR (seeR (rs0 1 1000) w ai ap t1).2 w bi bp t2).2) (now := 0) h2.V) (by repeat (first|exact Picks.nil|(apply Picks.cons; (first|exact K0|exact K1|exact K2|exact K3|exact K4|exact K5|exact K6|exact K7|exact K8|exact K9|exact K10|exact K11)))) ?_
    rintro v L' ⟨xi, xp, ok, rfl, hbest, rfl⟩
    obtain ⟨q1, q2, q3⟩ := two_best h2 hbest
    simp only [List.cons_append, List.nil_append]
    repeat (first|refine wa ?_|refine wb ?_|refine wc ?_|refine wd ?_|refine we ?_|refine wf ?_|refine wg ?_|refine wh rfl ?_|refine wi rfl ?_|refine wj rfl ?_|refine wk rfl ?_|refine wl rfl ?_|refine wm (by decide) ?_|(apply Tri.ldE; (first|exact K0|exact K1|exact K2|exact K3|exact K4|exact K5|exact K6|exact K7|exact K8|exact K9|exact K10|exact K11); (exact rfl); (exact wz rfl))|(apply Tri.stE; (first|exact K0|exact K1|exact K2|exact K3|exact K4|exact K5|exact K6|exact K7|exact K8|exact K9|exact K10|exact K11); (exact rfl); (exact wz rfl))|(apply Tri.same; (first|exact K0|exact K1|exact K2|exact K3|exact K4|exact K5|exact K6|exact K7|exact K8|exact K9|exact K10|exact K11); (exact rfl); (exact wz rfl))|refine wq fun _ => ?_)
    have hm : (decide (1 ≤ w) && decide (w ≤ 32)) = false := by simp [c1]
    have hth : (((decide (1 ≤ w) && decide (w ≤ 32)) && !noneB ai ap) || ((decide (1 ≤ w) && decide (w ≤ 32)) && !noneB bi bp)) = false := by rw [hm]; rfl
    have hwi : (if (decide (1 ≤ w) && decide (w ≤ 32) && !noneB bi bp) = true then bi else ai) = ai := by rw [if_neg (by rw [hm]; simp)]
    have hwp : (if (decide (1 ≤ w) && decide (w ≤ 32) && !noneB bi bp) = true then bp else ap) = ap := by rw [if_neg (by rw [hm]; simp)]
    refine Tri.join ?_
    refine Tri.thru ?_
    refine Tri.sub (L' := [pt 0 [.i .u32 ai, .i .u16 ap], pt 1 [.i .u32 bi, .i .u16 bp], pt _ [.i .u32 xi, .i .u16 xp], pt _ [.i .u32 _, .i .u16 _], Re p (seeR (seeR (rs0 1 1000) w ai ap t1).2 w bi bp t2).2]) (by repeat (first|exact Sub.refl _|exact Sub.nil _|(apply Sub.cons; (first|exact K0|exact K1|exact K2|exact K3|exact K4|exact K5|exact K6|exact K7|exact K8|exact K9|exact K10|exact K11))|apply Sub.skip)) ?_
    exact fin_tri h2.V (by rw [h2.ff, hm]) (by rw [h2.gg, hm]) (by rw [q1, hth]) (fun h => by have := q2 (hth.trans h); rw [hwi, hwp] at this; exact this) (by rw [q3, hth])
structure Ad where
  ip : Int
  port : Int
def adE : Enc Ad where
  z := 2
  e t := [.i .u32 t.ip, .i .u16 t.port]
  len _ := rfl
theorem adE_ok (c : List Sc) (h : All2 ScK [.i .u32, .i .u16] c) : ∃ x : Ad, c = adE.e x := by
  obtain ⟨_, _, rfl, ⟨a, rfl, _⟩, _, _, rfl, ⟨b, rfl, _⟩, rfl⟩ := h
  exact ⟨⟨a, b⟩, rfl⟩
theorem once_run (w : Int) (a b : Ad) {t1 t2 : Int} (h1 : 0 ≤ t1 ∧ t1 < 65536) (h2 : 0 ≤ t2 ∧ t2 < 65536) : ∃ n H1, callA Try.prog T hs n 5 [.sc (.i .i64 w), .ag (adE.e a), .ag (adE.e b), .sc (.i .u16 t1), .sc (.i .u16 t2)] H0 = some (.sc (.b true), H1) := by
  refine law_fin (E := E) (Try.func5 : Try.prog.funcs[5]? = some Try.f5) (t5_eq w a.ip a.port b.ip b.port t1 t2) ?_
  refine CallWp.mono (exW2 _) ?_
  rintro v H' ⟨rfl, h0, h3, hn⟩
  exact Tri.fin (once_tri h1 h2) (Star.two_ (by decide) h0 (by omega) h3 hn)
end Go.Proofs.Ytbgmnnfajohmaaa
