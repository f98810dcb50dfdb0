/- The law LeaseRoom on the abstract machine. -/
import Derived.Test.YtmbnikcnmjpheaaLA
import Derived.Test.YtmbnikcnmjpheaaEx
import Derived.Test.YtmbnikcnmjpheaaTreeB
namespace Go.Proofs.Ytmbnikcnmjpheaa
open Go Go.Proofs.Ytmbnikcnmjpheaa.Fw
set_option linter.unusedVariables false
set_option linter.unusedSimpArgs false

theorem clL_sw (now : Int) : ∀ V : List Cl, (clL (swV V now)).length ≤ (clL V).length
  | [] => Nat.le_refl _
  | c :: V => by
    have ih := clL_sw now V
    unfold clL swV at *
    rw [List.map_cons, List.filter_cons, List.filter_cons]
    by_cases h : c.un ≤ now
    · rw [if_pos h]
      rw [if_neg (by simp [cz])]
      split
      · simp only [List.length_cons]; omega
      · exact ih
    · rw [if_neg h]
      split
      · simp only [List.length_cons]; omega
      · exact ih
theorem sw_sw (V : List Cl) (now : Int) (h : 0 ≤ now) : swV (swV V now) now = swV V now := by
  unfold swV
  rw [List.map_map]
  congr 1
  funext c
  simp only [Function.comp]
  by_cases hc : c.un ≤ now
  · rw [if_pos hc]; split <;> rfl
  · rw [if_neg hc, if_neg hc]
theorem clL_set {V : List Cl} {k : Nat} {c : Cl} (hk : k < V.length) : (clL (V.set k c)).length ≤ (clL V).length + 1 ∧ ((V.getD k cz).id ≠ 0 → (clL (V.set k c)).length ≤ (clL V).length) := by
  unfold clL
  rw [← List.countP_eq_length_filter, ← List.countP_eq_length_filter, List.countP_set hk]
  have hg : V.getD k cz = V[k] := by rw [List.getD_eq_getElem?_getD, List.getElem?_eq_getElem hk]; rfl
  rw [hg]
  constructor
  · split <;> split <;> omega
  · intro h
    rw [if_pos (by simpa using h)]
    have : 0 < V.countP fun c => !(c.id == 0) := List.countP_pos_iff.2 ⟨V[k], List.getElem_mem hk, by simpa using h⟩
    split <;> omega
theorem sw_getD {V : List Cl} (hV : V.length = 33) (now : Int) {k : Nat} (hk : k < 33) : (swV V now).getD k cz = if (V.getD k cz).un ≤ now then cz else V.getD k cz := by
  rw [List.getD_eq_getElem?_getD, swV_get, getD_some hV hk]; rfl
set_option maxRecDepth 20000 in
set_option maxHeartbeats 4000000 in
theorem room_tri {r0 h0 : Int} {o : Option SlD} {U : List By} (hr : 0 ≤ r0 ∧ r0 < 256) (hh : 0 ≤ h0 ∧ h0 < 256) : Tri E [.sl true byE o U] ((fun v0 : AV => match t3 r0 h0 o with | .call _ _ f => f v0 | _ => .fail) (.sc (.b true))) (RQ [] RT) := by
  unfold t3
  dsimp only
  repeat (first|refine wa ?_|refine wb ?_|refine wc ?_|refine wd ?_|refine we ?_|refine wf ?_|refine wg ?_|refine wh rfl ?_|refine wi rfl ?_|refine wj rfl ?_|refine wk rfl ?_|refine wl rfl ?_|refine wm (by decide) ?_|(apply Tri.ldE; (first|exact K0|exact K1|exact K2|exact K3|exact K4|exact K5|exact K6|exact K7|exact K8|exact K9|exact K10|exact K11); (exact rfl); (exact wz rfl))|(apply Tri.stE; (first|exact K0|exact K1|exact K2|exact K3|exact K4|exact K5|exact K6|exact K7|exact K8|exact K9|exact K10|exact K11); (exact rfl); (exact wz rfl))|(apply Tri.same; (first|exact K0|exact K1|exact K2|exact K3|exact K4|exact K5|exact K6|exact K7|exact K8|exact K9|exact K10|exact K11); (exact rfl); (exact wz rfl))|refine wq fun _ => ?_)
  refine Tri.cndF rfl ?_
  refine Tri.brT rfl ?_
  refine Tri.brT rfl ?_
  rw [Int.tmod_eq_emod_of_nonneg hr.1, Int.tmod_eq_emod_of_nonneg hh.1, wr_i64 (n := r0 % 8) (by omega) (by omega), wr_u64 (n := h0 % 40) (by omega) (by omega), wr_i64 (n := 1 + r0 % 8) (by omega) (by omega), wr_u64 (n := 1 + h0 % 40) (by omega) (by omega)]
  obtain ⟨n, hn⟩ : ∃ n, n = 1 + r0 % 8 := ⟨_, rfl⟩
  obtain ⟨h, hh'⟩ : ∃ h, h = 1 + h0 % 40 := ⟨_, rfl⟩
  rw [← hn, ← hh']
  have hn2 : 1 ≤ n ∧ n ≤ 8 := by omega
  have hh2 : 1 ≤ h ∧ h ≤ 40 := by omega
  refine Tri.call (new_ok (r := n) (h := h) (by omega) (by omega) (by omega) (by omega)) (by repeat (first|exact Picks.nil|(apply Picks.cons; (first|exact K0|exact K1|exact K2|exact K3|exact K4|exact K5|exact K6|exact K7|exact K8|exact K9|exact K10|exact K11)))) ?_
  rintro v L' ⟨p, rfl, rfl⟩
  simp only [List.cons_append, List.nil_append]
  repeat (first|refine wa ?_|refine wb ?_|refine wc ?_|refine wd ?_|refine we ?_|refine wf ?_|refine wg ?_|refine wh rfl ?_|refine wi rfl ?_|refine wj rfl ?_|refine wk rfl ?_|refine wl rfl ?_|refine wm (by decide) ?_|(apply Tri.ldE; (first|exact K0|exact K1|exact K2|exact K3|exact K4|exact K5|exact K6|exact K7|exact K8|exact K9|exact K10|exact K11); (exact rfl); (exact wz rfl))|(apply Tri.stE; (first|exact K0|exact K1|exact K2|exact K3|exact K4|exact K5|exact K6|exact K7|exact K8|exact K9|exact K10|exact K11); (exact rfl); (exact wz rfl))|(apply Tri.same; (first|exact K0|exact K1|exact K2|exact K3|exact K4|exact K5|exact K6|exact K7|exact K8|exact K9|exact K10|exact K11); (exact rfl); (exact wz rfl))|refine wq fun _ => ?_)
  refine Tri.cndF rfl ?_
  refine Tri.cndF rfl ?_
  refine Tri.loop (I := fun m l' L => ∃ (i : Nat) (V : List Cl), m = U.length - i ∧ i ≤ U.length ∧ i ≤ 60 ∧ Okv V ∧ ((clL V).length : Int) ≤ n ∧
    l' = [.sc (.sl o), .sc (.b true), .sc (.i .i64 n), .sc (.i .u64 h), .sc (.p (some (p, 0))), .sc (.i .i64 i)] ∧ L = [pt p (tbC n h V), .sl true byE o U])
    ⟨0, List.replicate 33 cz, rfl, by omega, by omega, Okv.zero, by show ((clL (List.replicate 33 cz)).length : Int) ≤ n; rw [show (clL (List.replicate 33 cz)).length = 0 by decide]; omega, rfl, rfl⟩ (by repeat (first|exact Sub.refl _|exact Sub.nil _|(apply Sub.cons; (first|exact K0|exact K1|exact K2|exact K3|exact K4|exact K5|exact K6|exact K7|exact K8|exact K9|exact K10|exact K11))|apply Sub.skip)) ?_
  rintro m l' L ⟨i, V, rfl, hi, hi60, hV, hcl, rfl, rfl⟩
  unfold t3_b8
  repeat (first|refine wa ?_|refine wb ?_|refine wc ?_|refine wd ?_|refine we ?_|refine wf ?_|refine wg ?_|refine wh rfl ?_|refine wi rfl ?_|refine wj rfl ?_|refine wk rfl ?_|refine wl rfl ?_|refine wm (by decide) ?_|(apply Tri.ldE; (first|exact K0|exact K1|exact K2|exact K3|exact K4|exact K5|exact K6|exact K7|exact K8|exact K9|exact K10|exact K11); (exact rfl); (exact wz rfl))|(apply Tri.stE; (first|exact K0|exact K1|exact K2|exact K3|exact K4|exact K5|exact K6|exact K7|exact K8|exact K9|exact K10|exact K11); (exact rfl); (exact wz rfl))|(apply Tri.same; (first|exact K0|exact K1|exact K2|exact K3|exact K4|exact K5|exact K6|exact K7|exact K8|exact K9|exact K10|exact K11); (exact rfl); (exact wz rfl))|refine wq fun _ => ?_)
  refine Tri.slLen (l := U) (o := o) (ro := true) (T := byE) (by first|exact K0|exact K1|exact K2|exact K3|exact K4|exact K5|exact K6|exact K7|exact K8|exact K9|exact K10|exact K11) fun e1 e2 => ?_
  rw [e2]
  have away : Tri E [pt p (tbC n h V), .sl true byE o U] (t3_k8 2 [.sc (.b true)]) (RQ [] RT) := by
    unfold t3_k8
    repeat (first|refine wa ?_|refine wb ?_|refine wc ?_|refine wd ?_|refine we ?_|refine wf ?_|refine wg ?_|refine wh rfl ?_|refine wi rfl ?_|refine wj rfl ?_|refine wk rfl ?_|refine wl rfl ?_|refine wm (by decide) ?_|(apply Tri.ldE; (first|exact K0|exact K1|exact K2|exact K3|exact K4|exact K5|exact K6|exact K7|exact K8|exact K9|exact K10|exact K11); (exact rfl); (exact wz rfl))|(apply Tri.stE; (first|exact K0|exact K1|exact K2|exact K3|exact K4|exact K5|exact K6|exact K7|exact K8|exact K9|exact K10|exact K11); (exact rfl); (exact wz rfl))|(apply Tri.same; (first|exact K0|exact K1|exact K2|exact K3|exact K4|exact K5|exact K6|exact K7|exact K8|exact K9|exact K10|exact K11); (exact rfl); (exact wz rfl))|refine wq fun _ => ?_)
    exact Tri.retF (L1 := []) rfl (Sub.nil _)
  refine Tri.cnd (fun hc => ?_) (fun hc => ?_)
  · have hc : i < U.length := by simp at hc; omega
    refine Tri.cnd (fun h60 => ?_) (fun h60 => ?_)
    · have h60 : i < 60 := by simp at h60; omega
      refine Tri.ixld (T := byE) (o := o) (by first|exact K0|exact K1|exact K2|exact K3|exact K4|exact K5|exact K6|exact K7|exact K8|exact K9|exact K10|exact K11) rfl (by omega) (by omega) fun u hu => ?_
      repeat (first|refine wa ?_|refine wb ?_|refine wc ?_|refine wd ?_|refine we ?_|refine wf ?_|refine wg ?_|refine wh rfl ?_|refine wi rfl ?_|refine wj rfl ?_|refine wk rfl ?_|refine wl rfl ?_|refine wm (by decide) ?_|(apply Tri.ldE; (first|exact K0|exact K1|exact K2|exact K3|exact K4|exact K5|exact K6|exact K7|exact K8|exact K9|exact K10|exact K11); (exact rfl); (exact wz rfl))|(apply Tri.stE; (first|exact K0|exact K1|exact K2|exact K3|exact K4|exact K5|exact K6|exact K7|exact K8|exact K9|exact K10|exact K11); (exact rfl); (exact wz rfl))|(apply Tri.same; (first|exact K0|exact K1|exact K2|exact K3|exact K4|exact K5|exact K6|exact K7|exact K8|exact K9|exact K10|exact K11); (exact rfl); (exact wz rfl))|refine wq fun _ => ?_)
      refine Tri.brT rfl ?_
      have hu2 := u.2
      rw [Int.tmod_eq_emod_of_nonneg hu2.1, wr_i64 (n := u.1 % 32) (by omega) (by omega), wr_i64 (n := 1 + u.1 % 32) (by omega) (by omega)]
      generalize hid : 1 + u.1 % 32 = d
      have hd : 1 ≤ d ∧ d ≤ 32 := by omega
      rw [wr_u64 (n := (i : Int)) (by omega) (by omega), wr_i64 (n := (i : Int) + 1) (by omega) (by omega), wr_u64 (n := (i : Int) + h) (by omega) (by omega), wr_u32 (n := d) (by omega) (by omega)]
      refine Tri.call (of_spec (n := d) (now := (i : Int)) hV.len) (by repeat (first|exact Picks.nil|(apply Picks.cons; (first|exact K0|exact K1|exact K2|exact K3|exact K4|exact K5|exact K6|exact K7|exact K8|exact K9|exact K10|exact K11)))) ?_
      rintro v L' ⟨rfl, rfl⟩
      simp only [List.cons_append, List.nil_append]
      repeat (first|refine wa ?_|refine wb ?_|refine wc ?_|refine wd ?_|refine we ?_|refine wf ?_|refine wg ?_|refine wh rfl ?_|refine wi rfl ?_|refine wj rfl ?_|refine wk rfl ?_|refine wl rfl ?_|refine wm (by decide) ?_|(apply Tri.ldE; (first|exact K0|exact K1|exact K2|exact K3|exact K4|exact K5|exact K6|exact K7|exact K8|exact K9|exact K10|exact K11); (exact rfl); (exact wz rfl))|(apply Tri.stE; (first|exact K0|exact K1|exact K2|exact K3|exact K4|exact K5|exact K6|exact K7|exact K8|exact K9|exact K10|exact K11); (exact rfl); (exact wz rfl))|(apply Tri.same; (first|exact K0|exact K1|exact K2|exact K3|exact K4|exact K5|exact K6|exact K7|exact K8|exact K9|exact K10|exact K11); (exact rfl); (exact wz rfl))|refine wq fun _ => ?_)
      refine Tri.call (sweep_spec (now := (i : Int)) hV (by omega)) (by repeat (first|exact Picks.nil|(apply Picks.cons; (first|exact K0|exact K1|exact K2|exact K3|exact K4|exact K5|exact K6|exact K7|exact K8|exact K9|exact K10|exact K11)))) ?_
      rintro v L' ⟨o3, rfl, rfl⟩
      simp only [List.cons_append, List.nil_append]
      repeat (first|refine wa ?_|refine wb ?_|refine wc ?_|refine wd ?_|refine we ?_|refine wf ?_|refine wg ?_|refine wh rfl ?_|refine wi rfl ?_|refine wj rfl ?_|refine wk rfl ?_|refine wl rfl ?_|refine wm (by decide) ?_|(apply Tri.ldE; (first|exact K0|exact K1|exact K2|exact K3|exact K4|exact K5|exact K6|exact K7|exact K8|exact K9|exact K10|exact K11); (exact rfl); (exact wz rfl))|(apply Tri.stE; (first|exact K0|exact K1|exact K2|exact K3|exact K4|exact K5|exact K6|exact K7|exact K8|exact K9|exact K10|exact K11); (exact rfl); (exact wz rfl))|(apply Tri.same; (first|exact K0|exact K1|exact K2|exact K3|exact K4|exact K5|exact K6|exact K7|exact K8|exact K9|exact K10|exact K11); (exact rfl); (exact wz rfl))|refine wq fun _ => ?_)
      have hW := hV.sw (i : Int)
      have hWc := clL_sw (i : Int) V
      have hWg := sw_getD hV.len (i : Int) (k := d.toNat) (by omega)
      have hww := sw_sw V (i : Int) (by omega)
      have hwas : ((swV V (i : Int)).getD d.toNat cz).id = 0 ↔ ofB V d i = false := by
        rw [hWg]
        unfold ofB
        have e1 : decide (1 ≤ d) = true := by simp; omega
        have e2 : decide (d ≤ 32) = true := by simp; omega
        rw [e1, e2]
        have hg := getD_some hV.len (k := d.toNat) (by omega)
        have hat := hV.at_ _ _ hg
        clear hg hWg
        generalize V.getD d.toNat cz = g at hat
        rcases hat with e | ⟨e, _⟩
        · rw [e]; simp [cz]
        · by_cases hu : g.un ≤ (i : Int)
          · rw [if_pos hu]; simp [cz, hu]
          · rw [if_neg hu]
            have : ¬ g.id = 0 := by omega
            simp [this, hu]
      generalize swV V (i : Int) = W at hW hWc hWg hww hwas
      generalize ofB V d i = was at hwas
      have hcW : ((clL W).length : Int) ≤ n := by omega
      refine Tri.call (clients_spec (r := n) (h := h) hW.len) (by repeat (first|exact Picks.nil|(apply Picks.cons; (first|exact K0|exact K1|exact K2|exact K3|exact K4|exact K5|exact K6|exact K7|exact K8|exact K9|exact K10|exact K11)))) ?_
      rintro v L' ⟨o4, rfl, rfl⟩
      simp only [List.cons_append, List.nil_append]
      repeat (first|refine wa ?_|refine wb ?_|refine wc ?_|refine wd ?_|refine we ?_|refine wf ?_|refine wg ?_|refine wh rfl ?_|refine wi rfl ?_|refine wj rfl ?_|refine wk rfl ?_|refine wl rfl ?_|refine wm (by decide) ?_|(apply Tri.ldE; (first|exact K0|exact K1|exact K2|exact K3|exact K4|exact K5|exact K6|exact K7|exact K8|exact K9|exact K10|exact K11); (exact rfl); (exact wz rfl))|(apply Tri.stE; (first|exact K0|exact K1|exact K2|exact K3|exact K4|exact K5|exact K6|exact K7|exact K8|exact K9|exact K10|exact K11); (exact rfl); (exact wz rfl))|(apply Tri.same; (first|exact K0|exact K1|exact K2|exact K3|exact K4|exact K5|exact K6|exact K7|exact K8|exact K9|exact K10|exact K11); (exact rfl); (exact wz rfl))|refine wq fun _ => ?_)
      refine Tri.slLen (l := clL W) (o := o4) (ro := false) (T := cE) (by first|exact K0|exact K1|exact K2|exact K3|exact K4|exact K5|exact K6|exact K7|exact K8|exact K9|exact K10|exact K11) fun e3 e4 => ?_
      rw [e4]
      refine Tri.call (grant_spec (n := d) (ip := d) (port := 9) (now := (i : Int)) hW (by omega) (by omega) (by simp [noneB]; omega) (by omega) (by omega)) (by repeat (first|exact Picks.nil|(apply Picks.cons; (first|exact K0|exact K1|exact K2|exact K3|exact K4|exact K5|exact K6|exact K7|exact K8|exact K9|exact K10|exact K11)))) ?_
      have hX := hW.set (k := d.toNat) (c := ⟨d, d, 9, i + h⟩) (.inr ⟨by simp only; omega, by omega⟩)
      have hXg : (W.set d.toNat ⟨d, d, 9, (i : Int) + h⟩).getD d.toNat cz = ⟨d, d, 9, i + h⟩ := by
        rw [List.getD_eq_getElem?_getD, List.getElem?_set_self (by have := hW.len; omega)]; rfl
      have hXc := clL_set (V := W) (k := d.toNat) (c := ⟨d, d, 9, (i : Int) + h⟩) (by have := hW.len; omega)
      have e1 : decide (1 ≤ d) = true := by simp; omega
      have e2' : decide (d ≤ 32) = true := by simp; omega
      have hXt : ofB (W.set d.toNat ⟨d, d, 9, (i : Int) + h⟩) d i = true := by
        unfold ofB; rw [hXg, e1, e2']; simp; omega
      have hXf : ofB (W.set d.toNat ⟨d, d, 9, (i : Int) + h⟩) d (i + h) = false := by
        unfold ofB; rw [hXg]; simp
      have hXC : ofC (W.set d.toNat ⟨d, d, 9, (i : Int) + h⟩) d i = ⟨d, d, 9, i + h⟩ := by unfold ofC; rw [hXt, if_pos rfl, hXg]
      by_cases hw : was = true
      · have hid : ¬ (W.getD d.toNat cz).id = 0 := fun e => by rw [hwas.1 e] at hw; cases hw
        have hXc2 : ((clL (W.set d.toNat ⟨d, d, 9, (i : Int) + h⟩)).length : Int) ≤ n := by have := hXc.2 hid; omega
        have hgr : grV n h W d d 9 i = ((i + h, 0), W.set d.toNat ⟨d, d, 9, i + h⟩) := by
          unfold grV; rw [hww, if_neg (fun hh => hid hh.1), wr_u64 (n := (i : Int) + h) (by omega) (by omega)]
        rw [hgr]
        rintro v L' ⟨rfl, rfl⟩
        simp only [List.cons_append, List.nil_append]
        repeat (first|refine wa ?_|refine wb ?_|refine wc ?_|refine wd ?_|refine we ?_|refine wf ?_|refine wg ?_|refine wh rfl ?_|refine wi rfl ?_|refine wj rfl ?_|refine wk rfl ?_|refine wl rfl ?_|refine wm (by decide) ?_|(apply Tri.ldE; (first|exact K0|exact K1|exact K2|exact K3|exact K4|exact K5|exact K6|exact K7|exact K8|exact K9|exact K10|exact K11); (exact rfl); (exact wz rfl))|(apply Tri.stE; (first|exact K0|exact K1|exact K2|exact K3|exact K4|exact K5|exact K6|exact K7|exact K8|exact K9|exact K10|exact K11); (exact rfl); (exact wz rfl))|(apply Tri.same; (first|exact K0|exact K1|exact K2|exact K3|exact K4|exact K5|exact K6|exact K7|exact K8|exact K9|exact K10|exact K11); (exact rfl); (exact wz rfl))|refine wq fun _ => ?_)
        refine Tri.call (of_spec (n := d) (now := (i : Int)) hX.len) (by repeat (first|exact Picks.nil|(apply Picks.cons; (first|exact K0|exact K1|exact K2|exact K3|exact K4|exact K5|exact K6|exact K7|exact K8|exact K9|exact K10|exact K11)))) ?_
        rw [hXt, hXC]
        rintro v L' ⟨rfl, rfl⟩
        simp only [List.cons_append, List.nil_append]
        repeat (first|refine wa ?_|refine wb ?_|refine wc ?_|refine wd ?_|refine we ?_|refine wf ?_|refine wg ?_|refine wh rfl ?_|refine wi rfl ?_|refine wj rfl ?_|refine wk rfl ?_|refine wl rfl ?_|refine wm (by decide) ?_|(apply Tri.ldE; (first|exact K0|exact K1|exact K2|exact K3|exact K4|exact K5|exact K6|exact K7|exact K8|exact K9|exact K10|exact K11); (exact rfl); (exact wz rfl))|(apply Tri.stE; (first|exact K0|exact K1|exact K2|exact K3|exact K4|exact K5|exact K6|exact K7|exact K8|exact K9|exact K10|exact K11); (exact rfl); (exact wz rfl))|(apply Tri.same; (first|exact K0|exact K1|exact K2|exact K3|exact K4|exact K5|exact K6|exact K7|exact K8|exact K9|exact K10|exact K11); (exact rfl); (exact wz rfl))|refine wq fun _ => ?_)
        subst hw
        first | refine Tri.cndT rfl ?_ | refine Tri.cndF rfl ?_
        refine Tri.cndF rfl ?_
        refine Tri.cndT rfl ?_
        refine Tri.cndF (by simp) ?_
        refine Tri.cndF rfl ?_
        repeat (first|refine wa ?_|refine wb ?_|refine wc ?_|refine wd ?_|refine we ?_|refine wf ?_|refine wg ?_|refine wh rfl ?_|refine wi rfl ?_|refine wj rfl ?_|refine wk rfl ?_|refine wl rfl ?_|refine wm (by decide) ?_|(apply Tri.ldE; (first|exact K0|exact K1|exact K2|exact K3|exact K4|exact K5|exact K6|exact K7|exact K8|exact K9|exact K10|exact K11); (exact rfl); (exact wz rfl))|(apply Tri.stE; (first|exact K0|exact K1|exact K2|exact K3|exact K4|exact K5|exact K6|exact K7|exact K8|exact K9|exact K10|exact K11); (exact rfl); (exact wz rfl))|(apply Tri.same; (first|exact K0|exact K1|exact K2|exact K3|exact K4|exact K5|exact K6|exact K7|exact K8|exact K9|exact K10|exact K11); (exact rfl); (exact wz rfl))|refine wq fun _ => ?_)
        rw [wr_i64 (n := d) (by omega) (by omega)]
        refine Tri.cndF (by simp) ?_
        refine Tri.cndF rfl ?_
        refine Tri.call (clients_spec hX.len) (by repeat (first|exact Picks.nil|(apply Picks.cons; (first|exact K0|exact K1|exact K2|exact K3|exact K4|exact K5|exact K6|exact K7|exact K8|exact K9|exact K10|exact K11)))) ?_
        rintro v L' ⟨o5, rfl, rfl⟩
        simp only [List.cons_append, List.nil_append]
        repeat (first|refine wa ?_|refine wb ?_|refine wc ?_|refine wd ?_|refine we ?_|refine wf ?_|refine wg ?_|refine wh rfl ?_|refine wi rfl ?_|refine wj rfl ?_|refine wk rfl ?_|refine wl rfl ?_|refine wm (by decide) ?_|(apply Tri.ldE; (first|exact K0|exact K1|exact K2|exact K3|exact K4|exact K5|exact K6|exact K7|exact K8|exact K9|exact K10|exact K11); (exact rfl); (exact wz rfl))|(apply Tri.stE; (first|exact K0|exact K1|exact K2|exact K3|exact K4|exact K5|exact K6|exact K7|exact K8|exact K9|exact K10|exact K11); (exact rfl); (exact wz rfl))|(apply Tri.same; (first|exact K0|exact K1|exact K2|exact K3|exact K4|exact K5|exact K6|exact K7|exact K8|exact K9|exact K10|exact K11); (exact rfl); (exact wz rfl))|refine wq fun _ => ?_)
        refine Tri.slLen (l := clL (W.set d.toNat ⟨d, d, 9, (i : Int) + h⟩)) (o := o5) (ro := false) (T := cE) (by first|exact K0|exact K1|exact K2|exact K3|exact K4|exact K5|exact K6|exact K7|exact K8|exact K9|exact K10|exact K11) fun e5 e6 => ?_
        rw [e6]
        refine Tri.cndF (by simp; omega) ?_
        refine Tri.cndT rfl ?_
        refine Tri.call (of_spec (n := d) (now := (i : Int) + h) hX.len) (by repeat (first|exact Picks.nil|(apply Picks.cons; (first|exact K0|exact K1|exact K2|exact K3|exact K4|exact K5|exact K6|exact K7|exact K8|exact K9|exact K10|exact K11)))) ?_
        rw [hXf]
        rintro v L' ⟨rfl, rfl⟩
        simp only [List.cons_append, List.nil_append]
        repeat (first|refine wa ?_|refine wb ?_|refine wc ?_|refine wd ?_|refine we ?_|refine wf ?_|refine wg ?_|refine wh rfl ?_|refine wi rfl ?_|refine wj rfl ?_|refine wk rfl ?_|refine wl rfl ?_|refine wm (by decide) ?_|(apply Tri.ldE; (first|exact K0|exact K1|exact K2|exact K3|exact K4|exact K5|exact K6|exact K7|exact K8|exact K9|exact K10|exact K11); (exact rfl); (exact wz rfl))|(apply Tri.stE; (first|exact K0|exact K1|exact K2|exact K3|exact K4|exact K5|exact K6|exact K7|exact K8|exact K9|exact K10|exact K11); (exact rfl); (exact wz rfl))|(apply Tri.same; (first|exact K0|exact K1|exact K2|exact K3|exact K4|exact K5|exact K6|exact K7|exact K8|exact K9|exact K10|exact K11); (exact rfl); (exact wz rfl))|refine wq fun _ => ?_)
        refine Tri.cndF rfl ?_
        exact Tri.back (m' := U.length - (i + 1)) (by omega) ⟨i + 1, _, rfl, by omega, by omega, hX, hXc2, rfl, rfl⟩ (by repeat (first|exact Sub.refl _|exact Sub.nil _|(apply Sub.cons; (first|exact K0|exact K1|exact K2|exact K3|exact K4|exact K5|exact K6|exact K7|exact K8|exact K9|exact K10|exact K11))|apply Sub.skip))
      · have hw : was = false := by simpa using hw
        have hid : (W.getD d.toNat cz).id = 0 := hwas.2 hw
        subst hw
        by_cases hm : ((clL W).length : Int) < n
        · have hXc2 : ((clL (W.set d.toNat ⟨d, d, 9, (i : Int) + h⟩)).length : Int) ≤ n := by have := hXc.1; omega
          have hgr : grV n h W d d 9 i = ((i + h, 0), W.set d.toNat ⟨d, d, 9, i + h⟩) := by
            unfold grV; rw [hww, if_neg (fun hh => by omega), wr_u64 (n := (i : Int) + h) (by omega) (by omega)]
          rw [hgr]
          rintro v L' ⟨rfl, rfl⟩
          simp only [List.cons_append, List.nil_append]
          repeat (first|refine wa ?_|refine wb ?_|refine wc ?_|refine wd ?_|refine we ?_|refine wf ?_|refine wg ?_|refine wh rfl ?_|refine wi rfl ?_|refine wj rfl ?_|refine wk rfl ?_|refine wl rfl ?_|refine wm (by decide) ?_|(apply Tri.ldE; (first|exact K0|exact K1|exact K2|exact K3|exact K4|exact K5|exact K6|exact K7|exact K8|exact K9|exact K10|exact K11); (exact rfl); (exact wz rfl))|(apply Tri.stE; (first|exact K0|exact K1|exact K2|exact K3|exact K4|exact K5|exact K6|exact K7|exact K8|exact K9|exact K10|exact K11); (exact rfl); (exact wz rfl))|(apply Tri.same; (first|exact K0|exact K1|exact K2|exact K3|exact K4|exact K5|exact K6|exact K7|exact K8|exact K9|exact K10|exact K11); (exact rfl); (exact wz rfl))|refine wq fun _ => ?_)
          refine Tri.call (of_spec (n := d) (now := (i : Int)) hX.len) (by repeat (first|exact Picks.nil|(apply Picks.cons; (first|exact K0|exact K1|exact K2|exact K3|exact K4|exact K5|exact K6|exact K7|exact K8|exact K9|exact K10|exact K11)))) ?_
          rw [hXt, hXC]
          rintro v L' ⟨rfl, rfl⟩
          simp only [List.cons_append, List.nil_append]
          repeat (first|refine wa ?_|refine wb ?_|refine wc ?_|refine wd ?_|refine we ?_|refine wf ?_|refine wg ?_|refine wh rfl ?_|refine wi rfl ?_|refine wj rfl ?_|refine wk rfl ?_|refine wl rfl ?_|refine wm (by decide) ?_|(apply Tri.ldE; (first|exact K0|exact K1|exact K2|exact K3|exact K4|exact K5|exact K6|exact K7|exact K8|exact K9|exact K10|exact K11); (exact rfl); (exact wz rfl))|(apply Tri.stE; (first|exact K0|exact K1|exact K2|exact K3|exact K4|exact K5|exact K6|exact K7|exact K8|exact K9|exact K10|exact K11); (exact rfl); (exact wz rfl))|(apply Tri.same; (first|exact K0|exact K1|exact K2|exact K3|exact K4|exact K5|exact K6|exact K7|exact K8|exact K9|exact K10|exact K11); (exact rfl); (exact wz rfl))|refine wq fun _ => ?_)
          rw [decide_eq_true hm]
          first | refine Tri.cndT rfl ?_ | refine Tri.cndF rfl ?_
          refine Tri.cndF rfl ?_
          refine Tri.cndT rfl ?_
          refine Tri.cndF (by simp) ?_
          refine Tri.cndF rfl ?_
          repeat (first|refine wa ?_|refine wb ?_|refine wc ?_|refine wd ?_|refine we ?_|refine wf ?_|refine wg ?_|refine wh rfl ?_|refine wi rfl ?_|refine wj rfl ?_|refine wk rfl ?_|refine wl rfl ?_|refine wm (by decide) ?_|(apply Tri.ldE; (first|exact K0|exact K1|exact K2|exact K3|exact K4|exact K5|exact K6|exact K7|exact K8|exact K9|exact K10|exact K11); (exact rfl); (exact wz rfl))|(apply Tri.stE; (first|exact K0|exact K1|exact K2|exact K3|exact K4|exact K5|exact K6|exact K7|exact K8|exact K9|exact K10|exact K11); (exact rfl); (exact wz rfl))|(apply Tri.same; (first|exact K0|exact K1|exact K2|exact K3|exact K4|exact K5|exact K6|exact K7|exact K8|exact K9|exact K10|exact K11); (exact rfl); (exact wz rfl))|refine wq fun _ => ?_)
          rw [wr_i64 (n := d) (by omega) (by omega)]
          refine Tri.cndF (by simp) ?_
          refine Tri.cndF rfl ?_
          refine Tri.call (clients_spec hX.len) (by repeat (first|exact Picks.nil|(apply Picks.cons; (first|exact K0|exact K1|exact K2|exact K3|exact K4|exact K5|exact K6|exact K7|exact K8|exact K9|exact K10|exact K11)))) ?_
          rintro v L' ⟨o5, rfl, rfl⟩
          simp only [List.cons_append, List.nil_append]
          repeat (first|refine wa ?_|refine wb ?_|refine wc ?_|refine wd ?_|refine we ?_|refine wf ?_|refine wg ?_|refine wh rfl ?_|refine wi rfl ?_|refine wj rfl ?_|refine wk rfl ?_|refine wl rfl ?_|refine wm (by decide) ?_|(apply Tri.ldE; (first|exact K0|exact K1|exact K2|exact K3|exact K4|exact K5|exact K6|exact K7|exact K8|exact K9|exact K10|exact K11); (exact rfl); (exact wz rfl))|(apply Tri.stE; (first|exact K0|exact K1|exact K2|exact K3|exact K4|exact K5|exact K6|exact K7|exact K8|exact K9|exact K10|exact K11); (exact rfl); (exact wz rfl))|(apply Tri.same; (first|exact K0|exact K1|exact K2|exact K3|exact K4|exact K5|exact K6|exact K7|exact K8|exact K9|exact K10|exact K11); (exact rfl); (exact wz rfl))|refine wq fun _ => ?_)
          refine Tri.slLen (l := clL (W.set d.toNat ⟨d, d, 9, (i : Int) + h⟩)) (o := o5) (ro := false) (T := cE) (by first|exact K0|exact K1|exact K2|exact K3|exact K4|exact K5|exact K6|exact K7|exact K8|exact K9|exact K10|exact K11) fun e5 e6 => ?_
          rw [e6]
          refine Tri.cndF (by simp; omega) ?_
          refine Tri.cndT rfl ?_
          refine Tri.call (of_spec (n := d) (now := (i : Int) + h) hX.len) (by repeat (first|exact Picks.nil|(apply Picks.cons; (first|exact K0|exact K1|exact K2|exact K3|exact K4|exact K5|exact K6|exact K7|exact K8|exact K9|exact K10|exact K11)))) ?_
          rw [hXf]
          rintro v L' ⟨rfl, rfl⟩
          simp only [List.cons_append, List.nil_append]
          repeat (first|refine wa ?_|refine wb ?_|refine wc ?_|refine wd ?_|refine we ?_|refine wf ?_|refine wg ?_|refine wh rfl ?_|refine wi rfl ?_|refine wj rfl ?_|refine wk rfl ?_|refine wl rfl ?_|refine wm (by decide) ?_|(apply Tri.ldE; (first|exact K0|exact K1|exact K2|exact K3|exact K4|exact K5|exact K6|exact K7|exact K8|exact K9|exact K10|exact K11); (exact rfl); (exact wz rfl))|(apply Tri.stE; (first|exact K0|exact K1|exact K2|exact K3|exact K4|exact K5|exact K6|exact K7|exact K8|exact K9|exact K10|exact K11); (exact rfl); (exact wz rfl))|(apply Tri.same; (first|exact K0|exact K1|exact K2|exact K3|exact K4|exact K5|exact K6|exact K7|exact K8|exact K9|exact K10|exact K11); (exact rfl); (exact wz rfl))|refine wq fun _ => ?_)
          refine Tri.cndF rfl ?_
          exact Tri.back (m' := U.length - (i + 1)) (by omega) ⟨i + 1, _, rfl, by omega, by omega, hX, hXc2, rfl, rfl⟩ (by repeat (first|exact Sub.refl _|exact Sub.nil _|(apply Sub.cons; (first|exact K0|exact K1|exact K2|exact K3|exact K4|exact K5|exact K6|exact K7|exact K8|exact K9|exact K10|exact K11))|apply Sub.skip))
        · have hgr : grV n h W d d 9 i = ((0, 4), W) := by
            unfold grV; rw [hww, if_pos ⟨hid, by omega⟩]
          rw [hgr]
          rintro v L' ⟨rfl, rfl⟩
          simp only [List.cons_append, List.nil_append]
          repeat (first|refine wa ?_|refine wb ?_|refine wc ?_|refine wd ?_|refine we ?_|refine wf ?_|refine wg ?_|refine wh rfl ?_|refine wi rfl ?_|refine wj rfl ?_|refine wk rfl ?_|refine wl rfl ?_|refine wm (by decide) ?_|(apply Tri.ldE; (first|exact K0|exact K1|exact K2|exact K3|exact K4|exact K5|exact K6|exact K7|exact K8|exact K9|exact K10|exact K11); (exact rfl); (exact wz rfl))|(apply Tri.stE; (first|exact K0|exact K1|exact K2|exact K3|exact K4|exact K5|exact K6|exact K7|exact K8|exact K9|exact K10|exact K11); (exact rfl); (exact wz rfl))|(apply Tri.same; (first|exact K0|exact K1|exact K2|exact K3|exact K4|exact K5|exact K6|exact K7|exact K8|exact K9|exact K10|exact K11); (exact rfl); (exact wz rfl))|refine wq fun _ => ?_)
          have hWf : ofB W d i = false := by unfold ofB; rw [hid]; simp
          refine Tri.call (of_spec (n := d) (now := (i : Int)) hW.len) (by repeat (first|exact Picks.nil|(apply Picks.cons; (first|exact K0|exact K1|exact K2|exact K3|exact K4|exact K5|exact K6|exact K7|exact K8|exact K9|exact K10|exact K11)))) ?_
          rw [hWf]
          rintro v L' ⟨rfl, rfl⟩
          simp only [List.cons_append, List.nil_append]
          repeat (first|refine wa ?_|refine wb ?_|refine wc ?_|refine wd ?_|refine we ?_|refine wf ?_|refine wg ?_|refine wh rfl ?_|refine wi rfl ?_|refine wj rfl ?_|refine wk rfl ?_|refine wl rfl ?_|refine wm (by decide) ?_|(apply Tri.ldE; (first|exact K0|exact K1|exact K2|exact K3|exact K4|exact K5|exact K6|exact K7|exact K8|exact K9|exact K10|exact K11); (exact rfl); (exact wz rfl))|(apply Tri.stE; (first|exact K0|exact K1|exact K2|exact K3|exact K4|exact K5|exact K6|exact K7|exact K8|exact K9|exact K10|exact K11); (exact rfl); (exact wz rfl))|(apply Tri.same; (first|exact K0|exact K1|exact K2|exact K3|exact K4|exact K5|exact K6|exact K7|exact K8|exact K9|exact K10|exact K11); (exact rfl); (exact wz rfl))|refine wq fun _ => ?_)
          rw [decide_eq_false hm]
          refine Tri.cndF rfl ?_
          refine Tri.cndF rfl ?_
          refine Tri.cndF rfl ?_
          refine Tri.cndT rfl ?_
          refine Tri.cndF rfl ?_
          refine Tri.cndF rfl ?_
          refine Tri.cndF rfl ?_
          refine Tri.call (clients_spec hW.len) (by repeat (first|exact Picks.nil|(apply Picks.cons; (first|exact K0|exact K1|exact K2|exact K3|exact K4|exact K5|exact K6|exact K7|exact K8|exact K9|exact K10|exact K11)))) ?_
          rintro v L' ⟨o5, rfl, rfl⟩
          simp only [List.cons_append, List.nil_append]
          repeat (first|refine wa ?_|refine wb ?_|refine wc ?_|refine wd ?_|refine we ?_|refine wf ?_|refine wg ?_|refine wh rfl ?_|refine wi rfl ?_|refine wj rfl ?_|refine wk rfl ?_|refine wl rfl ?_|refine wm (by decide) ?_|(apply Tri.ldE; (first|exact K0|exact K1|exact K2|exact K3|exact K4|exact K5|exact K6|exact K7|exact K8|exact K9|exact K10|exact K11); (exact rfl); (exact wz rfl))|(apply Tri.stE; (first|exact K0|exact K1|exact K2|exact K3|exact K4|exact K5|exact K6|exact K7|exact K8|exact K9|exact K10|exact K11); (exact rfl); (exact wz rfl))|(apply Tri.same; (first|exact K0|exact K1|exact K2|exact K3|exact K4|exact K5|exact K6|exact K7|exact K8|exact K9|exact K10|exact K11); (exact rfl); (exact wz rfl))|refine wq fun _ => ?_)
          refine Tri.slLen (l := clL W) (o := o5) (ro := false) (T := cE) (by first|exact K0|exact K1|exact K2|exact K3|exact K4|exact K5|exact K6|exact K7|exact K8|exact K9|exact K10|exact K11) fun e5 e6 => ?_
          rw [e6]
          refine Tri.cndF (by simp; omega) ?_
          refine Tri.cndF rfl ?_
          exact Tri.back (m' := U.length - (i + 1)) (by omega) ⟨i + 1, _, rfl, by omega, by omega, hW, hcW, rfl, rfl⟩ (by repeat (first|exact Sub.refl _|exact Sub.nil _|(apply Sub.cons; (first|exact K0|exact K1|exact K2|exact K3|exact K4|exact K5|exact K6|exact K7|exact K8|exact K9|exact K10|exact K11))|apply Sub.skip))
    · exact Tri.exit (by decide) (Tri.sub (by repeat (first|exact Sub.refl _|exact Sub.nil _|(apply Sub.cons; (first|exact K0|exact K1|exact K2|exact K3|exact K4|exact K5|exact K6|exact K7|exact K8|exact K9|exact K10|exact K11))|apply Sub.skip)) away)
  · exact Tri.exit (by decide) (Tri.sub (by repeat (first|exact Sub.refl _|exact Sub.nil _|(apply Sub.cons; (first|exact K0|exact K1|exact K2|exact K3|exact K4|exact K5|exact K6|exact K7|exact K8|exact K9|exact K10|exact K11))|apply Sub.skip)) away)
theorem room_run (o : Option SlD) (l : List By) (c : List Sc) (hst : ∀ H' : AH, H'.obj 0 = some (.cells true c) → 0 < H'.next → Star H' [.sl true byE o l]) (r0 h0 : Int) (hr : 0 ≤ r0 ∧ r0 < 256) (hh : 0 ≤ h0 ∧ h0 < 256) :
    ∃ n H1, callA Try.prog T hs n 3 [.sc (.i .u8 r0), .sc (.i .u8 h0), .sc (.sl o)] (HA c) = some (.sc (.b true), H1) := by
  refine law_fin (E := E) (Try.func3 : Try.prog.funcs[3]? = some Try.f3) (t3_eq r0 h0 o) ?_
  refine CallWp.mono (exW1 _) ?_
  rintro v H' ⟨rfl, h0', hn⟩
  exact Tri.fin (room_tri hr hh) (hst H' h0' hn)
end Go.Proofs.Ytmbnikcnmjpheaa
