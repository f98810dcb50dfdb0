/- NodeRelays: from the node that the law made, with or without a client: what the law answers. -/
import Derived.Test.YtpbhfolaoccpkaaGreatNS
import Derived.Test.YtpbhfolaoccpkaaGreatTreeC
import Derived.Test.YtpbhfolaoccpkaaGreatFwZo
namespace Go.Proofs.YtpbhfolaoccpkaaGreat
open Go Go.Proofs.YtpbhfolaoccpkaaGreat.Fw
set_option linter.unusedVariables false
set_option linter.unusedSimpArgs false
set_option maxRecDepth 20000
def V0 : List Cl := List.replicate 33 cz
def V1 : List Cl := (List.replicate 33 cz).set 3 ⟨3, 55, 5, 9⟩
def gV (l : Bool) : List Cl := if l then V1 else V0
theorem gV_len (l : Bool) : (gV l).length = 33 := by cases l <;> rfl
theorem gV_cl (l : Bool) : (clL (gV l)).length = if l then 1 else 0 := by cases l <;> decide +kernel
/-- what the law's body is -/
def bodyL (x : ByteArray) : List UInt8 := 98 :: x.data.toList.take (min x.size 100)
theorem bodyL_len (x : ByteArray) : (bodyL x).length = 1 + min x.size 100 := by
  have : x.data.toList.length = x.size := rfl
  simp [bodyL, this]; omega
theorem min_toNat (x : ByteArray) : Int.toNat (minI ((x.size : Nat) : Int) 100) = min x.size 100 := by unfold minI; split <;> omega
theorem body_eq (x : ByteArray) : ((ByteArray.mk (Array.mk [98])) ++ ByteArray.extract x (Int.toNat 0) (Int.toNat (minI ((x.size : Nat) : Int) 100))) = bs (bodyL x) := by
  rw [min_toNat]
  have h : ByteArray.extract x (Int.toNat 0) (min x.size 100) = bs ((x.data.toList.drop 0).take (min x.size 100 - 0)) := bs_ext x.data.toList 0 (min x.size 100)
  rw [h, show (ByteArray.mk (Array.mk [98])) = bs [98] from rfl, bs_app]
  rfl
theorem k_ok {n : Int} (h : 0 ≤ n ∧ n < 256) : kOk (IntKind.wrap .i64 (2 + IntKind.wrap .i64 (Int.tmod n 4))) := by
  have e : Int.tmod n 4 = n % 4 := Int.tmod_eq_emod_of_nonneg h.1
  rw [e, wr_i64 (n := n % 4) (by omega) (by omega), wr_i64 (n := 2 + n % 4) (by omega) (by omega)]
  unfold kOk; omega
theorem hand_no {l b : Bool} {k : Int} {X : ByteArray} (hk : kOk k) (h : ¬ (l = true ∧ k = 3 ∧ b = false)) : hand (gV l) k (if b then 20 else 5) X = [] := by
  have : ofB (gV l) k (if b then 20 else 5) = false := by
    rcases hk with rfl | rfl | rfl | rfl <;> cases l <;> cases b <;> first | (exfalso; exact h ⟨rfl, rfl, rfl⟩) | decide +kernel
  simp [hand, this]
theorem hand_yes {X : ByteArray} : hand (gV true) 3 5 X = [(55, 5, X)] := by
  have : ofB (gV true) 3 5 = true := by decide +kernel
  simp only [hand, this, if_true]
  rfl
section
variable {p tb ps fm : Nat} {r h : Int} {c : List Sc}
set_option maxHeartbeats 4000000 in
theorem core2 {x : ByteArray} {k : Int} {l b : Bool} (hk : kOk k) (hc : (c.drop (0 + 4 + 9 * 7 + 1)).take 1 = [.i .i64 0]) (hcl : c.length = 235) :
    Tri E [pt p (nC tb ps none 0), pt tb (tbC r h (gV l)), pt ps c, pt fm [.i .u32 55, .i .u16 5]]
      (t5_k44 0 [.sc (.b l), .sc (.b b), .sc (.b true), .sc (.p (some (p, 0))), .sc (.p (some (fm, 0))), .sc (.i .i64 (if l then 1 else 0)), .sc (.s (bs (bodyL x))), .sc (.i .i64 k), .sc (.s (bs (relL 9 k (bodyL x)))), .sc (.i .u64 (if b then 20 else 5))]) (RQ [] RT) := by
  have hbl := bodyL_len x
  have hnow : (if b then (20 : Int) else 5) ≤ 20 := by cases b <;> decide
  unfold t5_k44
  repeat (first|refine wa ?_|refine wb ?_|refine wc ?_|refine wd ?_|refine we ?_|refine wf ?_|refine wg ?_|refine wh rfl ?_|refine wi rfl ?_|refine wj rfl ?_|refine wk rfl ?_|refine wl rfl ?_|refine wm (by decide) ?_|refine wr ?_|refine ws ?_|refine wt ?_|(apply Tri.ldE; (first|exact K0|exact K1|exact K2|exact K3|exact K4|exact K5|exact K6|exact K7|exact K8|exact K9|exact K10|exact K11); (exact rfl); (exact wz rfl))|(apply Tri.stE; (first|exact K0|exact K1|exact K2|exact K3|exact K4|exact K5|exact K6|exact K7|exact K8|exact K9|exact K10|exact K11); (exact rfl); (exact wz rfl))|(apply Tri.same; (first|exact K0|exact K1|exact K2|exact K3|exact K4|exact K5|exact K6|exact K7|exact K8|exact K9|exact K10|exact K11); (exact rfl); (exact wz rfl))|refine wq fun _ => ?_)
  refine Tri.call (Take_spec (r := r) (h := h) (V := gV l) (gV_len l) hk (by omega) (by omega) hc hcl hnow) (by repeat (first|exact Picks.nil|(apply Picks.cons; (first|exact K0|exact K1|exact K2|exact K3|exact K4|exact K5|exact K6|exact K7|exact K8|exact K9|exact K10|exact K11)))) ?_
  rintro v L' ⟨o, rfl, rfl⟩
  simp only [List.cons_append, List.nil_append]
  repeat (first|refine wa ?_|refine wb ?_|refine wc ?_|refine wd ?_|refine we ?_|refine wf ?_|refine wg ?_|refine wh rfl ?_|refine wi rfl ?_|refine wj rfl ?_|refine wk rfl ?_|refine wl rfl ?_|refine wm (by decide) ?_|refine wr ?_|refine ws ?_|refine wt ?_|(apply Tri.ldE; (first|exact K0|exact K1|exact K2|exact K3|exact K4|exact K5|exact K6|exact K7|exact K8|exact K9|exact K10|exact K11); (exact rfl); (exact wz rfl))|(apply Tri.stE; (first|exact K0|exact K1|exact K2|exact K3|exact K4|exact K5|exact K6|exact K7|exact K8|exact K9|exact K10|exact K11); (exact rfl); (exact wz rfl))|(apply Tri.same; (first|exact K0|exact K1|exact K2|exact K3|exact K4|exact K5|exact K6|exact K7|exact K8|exact K9|exact K10|exact K11); (exact rfl); (exact wz rfl))|refine wq fun _ => ?_)
  refine Tri.slLen (by first|exact K0|exact K1|exact K2|exact K3|exact K4|exact K5|exact K6|exact K7|exact K8|exact K9|exact K10|exact K11) fun hn hlen => ?_
  rw [hlen]
  by_cases hall : l = true ∧ k = 3 ∧ b = false
  · obtain ⟨rfl, rfl, rfl⟩ := hall
    have e : hand (gV true) 3 (if (false : Bool) = true then 20 else 5) (bs (bodyL x)) = [(55, 5, bs (bodyL x))] := hand_yes
    rw [e]
    refine Tri.cndT rfl ?_
    refine Tri.cndT rfl ?_
    refine Tri.cndT rfl ?_
    refine Tri.cndT rfl ?_
    refine Tri.cndT rfl ?_
    refine Tri.cndT rfl ?_
    refine Tri.ixE (by first|exact K0|exact K1|exact K2|exact K3|exact K4|exact K5|exact K6|exact K7|exact K8|exact K9|exact K10|exact K11) rfl (by decide) (by simp) fun d hd => ?_
    refine Tri.ldR (j := 0) (k := 0) (r := [.i .u32 55, .i .u16 5]) (by first|exact K0|exact K1|exact K2|exact K3|exact K4|exact K5|exact K6|exact K7|exact K8|exact K9|exact K10|exact K11) rfl rfl (by simp) (by decide) rfl ?_
    repeat (first|refine wa ?_|refine wb ?_|refine wc ?_|refine wd ?_|refine we ?_|refine wf ?_|refine wg ?_|refine wh rfl ?_|refine wi rfl ?_|refine wj rfl ?_|refine wk rfl ?_|refine wl rfl ?_|refine wm (by decide) ?_|refine wr ?_|refine ws ?_|refine wt ?_|refine wn ?_|refine wo ?_|refine wp (by decide) ?_|(apply Tri.ldE; (first|exact K0|exact K1|exact K2|exact K3|exact K4|exact K5|exact K6|exact K7|exact K8|exact K9|exact K10|exact K11); (exact rfl); (exact wz rfl))|(apply Tri.stE; (first|exact K0|exact K1|exact K2|exact K3|exact K4|exact K5|exact K6|exact K7|exact K8|exact K9|exact K10|exact K11); (exact rfl); (exact wz rfl))|(apply Tri.same; (first|exact K0|exact K1|exact K2|exact K3|exact K4|exact K5|exact K6|exact K7|exact K8|exact K9|exact K10|exact K11); (exact rfl); (exact wz rfl))|refine wq fun _ => ?_)
    refine Tri.cndT rfl ?_
    subst hd
    refine Tri.ixE (by first|exact K0|exact K1|exact K2|exact K3|exact K4|exact K5|exact K6|exact K7|exact K8|exact K9|exact K10|exact K11) rfl (by decide) (by simp) fun d' hd' => ?_
    refine Tri.ldR (j := 0) (k := 2) (r := [.s (bs (bodyL x))]) (by first|exact K0|exact K1|exact K2|exact K3|exact K4|exact K5|exact K6|exact K7|exact K8|exact K9|exact K10|exact K11) rfl rfl (by simp) (by decide) rfl ?_
    repeat (first|refine wa ?_|refine wb ?_|refine wc ?_|refine wd ?_|refine we ?_|refine wf ?_|refine wg ?_|refine wh rfl ?_|refine wi rfl ?_|refine wj rfl ?_|refine wk rfl ?_|refine wl rfl ?_|refine wm (by decide) ?_|refine wr ?_|refine ws ?_|refine wt ?_|(apply Tri.ldE; (first|exact K0|exact K1|exact K2|exact K3|exact K4|exact K5|exact K6|exact K7|exact K8|exact K9|exact K10|exact K11); (exact rfl); (exact wz rfl))|(apply Tri.stE; (first|exact K0|exact K1|exact K2|exact K3|exact K4|exact K5|exact K6|exact K7|exact K8|exact K9|exact K10|exact K11); (exact rfl); (exact wz rfl))|(apply Tri.same; (first|exact K0|exact K1|exact K2|exact K3|exact K4|exact K5|exact K6|exact K7|exact K8|exact K9|exact K10|exact K11); (exact rfl); (exact wz rfl))|refine wq fun _ => ?_)
    refine Tri.cndT (by simp) ?_
    refine Tri.call (Clients_spec (r := r) (h := h) (V := gV true) (gV_len _)) (by repeat (first|exact Picks.nil|(apply Picks.cons; (first|exact K0|exact K1|exact K2|exact K3|exact K4|exact K5|exact K6|exact K7|exact K8|exact K9|exact K10|exact K11)))) ?_
    rintro v L' ⟨o2, rfl, rfl⟩
    simp only [List.cons_append, List.nil_append]
    repeat (first|refine wa ?_|refine wb ?_|refine wc ?_|refine wd ?_|refine we ?_|refine wf ?_|refine wg ?_|refine wh rfl ?_|refine wi rfl ?_|refine wj rfl ?_|refine wk rfl ?_|refine wl rfl ?_|refine wm (by decide) ?_|refine wr ?_|refine ws ?_|refine wt ?_|(apply Tri.ldE; (first|exact K0|exact K1|exact K2|exact K3|exact K4|exact K5|exact K6|exact K7|exact K8|exact K9|exact K10|exact K11); (exact rfl); (exact wz rfl))|(apply Tri.stE; (first|exact K0|exact K1|exact K2|exact K3|exact K4|exact K5|exact K6|exact K7|exact K8|exact K9|exact K10|exact K11); (exact rfl); (exact wz rfl))|(apply Tri.same; (first|exact K0|exact K1|exact K2|exact K3|exact K4|exact K5|exact K6|exact K7|exact K8|exact K9|exact K10|exact K11); (exact rfl); (exact wz rfl))|refine wq fun _ => ?_)
    refine Tri.slLen (by first|exact K0|exact K1|exact K2|exact K3|exact K4|exact K5|exact K6|exact K7|exact K8|exact K9|exact K10|exact K11) fun hn hl => ?_
    rw [hl, gV_cl]
    exact Tri.retF (L1 := []) rfl (by repeat (first|exact Sub.refl _|exact Sub.nil _|(apply Sub.cons; (first|exact K0|exact K1|exact K2|exact K3|exact K4|exact K5|exact K6|exact K7|exact K8|exact K9|exact K10|exact K11))|apply Sub.skip))
  · rw [hand_no hk hall]
    cases l with
    | false =>
      refine Tri.cndF rfl ?_
      refine Tri.cndT rfl ?_
      refine Tri.call (Clients_spec (r := r) (h := h) (V := gV _) (gV_len _)) (by repeat (first|exact Picks.nil|(apply Picks.cons; (first|exact K0|exact K1|exact K2|exact K3|exact K4|exact K5|exact K6|exact K7|exact K8|exact K9|exact K10|exact K11)))) ?_
      rintro v L' ⟨o2, rfl, rfl⟩
      simp only [List.cons_append, List.nil_append]
      repeat (first|refine wa ?_|refine wb ?_|refine wc ?_|refine wd ?_|refine we ?_|refine wf ?_|refine wg ?_|refine wh rfl ?_|refine wi rfl ?_|refine wj rfl ?_|refine wk rfl ?_|refine wl rfl ?_|refine wm (by decide) ?_|refine wr ?_|refine ws ?_|refine wt ?_|(apply Tri.ldE; (first|exact K0|exact K1|exact K2|exact K3|exact K4|exact K5|exact K6|exact K7|exact K8|exact K9|exact K10|exact K11); (exact rfl); (exact wz rfl))|(apply Tri.stE; (first|exact K0|exact K1|exact K2|exact K3|exact K4|exact K5|exact K6|exact K7|exact K8|exact K9|exact K10|exact K11); (exact rfl); (exact wz rfl))|(apply Tri.same; (first|exact K0|exact K1|exact K2|exact K3|exact K4|exact K5|exact K6|exact K7|exact K8|exact K9|exact K10|exact K11); (exact rfl); (exact wz rfl))|refine wq fun _ => ?_)
      refine Tri.slLen (by first|exact K0|exact K1|exact K2|exact K3|exact K4|exact K5|exact K6|exact K7|exact K8|exact K9|exact K10|exact K11) fun hn2 hl2 => ?_
      rw [hl2, gV_cl]
      refine Tri.cndT rfl ?_
      exact Tri.retF (L1 := []) rfl (by repeat (first|exact Sub.refl _|exact Sub.nil _|(apply Sub.cons; (first|exact K0|exact K1|exact K2|exact K3|exact K4|exact K5|exact K6|exact K7|exact K8|exact K9|exact K10|exact K11))|apply Sub.skip))
    | true =>
      refine Tri.cndT rfl ?_
      rcases hk with rfl | rfl | rfl | rfl
      · refine Tri.cndF rfl ?_
        refine Tri.cndT rfl ?_
        refine Tri.call (Clients_spec (r := r) (h := h) (V := gV _) (gV_len _)) (by repeat (first|exact Picks.nil|(apply Picks.cons; (first|exact K0|exact K1|exact K2|exact K3|exact K4|exact K5|exact K6|exact K7|exact K8|exact K9|exact K10|exact K11)))) ?_
        rintro v L' ⟨o2, rfl, rfl⟩
        simp only [List.cons_append, List.nil_append]
        repeat (first|refine wa ?_|refine wb ?_|refine wc ?_|refine wd ?_|refine we ?_|refine wf ?_|refine wg ?_|refine wh rfl ?_|refine wi rfl ?_|refine wj rfl ?_|refine wk rfl ?_|refine wl rfl ?_|refine wm (by decide) ?_|refine wr ?_|refine ws ?_|refine wt ?_|(apply Tri.ldE; (first|exact K0|exact K1|exact K2|exact K3|exact K4|exact K5|exact K6|exact K7|exact K8|exact K9|exact K10|exact K11); (exact rfl); (exact wz rfl))|(apply Tri.stE; (first|exact K0|exact K1|exact K2|exact K3|exact K4|exact K5|exact K6|exact K7|exact K8|exact K9|exact K10|exact K11); (exact rfl); (exact wz rfl))|(apply Tri.same; (first|exact K0|exact K1|exact K2|exact K3|exact K4|exact K5|exact K6|exact K7|exact K8|exact K9|exact K10|exact K11); (exact rfl); (exact wz rfl))|refine wq fun _ => ?_)
        refine Tri.slLen (by first|exact K0|exact K1|exact K2|exact K3|exact K4|exact K5|exact K6|exact K7|exact K8|exact K9|exact K10|exact K11) fun hn2 hl2 => ?_
        rw [hl2, gV_cl]
        refine Tri.cndT rfl ?_
        exact Tri.retF (L1 := []) rfl (by repeat (first|exact Sub.refl _|exact Sub.nil _|(apply Sub.cons; (first|exact K0|exact K1|exact K2|exact K3|exact K4|exact K5|exact K6|exact K7|exact K8|exact K9|exact K10|exact K11))|apply Sub.skip))
      · refine Tri.cndT rfl ?_
        cases b with
        | false => exact absurd ⟨rfl, rfl, rfl⟩ hall
        | true =>
          refine Tri.cndF rfl ?_
          refine Tri.cndT rfl ?_
          refine Tri.call (Clients_spec (r := r) (h := h) (V := gV _) (gV_len _)) (by repeat (first|exact Picks.nil|(apply Picks.cons; (first|exact K0|exact K1|exact K2|exact K3|exact K4|exact K5|exact K6|exact K7|exact K8|exact K9|exact K10|exact K11)))) ?_
          rintro v L' ⟨o2, rfl, rfl⟩
          simp only [List.cons_append, List.nil_append]
          repeat (first|refine wa ?_|refine wb ?_|refine wc ?_|refine wd ?_|refine we ?_|refine wf ?_|refine wg ?_|refine wh rfl ?_|refine wi rfl ?_|refine wj rfl ?_|refine wk rfl ?_|refine wl rfl ?_|refine wm (by decide) ?_|refine wr ?_|refine ws ?_|refine wt ?_|(apply Tri.ldE; (first|exact K0|exact K1|exact K2|exact K3|exact K4|exact K5|exact K6|exact K7|exact K8|exact K9|exact K10|exact K11); (exact rfl); (exact wz rfl))|(apply Tri.stE; (first|exact K0|exact K1|exact K2|exact K3|exact K4|exact K5|exact K6|exact K7|exact K8|exact K9|exact K10|exact K11); (exact rfl); (exact wz rfl))|(apply Tri.same; (first|exact K0|exact K1|exact K2|exact K3|exact K4|exact K5|exact K6|exact K7|exact K8|exact K9|exact K10|exact K11); (exact rfl); (exact wz rfl))|refine wq fun _ => ?_)
          refine Tri.slLen (by first|exact K0|exact K1|exact K2|exact K3|exact K4|exact K5|exact K6|exact K7|exact K8|exact K9|exact K10|exact K11) fun hn2 hl2 => ?_
          rw [hl2, gV_cl]
          refine Tri.cndT rfl ?_
          exact Tri.retF (L1 := []) rfl (by repeat (first|exact Sub.refl _|exact Sub.nil _|(apply Sub.cons; (first|exact K0|exact K1|exact K2|exact K3|exact K4|exact K5|exact K6|exact K7|exact K8|exact K9|exact K10|exact K11))|apply Sub.skip))
      · refine Tri.cndF rfl ?_
        refine Tri.cndT rfl ?_
        refine Tri.call (Clients_spec (r := r) (h := h) (V := gV _) (gV_len _)) (by repeat (first|exact Picks.nil|(apply Picks.cons; (first|exact K0|exact K1|exact K2|exact K3|exact K4|exact K5|exact K6|exact K7|exact K8|exact K9|exact K10|exact K11)))) ?_
        rintro v L' ⟨o2, rfl, rfl⟩
        simp only [List.cons_append, List.nil_append]
        repeat (first|refine wa ?_|refine wb ?_|refine wc ?_|refine wd ?_|refine we ?_|refine wf ?_|refine wg ?_|refine wh rfl ?_|refine wi rfl ?_|refine wj rfl ?_|refine wk rfl ?_|refine wl rfl ?_|refine wm (by decide) ?_|refine wr ?_|refine ws ?_|refine wt ?_|(apply Tri.ldE; (first|exact K0|exact K1|exact K2|exact K3|exact K4|exact K5|exact K6|exact K7|exact K8|exact K9|exact K10|exact K11); (exact rfl); (exact wz rfl))|(apply Tri.stE; (first|exact K0|exact K1|exact K2|exact K3|exact K4|exact K5|exact K6|exact K7|exact K8|exact K9|exact K10|exact K11); (exact rfl); (exact wz rfl))|(apply Tri.same; (first|exact K0|exact K1|exact K2|exact K3|exact K4|exact K5|exact K6|exact K7|exact K8|exact K9|exact K10|exact K11); (exact rfl); (exact wz rfl))|refine wq fun _ => ?_)
        refine Tri.slLen (by first|exact K0|exact K1|exact K2|exact K3|exact K4|exact K5|exact K6|exact K7|exact K8|exact K9|exact K10|exact K11) fun hn2 hl2 => ?_
        rw [hl2, gV_cl]
        refine Tri.cndT rfl ?_
        exact Tri.retF (L1 := []) rfl (by repeat (first|exact Sub.refl _|exact Sub.nil _|(apply Sub.cons; (first|exact K0|exact K1|exact K2|exact K3|exact K4|exact K5|exact K6|exact K7|exact K8|exact K9|exact K10|exact K11))|apply Sub.skip))
      · refine Tri.cndF rfl ?_
        refine Tri.cndT rfl ?_
        refine Tri.call (Clients_spec (r := r) (h := h) (V := gV _) (gV_len _)) (by repeat (first|exact Picks.nil|(apply Picks.cons; (first|exact K0|exact K1|exact K2|exact K3|exact K4|exact K5|exact K6|exact K7|exact K8|exact K9|exact K10|exact K11)))) ?_
        rintro v L' ⟨o2, rfl, rfl⟩
        simp only [List.cons_append, List.nil_append]
        repeat (first|refine wa ?_|refine wb ?_|refine wc ?_|refine wd ?_|refine we ?_|refine wf ?_|refine wg ?_|refine wh rfl ?_|refine wi rfl ?_|refine wj rfl ?_|refine wk rfl ?_|refine wl rfl ?_|refine wm (by decide) ?_|refine wr ?_|refine ws ?_|refine wt ?_|(apply Tri.ldE; (first|exact K0|exact K1|exact K2|exact K3|exact K4|exact K5|exact K6|exact K7|exact K8|exact K9|exact K10|exact K11); (exact rfl); (exact wz rfl))|(apply Tri.stE; (first|exact K0|exact K1|exact K2|exact K3|exact K4|exact K5|exact K6|exact K7|exact K8|exact K9|exact K10|exact K11); (exact rfl); (exact wz rfl))|(apply Tri.same; (first|exact K0|exact K1|exact K2|exact K3|exact K4|exact K5|exact K6|exact K7|exact K8|exact K9|exact K10|exact K11); (exact rfl); (exact wz rfl))|refine wq fun _ => ?_)
        refine Tri.slLen (by first|exact K0|exact K1|exact K2|exact K3|exact K4|exact K5|exact K6|exact K7|exact K8|exact K9|exact K10|exact K11) fun hn2 hl2 => ?_
        rw [hl2, gV_cl]
        refine Tri.cndT rfl ?_
        exact Tri.retF (L1 := []) rfl (by repeat (first|exact Sub.refl _|exact Sub.nil _|(apply Sub.cons; (first|exact K0|exact K1|exact K2|exact K3|exact K4|exact K5|exact K6|exact K7|exact K8|exact K9|exact K10|exact K11))|apply Sub.skip))
end
end Go.Proofs.YtpbhfolaoccpkaaGreat
namespace Go.Proofs.YtpbhfolaoccpkaaGreat
open Go Go.Proofs.YtpbhfolaoccpkaaGreat.Fw
set_option linter.unusedVariables false
set_option linter.unusedSimpArgs false
set_option maxRecDepth 20000
theorem body_size (x : ByteArray) : ByteArray.size (ByteArray.mk (Array.mk [98])) + ByteArray.size (ByteArray.extract x (Int.toNat 0) (Int.toNat (minI ((x.size : Nat) : Int) 100))) = 1 + min x.size 100 := by
  rw [← ByteArray.size_append, body_eq, bs_size, bodyL_len]
section
variable {p tb ps fm : Nat} {r h : Int} {c : List Sc}
set_option maxHeartbeats 4000000 in
theorem core1 {x : ByteArray} {n : Int} {l b : Bool} (hn : 0 ≤ n ∧ n < 256) (hc : (c.drop (0 + 4 + 9 * 7 + 1)).take 1 = [.i .i64 0]) (hcl : c.length = 235) :
    Tri E [pt p (nC tb ps none 0), pt tb (tbC r h (gV l)), pt ps c, pt fm [.i .u32 55, .i .u16 5]]
      (t5_k18 0 [.sc (.s x), .sc (.i .u8 n), .sc (.b l), .sc (.b b), .sc (.b true), .sc (.p (some (p, 0))), .sc (.p (some (fm, 0))), .sc (.i .i64 (if l then 1 else 0))]) (RQ [] RT) := by
  have hk := k_ok hn
  generalize hkk : IntKind.wrap .i64 (2 + IntKind.wrap .i64 (Int.tmod n 4)) = k at hk
  unfold t5_k18
  repeat (first|refine wa ?_|refine wb ?_|refine wc ?_|refine wd ?_|refine we ?_|refine wf ?_|refine wg ?_|refine wh rfl ?_|refine wi rfl ?_|refine wj rfl ?_|refine wk rfl ?_|refine wl rfl ?_|refine wm (by decide) ?_|refine wr ?_|refine ws ?_|refine wt ?_|(apply Tri.ldE; (first|exact K0|exact K1|exact K2|exact K3|exact K4|exact K5|exact K6|exact K7|exact K8|exact K9|exact K10|exact K11); (exact rfl); (exact wz rfl))|(apply Tri.stE; (first|exact K0|exact K1|exact K2|exact K3|exact K4|exact K5|exact K6|exact K7|exact K8|exact K9|exact K10|exact K11); (exact rfl); (exact wz rfl))|(apply Tri.same; (first|exact K0|exact K1|exact K2|exact K3|exact K4|exact K5|exact K6|exact K7|exact K8|exact K9|exact K10|exact K11); (exact rfl); (exact wz rfl))|refine wq fun _ => ?_)
  rw [hkk, body_size, body_eq]
  refine Tri.brT ?_ ?_
  · have : (0 : Int) ≤ minI ((x.size : Nat) : Int) 100 ∧ minI ((x.size : Nat) : Int) 100 ≤ ((x.size : Nat) : Int) := by unfold minI; split <;> omega
    simp [this]
  refine Tri.brT (by simp; omega) ?_
  refine Tri.brT rfl ?_
  refine Tri.call (put23 (k := k) (X := bs (bodyL x)) hk (by rw [bs_size, bodyL_len]; omega) (by rw [bs_size, bodyL_len]; omega)) (by repeat (first|exact Picks.nil|(apply Picks.cons; (first|exact K0|exact K1|exact K2|exact K3|exact K4|exact K5|exact K6|exact K7|exact K8|exact K9|exact K10|exact K11)))) ?_
  rintro v L' ⟨rfl, rfl⟩
  simp only [List.cons_append, List.nil_append]
  repeat (first|refine wa ?_|refine wb ?_|refine wc ?_|refine wd ?_|refine we ?_|refine wf ?_|refine wg ?_|refine wh rfl ?_|refine wi rfl ?_|refine wj rfl ?_|refine wk rfl ?_|refine wl rfl ?_|refine wm (by decide) ?_|refine wr ?_|refine ws ?_|refine wt ?_|(apply Tri.ldE; (first|exact K0|exact K1|exact K2|exact K3|exact K4|exact K5|exact K6|exact K7|exact K8|exact K9|exact K10|exact K11); (exact rfl); (exact wz rfl))|(apply Tri.stE; (first|exact K0|exact K1|exact K2|exact K3|exact K4|exact K5|exact K6|exact K7|exact K8|exact K9|exact K10|exact K11); (exact rfl); (exact wz rfl))|(apply Tri.same; (first|exact K0|exact K1|exact K2|exact K3|exact K4|exact K5|exact K6|exact K7|exact K8|exact K9|exact K10|exact K11); (exact rfl); (exact wz rfl))|refine wq fun _ => ?_)
  refine wn ?_
  cases b with
  | true =>
    refine Tri.cndT rfl ?_
    refine wo ?_
    exact core2 (b := true) hk hc hcl
  | false =>
    refine Tri.cndF rfl ?_
    refine wo ?_
    exact core2 (b := false) hk hc hcl
end
end Go.Proofs.YtpbhfolaoccpkaaGreat
