/- The law ReachVotes on the abstract machine. -/
import Derived.Test.YtbgmnnfajohmaaaRC
import Derived.Test.YtbgmnnfajohmaaaEx
import Derived.Test.YtbgmnnfajohmaaaTreeF
namespace Go.Proofs.Ytbgmnnfajohmaaa
open Go Go.Proofs.Ytbgmnnfajohmaaa.Fw
set_option linter.unusedVariables false
set_option linter.unusedSimpArgs false

section
variable {L R : List Assn} {Q : Post} {f : List Sc → Tree} {t : Tree} {a j : Nat} {k : IntKind} {A : List Int} {x : Int}
theorem arr_ld (pk : Pick L (pt a (A.map (Sc.i k))) R) (hj : A[j]? = some x) (h : Tri E L (f [.i k x]) Q) : Tri E L (.ld a (0 + j * 1) 1 f) Q := by
  obtain ⟨hl, rfl⟩ := List.getElem?_eq_some_iff.1 hj
  refine Tri.ldE pk (l := [.i k A[j]]) ?_ (by simp; omega) h
  rw [Nat.zero_add, Nat.mul_one, List.drop_eq_getElem_cons (by simpa using hl)]; simp
theorem arr_st {v : Int} (pk : Pick L (pt a (A.map (Sc.i k))) R) (hj : j < A.length) (h : Tri E (pt a ((A.set j v).map (Sc.i k)) :: R) t Q) : Tri E L (.st a (0 + j * 1) [.i k v] t) Q := by
  refine Tri.stE pk (c' := (A.set j v).map (Sc.i k)) ?_ (by simp; omega) h
  rw [Nat.zero_add, Nat.mul_one, List.map_set, List.set_eq_take_append_cons_drop, if_pos (by simpa using hj)]; simp
end
def vz : Vt := ⟨0, 0, 0, 0⟩
/-- what the law keeps beside it -/
structure Vo (s : Rs) (A W : List Int) : Prop where
  V : s.V.length = 33
  lA : A.length = 33
  lW : W.length = 33
  h : s.hold = 20
  at_ : ∀ (k : Nat) (a w : Int), k < 32 → A[k + 1]? = some a → W[k + 1]? = some w → 0 ≤ a ∧ a < 30 ∧ 0 ≤ w ∧ w ≤ 5 ∧ s.V[k + 1]? = some (if 0 < w then ⟨(k : Int) + 1, w, 9, a⟩ else vz)
def LV (s : Rs) (now : Int) (D : List Vt) : List Vt := (D.filter fun t => !(t.who == 0)).filter fun t => !oldB s now t
theorem LV_snoc (s : Rs) (now : Int) (D : List Vt) (v : Vt) : LV s now (D ++ [v]) = LV s now D ++ (if (!(v.who == 0)) = true ∧ (!oldB s now v) = true then [v] else []) := by
  unfold LV
  rw [List.filter_append, List.filter_append]
  congr 1
  rw [List.filter_cons, List.filter_nil]
  by_cases h1 : (!(v.who == 0)) = true
  · rw [if_pos h1, List.filter_cons, List.filter_nil]
    by_cases h2 : (!oldB s now v) = true
    · rw [if_pos h2, if_pos ⟨h1, h2⟩]
    · rw [if_neg h2, if_neg fun h => h2 h.2]
  · rw [if_neg h1, if_neg fun h => h1 h.1]; rfl
theorem cnt_app (ip port : Int) (D D' : List Vt) : cnt ip port (D ++ D') = cnt ip port D + cnt ip port D' := by unfold cnt; exact List.countP_append
theorem LV_mem {s : Rs} {now : Int} {D : List Vt} {x : Vt} (h : x ∈ LV s now D) : x ∈ D ∧ x.who ≠ 0 := by
  obtain ⟨h1, _⟩ := List.mem_filter.1 h
  obtain ⟨h2, h3⟩ := List.mem_filter.1 h1
  exact ⟨h2, by simpa using h3⟩
theorem live_LV (s : Rs) (now : Int) : liveL s now = LV s now (s.V.drop 1) := rfl
theorem Vo.all {s : Rs} {A W : List Int} (h : Vo s A W) {now : Int} : ∀ x ∈ liveL s now, 1 ≤ x.ip ∧ x.ip ≤ 5 ∧ x.port = 9 := by
  intro x hx
  rw [live_LV] at hx
  obtain ⟨h1, h2⟩ := LV_mem hx
  obtain ⟨k, hk⟩ := List.mem_iff_getElem?.1 h1
  rw [List.getElem?_drop, Nat.add_comm] at hk
  have hlt : k < 32 := by have := (List.getElem?_eq_some_iff.1 hk).1; have := h.V; omega
  obtain ⟨a, ha⟩ : ∃ a, A[k + 1]? = some a := ⟨_, List.getElem?_eq_getElem (by have := h.lA; omega)⟩
  obtain ⟨w, hw⟩ : ∃ w, W[k + 1]? = some w := ⟨_, List.getElem?_eq_getElem (by have := h.lW; omega)⟩
  obtain ⟨_, _, _, h5, h6⟩ := h.at_ k a w hlt ha hw
  rw [hk] at h6
  by_cases hp : 0 < w
  · rw [if_pos hp] at h6; cases h6; exact ⟨by simp only; omega, h5, rfl⟩
  · rw [if_neg hp] at h6; cases h6; exact absurd rfl h2

set_option maxRecDepth 20000 in
set_option maxHeartbeats 4000000 in
theorem tail_tri {p a1 a2 : Nat} {s : Rs} {A W : List Int} {now : Int} (hv : Vo s A W) (hn : 0 ≤ now ∧ now < 256) : Tri E [Re p s, pt a1 (A.map (Sc.i .u64)), pt a2 (W.map (Sc.i .i64))]
    (t4_k10 2 [.sc (.i .u8 now), .sc (.b true), .sc (.p (some (p, 0))), .sc (.p (some (a1, 0))), .sc (.p (some (a2, 0)))]) (RQ [] RT) := by
  unfold t4_k10
  repeat (first|refine wa ?_|refine wb ?_|refine wc ?_|refine wd ?_|refine we ?_|refine wf ?_|refine wg ?_|refine wh rfl ?_|refine wi rfl ?_|refine wj rfl ?_|refine wk rfl ?_|refine wl rfl ?_|refine wm (by decide) ?_|(apply Tri.ldE; (first|exact K0|exact K1|exact K2|exact K3|exact K4|exact K5|exact K6|exact K7|exact K8|exact K9|exact K10|exact K11); (exact rfl); (exact wz rfl))|(apply Tri.stE; (first|exact K0|exact K1|exact K2|exact K3|exact K4|exact K5|exact K6|exact K7|exact K8|exact K9|exact K10|exact K11); (exact rfl); (exact wz rfl))|(apply Tri.same; (first|exact K0|exact K1|exact K2|exact K3|exact K4|exact K5|exact K6|exact K7|exact K8|exact K9|exact K10|exact K11); (exact rfl); (exact wz rfl))|refine wq fun _ => ?_)
  refine Tri.brT rfl ?_
  rw [Int.tmod_eq_emod_of_nonneg hn.1, wr_u64 (n := now % 60) (by omega) (by omega)]
  generalize hu : now % 60 = u
  have hu : 0 ≤ u ∧ u < 60 := by omega
  refine wq fun a3 => ?_
  refine Tri.loop (I := fun m l' L => ∃ (k : Nat) (M : List Int), m = 33 - k ∧ 1 ≤ k ∧ k ≤ 33 ∧ M.length = 6 ∧ (∀ j : Nat, j < 6 → M[j]? = some (cnt (j : Int) 9 (LV s u ((s.V.drop 1).take (k - 1))) : Int)) ∧
    l' = [.sc (.b true), .sc (.p (some (p, 0))), .sc (.p (some (a1, 0))), .sc (.p (some (a2, 0))), .sc (.i .u64 u), .sc (.p (some (a3, 0))), .sc (.i .i64 k)] ∧
    L = [Re p s, pt a1 (A.map (Sc.i .u64)), pt a2 (W.map (Sc.i .i64)), pt a3 (M.map (Sc.i .i64))])
    (L0 := [Re p s, pt a1 (A.map (Sc.i .u64)), pt a2 (W.map (Sc.i .i64)), pt a3 ((List.replicate 6 (0 : Int)).map (Sc.i .i64))])
    ⟨1, List.replicate 6 0, rfl, by omega, by omega, rfl, fun j hj => by rw [List.getElem?_replicate, if_pos hj]; rfl, rfl, rfl⟩ (by repeat (first|exact Sub.refl _|exact Sub.nil _|(apply Sub.cons; (first|exact K0|exact K1|exact K2|exact K3|exact K4|exact K5|exact K6|exact K7|exact K8|exact K9|exact K10|exact K11))|apply Sub.skip)) ?_
  rintro m l' L ⟨k, M, rfl, hk1, hk, hM, hMj, rfl, rfl⟩
  unfold t4_b53
  repeat (first|refine wa ?_|refine wb ?_|refine wc ?_|refine wd ?_|refine we ?_|refine wf ?_|refine wg ?_|refine wh rfl ?_|refine wi rfl ?_|refine wj rfl ?_|refine wk rfl ?_|refine wl rfl ?_|refine wm (by decide) ?_|(apply Tri.ldE; (first|exact K0|exact K1|exact K2|exact K3|exact K4|exact K5|exact K6|exact K7|exact K8|exact K9|exact K10|exact K11); (exact rfl); (exact wz rfl))|(apply Tri.stE; (first|exact K0|exact K1|exact K2|exact K3|exact K4|exact K5|exact K6|exact K7|exact K8|exact K9|exact K10|exact K11); (exact rfl); (exact wz rfl))|(apply Tri.same; (first|exact K0|exact K1|exact K2|exact K3|exact K4|exact K5|exact K6|exact K7|exact K8|exact K9|exact K10|exact K11); (exact rfl); (exact wz rfl))|refine wq fun _ => ?_)
  refine Tri.cnd (fun hc => ?_) (fun hc => ?_)
  · have hc : k ≤ 32 := by simp at hc; omega
    obtain ⟨q, rfl⟩ : ∃ q, k = q + 1 := ⟨k - 1, by omega⟩
    have hV := hv.V
    obtain ⟨a, ha⟩ : ∃ a, A[q + 1]? = some a := ⟨_, List.getElem?_eq_getElem (by have := hv.lA; omega)⟩
    obtain ⟨w, hw⟩ : ∃ w, W[q + 1]? = some w := ⟨_, List.getElem?_eq_getElem (by have := hv.lW; omega)⟩
    obtain ⟨g1, g2, g3, g4, g5⟩ := hv.at_ q a w (by omega) ha hw
    have htk : (s.V.drop 1).take (q + 1) = (s.V.drop 1).take q ++ [if 0 < w then ⟨(q : Int) + 1, w, 9, a⟩ else vz] := by
      rw [List.take_add_one, List.getElem?_drop, Nat.add_comm 1 q, g5]; rfl
    simp only [Int.toNat_natCast, Nat.add_sub_cancel] at hMj ⊢
    refine Tri.brT (by simp; omega) ?_
    refine arr_ld (A := W) (x := w) (by first|exact K0|exact K1|exact K2|exact K3|exact K4|exact K5|exact K6|exact K7|exact K8|exact K9|exact K10|exact K11) hw ?_
    repeat (first|refine wa ?_|refine wb ?_|refine wc ?_|refine wd ?_|refine we ?_|refine wf ?_|refine wg ?_|refine wh rfl ?_|refine wi rfl ?_|refine wj rfl ?_|refine wk rfl ?_|refine wl rfl ?_|refine wm (by decide) ?_|(apply Tri.ldE; (first|exact K0|exact K1|exact K2|exact K3|exact K4|exact K5|exact K6|exact K7|exact K8|exact K9|exact K10|exact K11); (exact rfl); (exact wz rfl))|(apply Tri.stE; (first|exact K0|exact K1|exact K2|exact K3|exact K4|exact K5|exact K6|exact K7|exact K8|exact K9|exact K10|exact K11); (exact rfl); (exact wz rfl))|(apply Tri.same; (first|exact K0|exact K1|exact K2|exact K3|exact K4|exact K5|exact K6|exact K7|exact K8|exact K9|exact K10|exact K11); (exact rfl); (exact wz rfl))|refine wq fun _ => ?_)
    rw [wr_i64 (n := ((q + 1 : Nat) : Int) + 1) (by omega) (by omega)]
    have back : ∀ M' : List Int, M'.length = 6 → (∀ j : Nat, j < 6 → M'[j]? = some (cnt (j : Int) 9 (LV s u ((s.V.drop 1).take (q + 1))) : Int)) → Tri E [Re p s, pt a1 (A.map (Sc.i .u64)), pt a2 (W.map (Sc.i .i64)), pt a3 (M'.map (Sc.i .i64))]
        (.ret 0 [.sc (.b true), .sc (.p (some (p, 0))), .sc (.p (some (a1, 0))), .sc (.p (some (a2, 0))), .sc (.i .u64 u), .sc (.p (some (a3, 0))), .sc (.i .i64 (((q + 1 : Nat) : Int) + 1))])
        (LQ E (fun m l' L => ∃ (k : Nat) (M : List Int), m = 33 - k ∧ 1 ≤ k ∧ k ≤ 33 ∧ M.length = 6 ∧ (∀ j : Nat, j < 6 → M[j]? = some (cnt (j : Int) 9 (LV s u ((s.V.drop 1).take (k - 1))) : Int)) ∧
          l' = [.sc (.b true), .sc (.p (some (p, 0))), .sc (.p (some (a1, 0))), .sc (.p (some (a2, 0))), .sc (.i .u64 u), .sc (.p (some (a3, 0))), .sc (.i .i64 k)] ∧
          L = [Re p s, pt a1 (A.map (Sc.i .u64)), pt a2 (W.map (Sc.i .i64)), pt a3 (M.map (Sc.i .i64))]) (33 - (q + 1)) t4_k53 (RQ [] RT)) := by
      intro M' h1 h2
      exact Tri.back (m' := 33 - (q + 2)) (by omega) ⟨q + 2, M', rfl, by omega, by omega, h1, h2, rfl, rfl⟩ (by repeat (first|exact Sub.refl _|exact Sub.nil _|(apply Sub.cons; (first|exact K0|exact K1|exact K2|exact K3|exact K4|exact K5|exact K6|exact K7|exact K8|exact K9|exact K10|exact K11))|apply Sub.skip))
    have hold : ∀ x : Vt, x.at_ = a → oldB s u x = decide (a + 20 ≤ u) := by
      intro x hx
      unfold oldB; rw [hx, hv.h, wr_u64 (by omega) (by omega)]
    refine Tri.cnd (fun c1 => ?_) (fun c1 => ?_)
    · have c1 : 0 < w := by simpa using c1
      rw [if_pos c1] at htk
      refine Tri.brT (by simp; omega) ?_
      refine arr_ld (A := A) (x := a) (by first|exact K0|exact K1|exact K2|exact K3|exact K4|exact K5|exact K6|exact K7|exact K8|exact K9|exact K10|exact K11) ha ?_
      repeat (first|refine wa ?_|refine wb ?_|refine wc ?_|refine wd ?_|refine we ?_|refine wf ?_|refine wg ?_|refine wh rfl ?_|refine wi rfl ?_|refine wj rfl ?_|refine wk rfl ?_|refine wl rfl ?_|refine wm (by decide) ?_|(apply Tri.ldE; (first|exact K0|exact K1|exact K2|exact K3|exact K4|exact K5|exact K6|exact K7|exact K8|exact K9|exact K10|exact K11); (exact rfl); (exact wz rfl))|(apply Tri.stE; (first|exact K0|exact K1|exact K2|exact K3|exact K4|exact K5|exact K6|exact K7|exact K8|exact K9|exact K10|exact K11); (exact rfl); (exact wz rfl))|(apply Tri.same; (first|exact K0|exact K1|exact K2|exact K3|exact K4|exact K5|exact K6|exact K7|exact K8|exact K9|exact K10|exact K11); (exact rfl); (exact wz rfl))|refine wq fun _ => ?_)
      rw [wr_u64 (n := a + 20) (by omega) (by omega)]
      have hL := LV_snoc s u ((s.V.drop 1).take q) ⟨(q : Int) + 1, w, 9, a⟩
      rw [hold _ rfl] at hL
      refine Tri.cnd (fun c2 => ?_) (fun c2 => ?_)
      · have c2 : u < a + 20 := by simpa using c2
        rw [if_pos ⟨by simp; omega, by simp; omega⟩] at hL
        refine Tri.brT (by simp; omega) ?_
        refine arr_ld (A := W) (x := w) (by first|exact K0|exact K1|exact K2|exact K3|exact K4|exact K5|exact K6|exact K7|exact K8|exact K9|exact K10|exact K11) hw ?_
        repeat (first|refine wa ?_|refine wb ?_|refine wc ?_|refine wd ?_|refine we ?_|refine wf ?_|refine wg ?_|refine wh rfl ?_|refine wi rfl ?_|refine wj rfl ?_|refine wk rfl ?_|refine wl rfl ?_|refine wm (by decide) ?_|(apply Tri.ldE; (first|exact K0|exact K1|exact K2|exact K3|exact K4|exact K5|exact K6|exact K7|exact K8|exact K9|exact K10|exact K11); (exact rfl); (exact wz rfl))|(apply Tri.stE; (first|exact K0|exact K1|exact K2|exact K3|exact K4|exact K5|exact K6|exact K7|exact K8|exact K9|exact K10|exact K11); (exact rfl); (exact wz rfl))|(apply Tri.same; (first|exact K0|exact K1|exact K2|exact K3|exact K4|exact K5|exact K6|exact K7|exact K8|exact K9|exact K10|exact K11); (exact rfl); (exact wz rfl))|refine wq fun _ => ?_)
        refine Tri.brT (by simp; omega) ?_
        obtain ⟨wn, hwn⟩ : ∃ wn : Nat, w = wn := ⟨w.toNat, by omega⟩
        subst hwn
        rw [Int.toNat_natCast]
        have hmw := hMj wn (by omega)
        refine arr_ld (A := M) (by first|exact K0|exact K1|exact K2|exact K3|exact K4|exact K5|exact K6|exact K7|exact K8|exact K9|exact K10|exact K11) hmw ?_
        repeat (first|refine wa ?_|refine wb ?_|refine wc ?_|refine wd ?_|refine we ?_|refine wf ?_|refine wg ?_|refine wh rfl ?_|refine wi rfl ?_|refine wj rfl ?_|refine wk rfl ?_|refine wl rfl ?_|refine wm (by decide) ?_|(apply Tri.ldE; (first|exact K0|exact K1|exact K2|exact K3|exact K4|exact K5|exact K6|exact K7|exact K8|exact K9|exact K10|exact K11); (exact rfl); (exact wz rfl))|(apply Tri.stE; (first|exact K0|exact K1|exact K2|exact K3|exact K4|exact K5|exact K6|exact K7|exact K8|exact K9|exact K10|exact K11); (exact rfl); (exact wz rfl))|(apply Tri.same; (first|exact K0|exact K1|exact K2|exact K3|exact K4|exact K5|exact K6|exact K7|exact K8|exact K9|exact K10|exact K11); (exact rfl); (exact wz rfl))|refine wq fun _ => ?_)
        refine Tri.brT (by simp; omega) ?_
        refine arr_st (A := M) (by first|exact K0|exact K1|exact K2|exact K3|exact K4|exact K5|exact K6|exact K7|exact K8|exact K9|exact K10|exact K11) (by omega) ?_
        have hcb : cnt (wn : Int) 9 (LV s u ((s.V.drop 1).take q)) ≤ 40 := by
          refine Nat.le_trans List.countP_le_length (Nat.le_trans (List.length_filter_le _ _) (Nat.le_trans (List.length_filter_le _ _) ?_))
          rw [List.length_take, List.length_drop]; omega
        rw [wr_i64 (by omega) (by omega)]
        refine Tri.sub (by repeat (first|exact Sub.refl _|exact Sub.nil _|(apply Sub.cons; (first|exact K0|exact K1|exact K2|exact K3|exact K4|exact K5|exact K6|exact K7|exact K8|exact K9|exact K10|exact K11))|apply Sub.skip)) (back _ (by simpa using hM) fun j hj => ?_)
        rw [htk, hL, cnt_app]
        by_cases e : j = wn
        · subst e
          rw [List.getElem?_set_self (by omega)]
          simp [cnt, isA, List.countP_cons]
        · rw [List.getElem?_set_ne (by omega), hMj j hj]
          have : cnt (j : Int) 9 [(⟨(q : Int) + 1, wn, 9, a⟩ : Vt)] = 0 := cnt_zero fun y hy => by simp at hy; subst hy; simp only; omega
          rw [this, Nat.add_zero]
      · have c2 : a + 20 ≤ u := by simpa using c2
        rw [if_neg (by simp; omega), List.append_nil] at hL
        refine Tri.sub (by repeat (first|exact Sub.refl _|exact Sub.nil _|(apply Sub.cons; (first|exact K0|exact K1|exact K2|exact K3|exact K4|exact K5|exact K6|exact K7|exact K8|exact K9|exact K10|exact K11))|apply Sub.skip)) (back M hM fun j hj => ?_)
        rw [htk, hL, hMj j hj]
    · have c1 : ¬ 0 < w := by simpa using c1
      rw [if_neg c1] at htk
      have hL := LV_snoc s u ((s.V.drop 1).take q) vz
      rw [if_neg (by simp [vz]), List.append_nil] at hL
      refine Tri.sub (by repeat (first|exact Sub.refl _|exact Sub.nil _|(apply Sub.cons; (first|exact K0|exact K1|exact K2|exact K3|exact K4|exact K5|exact K6|exact K7|exact K8|exact K9|exact K10|exact K11))|apply Sub.skip)) (back M hM fun j hj => ?_)
      rw [htk, hL, hMj j hj]
  · have hc : k = 33 := by simp at hc; omega
    subst hc
    have hfull : (s.V.drop 1).take (33 - 1) = s.V.drop 1 := List.take_of_length_le (by rw [List.length_drop, hv.V]; exact Nat.le_refl _)
    rw [hfull, ← live_LV] at hMj
    refine Tri.exit (by decide) ?_
    unfold t4_k53
    repeat (first|refine wa ?_|refine wb ?_|refine wc ?_|refine wd ?_|refine we ?_|refine wf ?_|refine wg ?_|refine wh rfl ?_|refine wi rfl ?_|refine wj rfl ?_|refine wk rfl ?_|refine wl rfl ?_|refine wm (by decide) ?_|(apply Tri.ldE; (first|exact K0|exact K1|exact K2|exact K3|exact K4|exact K5|exact K6|exact K7|exact K8|exact K9|exact K10|exact K11); (exact rfl); (exact wz rfl))|(apply Tri.stE; (first|exact K0|exact K1|exact K2|exact K3|exact K4|exact K5|exact K6|exact K7|exact K8|exact K9|exact K10|exact K11); (exact rfl); (exact wz rfl))|(apply Tri.same; (first|exact K0|exact K1|exact K2|exact K3|exact K4|exact K5|exact K6|exact K7|exact K8|exact K9|exact K10|exact K11); (exact rfl); (exact wz rfl))|refine wq fun _ => ?_)
    refine Tri.loop (I := fun m l' L => ∃ (k b : Nat) , m = 6 - k ∧ 1 ≤ k ∧ k ≤ 6 ∧ b < k ∧ (∀ i : Nat, i < k → cnt (i : Int) 9 (liveL s u) ≤ cnt (b : Int) 9 (liveL s u)) ∧ (∀ i : Nat, i < b → cnt (i : Int) 9 (liveL s u) < cnt (b : Int) 9 (liveL s u)) ∧
      l' = [.sc (.b true), .sc (.p (some (p, 0))), .sc (.i .u64 u), .sc (.p (some (a3, 0))), .sc (.i .i64 b), .sc (.i .i64 k)] ∧ L = [Re p s, pt a3 (M.map (Sc.i .i64))])
      ⟨1, 0, rfl, by omega, by omega, by omega, fun i hi => by have : i = 0 := by omega
                                                               subst this; exact Nat.le_refl _, fun i hi => by omega, rfl, rfl⟩ (by repeat (first|exact Sub.refl _|exact Sub.nil _|(apply Sub.cons; (first|exact K0|exact K1|exact K2|exact K3|exact K4|exact K5|exact K6|exact K7|exact K8|exact K9|exact K10|exact K11))|apply Sub.skip)) ?_
    rintro m l' L ⟨k, b, rfl, hk1, hk, hb, hmax, hmin, rfl, rfl⟩
    unfold t4_b88
    repeat (first|refine wa ?_|refine wb ?_|refine wc ?_|refine wd ?_|refine we ?_|refine wf ?_|refine wg ?_|refine wh rfl ?_|refine wi rfl ?_|refine wj rfl ?_|refine wk rfl ?_|refine wl rfl ?_|refine wm (by decide) ?_|(apply Tri.ldE; (first|exact K0|exact K1|exact K2|exact K3|exact K4|exact K5|exact K6|exact K7|exact K8|exact K9|exact K10|exact K11); (exact rfl); (exact wz rfl))|(apply Tri.stE; (first|exact K0|exact K1|exact K2|exact K3|exact K4|exact K5|exact K6|exact K7|exact K8|exact K9|exact K10|exact K11); (exact rfl); (exact wz rfl))|(apply Tri.same; (first|exact K0|exact K1|exact K2|exact K3|exact K4|exact K5|exact K6|exact K7|exact K8|exact K9|exact K10|exact K11); (exact rfl); (exact wz rfl))|refine wq fun _ => ?_)
    refine Tri.cnd (fun hc => ?_) (fun hc => ?_)
    · have hc : k ≤ 5 := by simp at hc; omega
      simp only [Int.toNat_natCast]
      refine Tri.brT (by simp; omega) ?_
      refine arr_ld (A := M) (by first|exact K0|exact K1|exact K2|exact K3|exact K4|exact K5|exact K6|exact K7|exact K8|exact K9|exact K10|exact K11) (hMj k (by omega)) ?_
      repeat (first|refine wa ?_|refine wb ?_|refine wc ?_|refine wd ?_|refine we ?_|refine wf ?_|refine wg ?_|refine wh rfl ?_|refine wi rfl ?_|refine wj rfl ?_|refine wk rfl ?_|refine wl rfl ?_|refine wm (by decide) ?_|(apply Tri.ldE; (first|exact K0|exact K1|exact K2|exact K3|exact K4|exact K5|exact K6|exact K7|exact K8|exact K9|exact K10|exact K11); (exact rfl); (exact wz rfl))|(apply Tri.stE; (first|exact K0|exact K1|exact K2|exact K3|exact K4|exact K5|exact K6|exact K7|exact K8|exact K9|exact K10|exact K11); (exact rfl); (exact wz rfl))|(apply Tri.same; (first|exact K0|exact K1|exact K2|exact K3|exact K4|exact K5|exact K6|exact K7|exact K8|exact K9|exact K10|exact K11); (exact rfl); (exact wz rfl))|refine wq fun _ => ?_)
      refine Tri.brT (by simp; omega) ?_
      refine arr_ld (A := M) (by first|exact K0|exact K1|exact K2|exact K3|exact K4|exact K5|exact K6|exact K7|exact K8|exact K9|exact K10|exact K11) (hMj b (by omega)) ?_
      repeat (first|refine wa ?_|refine wb ?_|refine wc ?_|refine wd ?_|refine we ?_|refine wf ?_|refine wg ?_|refine wh rfl ?_|refine wi rfl ?_|refine wj rfl ?_|refine wk rfl ?_|refine wl rfl ?_|refine wm (by decide) ?_|(apply Tri.ldE; (first|exact K0|exact K1|exact K2|exact K3|exact K4|exact K5|exact K6|exact K7|exact K8|exact K9|exact K10|exact K11); (exact rfl); (exact wz rfl))|(apply Tri.stE; (first|exact K0|exact K1|exact K2|exact K3|exact K4|exact K5|exact K6|exact K7|exact K8|exact K9|exact K10|exact K11); (exact rfl); (exact wz rfl))|(apply Tri.same; (first|exact K0|exact K1|exact K2|exact K3|exact K4|exact K5|exact K6|exact K7|exact K8|exact K9|exact K10|exact K11); (exact rfl); (exact wz rfl))|refine wq fun _ => ?_)
      rw [wr_i64 (n := (k : Int) + 1) (by omega) (by omega)]
      refine Tri.cnd (fun c1 => ?_) (fun c1 => ?_)
      · have c1 : cnt (b : Int) 9 (liveL s u) < cnt (k : Int) 9 (liveL s u) := by simp at c1; omega
        refine Tri.back (m' := 6 - (k + 1)) (by omega) ⟨k + 1, k, rfl, by omega, by omega, by omega, fun i hi => ?_, fun i hi => ?_, rfl, rfl⟩ (by repeat (first|exact Sub.refl _|exact Sub.nil _|(apply Sub.cons; (first|exact K0|exact K1|exact K2|exact K3|exact K4|exact K5|exact K6|exact K7|exact K8|exact K9|exact K10|exact K11))|apply Sub.skip))
        · by_cases e : i = k
          · subst e; exact Nat.le_refl _
          · have := hmax i (by omega); omega
        · have := hmax i hi; omega
      · have c1 : cnt (k : Int) 9 (liveL s u) ≤ cnt (b : Int) 9 (liveL s u) := by simp at c1; omega
        refine Tri.back (m' := 6 - (k + 1)) (by omega) ⟨k + 1, b, rfl, by omega, by omega, by omega, fun i hi => ?_, hmin, rfl, rfl⟩ (by repeat (first|exact Sub.refl _|exact Sub.nil _|(apply Sub.cons; (first|exact K0|exact K1|exact K2|exact K3|exact K4|exact K5|exact K6|exact K7|exact K8|exact K9|exact K10|exact K11))|apply Sub.skip))
        by_cases e : i = k
        · subst e; exact c1
        · exact hmax i (by omega)
    · have hc : k = 6 := by simp at hc; omega
      subst hc
      refine Tri.exit (by decide) ?_
      unfold t4_k88
      repeat (first|refine wa ?_|refine wb ?_|refine wc ?_|refine wd ?_|refine we ?_|refine wf ?_|refine wg ?_|refine wh rfl ?_|refine wi rfl ?_|refine wj rfl ?_|refine wk rfl ?_|refine wl rfl ?_|refine wm (by decide) ?_|(apply Tri.ldE; (first|exact K0|exact K1|exact K2|exact K3|exact K4|exact K5|exact K6|exact K7|exact K8|exact K9|exact K10|exact K11); (exact rfl); (exact wz rfl))|(apply Tri.stE; (first|exact K0|exact K1|exact K2|exact K3|exact K4|exact K5|exact K6|exact K7|exact K8|exact K9|exact K10|exact K11); (exact rfl); (exact wz rfl))|(apply Tri.same; (first|exact K0|exact K1|exact K2|exact K3|exact K4|exact K5|exact K6|exact K7|exact K8|exact K9|exact K10|exact K11); (exact rfl); (exact wz rfl))|refine wq fun _ => ?_)
      refine Tri.call (addr_spec (s := s) (now := u) hv.V) (by repeat (first|exact Picks.nil|(apply Picks.cons; (first|exact K0|exact K1|exact K2|exact K3|exact K4|exact K5|exact K6|exact K7|exact K8|exact K9|exact K10|exact K11)))) ?_
      rintro v L' ⟨xi, xp, ok, rfl, hbest, rfl⟩
      have hall := hv.all (now := u)
      have h0 : cnt (0 : Int) 9 (liveL s u) = 0 := cnt_zero fun y hy => by have := hall y hy; omega
      simp only [List.cons_append, List.nil_append]
      repeat (first|refine wa ?_|refine wb ?_|refine wc ?_|refine wd ?_|refine we ?_|refine wf ?_|refine wg ?_|refine wh rfl ?_|refine wi rfl ?_|refine wj rfl ?_|refine wk rfl ?_|refine wl rfl ?_|refine wm (by decide) ?_|(apply Tri.ldE; (first|exact K0|exact K1|exact K2|exact K3|exact K4|exact K5|exact K6|exact K7|exact K8|exact K9|exact K10|exact K11); (exact rfl); (exact wz rfl))|(apply Tri.stE; (first|exact K0|exact K1|exact K2|exact K3|exact K4|exact K5|exact K6|exact K7|exact K8|exact K9|exact K10|exact K11); (exact rfl); (exact wz rfl))|(apply Tri.same; (first|exact K0|exact K1|exact K2|exact K3|exact K4|exact K5|exact K6|exact K7|exact K8|exact K9|exact K10|exact K11); (exact rfl); (exact wz rfl))|refine wq fun _ => ?_)
      refine Tri.cnd (fun c1 => ?_) (fun c1 => ?_)
      · have c1 : b = 0 := by simp at c1; omega
        subst c1
        have hnil : liveL s u = [] := by
          cases hl : liveL s u with
          | nil => rfl
          | cons x r =>
            have hx := hall x (by rw [hl]; simp)
            have h1 := hmax x.ip.toNat (by omega)
            have h2 : 0 < cnt x.ip x.port (liveL s u) := cnt_pos (by rw [hl]; simp)
            rw [show ((x.ip.toNat : Nat) : Int) = x.ip by omega, ← hx.2.2] at h1
            have h3 : cnt (((0 : Nat) : Int)) x.port (liveL s u) = 0 := by rw [hx.2.2]; exact h0
            omega
        rw [hnil] at hbest
        rcases hbest with ⟨_, e1, e2, e3⟩ | ⟨_, h, _⟩
        · subst e1; subst e2; subst e3
          refine Tri.cndT rfl ?_
          refine Tri.cndT rfl ?_
          repeat (first|refine wa ?_|refine wb ?_|refine wc ?_|refine wd ?_|refine we ?_|refine wf ?_|refine wg ?_|refine wh rfl ?_|refine wi rfl ?_|refine wj rfl ?_|refine wk rfl ?_|refine wl rfl ?_|refine wm (by decide) ?_|(apply Tri.ldE; (first|exact K0|exact K1|exact K2|exact K3|exact K4|exact K5|exact K6|exact K7|exact K8|exact K9|exact K10|exact K11); (exact rfl); (exact wz rfl))|(apply Tri.stE; (first|exact K0|exact K1|exact K2|exact K3|exact K4|exact K5|exact K6|exact K7|exact K8|exact K9|exact K10|exact K11); (exact rfl); (exact wz rfl))|(apply Tri.same; (first|exact K0|exact K1|exact K2|exact K3|exact K4|exact K5|exact K6|exact K7|exact K8|exact K9|exact K10|exact K11); (exact rfl); (exact wz rfl))|refine wq fun _ => ?_)
          refine Tri.call none_spec (by repeat (first|exact Picks.nil|(apply Picks.cons; (first|exact K0|exact K1|exact K2|exact K3|exact K4|exact K5|exact K6|exact K7|exact K8|exact K9|exact K10|exact K11)))) ?_
          rintro v L' ⟨rfl, rfl⟩
          simp only [List.cons_append, List.nil_append]
          repeat (first|refine wa ?_|refine wb ?_|refine wc ?_|refine wd ?_|refine we ?_|refine wf ?_|refine wg ?_|refine wh rfl ?_|refine wi rfl ?_|refine wj rfl ?_|refine wk rfl ?_|refine wl rfl ?_|refine wm (by decide) ?_|(apply Tri.ldE; (first|exact K0|exact K1|exact K2|exact K3|exact K4|exact K5|exact K6|exact K7|exact K8|exact K9|exact K10|exact K11); (exact rfl); (exact wz rfl))|(apply Tri.stE; (first|exact K0|exact K1|exact K2|exact K3|exact K4|exact K5|exact K6|exact K7|exact K8|exact K9|exact K10|exact K11); (exact rfl); (exact wz rfl))|(apply Tri.same; (first|exact K0|exact K1|exact K2|exact K3|exact K4|exact K5|exact K6|exact K7|exact K8|exact K9|exact K10|exact K11); (exact rfl); (exact wz rfl))|refine wq fun _ => ?_)
          exact Tri.retF (L1 := []) rfl (Sub.nil _)
        · exact absurd h (by unfold cnt; simp)
      · have c1 : 0 < b := by simp at c1; omega
        have hb0 : 0 < cnt (b : Int) 9 (liveL s u) := by have := hmin 0 c1; omega
        obtain ⟨y, hy, hy2⟩ := List.countP_pos_iff.1 hb0
        rw [isA_iff] at hy2
        rcases hbest with ⟨e, _⟩ | ⟨e1, e2, e3⟩
        · rw [e] at hy; cases hy
        subst e1
        obtain ⟨x, hx, hx2⟩ := List.countP_pos_iff.1 e2
        rw [isA_iff] at hx2
        have hxa := hall x hx
        have hyb := e3 y hy
        rw [hy2.1, hy2.2] at hyb
        have hxp : xp = 9 := by omega
        subst hxp
        have hmx := hmax xi.toNat (by omega)
        rw [show ((xi.toNat : Nat) : Int) = xi by omega] at hmx
        have heq : xi = (b : Int) := by
          have h1 := hyb.2 (by omega)
          by_cases e : xi = (b : Int)
          · exact e
          · have h2 := hmin xi.toNat (by omega)
            rw [show ((xi.toNat : Nat) : Int) = xi by omega] at h2
            omega
        subst heq
        refine Tri.cndT rfl ?_
        refine Tri.cndT rfl ?_
        repeat (first|refine wa ?_|refine wb ?_|refine wc ?_|refine wd ?_|refine we ?_|refine wf ?_|refine wg ?_|refine wh rfl ?_|refine wi rfl ?_|refine wj rfl ?_|refine wk rfl ?_|refine wl rfl ?_|refine wm (by decide) ?_|(apply Tri.ldE; (first|exact K0|exact K1|exact K2|exact K3|exact K4|exact K5|exact K6|exact K7|exact K8|exact K9|exact K10|exact K11); (exact rfl); (exact wz rfl))|(apply Tri.stE; (first|exact K0|exact K1|exact K2|exact K3|exact K4|exact K5|exact K6|exact K7|exact K8|exact K9|exact K10|exact K11); (exact rfl); (exact wz rfl))|(apply Tri.same; (first|exact K0|exact K1|exact K2|exact K3|exact K4|exact K5|exact K6|exact K7|exact K8|exact K9|exact K10|exact K11); (exact rfl); (exact wz rfl))|refine wq fun _ => ?_)
        rw [wr_i64 (by omega) (by omega)]
        refine Tri.cndT (by simp) ?_
        repeat (first|refine wa ?_|refine wb ?_|refine wc ?_|refine wd ?_|refine we ?_|refine wf ?_|refine wg ?_|refine wh rfl ?_|refine wi rfl ?_|refine wj rfl ?_|refine wk rfl ?_|refine wl rfl ?_|refine wm (by decide) ?_|(apply Tri.ldE; (first|exact K0|exact K1|exact K2|exact K3|exact K4|exact K5|exact K6|exact K7|exact K8|exact K9|exact K10|exact K11); (exact rfl); (exact wz rfl))|(apply Tri.stE; (first|exact K0|exact K1|exact K2|exact K3|exact K4|exact K5|exact K6|exact K7|exact K8|exact K9|exact K10|exact K11); (exact rfl); (exact wz rfl))|(apply Tri.same; (first|exact K0|exact K1|exact K2|exact K3|exact K4|exact K5|exact K6|exact K7|exact K8|exact K9|exact K10|exact K11); (exact rfl); (exact wz rfl))|refine wq fun _ => ?_)
        exact Tri.retF (L1 := []) rfl (Sub.nil _)

set_option maxRecDepth 20000 in
set_option maxHeartbeats 4000000 in
theorem votes_tri {o1 o2 : Option SlD} {U X : List By} {now : Int} (hn : 0 ≤ now ∧ now < 256) : Tri E [.sl true byE o1 U, .sl true byE o2 X] ((fun v0 : AV => match t4 o1 o2 now with | .call _ _ f => f v0 | _ => .fail) (.sc (.b true))) (RQ [] RT) := by
  unfold t4
  dsimp only
  repeat (first|refine wa ?_|refine wb ?_|refine wc ?_|refine wd ?_|refine we ?_|refine wf ?_|refine wg ?_|refine wh rfl ?_|refine wi rfl ?_|refine wj rfl ?_|refine wk rfl ?_|refine wl rfl ?_|refine wm (by decide) ?_|(apply Tri.ldE; (first|exact K0|exact K1|exact K2|exact K3|exact K4|exact K5|exact K6|exact K7|exact K8|exact K9|exact K10|exact K11); (exact rfl); (exact wz rfl))|(apply Tri.stE; (first|exact K0|exact K1|exact K2|exact K3|exact K4|exact K5|exact K6|exact K7|exact K8|exact K9|exact K10|exact K11); (exact rfl); (exact wz rfl))|(apply Tri.same; (first|exact K0|exact K1|exact K2|exact K3|exact K4|exact K5|exact K6|exact K7|exact K8|exact K9|exact K10|exact K11); (exact rfl); (exact wz rfl))|refine wq fun _ => ?_)
  refine Tri.cndF rfl ?_
  refine Tri.call (new_ok (r := 2) (h := 20) (by decide) (by decide) (by decide) (by decide)) (by repeat (first|exact Picks.nil|(apply Picks.cons; (first|exact K0|exact K1|exact K2|exact K3|exact K4|exact K5|exact K6|exact K7|exact K8|exact K9|exact K10|exact K11)))) ?_
  rintro v L' ⟨p, rfl, rfl⟩
  simp only [List.cons_append, List.nil_append]
  repeat (first|refine wa ?_|refine wb ?_|refine wc ?_|refine wd ?_|refine we ?_|refine wf ?_|refine wg ?_|refine wh rfl ?_|refine wi rfl ?_|refine wj rfl ?_|refine wk rfl ?_|refine wl rfl ?_|refine wm (by decide) ?_|(apply Tri.ldE; (first|exact K0|exact K1|exact K2|exact K3|exact K4|exact K5|exact K6|exact K7|exact K8|exact K9|exact K10|exact K11); (exact rfl); (exact wz rfl))|(apply Tri.stE; (first|exact K0|exact K1|exact K2|exact K3|exact K4|exact K5|exact K6|exact K7|exact K8|exact K9|exact K10|exact K11); (exact rfl); (exact wz rfl))|(apply Tri.same; (first|exact K0|exact K1|exact K2|exact K3|exact K4|exact K5|exact K6|exact K7|exact K8|exact K9|exact K10|exact K11); (exact rfl); (exact wz rfl))|refine wq fun _ => ?_)
  rename_i a1 a2
  refine Tri.loop (I := fun m l' L => ∃ (i : Nat) (s : Rs) (A W : List Int), m = U.length - i ∧ i ≤ U.length ∧ i ≤ 30 ∧ Vo s A W ∧
    l' = [.sc (.sl o1), .sc (.sl o2), .sc (.i .u8 now), .sc (.b true), .sc (.p (some (p, 0))), .sc (.p (some (a1, 0))), .sc (.p (some (a2, 0))), .sc (.i .i64 i)] ∧
    L = [Re p s, pt a1 (A.map (Sc.i .u64)), pt a2 (W.map (Sc.i .i64)), .sl true byE o1 U, .sl true byE o2 X])
    (L0 := [Re p (rs0 2 20), pt a1 ((List.replicate 33 (0 : Int)).map (Sc.i .u64)), pt a2 ((List.replicate 33 (0 : Int)).map (Sc.i .i64)), .sl true byE o1 U, .sl true byE o2 X])
    ⟨0, rs0 2 20, List.replicate 33 0, List.replicate 33 0, rfl, by omega, by omega, ⟨rfl, rfl, rfl, rfl, fun k a w hk ha hw => ?_⟩, rfl, rfl⟩ (by repeat (first|exact Sub.refl _|exact Sub.nil _|(apply Sub.cons; (first|exact K0|exact K1|exact K2|exact K3|exact K4|exact K5|exact K6|exact K7|exact K8|exact K9|exact K10|exact K11))|apply Sub.skip)) ?_
  · rw [List.getElem?_replicate, if_pos (by omega)] at ha hw
    cases ha; cases hw
    refine ⟨by omega, by omega, by omega, by omega, ?_⟩
    rw [if_neg (by omega)]
    show (List.replicate 33 vz)[k + 1]? = _
    rw [List.getElem?_replicate, if_pos (by omega)]
  rintro m l' L ⟨i, s, A, W, rfl, hi, hi30, hv, rfl, rfl⟩
  unfold t4_b10
  repeat (first|refine wa ?_|refine wb ?_|refine wc ?_|refine wd ?_|refine we ?_|refine wf ?_|refine wg ?_|refine wh rfl ?_|refine wi rfl ?_|refine wj rfl ?_|refine wk rfl ?_|refine wl rfl ?_|refine wm (by decide) ?_|(apply Tri.ldE; (first|exact K0|exact K1|exact K2|exact K3|exact K4|exact K5|exact K6|exact K7|exact K8|exact K9|exact K10|exact K11); (exact rfl); (exact wz rfl))|(apply Tri.stE; (first|exact K0|exact K1|exact K2|exact K3|exact K4|exact K5|exact K6|exact K7|exact K8|exact K9|exact K10|exact K11); (exact rfl); (exact wz rfl))|(apply Tri.same; (first|exact K0|exact K1|exact K2|exact K3|exact K4|exact K5|exact K6|exact K7|exact K8|exact K9|exact K10|exact K11); (exact rfl); (exact wz rfl))|refine wq fun _ => ?_)
  have away : Tri E [Re p s, pt a1 (A.map (Sc.i .u64)), pt a2 (W.map (Sc.i .i64)), .sl true byE o1 U, .sl true byE o2 X] (t4_k10 2 [.sc (.i .u8 now), .sc (.b true), .sc (.p (some (p, 0))), .sc (.p (some (a1, 0))), .sc (.p (some (a2, 0)))]) (RQ [] RT) :=
    Tri.sub (by repeat (first|exact Sub.refl _|exact Sub.nil _|(apply Sub.cons; (first|exact K0|exact K1|exact K2|exact K3|exact K4|exact K5|exact K6|exact K7|exact K8|exact K9|exact K10|exact K11))|apply Sub.skip)) (tail_tri hv hn)
  refine Tri.slLen (l := U) (o := o1) (ro := true) (T := byE) (by first|exact K0|exact K1|exact K2|exact K3|exact K4|exact K5|exact K6|exact K7|exact K8|exact K9|exact K10|exact K11) fun e1 e2 => ?_
  refine Tri.slLen (l := X) (o := o2) (ro := true) (T := byE) (by first|exact K0|exact K1|exact K2|exact K3|exact K4|exact K5|exact K6|exact K7|exact K8|exact K9|exact K10|exact K11) fun e3 e4 => ?_
  rw [e2, e4]
  refine Tri.cnd (fun c1 => ?_) (fun c1 => ?_)
  · have c1 : i < U.length := by simp at c1; omega
    refine Tri.cnd (fun c2 => ?_) (fun c2 => ?_)
    · have c2 : i < X.length := by simp at c2; omega
      refine Tri.cnd (fun c3 => ?_) (fun c3 => ?_)
      · have c3 : i < 30 := by simp at c3; omega
        refine Tri.ixld (T := byE) (o := o1) (by first|exact K0|exact K1|exact K2|exact K3|exact K4|exact K5|exact K6|exact K7|exact K8|exact K9|exact K10|exact K11) rfl (by omega) (by omega) fun u hu => ?_
        repeat (first|refine wa ?_|refine wb ?_|refine wc ?_|refine wd ?_|refine we ?_|refine wf ?_|refine wg ?_|refine wh rfl ?_|refine wi rfl ?_|refine wj rfl ?_|refine wk rfl ?_|refine wl rfl ?_|refine wm (by decide) ?_|(apply Tri.ldE; (first|exact K0|exact K1|exact K2|exact K3|exact K4|exact K5|exact K6|exact K7|exact K8|exact K9|exact K10|exact K11); (exact rfl); (exact wz rfl))|(apply Tri.stE; (first|exact K0|exact K1|exact K2|exact K3|exact K4|exact K5|exact K6|exact K7|exact K8|exact K9|exact K10|exact K11); (exact rfl); (exact wz rfl))|(apply Tri.same; (first|exact K0|exact K1|exact K2|exact K3|exact K4|exact K5|exact K6|exact K7|exact K8|exact K9|exact K10|exact K11); (exact rfl); (exact wz rfl))|refine wq fun _ => ?_)
        refine Tri.brT rfl ?_
        have hu2 := u.2
        obtain ⟨q, hq⟩ : ∃ q : Nat, (1 : Int) + u.1 % 32 = ((q + 1 : Nat) : Int) := ⟨(u.1 % 32).toNat, by omega⟩
        have hq32 : q < 32 := by omega
        rw [Int.tmod_eq_emod_of_nonneg hu2.1, wr_i64 (n := u.1 % 32) (by omega) (by omega), wr_i64 (n := 1 + u.1 % 32) (by omega) (by omega), hq]
        rw [wr_u64 (n := (i : Int)) (by omega) (by omega), wr_i64 (n := (i : Int) + 1) (by omega) (by omega)]
        simp only [Int.toNat_natCast]
        refine Tri.brT (by simp; omega) ?_
        refine arr_st (A := A) (by first|exact K0|exact K1|exact K2|exact K3|exact K4|exact K5|exact K6|exact K7|exact K8|exact K9|exact K10|exact K11) (by have := hv.lA; omega) ?_
        refine Tri.ixld (T := byE) (o := o2) (by first|exact K0|exact K1|exact K2|exact K3|exact K4|exact K5|exact K6|exact K7|exact K8|exact K9|exact K10|exact K11) rfl (by omega) (by omega) fun x hx => ?_
        repeat (first|refine wa ?_|refine wb ?_|refine wc ?_|refine wd ?_|refine we ?_|refine wf ?_|refine wg ?_|refine wh rfl ?_|refine wi rfl ?_|refine wj rfl ?_|refine wk rfl ?_|refine wl rfl ?_|refine wm (by decide) ?_|(apply Tri.ldE; (first|exact K0|exact K1|exact K2|exact K3|exact K4|exact K5|exact K6|exact K7|exact K8|exact K9|exact K10|exact K11); (exact rfl); (exact wz rfl))|(apply Tri.stE; (first|exact K0|exact K1|exact K2|exact K3|exact K4|exact K5|exact K6|exact K7|exact K8|exact K9|exact K10|exact K11); (exact rfl); (exact wz rfl))|(apply Tri.same; (first|exact K0|exact K1|exact K2|exact K3|exact K4|exact K5|exact K6|exact K7|exact K8|exact K9|exact K10|exact K11); (exact rfl); (exact wz rfl))|refine wq fun _ => ?_)
        refine Tri.brT rfl ?_
        have hx2 := x.2
        rw [Int.tmod_eq_emod_of_nonneg hx2.1, wr_i64 (n := x.1 % 5) (by omega) (by omega), wr_i64 (n := 1 + x.1 % 5) (by omega) (by omega)]
        generalize hw : 1 + x.1 % 5 = w
        have hw : 1 ≤ w ∧ w ≤ 5 := by omega
        refine Tri.brT (by simp; omega) ?_
        refine arr_st (A := W) (by first|exact K0|exact K1|exact K2|exact K3|exact K4|exact K5|exact K6|exact K7|exact K8|exact K9|exact K10|exact K11) (by have := hv.lW; omega) ?_
        refine Tri.brT (by simp; omega) ?_
        refine arr_ld (A := W.set (q + 1) w) (x := w) (by first|exact K0|exact K1|exact K2|exact K3|exact K4|exact K5|exact K6|exact K7|exact K8|exact K9|exact K10|exact K11) (by rw [List.getElem?_set_self (by have := hv.lW; omega)]) ?_
        repeat (first|refine wa ?_|refine wb ?_|refine wc ?_|refine wd ?_|refine we ?_|refine wf ?_|refine wg ?_|refine wh rfl ?_|refine wi rfl ?_|refine wj rfl ?_|refine wk rfl ?_|refine wl rfl ?_|refine wm (by decide) ?_|(apply Tri.ldE; (first|exact K0|exact K1|exact K2|exact K3|exact K4|exact K5|exact K6|exact K7|exact K8|exact K9|exact K10|exact K11); (exact rfl); (exact wz rfl))|(apply Tri.stE; (first|exact K0|exact K1|exact K2|exact K3|exact K4|exact K5|exact K6|exact K7|exact K8|exact K9|exact K10|exact K11); (exact rfl); (exact wz rfl))|(apply Tri.same; (first|exact K0|exact K1|exact K2|exact K3|exact K4|exact K5|exact K6|exact K7|exact K8|exact K9|exact K10|exact K11); (exact rfl); (exact wz rfl))|refine wq fun _ => ?_)
        rw [wr_u32 (by omega) (by omega)]
        refine Tri.call (see_spec (s := s) (who := ((q + 1 : Nat) : Int)) (ip := w) (port := 9) (now := (i : Int)) hv.V) (by repeat (first|exact Picks.nil|(apply Picks.cons; (first|exact K0|exact K1|exact K2|exact K3|exact K4|exact K5|exact K6|exact K7|exact K8|exact K9|exact K10|exact K11)))) ?_
        have hs : seeR s ((q + 1 : Nat) : Int) w 9 (i : Int) = (0, { s with V := s.V.set (q + 1) ⟨((q + 1 : Nat) : Int), w, 9, i⟩ }) := by
          unfold seeR
          rw [if_pos ⟨by omega, by omega, by simp [noneB]; omega, by omega⟩, Int.toNat_natCast]
        rw [hs]
        rintro v L' ⟨rfl, rfl⟩
        simp only [List.cons_append, List.nil_append]
        repeat (first|refine wa ?_|refine wb ?_|refine wc ?_|refine wd ?_|refine we ?_|refine wf ?_|refine wg ?_|refine wh rfl ?_|refine wi rfl ?_|refine wj rfl ?_|refine wk rfl ?_|refine wl rfl ?_|refine wm (by decide) ?_|(apply Tri.ldE; (first|exact K0|exact K1|exact K2|exact K3|exact K4|exact K5|exact K6|exact K7|exact K8|exact K9|exact K10|exact K11); (exact rfl); (exact wz rfl))|(apply Tri.stE; (first|exact K0|exact K1|exact K2|exact K3|exact K4|exact K5|exact K6|exact K7|exact K8|exact K9|exact K10|exact K11); (exact rfl); (exact wz rfl))|(apply Tri.same; (first|exact K0|exact K1|exact K2|exact K3|exact K4|exact K5|exact K6|exact K7|exact K8|exact K9|exact K10|exact K11); (exact rfl); (exact wz rfl))|refine wq fun _ => ?_)
        refine Tri.cndF rfl ?_
        refine Tri.back (m' := U.length - (i + 1)) (by omega) ⟨i + 1, { s with V := s.V.set (q + 1) ⟨((q + 1 : Nat) : Int), w, 9, i⟩ }, A.set (q + 1) i, W.set (q + 1) w, rfl, by omega, by omega, ⟨by simpa using hv.V, by simpa using hv.lA, by simpa using hv.lW, hv.h, fun k a w' hk ha hw' => ?_⟩, rfl, rfl⟩ (by repeat (first|exact Sub.refl _|exact Sub.nil _|(apply Sub.cons; (first|exact K0|exact K1|exact K2|exact K3|exact K4|exact K5|exact K6|exact K7|exact K8|exact K9|exact K10|exact K11))|apply Sub.skip))
        simp only
        by_cases e : k = q
        · subst e
          rw [List.getElem?_set_self (by have := hv.lA; omega)] at ha
          rw [List.getElem?_set_self (by have := hv.lW; omega)] at hw'
          cases ha; cases hw'
          rw [List.getElem?_set_self (by have := hv.V; omega), if_pos (by omega)]
          exact ⟨by omega, by omega, by omega, by omega, by rw [show ((k + 1 : Nat) : Int) = (k : Int) + 1 by omega]⟩
        · rw [List.getElem?_set_ne (by omega)] at ha hw' ⊢
          exact hv.at_ k a w' hk ha hw'
      · exact Tri.exit (by decide) away
    · exact Tri.exit (by decide) away
  · exact Tri.exit (by decide) away
theorem votes_run (o1 o2 : Option SlD) (U V : List By) (c1 c2 : List Sc) (hst : ∀ H' : AH, H'.obj 0 = some (.cells true c1) → H'.obj 1 = some (.cells true c2) → 1 < H'.next → Star H' [.sl true byE (oat 0 o1) U, .sl true byE (oat 1 o2) V]) {now : Int} (hn : 0 ≤ now ∧ now < 256) :
    ∃ n H1, callA Try.prog T hs n 4 [.sc (.sl (oat 0 o1)), .sc (.sl (oat 1 o2)), .sc (.i .u8 now)] (HB c1 c2) = some (.sc (.b true), H1) := by
  refine law_fin (E := E) (Try.func4 : Try.prog.funcs[4]? = some Try.f4) (t4_eq (oat 0 o1) (oat 1 o2) now) ?_
  refine CallWp.mono (exW2 _) ?_
  rintro v H' ⟨rfl, h0, h1, h2⟩
  exact Tri.fin (votes_tri hn) (hst H' h0 h1 h2)
end Go.Proofs.Ytbgmnnfajohmaaa
