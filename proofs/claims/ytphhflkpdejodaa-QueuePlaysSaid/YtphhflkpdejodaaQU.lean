/- What the document's answer comes to: Some; the two answers are one. -/
import Derived.Test.YtphhflkpdejodaaQS
namespace Go.Proofs.Ytphhflkpdejodaa
open Go Go.Proofs.Ytphhflkpdejodaa.Fw
set_option linter.unusedVariables false
set_option linter.unusedSimpArgs false

theorem putL_length (x : Itm) (l : List Itm) : (putL x l).length = l.length + 1 := by
  have := congrArg List.length (List.takeWhile_append_dropWhile (p := bef x) (l := l))
  simp only [List.length_append] at this
  simp only [putL, List.length_append, List.length_cons]; omega
def cntR (l : List Itm) (k : Int) : Nat := (max (min k l.length) 0).toNat
def foldR (D acc : List Itm) : List Itm := (D.filter fun t => decide (1 < t.left)).foldl (fun acc t => putL (decQ t) acc) acc
theorem foldR_length : ∀ (D acc : List Itm), (foldR D acc).length ≤ acc.length + D.length
  | [], acc => by simp [foldR]
  | d :: D, acc => by
    unfold foldR
    rw [List.filter_cons]
    split
    · have := foldR_length D (putL (decQ d) acc)
      rw [putL_length] at this
      simp only [List.foldl_cons, List.length_cons]
      unfold foldR at this; omega
    · have := foldR_length D acc
      unfold foldR at this
      simp only [List.length_cons]; omega
theorem foldR_snoc (D acc : List Itm) (d : Itm) : foldR (D ++ [d]) acc = if 1 < d.left then putL (decQ d) (foldR D acc) else foldR D acc := by
  unfold foldR
  rw [List.filter_append, List.foldl_append, List.filter_cons]
  by_cases h : 1 < d.left <;> simp [h]
theorem rsome_spec {p : Nat} {l : List Itm} {room k : Int} (hg : Good l) (hl : l.length ≤ 400) :
    FSpec E 17 [.sc (.p (some (p, 0))), .sc (.i .i64 k)] [Qu p l room] (fun v L' => ∃ o, v = .sc (.sl o) ∧ L' = [Qu p (foldR (l.take (cntR l k)) (l.drop (cntR l k))) room, .sl false rcE o ((l.take (cntR l k)).map Itm.r)]) := by
  refine FSpec.of (Try.func17 : Try.prog.funcs[17]? = some Try.f17) (t17_eq _ _ _) fun F => ?_
  unfold t17
  repeat (first|refine wa ?_|refine wb ?_|refine wc ?_|refine wd ?_|refine we ?_|refine wf ?_|refine wg ?_|refine wh rfl ?_|refine wi rfl ?_|refine wj rfl ?_|refine wk rfl ?_|refine wl rfl ?_|refine wm (by decide) ?_|(apply Tri.ldE; (first|exact K0|exact K1|exact K2|exact K3|exact K4|exact K5|exact K6|exact K7|exact K8|exact K9|exact K10|exact K11); (exact rfl); (exact wz rfl))|(apply Tri.stE; (first|exact K0|exact K1|exact K2|exact K3|exact K4|exact K5|exact K6|exact K7|exact K8|exact K9|exact K10|exact K11); (exact rfl); (exact wz rfl))|(apply Tri.same; (first|exact K0|exact K1|exact K2|exact K3|exact K4|exact K5|exact K6|exact K7|exact K8|exact K9|exact K10|exact K11); (exact rfl); (exact wz rfl))|refine wq fun _ => ?_)
  refine Qu.op (by first|exact K0|exact K1|exact K2|exact K3|exact K4|exact K5|exact K6|exact K7|exact K8|exact K9|exact K10|exact K11) fun o e1 e2 => ?_
  repeat (first|refine wa ?_|refine wb ?_|refine wc ?_|refine wd ?_|refine we ?_|refine wf ?_|refine wg ?_|refine wh rfl ?_|refine wi rfl ?_|refine wj rfl ?_|refine wk rfl ?_|refine wl rfl ?_|refine wm (by decide) ?_|(apply Tri.ldE; (first|exact K0|exact K1|exact K2|exact K3|exact K4|exact K5|exact K6|exact K7|exact K8|exact K9|exact K10|exact K11); (exact rfl); (exact wz rfl))|(apply Tri.stE; (first|exact K0|exact K1|exact K2|exact K3|exact K4|exact K5|exact K6|exact K7|exact K8|exact K9|exact K10|exact K11); (exact rfl); (exact wz rfl))|(apply Tri.same; (first|exact K0|exact K1|exact K2|exact K3|exact K4|exact K5|exact K6|exact K7|exact K8|exact K9|exact K10|exact K11); (exact rfl); (exact wz rfl))|refine wq fun _ => ?_)
  obtain ⟨n, hn, hns⟩ : ∃ n : Nat, maxI (minI k (slLen o)) 0 = n ∧ cntR l k = n := by
    refine ⟨cntR l k, ?_, rfl⟩
    unfold cntR maxI minI
    rw [e2]; split <;> split <;> omega
  have hnl : n ≤ l.length := by rw [← hns]; unfold cntR; omega
  rw [hns, hn]
  refine Tri.slcLds (T := itE) (o := o) (l := l) n l.length (by first|exact K0|exact K1|exact K2|exact K3|exact K4|exact K5|exact K6|exact K7|exact K8|exact K9|exact K10|exact K11) rfl rfl rfl (by omega) (by omega) fun o1 h1 => ?_
  rw [List.take_length]
  refine Tri.mkN false itE ?_
  refine Tri.app (T := itE) (o := none) (l := []) (l.drop n) (by first|exact K0|exact K1|exact K2|exact K3|exact K4|exact K5|exact K6|exact K7|exact K8|exact K9|exact K10|exact K11) rfl rfl (by simp; omega) (by decide) (by decide) (by simp [appBound]; omega) fun o2 => ?_
  repeat (first|refine wa ?_|refine wb ?_|refine wc ?_|refine wd ?_|refine we ?_|refine wf ?_|refine wg ?_|refine wh rfl ?_|refine wi rfl ?_|refine wj rfl ?_|refine wk rfl ?_|refine wl rfl ?_|refine wm (by decide) ?_|(apply Tri.ldE; (first|exact K0|exact K1|exact K2|exact K3|exact K4|exact K5|exact K6|exact K7|exact K8|exact K9|exact K10|exact K11); (exact rfl); (exact wz rfl))|(apply Tri.stE; (first|exact K0|exact K1|exact K2|exact K3|exact K4|exact K5|exact K6|exact K7|exact K8|exact K9|exact K10|exact K11); (exact rfl); (exact wz rfl))|(apply Tri.same; (first|exact K0|exact K1|exact K2|exact K3|exact K4|exact K5|exact K6|exact K7|exact K8|exact K9|exact K10|exact K11); (exact rfl); (exact wz rfl))|refine wq fun _ => ?_)
  refine Qu.mk (o := o2) (l := [] ++ l.drop n) (by first|exact K0|exact K1|exact K2|exact K3|exact K4|exact K5|exact K6|exact K7|exact K8|exact K9|exact K10|exact K11) (by first|exact K0|exact K1|exact K2|exact K3|exact K4|exact K5|exact K6|exact K7|exact K8|exact K9|exact K10|exact K11) ?_
  rw [List.nil_append]
  refine Tri.mkN false rcE ?_
  refine Tri.loop (I := fun m l' L => ∃ (D R : List Itm) (o' : Option SlD), m = n - D.length ∧ D.length ≤ n ∧ l = D ++ R ∧
    l' = [.sc (.p (some (p, 0))), .sc (.i .i64 n), .sc (.sl o), .sc (.sl o'), .sc (.i .i64 D.length)] ∧ L = Qu p (foldR D (l.drop n)) room :: .sl false rcE o' (D.map Itm.r) :: .sl false itE o l :: F)
    ⟨[], l, none, rfl, Nat.zero_le _, rfl, rfl, rfl⟩ (by repeat (first|exact Sub.refl _|exact Sub.nil _|(apply Sub.cons; (first|exact K0|exact K1|exact K2|exact K3|exact K4|exact K5|exact K6|exact K7|exact K8|exact K9|exact K10|exact K11))|apply Sub.skip)) ?_
  rintro m l' L ⟨D, R, o3, rfl, hD, hDR, rfl, rfl⟩
  have hlen : l.length = D.length + R.length := by rw [hDR]; simp
  unfold t17_b15
  repeat (first|refine wa ?_|refine wb ?_|refine wc ?_|refine wd ?_|refine we ?_|refine wf ?_|refine wg ?_|refine wh rfl ?_|refine wi rfl ?_|refine wj rfl ?_|refine wk rfl ?_|refine wl rfl ?_|refine wm (by decide) ?_|(apply Tri.ldE; (first|exact K0|exact K1|exact K2|exact K3|exact K4|exact K5|exact K6|exact K7|exact K8|exact K9|exact K10|exact K11); (exact rfl); (exact wz rfl))|(apply Tri.stE; (first|exact K0|exact K1|exact K2|exact K3|exact K4|exact K5|exact K6|exact K7|exact K8|exact K9|exact K10|exact K11); (exact rfl); (exact wz rfl))|(apply Tri.same; (first|exact K0|exact K1|exact K2|exact K3|exact K4|exact K5|exact K6|exact K7|exact K8|exact K9|exact K10|exact K11); (exact rfl); (exact wz rfl))|refine wq fun _ => ?_)
  refine Tri.cnd (fun hc => ?_) (fun hc => ?_)
  · have hc : D.length < n := by simp at hc; omega
    cases R with
    | nil => simp at hlen; omega
    | cons x R =>
      simp only [List.length_cons] at hlen
      have hx : l[D.length]? = some x := by rw [hDR]; simp
      have hb := hg.b x (by rw [hDR]; simp)
      refine Tri.ixldR (T := itE) (x := x) (k := 0) (n := 5) (by first|exact K0|exact K1|exact K2|exact K3|exact K4|exact K5|exact K6|exact K7|exact K8|exact K9|exact K10|exact K11) rfl (by omega) (by simpa using hx) (by decide) rfl ?_
      repeat (first|refine wa ?_|refine wb ?_|refine wc ?_|refine wd ?_|refine we ?_|refine wf ?_|refine wg ?_|refine wh rfl ?_|refine wi rfl ?_|refine wj rfl ?_|refine wk rfl ?_|refine wl rfl ?_|refine wm (by decide) ?_|(apply Tri.ldE; (first|exact K0|exact K1|exact K2|exact K3|exact K4|exact K5|exact K6|exact K7|exact K8|exact K9|exact K10|exact K11); (exact rfl); (exact wz rfl))|(apply Tri.stE; (first|exact K0|exact K1|exact K2|exact K3|exact K4|exact K5|exact K6|exact K7|exact K8|exact K9|exact K10|exact K11); (exact rfl); (exact wz rfl))|(apply Tri.same; (first|exact K0|exact K1|exact K2|exact K3|exact K4|exact K5|exact K6|exact K7|exact K8|exact K9|exact K10|exact K11); (exact rfl); (exact wz rfl))|refine wq fun _ => ?_)
      refine Tri.ldsD (d := ⟨_, 0, 1, 1, 5⟩) (by first|exact K0|exact K1|exact K2|exact K3|exact K4|exact K5|exact K6|exact K7|exact K8|exact K9|exact K10|exact K11) rfl (Nat.le_refl _) (Nat.le_of_ble_eq_true rfl) ?_
      refine Tri.app (T := rcE) (o := o3) [x.r] (by first|exact K0|exact K1|exact K2|exact K3|exact K4|exact K5|exact K6|exact K7|exact K8|exact K9|exact K10|exact K11) rfl rfl rfl (by decide) (by decide) (by simp [appBound]; omega) fun o' => ?_
      repeat (first|refine wa ?_|refine wb ?_|refine wc ?_|refine wd ?_|refine we ?_|refine wf ?_|refine wg ?_|refine wh rfl ?_|refine wi rfl ?_|refine wj rfl ?_|refine wk rfl ?_|refine wl rfl ?_|refine wm (by decide) ?_|(apply Tri.ldE; (first|exact K0|exact K1|exact K2|exact K3|exact K4|exact K5|exact K6|exact K7|exact K8|exact K9|exact K10|exact K11); (exact rfl); (exact wz rfl))|(apply Tri.stE; (first|exact K0|exact K1|exact K2|exact K3|exact K4|exact K5|exact K6|exact K7|exact K8|exact K9|exact K10|exact K11); (exact rfl); (exact wz rfl))|(apply Tri.same; (first|exact K0|exact K1|exact K2|exact K3|exact K4|exact K5|exact K6|exact K7|exact K8|exact K9|exact K10|exact K11); (exact rfl); (exact wz rfl))|refine wq fun _ => ?_)
      refine Tri.ixldR (T := itE) (x := x) (k := 5) (n := 1) (by first|exact K0|exact K1|exact K2|exact K3|exact K4|exact K5|exact K6|exact K7|exact K8|exact K9|exact K10|exact K11) rfl (by omega) (by simpa using hx) (by decide) rfl ?_
      repeat (first|refine wa ?_|refine wb ?_|refine wc ?_|refine wd ?_|refine we ?_|refine wf ?_|refine wg ?_|refine wh rfl ?_|refine wi rfl ?_|refine wj rfl ?_|refine wk rfl ?_|refine wl rfl ?_|refine wm (by decide) ?_|(apply Tri.ldE; (first|exact K0|exact K1|exact K2|exact K3|exact K4|exact K5|exact K6|exact K7|exact K8|exact K9|exact K10|exact K11); (exact rfl); (exact wz rfl))|(apply Tri.stE; (first|exact K0|exact K1|exact K2|exact K3|exact K4|exact K5|exact K6|exact K7|exact K8|exact K9|exact K10|exact K11); (exact rfl); (exact wz rfl))|(apply Tri.same; (first|exact K0|exact K1|exact K2|exact K3|exact K4|exact K5|exact K6|exact K7|exact K8|exact K9|exact K10|exact K11); (exact rfl); (exact wz rfl))|refine wq fun _ => ?_)
      have hs := foldR_snoc D (l.drop n) x
      have hfl := foldR_length D (l.drop n)
      rw [List.length_drop] at hfl
      refine Tri.cnd (fun h1 => ?_) (fun h1 => ?_)
      · have h1 : 1 < x.left := by simpa using h1
        rw [if_pos h1] at hs
        repeat (first|refine wa ?_|refine wb ?_|refine wc ?_|refine wd ?_|refine we ?_|refine wf ?_|refine wg ?_|refine wh rfl ?_|refine wi rfl ?_|refine wj rfl ?_|refine wk rfl ?_|refine wl rfl ?_|refine wm (by decide) ?_|(apply Tri.ldE; (first|exact K0|exact K1|exact K2|exact K3|exact K4|exact K5|exact K6|exact K7|exact K8|exact K9|exact K10|exact K11); (exact rfl); (exact wz rfl))|(apply Tri.stE; (first|exact K0|exact K1|exact K2|exact K3|exact K4|exact K5|exact K6|exact K7|exact K8|exact K9|exact K10|exact K11); (exact rfl); (exact wz rfl))|(apply Tri.same; (first|exact K0|exact K1|exact K2|exact K3|exact K4|exact K5|exact K6|exact K7|exact K8|exact K9|exact K10|exact K11); (exact rfl); (exact wz rfl))|refine wq fun _ => ?_)
        refine Tri.ixldR (T := itE) (x := x) (k := 0) (n := 5) (by first|exact K0|exact K1|exact K2|exact K3|exact K4|exact K5|exact K6|exact K7|exact K8|exact K9|exact K10|exact K11) rfl (by omega) (by simpa using hx) (by decide) rfl ?_
        repeat (first|refine wa ?_|refine wb ?_|refine wc ?_|refine wd ?_|refine we ?_|refine wf ?_|refine wg ?_|refine wh rfl ?_|refine wi rfl ?_|refine wj rfl ?_|refine wk rfl ?_|refine wl rfl ?_|refine wm (by decide) ?_|(apply Tri.ldE; (first|exact K0|exact K1|exact K2|exact K3|exact K4|exact K5|exact K6|exact K7|exact K8|exact K9|exact K10|exact K11); (exact rfl); (exact wz rfl))|(apply Tri.stE; (first|exact K0|exact K1|exact K2|exact K3|exact K4|exact K5|exact K6|exact K7|exact K8|exact K9|exact K10|exact K11); (exact rfl); (exact wz rfl))|(apply Tri.same; (first|exact K0|exact K1|exact K2|exact K3|exact K4|exact K5|exact K6|exact K7|exact K8|exact K9|exact K10|exact K11); (exact rfl); (exact wz rfl))|refine wq fun _ => ?_)
        refine Tri.ixldR (T := itE) (x := x) (k := 5) (n := 1) (by first|exact K0|exact K1|exact K2|exact K3|exact K4|exact K5|exact K6|exact K7|exact K8|exact K9|exact K10|exact K11) rfl (by omega) (by simpa using hx) (by decide) rfl ?_
        repeat (first|refine wa ?_|refine wb ?_|refine wc ?_|refine wd ?_|refine we ?_|refine wf ?_|refine wg ?_|refine wh rfl ?_|refine wi rfl ?_|refine wj rfl ?_|refine wk rfl ?_|refine wl rfl ?_|refine wm (by decide) ?_|(apply Tri.ldE; (first|exact K0|exact K1|exact K2|exact K3|exact K4|exact K5|exact K6|exact K7|exact K8|exact K9|exact K10|exact K11); (exact rfl); (exact wz rfl))|(apply Tri.stE; (first|exact K0|exact K1|exact K2|exact K3|exact K4|exact K5|exact K6|exact K7|exact K8|exact K9|exact K10|exact K11); (exact rfl); (exact wz rfl))|(apply Tri.same; (first|exact K0|exact K1|exact K2|exact K3|exact K4|exact K5|exact K6|exact K7|exact K8|exact K9|exact K10|exact K11); (exact rfl); (exact wz rfl))|refine wq fun _ => ?_)
        rw [wr_i64 (by omega) (by omega)]
        refine Tri.call (rput_spec (x := decQ x) (l := foldR D (l.drop n)) (by omega)) (by repeat (first|exact Picks.nil|(apply Picks.cons; (first|exact K0|exact K1|exact K2|exact K3|exact K4|exact K5|exact K6|exact K7|exact K8|exact K9|exact K10|exact K11)))) ?_
        rintro v L' ⟨rfl, rfl⟩
        simp only [List.cons_append, List.nil_append]
        repeat (first|refine wa ?_|refine wb ?_|refine wc ?_|refine wd ?_|refine we ?_|refine wf ?_|refine wg ?_|refine wh rfl ?_|refine wi rfl ?_|refine wj rfl ?_|refine wk rfl ?_|refine wl rfl ?_|refine wm (by decide) ?_|(apply Tri.ldE; (first|exact K0|exact K1|exact K2|exact K3|exact K4|exact K5|exact K6|exact K7|exact K8|exact K9|exact K10|exact K11); (exact rfl); (exact wz rfl))|(apply Tri.stE; (first|exact K0|exact K1|exact K2|exact K3|exact K4|exact K5|exact K6|exact K7|exact K8|exact K9|exact K10|exact K11); (exact rfl); (exact wz rfl))|(apply Tri.same; (first|exact K0|exact K1|exact K2|exact K3|exact K4|exact K5|exact K6|exact K7|exact K8|exact K9|exact K10|exact K11); (exact rfl); (exact wz rfl))|refine wq fun _ => ?_)
        rw [← hs, wr_i64 (by omega) (by omega)]
        exact Tri.back (m' := n - (D ++ [x]).length) (by simp; omega) ⟨D ++ [x], R, o', rfl, by simp; omega, by rw [hDR]; simp, by simp, rfl⟩ (by simpa using (by repeat (first|exact Sub.refl _|exact Sub.nil _|(apply Sub.cons; (first|exact K0|exact K1|exact K2|exact K3|exact K4|exact K5|exact K6|exact K7|exact K8|exact K9|exact K10|exact K11))|apply Sub.skip)))
      · have h1 : ¬ 1 < x.left := by simpa using h1
        rw [if_neg h1] at hs
        rw [← hs, wr_i64 (by omega) (by omega)]
        exact Tri.back (m' := n - (D ++ [x]).length) (by simp; omega) ⟨D ++ [x], R, o', rfl, by simp; omega, by rw [hDR]; simp, by simp, rfl⟩ (by simpa using (by repeat (first|exact Sub.refl _|exact Sub.nil _|(apply Sub.cons; (first|exact K0|exact K1|exact K2|exact K3|exact K4|exact K5|exact K6|exact K7|exact K8|exact K9|exact K10|exact K11))|apply Sub.skip)))
  · have hc : D.length = n := by simp at hc; omega
    refine Tri.exit (by decide) ?_
    unfold t17_k15
    repeat (first|refine wa ?_|refine wb ?_|refine wc ?_|refine wd ?_|refine we ?_|refine wf ?_|refine wg ?_|refine wh rfl ?_|refine wi rfl ?_|refine wj rfl ?_|refine wk rfl ?_|refine wl rfl ?_|refine wm (by decide) ?_|(apply Tri.ldE; (first|exact K0|exact K1|exact K2|exact K3|exact K4|exact K5|exact K6|exact K7|exact K8|exact K9|exact K10|exact K11); (exact rfl); (exact wz rfl))|(apply Tri.stE; (first|exact K0|exact K1|exact K2|exact K3|exact K4|exact K5|exact K6|exact K7|exact K8|exact K9|exact K10|exact K11); (exact rfl); (exact wz rfl))|(apply Tri.same; (first|exact K0|exact K1|exact K2|exact K3|exact K4|exact K5|exact K6|exact K7|exact K8|exact K9|exact K10|exact K11); (exact rfl); (exact wz rfl))|refine wq fun _ => ?_)
    have h1 : l.take n = D := by rw [hDR, ← hc]; simp
    rw [h1]
    exact Tri.retF ⟨o3, rfl, rfl⟩ (by repeat (first|exact Sub.refl _|exact Sub.nil _|(apply Sub.cons; (first|exact K0|exact K1|exact K2|exact K3|exact K4|exact K5|exact K6|exact K7|exact K8|exact K9|exact K10|exact K11))|apply Sub.skip))

/-! the two answers are one -/
theorem tw_congr {α : Type} {p q : α → Bool} : ∀ {l : List α}, (∀ y ∈ l, p y = q y) → l.takeWhile p = l.takeWhile q ∧ l.dropWhile p = l.dropWhile q
  | [], _ => ⟨rfl, rfl⟩
  | x :: l, h => by
    have h1 := h x (by simp)
    have ih := tw_congr (l := l) fun y hy => h y (by simp [hy])
    simp only [List.takeWhile_cons, List.dropWhile_cons, h1, ih, and_self]
theorem putL_ins {l : List Itm} {x : Itm} (h : Good (l ++ [x])) : putL x l = ins κ x l := by
  have hx := h.b x (by simp)
  have := tw_congr (p := bef x) (q := fun y => decide (κ y ≤ κ x)) (l := l) fun y hy => by
    have hy' := h.b y (by simp [hy])
    have hd := (List.pairwise_append.1 h.d).2.2 y hy x (by simp)
    unfold bef κ
    rw [Bool.eq_iff_iff]
    simp only [Bool.or_eq_true, Bool.and_eq_true, decide_eq_true_eq, beq_iff_eq]
    omega
  unfold putL ins
  rw [this.1, this.2]
theorem ssort_put {l : List Itm} {x : Itm} (h : Good (l ++ [x])) : putL x (ssort κ l) = ssort κ (l ++ [x]) := by
  rw [ssort_snoc]
  exact putL_ins (h.perm ((ssort_perm l).append_right [x]))
theorem ssort_perm_eq {l l' : List Itm} (h : Good l) (p : l'.Perm l) : ssort κ l' = ssort κ l := by
  refine ssort_eq ⟨srt_ssort _, fun v => ?_⟩
  have hp := ((ssort_perm l).trans p.symm).filter fun x => κ x == v
  rcases filter_one (h.perm p) v with e | ⟨x, e⟩
  · rw [e] at hp ⊢; exact hp.eq_nil
  · rw [e] at hp ⊢; exact hp.eq_singleton
theorem ssort_filter (l : List Itm) (q : Itm → Bool) : ssort κ (l.filter q) = (ssort κ l).filter q := by
  refine ssort_eq ⟨(srt_ssort l).sublist List.filter_sublist, fun v => ?_⟩
  rw [List.filter_filter, List.filter_filter]
  simp only [Bool.and_comm (κ _ == v)]
  rw [← List.filter_filter, ← List.filter_filter, (stb_ssort l).2]
theorem find_perm {l l' : List Itm} (h : Good l) (p : l'.Perm l) (id : Int) : l'.find? (isI id) = l.find? (isI id) := by
  cases hf : l.find? (isI id) with
  | none => exact List.find?_eq_none.2 fun y hy => List.find?_eq_none.1 hf y (p.mem_iff.1 hy)
  | some z =>
    have hz := List.mem_of_find?_eq_some hf
    have hz' := List.find?_some hf
    cases hf' : l'.find? (isI id) with
    | none => exact absurd hz' (List.find?_eq_none.1 hf' z (p.mem_iff.2 hz))
    | some y =>
      have hy := p.mem_iff.1 (List.mem_of_find?_eq_some hf')
      have hy' := List.find?_some hf'
      simp only [isI, beq_iff_eq] at hz' hy'
      by_cases e : y = z
      · rw [e]
      · obtain ⟨A, B, rfl⟩ := List.append_of_mem hz
        obtain ⟨_, d2, d3⟩ := List.pairwise_append.1 h.d
        obtain ⟨d4, _⟩ := List.pairwise_cons.1 d2
        rcases List.mem_append.1 hy with hy | hy
        · exact absurd (hy'.trans hz'.symm) (d3 y hy z (by simp))
        · rcases List.mem_cons.1 hy with hy | hy
          · exact absurd hy e
          · exact absurd (hz'.trans hy'.symm) (d4 y hy)
theorem take_srt {l : List Itm} (n : Nat) : ssort κ ((ssort κ l).take n) = (ssort κ l).take n := ssort_of_srt ((srt_ssort l).sublist (List.take_sublist _ _))
theorem add_same {l : List Itm} (h : Good l) (x : Itm) (room : Int) : (addR (ssort κ l) x room).1 = (addQ l x room).1 ∧ (addR (ssort κ l) x room).2 = ssort κ (addQ l x room).2 := by
  unfold addR addQ
  rw [find_perm h (ssort_perm l)]
  split
  · exact ⟨rfl, rfl⟩
  · rename_i hx
    have hx : okQ x = true := by simpa using hx
    cases hf : l.find? (isI x.r.id) with
    | none =>
      refine ⟨rfl, ?_⟩
      have hg := h.put hx fun y hy he => by have := List.find?_eq_none.1 hf y hy; simp [isI, he] at this
      simp only [putQ]
      rw [ssort_put hg, take_srt]
    | some y =>
      dsimp only
      split
      · refine ⟨rfl, ?_⟩
        have hg := (h.sub (l' := l.filter fun t => !isI x.r.id t) List.filter_sublist).put hx fun y hy he => by have := (List.mem_filter.1 hy).2; simp [isI, he] at this
        simp only [putQ]
        rw [← ssort_filter, ssort_put hg, take_srt]
      · exact ⟨rfl, rfl⟩
theorem fold_same : ∀ (D A : List Itm), Good (A ++ D) → foldR D (ssort κ A) = ssort κ (A ++ (D.map decQ).filter fun t => !decide (t.left < 1))
  | [], A, _ => by simp [foldR]
  | d :: D, A, h => by
    have hd := h.b d (by simp)
    unfold foldR
    rw [List.filter_cons, List.map_cons, List.filter_cons]
    have e : (decQ d).left = d.left - 1 := rfl
    by_cases h1 : 1 < d.left
    · have k1 : (!decide ((decQ d).left < 1)) = true := by rw [e, decide_eq_false (by omega)]; rfl
      rw [if_pos (by simpa using h1), if_pos k1, List.foldl_cons]
      have hg : Good ((A ++ [decQ d]) ++ D) := by
        refine ⟨fun x hx => ?_, ?_⟩
        · simp only [List.mem_append, List.mem_singleton] at hx
          rcases hx with (hx | rfl) | hx
          · exact h.b x (by simp [hx])
          · simp only [decQ]; omega
          · exact h.b x (by simp [hx])
        · have := h.d
          obtain ⟨d1, d2, d3⟩ := List.pairwise_append.1 this
          obtain ⟨d4, d5⟩ := List.pairwise_cons.1 d2
          rw [List.append_assoc]
          exact List.pairwise_append.2 ⟨d1, List.pairwise_cons.2 ⟨fun y hy => d4 y hy, d5⟩, fun a ha b hb => by
            have hb : b ∈ decQ d :: D := hb
            rcases List.mem_cons.1 hb with rfl | hb
            · exact d3 a ha d (by simp)
            · exact d3 a ha b (by simp [hb])⟩
      rw [ssort_put (hg.sub (by simp))]
      have := fold_same D (A ++ [decQ d]) hg
      unfold foldR at this
      rw [this]; simp
    · have k1 : ¬ (!decide ((decQ d).left < 1)) = true := by rw [e, decide_eq_true (by omega)]; decide
      rw [if_neg (by simpa using h1), if_neg k1]
      exact fold_same D A (h.sub (by simp))
theorem some_same {l : List Itm} (h : Good l) (k : Int) : foldR ((ssort κ l).take (cntR (ssort κ l) k)) ((ssort κ l).drop (cntR (ssort κ l) k)) = ssort κ (someQ l k) ∧ ((ssort κ l).take (cntR (ssort κ l) k)).map Itm.r = someR l k := by
  have hn : cntR (ssort κ l) k = someN l k := by unfold cntR someN; rw [ssort_length]
  rw [hn]
  refine ⟨?_, rfl⟩
  unfold someQ someL
  have hs := h.srt
  have hsrt := srt_ssort (κ := κ) l
  have hq := someQ_good h k
  unfold someQ someL at hq
  generalize ssort κ l = S at *
  generalize someN l k = n at *
  have hd : S.drop n = ssort κ (S.drop n) := (ssort_of_srt (hsrt.sublist (List.drop_sublist _ _))).symm
  have hg : Good (S.drop n ++ S.take n) := hs.perm (List.perm_append_comm.trans (by rw [List.take_append_drop]))
  have hf : ∀ a ∈ S.drop n, (!decide (a.left < 1)) = true := fun a ha => by
    have := hs.b a (List.mem_of_mem_drop ha)
    simp only [Bool.not_eq_true', decide_eq_false_iff_not]; omega
  have hf2 : (S.drop n).filter (fun t => !decide (t.left < 1)) = S.drop n := List.filter_eq_self.2 hf
  rw [hd, fold_same _ _ hg, ← hd, List.filter_append, hf2]
  rw [List.filter_append, hf2] at hq
  exact ssort_perm_eq hq List.perm_append_comm
end Go.Proofs.Ytphhflkpdejodaa
