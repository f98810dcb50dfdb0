/- The law QueueTimes on the abstract machine. -/
import Derived.Test.YtphhflkpdejodaaQD
import Derived.Test.YtphhflkpdejodaaQT
import Derived.Test.YtphhflkpdejodaaTreeF
namespace Go.Proofs.Ytphhflkpdejodaa
open Go Go.Proofs.Ytphhflkpdejodaa.Fw
set_option linter.unusedVariables false
set_option linter.unusedSimpArgs false

theorem add_new {l : List Itm} {x : Itm} {room : Int} (hx : okQ x = true) (hn : ∀ y ∈ l, y.r.id ≠ x.r.id) : addQ l x room = (0, putQ l x room) := by
  unfold addQ
  rw [if_neg (by simp [hx]), List.find?_eq_none.2 fun y hy => by simp [isI, hn y hy]]
theorem putQ_all {l : List Itm} {x : Itm} {room : Int} (h : (l.length : Int) + 1 ≤ room) : putQ l x room = ssort κ (l ++ [x]) := by
  unfold putQ
  rw [List.take_of_length_le]
  rw [ssort_length]; simp; omega
theorem ssort_mem {l : List Itm} {x : Itm} : x ∈ ssort κ l ↔ x ∈ l := (ssort_perm l).mem_iff
/-- how often what has an ID is told still -/
def lf (id : Int) : List Itm → Int
  | [] => 0
  | x :: l => (if x.r.id = id then x.left else 0) + lf id l
def lefts : List Itm → Int
  | [] => 0
  | x :: l => x.left + lefts l
def cnt (id : Int) : List Rc → Int
  | [] => 0
  | x :: l => (if x.id = id then 1 else 0) + cnt id l
theorem lf_app (id : Int) : ∀ l l' : List Itm, lf id (l ++ l') = lf id l + lf id l'
  | [], l' => by simp [lf]
  | x :: l, l' => by have := lf_app id l l'; simp only [List.cons_append, lf, this]; omega
theorem lefts_app : ∀ l l' : List Itm, lefts (l ++ l') = lefts l + lefts l'
  | [], l' => by simp [lefts]
  | x :: l, l' => by have := lefts_app l l'; simp only [List.cons_append, lefts, this]; omega
theorem cnt_app (id : Int) : ∀ l l' : List Rc, cnt id (l ++ l') = cnt id l + cnt id l'
  | [], l' => by simp [cnt]
  | x :: l, l' => by have := cnt_app id l l'; simp only [List.cons_append, cnt, this]; omega
theorem lf_perm (id : Int) {l l' : List Itm} (p : l.Perm l') : lf id l = lf id l' := by
  induction p with
  | nil => rfl
  | cons x _ ih => simp only [lf, ih]
  | swap x y l => simp only [lf]; omega
  | trans _ _ h1 h2 => omega
theorem lefts_perm {l l' : List Itm} (p : l.Perm l') : lefts l = lefts l' := by
  induction p with
  | nil => rfl
  | cons x _ ih => simp only [lefts, ih]
  | swap x y l => simp only [lefts]; omega
  | trans _ _ h1 h2 => omega
theorem lf_dec (id : Int) : ∀ l : List Itm, lf id (l.map decQ) = lf id l - cnt id (l.map Itm.r)
  | [] => rfl
  | x :: l => by
    have := lf_dec id l
    simp only [List.map_cons, lf, cnt, decQ] at this ⊢
    split <;> omega
theorem lefts_dec : ∀ l : List Itm, lefts (l.map decQ) = lefts l - l.length
  | [] => rfl
  | x :: l => by have := lefts_dec l; simp only [List.map_cons, lefts, decQ, List.length_cons] at this ⊢; omega
theorem lf_filter (id : Int) {p : Itm → Bool} : ∀ {l : List Itm}, (∀ x ∈ l, p x = false → x.left = 0) → lf id (l.filter p) = lf id l
  | [], _ => rfl
  | x :: l, h => by
    have ih := lf_filter id (l := l) fun y hy => h y (by simp [hy])
    rw [List.filter_cons]
    split
    · simp only [lf, ih]
    · rename_i hx
      have := h x (by simp) (by simpa using hx)
      simp only [lf, ih, this]; simp
theorem lefts_filter {p : Itm → Bool} : ∀ {l : List Itm}, (∀ x ∈ l, p x = false → x.left = 0) → lefts (l.filter p) = lefts l
  | [], _ => rfl
  | x :: l, h => by
    have ih := lefts_filter (l := l) fun y hy => h y (by simp [hy])
    rw [List.filter_cons]
    split
    · simp only [lefts, ih]
    · rename_i hx
      have := h x (by simp) (by simpa using hx)
      simp only [lefts, ih, this]; simp
theorem someL_zero {l : List Itm} (hg : Good l) (k : Int) : ∀ x ∈ someL l k, (!decide (x.left < 1)) = false → x.left = 0 := by
  intro x hx h
  have h : x.left < 1 := by simpa using h
  have hs := hg.srt
  rcases List.mem_append.1 hx with hx | hx
  · obtain ⟨y, hy, rfl⟩ := List.mem_map.1 hx
    have := hs.b y (List.mem_of_mem_take hy)
    simp only [decQ] at h ⊢; omega
  · have := hs.b x (List.mem_of_mem_drop hx); omega
theorem lf_someQ {l : List Itm} (hg : Good l) (k id : Int) : lf id (someQ l k) = lf id l - cnt id (someR l k) := by
  unfold someQ
  rw [lf_filter id (someL_zero hg k)]
  unfold someL someR
  rw [lf_app, lf_dec, ← lf_perm id (ssort_perm l)]
  have := lf_app id ((ssort κ l).take (someN l k)) ((ssort κ l).drop (someN l k))
  rw [List.take_append_drop] at this
  omega
theorem lefts_someQ {l : List Itm} (hg : Good l) (k : Int) : lefts (someQ l k) = lefts l - (someN l k : Nat) := by
  unfold someQ
  rw [lefts_filter (someL_zero hg k)]
  unfold someL
  have hn : someN l k ≤ l.length := by unfold someN; omega
  rw [lefts_app, lefts_dec, ← lefts_perm (ssort_perm l), List.length_take, ssort_length, Nat.min_eq_left hn]
  have := lefts_app ((ssort κ l).take (someN l k)) ((ssort κ l).drop (someN l k))
  rw [List.take_append_drop] at this
  omega
theorem lf_no (id : Int) : ∀ {l : List Itm}, (∀ x ∈ l, x.r.id ≠ id) → lf id l = 0
  | [], _ => rfl
  | x :: l, h => by simp only [lf, lf_no id (l := l) fun y hy => h y (by simp [hy]), if_neg (h x (by simp))]; rfl
theorem cnt_no (id : Int) : ∀ {l : List Rc}, (∀ x ∈ l, x.id ≠ id) → cnt id l = 0
  | [], _ => rfl
  | x :: l, h => by simp only [cnt, cnt_no id (l := l) fun y hy => h y (by simp [hy]), if_neg (h x (by simp))]; rfl
theorem lf_pos (id : Int) : ∀ {l : List Itm}, (∀ x ∈ l, 1 ≤ x.left) → 0 ≤ lf id l
  | [], _ => by simp [lf]
  | x :: l, h => by
    have h1 := h x (by simp)
    have h2 := lf_pos id (l := l) fun y hy => h y (by simp [hy])
    simp only [lf]; split <;> omega
theorem lefts_pos : ∀ {l : List Itm}, (∀ x ∈ l, 1 ≤ x.left) → 0 ≤ lefts l
  | [], _ => by simp [lefts]
  | x :: l, h => by
    have h1 := h x (by simp)
    have h2 := lefts_pos (l := l) fun y hy => h y (by simp [hy])
    simp only [lefts]; omega
theorem cnt_b (id : Int) : ∀ (l : List Rc), 0 ≤ cnt id l ∧ cnt id l ≤ l.length
  | [] => by simp [cnt]
  | x :: l => by
    have h2 := cnt_b id l
    simp only [cnt, List.length_cons]; split <;> omega
def boE : Enc Bool where
  z := 1
  e n := [.b n]
  len _ := rfl
def wantU (U : List By) (j : Nat) : Int := match U[j]? with | some u => 1 + u.1 % 9 | none => 0
theorem wantU_b (U : List By) (j : Nat) : 0 ≤ wantU U j ∧ wantU U j ≤ 9 := by
  unfold wantU; split <;> omega
/-- what is told, and what is to be told still -/
structure Tim (U : List By) (n : Nat) (Q : List Itm) (t : List Int) : Prop where
  g : Good Q
  l : Q.length ≤ 12
  i : ∀ x ∈ Q, x.r.id ≤ 12
  len : t.length = 13
  at_ : ∀ (j : Nat) (x : Int), j < 12 → t[j + 1]? = some x → 0 ≤ x ∧ x + lf ((j : Int) + 1) Q = if j < n then wantU U j else 0
/-- a round -/
def tmI (o1 o2 : Option SlD) (U V : List By) (p n : Nat) : Nat → List AV → List Assn → Prop := fun m l' L => ∃ (i : Nat) (Q : List Itm) (ot : Option SlD) (t : List Int),
  m = (60 - i) + (lefts Q).toNat ∧ (max i 60 : Nat) + lefts Q ≤ 168 ∧ Tim U n Q t ∧
  l' = [.sc (.sl o1), .sc (.sl o2), .sc (.b true), .sc (.p (some (p, 0))), .sc (.i .i64 n), .sc (.sl ot), .sc (.i .i64 i)] ∧ L = [Qu p Q 12, .sl false i64E ot t, .sl true byE o1 U, .sl true byE o2 V]

set_option maxRecDepth 20000 in
set_option maxHeartbeats 4000000 in
theorem round_tri {o1 o2 ot : Option SlD} {U V : List By} {p n i k m : Nat} {Q : List Itm} {t : List Int} (hm : m = (60 - i) + (lefts Q).toNat) (hb : (max i 60 : Nat) + lefts Q ≤ 168) (ht : Tim U n Q t) (hQ : 0 < Q.length) (hk : k ≤ 13) (hk3 : 60 ≤ i → k = 3) :
    Tri E [Qu p Q 12, .sl false i64E ot t, .sl true byE o1 U, .sl true byE o2 V] (t4_k43 0 [.sc (.sl o1), .sc (.sl o2), .sc (.b true), .sc (.p (some (p, 0))), .sc (.i .i64 n), .sc (.sl ot), .sc (.i .i64 i), .sc (.i .i64 k)])
      (LQ E (tmI o1 o2 U V p n) m t4_k32 (RQ [] RT)) := by
  have hg := ht.g
  have hSl := ssort_length (κ := κ) Q
  have hl0 := lefts_pos fun x hx => (hg.b x hx).2.2.1
  unfold t4_k43
  repeat (first|refine wa ?_|refine wb ?_|refine wc ?_|refine wd ?_|refine we ?_|refine wf ?_|refine wg ?_|refine wh rfl ?_|refine wi rfl ?_|refine wj rfl ?_|refine wk rfl ?_|refine wl rfl ?_|refine wm (by decide) ?_|refine wn ?_|refine wo ?_|refine wp (by decide) ?_|(apply Tri.ldE; (first|exact K0|exact K1|exact K2|exact K3|exact K4|exact K5|exact K6|exact K7|exact K8|exact K9|exact K10|exact K11); (exact rfl); (exact wz rfl))|(apply Tri.stE; (first|exact K0|exact K1|exact K2|exact K3|exact K4|exact K5|exact K6|exact K7|exact K8|exact K9|exact K10|exact K11); (exact rfl); (exact wz rfl))|(apply Tri.same; (first|exact K0|exact K1|exact K2|exact K3|exact K4|exact K5|exact K6|exact K7|exact K8|exact K9|exact K10|exact K11); (exact rfl); (exact wz rfl))|refine wq fun _ => ?_)
  refine Tri.call (some_spec (N := 12) (by decide) s12 (k := (k : Int)) hg ht.l) (by repeat (first|exact Picks.nil|(apply Picks.cons; (first|exact K0|exact K1|exact K2|exact K3|exact K4|exact K5|exact K6|exact K7|exact K8|exact K9|exact K10|exact K11)))) ?_
  rintro v L' ⟨oo, rfl, rfl⟩
  have hgn := someQ_good hg (k : Int)
  have hln := someQ_len Q (k : Int)
  have hlf := fun id => lf_someQ hg (k : Int) id
  have hls := lefts_someQ hg (k : Int)
  have hsn : someN Q (k : Int) = min k Q.length := by unfold someN; omega
  have hRl : (someR Q (k : Int)).length = min k Q.length := by unfold someR; rw [List.length_map, List.length_take, hsn, hSl]; omega
  have hRb : ∀ r ∈ someR Q (k : Int), 1 ≤ r.id ∧ r.id ≤ 12 := by
    intro r hr
    unfold someR at hr
    obtain ⟨x, hx, rfl⟩ := List.mem_map.1 hr
    have hx := ssort_mem.1 (List.mem_of_mem_take hx)
    exact ⟨(hg.b x hx).1, ht.i x hx⟩
  have hRd : (someR Q (k : Int)).Pairwise fun a b => a.id ≠ b.id := by
    unfold someR
    rw [List.pairwise_map]
    exact hg.srt.d.sublist (List.take_sublist _ _)
  have hQi : ∀ x ∈ someQ Q (k : Int), x.r.id ≤ 12 := by
    intro x hx
    rcases List.mem_append.1 (List.mem_filter.1 hx).1 with hx | hx
    · obtain ⟨y, hy, rfl⟩ := List.mem_map.1 hx
      exact ht.i y (ssort_mem.1 (List.mem_of_mem_take hy))
    · exact ht.i x (ssort_mem.1 (List.mem_of_mem_drop hx))
  generalize someR Q (k : Int) = W at *
  generalize someQ Q (k : Int) = Q' at *
  simp only [List.cons_append, List.nil_append]
  repeat (first|refine wa ?_|refine wb ?_|refine wc ?_|refine wd ?_|refine we ?_|refine wf ?_|refine wg ?_|refine wh rfl ?_|refine wi rfl ?_|refine wj rfl ?_|refine wk rfl ?_|refine wl rfl ?_|refine wm (by decide) ?_|refine wn ?_|refine wo ?_|refine wp (by decide) ?_|(apply Tri.ldE; (first|exact K0|exact K1|exact K2|exact K3|exact K4|exact K5|exact K6|exact K7|exact K8|exact K9|exact K10|exact K11); (exact rfl); (exact wz rfl))|(apply Tri.stE; (first|exact K0|exact K1|exact K2|exact K3|exact K4|exact K5|exact K6|exact K7|exact K8|exact K9|exact K10|exact K11); (exact rfl); (exact wz rfl))|(apply Tri.same; (first|exact K0|exact K1|exact K2|exact K3|exact K4|exact K5|exact K6|exact K7|exact K8|exact K9|exact K10|exact K11); (exact rfl); (exact wz rfl))|refine wq fun _ => ?_)
  refine Tri.slLen (l := W) (o := oo) (ro := false) (T := rcE) (by first|exact K0|exact K1|exact K2|exact K3|exact K4|exact K5|exact K6|exact K7|exact K8|exact K9|exact K10|exact K11) fun e1 e2 => ?_
  rw [e2]
  refine Tri.cndF (by simp; omega) ?_
  refine Tri.brT rfl ?_
  repeat (first|refine wa ?_|refine wb ?_|refine wc ?_|refine wd ?_|refine we ?_|refine wf ?_|refine wg ?_|refine wh rfl ?_|refine wi rfl ?_|refine wj rfl ?_|refine wk rfl ?_|refine wl rfl ?_|refine wm (by decide) ?_|refine wn ?_|refine wo ?_|refine wp (by decide) ?_|(apply Tri.ldE; (first|exact K0|exact K1|exact K2|exact K3|exact K4|exact K5|exact K6|exact K7|exact K8|exact K9|exact K10|exact K11); (exact rfl); (exact wz rfl))|(apply Tri.stE; (first|exact K0|exact K1|exact K2|exact K3|exact K4|exact K5|exact K6|exact K7|exact K8|exact K9|exact K10|exact K11); (exact rfl); (exact wz rfl))|(apply Tri.same; (first|exact K0|exact K1|exact K2|exact K3|exact K4|exact K5|exact K6|exact K7|exact K8|exact K9|exact K10|exact K11); (exact rfl); (exact wz rfl))|refine wq fun _ => ?_)
  rename_i a0
  refine Tri.mkS (T := boE) (ro := false) (d := ⟨a0, 0, 13, 13, 1⟩) (l := List.replicate 13 false) (by first|exact K0|exact K1|exact K2|exact K3|exact K4|exact K5|exact K6|exact K7|exact K8|exact K9|exact K10|exact K11) (SlOk.mk' rfl (Nat.le_refl _) (Nat.le_refl _) rfl) ?_
  have h13 : ∀ j : Nat, j < 13 → ∃ x, t[j]? = some x := fun j hj => ⟨_, List.getElem?_eq_getElem (by rw [ht.len]; omega)⟩
  refine Tri.loop (I := fun m l' L => ∃ (D R : List Rc) (t1 : List Int) (b1 : List Bool), m = R.length ∧ W = D ++ R ∧ t1.length = 13 ∧ b1.length = 13 ∧
      (∀ (j : Nat) (x : Int), t[j]? = some x → t1[j]? = some (x + cnt (j : Int) D)) ∧ (∀ j : Nat, j < 13 → b1[j]? = some (cnt (j : Int) D != 0)) ∧
      l' = [.sc (.sl o1), .sc (.sl o2), .sc (.b true), .sc (.p (some (p, 0))), .sc (.i .i64 n), .sc (.sl ot), .sc (.i .i64 i), .sc (.sl oo), .sc (.sl (some ⟨a0, 0, 13, 13, 1⟩)), .sc (.i .i64 D.length)] ∧
      L = [.sl false boE (some ⟨a0, 0, 13, 13, 1⟩) b1, .sl false i64E ot t1, Qu p Q' 12, .sl false rcE oo W, .sl true byE o1 U, .sl true byE o2 V])
    ⟨[], W, t, List.replicate 13 false, rfl, rfl, ht.len, rfl, fun j x hx => by simp [hx, cnt], fun j hj => by rw [List.getElem?_replicate, if_pos hj]; rfl, rfl, rfl⟩ (by repeat (first|exact Sub.refl _|exact Sub.nil _|(apply Sub.cons; (first|exact K0|exact K1|exact K2|exact K3|exact K4|exact K5|exact K6|exact K7|exact K8|exact K9|exact K10|exact K11))|apply Sub.skip)) ?_
  rintro m1 l' L ⟨D, R, t1, b1, rfl, rfl, ht1, hb1, htt, hbb, rfl, rfl⟩
  unfold t4_b63
  repeat (first|refine wa ?_|refine wb ?_|refine wc ?_|refine wd ?_|refine we ?_|refine wf ?_|refine wg ?_|refine wh rfl ?_|refine wi rfl ?_|refine wj rfl ?_|refine wk rfl ?_|refine wl rfl ?_|refine wm (by decide) ?_|refine wn ?_|refine wo ?_|refine wp (by decide) ?_|(apply Tri.ldE; (first|exact K0|exact K1|exact K2|exact K3|exact K4|exact K5|exact K6|exact K7|exact K8|exact K9|exact K10|exact K11); (exact rfl); (exact wz rfl))|(apply Tri.stE; (first|exact K0|exact K1|exact K2|exact K3|exact K4|exact K5|exact K6|exact K7|exact K8|exact K9|exact K10|exact K11); (exact rfl); (exact wz rfl))|(apply Tri.same; (first|exact K0|exact K1|exact K2|exact K3|exact K4|exact K5|exact K6|exact K7|exact K8|exact K9|exact K10|exact K11); (exact rfl); (exact wz rfl))|refine wq fun _ => ?_)
  refine Tri.slLen (l := D ++ R) (o := oo) (ro := false) (T := rcE) (by first|exact K0|exact K1|exact K2|exact K3|exact K4|exact K5|exact K6|exact K7|exact K8|exact K9|exact K10|exact K11) fun e3 e4 => ?_
  rw [e4]
  refine Tri.cnd (fun hc => ?_) (fun hc => ?_)
  · cases R with
    | nil => simp at hc
    | cons r R =>
      obtain ⟨r1, r2⟩ := hRb r (by simp)
      obtain ⟨q, hq⟩ : ∃ q : Nat, r.id = q := ⟨r.id.toNat, by omega⟩
      have hno : cnt r.id D = 0 := cnt_no _ fun x hx => (List.pairwise_append.1 hRd).2.2 x hx r (by simp)
      have hDl : D.length + (R.length + 1) ≤ 13 := by simp at hRl; omega
      obtain ⟨y, hy⟩ := h13 q (by omega)
      have hy1 := htt q y hy
      rw [← hq, hno, Int.add_zero] at hy1
      have hb2 := hbb q (by omega)
      rw [← hq, hno] at hb2
      have hyb : 0 ≤ y ∧ y ≤ 9 := by
        have := ht.at_ (q - 1) y (by omega) (by rw [show q - 1 + 1 = q by omega]; exact hy)
        have h0 := lf_pos (((q - 1 : Nat) : Int) + 1) fun x hx => (hg.b x hx).2.2.1
        have hw := wantU_b U (q - 1)
        have h9 : (if q - 1 < n then wantU U (q - 1) else 0) ≤ 9 := by split <;> omega
        omega
      refine Tri.ixldR (T := rcE) (x := r) (k := 0) (n := 1) (by first|exact K0|exact K1|exact K2|exact K3|exact K4|exact K5|exact K6|exact K7|exact K8|exact K9|exact K10|exact K11) rfl (by omega) (by rw [Int.toNat_natCast]; exact get_mid' rfl) (by decide) rfl ?_
      repeat (first|refine wa ?_|refine wb ?_|refine wc ?_|refine wd ?_|refine we ?_|refine wf ?_|refine wg ?_|refine wh rfl ?_|refine wi rfl ?_|refine wj rfl ?_|refine wk rfl ?_|refine wl rfl ?_|refine wm (by decide) ?_|refine wn ?_|refine wo ?_|refine wp (by decide) ?_|(apply Tri.ldE; (first|exact K0|exact K1|exact K2|exact K3|exact K4|exact K5|exact K6|exact K7|exact K8|exact K9|exact K10|exact K11); (exact rfl); (exact wz rfl))|(apply Tri.stE; (first|exact K0|exact K1|exact K2|exact K3|exact K4|exact K5|exact K6|exact K7|exact K8|exact K9|exact K10|exact K11); (exact rfl); (exact wz rfl))|(apply Tri.same; (first|exact K0|exact K1|exact K2|exact K3|exact K4|exact K5|exact K6|exact K7|exact K8|exact K9|exact K10|exact K11); (exact rfl); (exact wz rfl))|refine wq fun _ => ?_)
      refine Tri.cndF (by simp; omega) ?_
      refine Tri.cndF (by simp; omega) ?_
      rw [hq]
      refine Tri.ixld (T := boE) (by first|exact K0|exact K1|exact K2|exact K3|exact K4|exact K5|exact K6|exact K7|exact K8|exact K9|exact K10|exact K11) rfl (by omega) (by omega) fun x hx => ?_
      rw [Int.toNat_natCast, hb2] at hx
      cases hx
      repeat (first|refine wa ?_|refine wb ?_|refine wc ?_|refine wd ?_|refine we ?_|refine wf ?_|refine wg ?_|refine wh rfl ?_|refine wi rfl ?_|refine wj rfl ?_|refine wk rfl ?_|refine wl rfl ?_|refine wm (by decide) ?_|refine wn ?_|refine wo ?_|refine wp (by decide) ?_|(apply Tri.ldE; (first|exact K0|exact K1|exact K2|exact K3|exact K4|exact K5|exact K6|exact K7|exact K8|exact K9|exact K10|exact K11); (exact rfl); (exact wz rfl))|(apply Tri.stE; (first|exact K0|exact K1|exact K2|exact K3|exact K4|exact K5|exact K6|exact K7|exact K8|exact K9|exact K10|exact K11); (exact rfl); (exact wz rfl))|(apply Tri.same; (first|exact K0|exact K1|exact K2|exact K3|exact K4|exact K5|exact K6|exact K7|exact K8|exact K9|exact K10|exact K11); (exact rfl); (exact wz rfl))|refine wq fun _ => ?_)
      refine Tri.cndF rfl ?_
      refine Tri.ixst (T := boE) true (by first|exact K0|exact K1|exact K2|exact K3|exact K4|exact K5|exact K6|exact K7|exact K8|exact K9|exact K10|exact K11) rfl (by omega) (by omega) rfl ?_
      refine Tri.ixld (T := i64E) (o := ot) (by first|exact K0|exact K1|exact K2|exact K3|exact K4|exact K5|exact K6|exact K7|exact K8|exact K9|exact K10|exact K11) rfl (by omega) (by omega) fun x hx => ?_
      rw [Int.toNat_natCast, hy1] at hx
      cases hx
      repeat (first|refine wa ?_|refine wb ?_|refine wc ?_|refine wd ?_|refine we ?_|refine wf ?_|refine wg ?_|refine wh rfl ?_|refine wi rfl ?_|refine wj rfl ?_|refine wk rfl ?_|refine wl rfl ?_|refine wm (by decide) ?_|refine wn ?_|refine wo ?_|refine wp (by decide) ?_|(apply Tri.ldE; (first|exact K0|exact K1|exact K2|exact K3|exact K4|exact K5|exact K6|exact K7|exact K8|exact K9|exact K10|exact K11); (exact rfl); (exact wz rfl))|(apply Tri.stE; (first|exact K0|exact K1|exact K2|exact K3|exact K4|exact K5|exact K6|exact K7|exact K8|exact K9|exact K10|exact K11); (exact rfl); (exact wz rfl))|(apply Tri.same; (first|exact K0|exact K1|exact K2|exact K3|exact K4|exact K5|exact K6|exact K7|exact K8|exact K9|exact K10|exact K11); (exact rfl); (exact wz rfl))|refine wq fun _ => ?_)
      rw [wr_i64 (n := y + 1) (by omega) (by omega), wr_i64 (n := (D.length : Int) + 1) (by omega) (by omega)]
      refine Tri.ixst (T := i64E) (y + 1) (by first|exact K0|exact K1|exact K2|exact K3|exact K4|exact K5|exact K6|exact K7|exact K8|exact K9|exact K10|exact K11) rfl (by omega) (by omega) rfl ?_
      rw [Int.toNat_natCast]
      refine Tri.back (m' := R.length) (by simp) ⟨D ++ [r], R, t1.set q (y + 1), b1.set q true, rfl, by simp, by simpa using ht1, by simpa using hb1, fun j x hx => ?_, fun j hj => ?_, by simp, rfl⟩ (by repeat (first|exact Sub.refl _|exact Sub.nil _|(apply Sub.cons; (first|exact K0|exact K1|exact K2|exact K3|exact K4|exact K5|exact K6|exact K7|exact K8|exact K9|exact K10|exact K11))|apply Sub.skip))
      · rw [cnt_app]
        by_cases e : j = q
        · subst e
          rw [hy] at hx; cases hx
          rw [List.getElem?_set_self (by omega), ← hq, hno]
          simp [cnt]
        · rw [List.getElem?_set_ne (by omega), htt j x hx]
          have : cnt (j : Int) [r] = 0 := cnt_no _ fun z hz => by simp at hz; subst hz; omega
          rw [this, Int.add_zero]
      · rw [cnt_app]
        by_cases e : j = q
        · subst e
          rw [List.getElem?_set_self (by omega), ← hq, hno]
          simp [cnt]
        · rw [List.getElem?_set_ne (by omega), hbb j hj]
          have : cnt (j : Int) [r] = 0 := cnt_no _ fun z hz => by simp at hz; subst hz; omega
          rw [this, Int.add_zero]
  · have : R = [] := List.length_eq_zero_iff.1 (by simp at hc; omega)
    subst this
    rw [List.append_nil] at *
    refine Tri.exit (by decide) ?_
    unfold t4_k63
    repeat (first|refine wa ?_|refine wb ?_|refine wc ?_|refine wd ?_|refine we ?_|refine wf ?_|refine wg ?_|refine wh rfl ?_|refine wi rfl ?_|refine wj rfl ?_|refine wk rfl ?_|refine wl rfl ?_|refine wm (by decide) ?_|refine wn ?_|refine wo ?_|refine wp (by decide) ?_|(apply Tri.ldE; (first|exact K0|exact K1|exact K2|exact K3|exact K4|exact K5|exact K6|exact K7|exact K8|exact K9|exact K10|exact K11); (exact rfl); (exact wz rfl))|(apply Tri.stE; (first|exact K0|exact K1|exact K2|exact K3|exact K4|exact K5|exact K6|exact K7|exact K8|exact K9|exact K10|exact K11); (exact rfl); (exact wz rfl))|(apply Tri.same; (first|exact K0|exact K1|exact K2|exact K3|exact K4|exact K5|exact K6|exact K7|exact K8|exact K9|exact K10|exact K11); (exact rfl); (exact wz rfl))|refine wq fun _ => ?_)
    have hi : i ≤ 168 := by omega
    refine Tri.cndF (by simp; omega) ?_
    rw [wr_i64 (by omega) (by omega)]
    have hl1 := lefts_pos fun x hx => (hgn.b x hx).2.2.1
    refine Tri.back (m' := (60 - (i + 1)) + (lefts Q').toNat) ?_ ⟨i + 1, Q', ot, t1, rfl, ?_, ⟨hgn, by have := ht.l; omega, hQi, ht1, fun j x hj hx => ?_⟩, rfl, rfl⟩ (by repeat (first|exact Sub.refl _|exact Sub.nil _|(apply Sub.cons; (first|exact K0|exact K1|exact K2|exact K3|exact K4|exact K5|exact K6|exact K7|exact K8|exact K9|exact K10|exact K11))|apply Sub.skip))
    · rw [hm, hls, hsn]
      by_cases h60 : 60 ≤ i
      · have := hk3 h60; omega
      · omega
    · rw [hls, hsn]
      by_cases h60 : 60 ≤ i
      · have := hk3 h60; omega
      · omega
    · obtain ⟨y, hy⟩ := h13 (j + 1) (by omega)
      obtain ⟨h1, h2⟩ := ht.at_ j y hj hy
      have h3 := htt (j + 1) y hy
      rw [hx] at h3; cases h3
      have h4 := cnt_b (((j + 1 : Nat)) : Int) D
      have h5 := hlf ((j : Int) + 1)
      rw [show (((j + 1 : Nat)) : Int) = (j : Int) + 1 by omega] at h4 ⊢
      refine ⟨by omega, ?_⟩
      rw [h5, ← h2]; omega
set_option maxRecDepth 20000 in
set_option maxHeartbeats 4000000 in
theorem times_tri {o1 o2 : Option SlD} {U V : List By} : Tri E [.sl true byE o1 U, .sl true byE o2 V] ((fun v0 : AV => match t4 o1 o2 with | .call _ _ f => f v0 | _ => .fail) (.sc (.b true))) (RQ [] RT) := by
  unfold t4
  dsimp only
  repeat (first|refine wa ?_|refine wb ?_|refine wc ?_|refine wd ?_|refine we ?_|refine wf ?_|refine wg ?_|refine wh rfl ?_|refine wi rfl ?_|refine wj rfl ?_|refine wk rfl ?_|refine wl rfl ?_|refine wm (by decide) ?_|refine wn ?_|refine wo ?_|refine wp (by decide) ?_|(apply Tri.ldE; (first|exact K0|exact K1|exact K2|exact K3|exact K4|exact K5|exact K6|exact K7|exact K8|exact K9|exact K10|exact K11); (exact rfl); (exact wz rfl))|(apply Tri.stE; (first|exact K0|exact K1|exact K2|exact K3|exact K4|exact K5|exact K6|exact K7|exact K8|exact K9|exact K10|exact K11); (exact rfl); (exact wz rfl))|(apply Tri.same; (first|exact K0|exact K1|exact K2|exact K3|exact K4|exact K5|exact K6|exact K7|exact K8|exact K9|exact K10|exact K11); (exact rfl); (exact wz rfl))|refine wq fun _ => ?_)
  refine Tri.cndF rfl ?_
  refine Tri.call (new_ok (room := 12) (by decide) (by decide)) (by repeat (first|exact Picks.nil|(apply Picks.cons; (first|exact K0|exact K1|exact K2|exact K3|exact K4|exact K5|exact K6|exact K7|exact K8|exact K9|exact K10|exact K11)))) ?_
  rintro v L' ⟨p, rfl, rfl⟩
  simp only [List.cons_append, List.nil_append]
  repeat (first|refine wa ?_|refine wb ?_|refine wc ?_|refine wd ?_|refine we ?_|refine wf ?_|refine wg ?_|refine wh rfl ?_|refine wi rfl ?_|refine wj rfl ?_|refine wk rfl ?_|refine wl rfl ?_|refine wm (by decide) ?_|refine wn ?_|refine wo ?_|refine wp (by decide) ?_|(apply Tri.ldE; (first|exact K0|exact K1|exact K2|exact K3|exact K4|exact K5|exact K6|exact K7|exact K8|exact K9|exact K10|exact K11); (exact rfl); (exact wz rfl))|(apply Tri.stE; (first|exact K0|exact K1|exact K2|exact K3|exact K4|exact K5|exact K6|exact K7|exact K8|exact K9|exact K10|exact K11); (exact rfl); (exact wz rfl))|(apply Tri.same; (first|exact K0|exact K1|exact K2|exact K3|exact K4|exact K5|exact K6|exact K7|exact K8|exact K9|exact K10|exact K11); (exact rfl); (exact wz rfl))|refine wq fun _ => ?_)
  refine Tri.cndF rfl ?_
  refine Tri.cndF rfl ?_
  refine Tri.slLen (l := U) (o := o1) (ro := true) (T := byE) (by first|exact K0|exact K1|exact K2|exact K3|exact K4|exact K5|exact K6|exact K7|exact K8|exact K9|exact K10|exact K11) fun e1 e2 => ?_
  rw [e2]
  obtain ⟨n, hn, hn12, hnU⟩ : ∃ n : Nat, minI (U.length : Int) 12 = n ∧ n ≤ 12 ∧ n ≤ U.length := by
    unfold minI; split
    · exact ⟨12, rfl, by omega, by omega⟩
    · exact ⟨U.length, rfl, by omega, by omega⟩
  rw [hn]
  refine Tri.loop (I := fun m l' L => ∃ (i : Nat) (Q : List Itm), m = n - i ∧ i ≤ n ∧ Good Q ∧ Q.length = i ∧ (∀ x ∈ Q, x.r.id ≤ i) ∧ lefts Q ≤ 9 * i ∧ (∀ j : Nat, lf ((j : Int) + 1) Q = if j < i then wantU U j else 0) ∧
    l' = [.sc (.sl o1), .sc (.sl o2), .sc (.b true), .sc (.p (some (p, 0))), .sc (.i .i64 n), .sc (.i .i64 i)] ∧ L = [Qu p Q 12, .sl true byE o1 U, .sl true byE o2 V])
    ⟨0, [], rfl, Nat.zero_le _, Good.nil, rfl, by simp, by simp [lefts], fun j => by simp [lf], rfl, rfl⟩ (by repeat (first|exact Sub.refl _|exact Sub.nil _|(apply Sub.cons; (first|exact K0|exact K1|exact K2|exact K3|exact K4|exact K5|exact K6|exact K7|exact K8|exact K9|exact K10|exact K11))|apply Sub.skip)) ?_
  rintro m l' L ⟨i, Q, rfl, hi, hg, hQl, hQ, hle, hlf, rfl, rfl⟩
  unfold t4_b8
  repeat (first|refine wa ?_|refine wb ?_|refine wc ?_|refine wd ?_|refine we ?_|refine wf ?_|refine wg ?_|refine wh rfl ?_|refine wi rfl ?_|refine wj rfl ?_|refine wk rfl ?_|refine wl rfl ?_|refine wm (by decide) ?_|refine wn ?_|refine wo ?_|refine wp (by decide) ?_|(apply Tri.ldE; (first|exact K0|exact K1|exact K2|exact K3|exact K4|exact K5|exact K6|exact K7|exact K8|exact K9|exact K10|exact K11); (exact rfl); (exact wz rfl))|(apply Tri.stE; (first|exact K0|exact K1|exact K2|exact K3|exact K4|exact K5|exact K6|exact K7|exact K8|exact K9|exact K10|exact K11); (exact rfl); (exact wz rfl))|(apply Tri.same; (first|exact K0|exact K1|exact K2|exact K3|exact K4|exact K5|exact K6|exact K7|exact K8|exact K9|exact K10|exact K11); (exact rfl); (exact wz rfl))|refine wq fun _ => ?_)
  refine Tri.cnd (fun hc => ?_) (fun hc => ?_)
  · have hc : i < n := by simp at hc; omega
    refine Tri.ixld (T := byE) (o := o1) (by first|exact K0|exact K1|exact K2|exact K3|exact K4|exact K5|exact K6|exact K7|exact K8|exact K9|exact K10|exact K11) rfl (by omega) (by omega) fun u hu => ?_
    rw [Int.toNat_natCast] at hu
    repeat (first|refine wa ?_|refine wb ?_|refine wc ?_|refine wd ?_|refine we ?_|refine wf ?_|refine wg ?_|refine wh rfl ?_|refine wi rfl ?_|refine wj rfl ?_|refine wk rfl ?_|refine wl rfl ?_|refine wm (by decide) ?_|refine wn ?_|refine wo ?_|refine wp (by decide) ?_|(apply Tri.ldE; (first|exact K0|exact K1|exact K2|exact K3|exact K4|exact K5|exact K6|exact K7|exact K8|exact K9|exact K10|exact K11); (exact rfl); (exact wz rfl))|(apply Tri.stE; (first|exact K0|exact K1|exact K2|exact K3|exact K4|exact K5|exact K6|exact K7|exact K8|exact K9|exact K10|exact K11); (exact rfl); (exact wz rfl))|(apply Tri.same; (first|exact K0|exact K1|exact K2|exact K3|exact K4|exact K5|exact K6|exact K7|exact K8|exact K9|exact K10|exact K11); (exact rfl); (exact wz rfl))|refine wq fun _ => ?_)
    refine Tri.brT rfl ?_
    have hu2 := u.2
    rw [Int.tmod_eq_emod_of_nonneg hu2.1, wr_i64 (n := u.1 % 9) (by omega) (by omega), wr_i64 (n := 1 + u.1 % 9) (by omega) (by omega), wr_i64 (n := (i : Int) + 1) (by omega) (by omega)]
    have hx : okQ ⟨⟨(i : Int) + 1, 0, 0, 1, 1⟩, 1 + u.1 % 9⟩ = true := by simp [okQ, rightB, noneB]; omega
    have hno : ∀ y ∈ Q, y.r.id ≠ (i : Int) + 1 := fun y hy => by have := hQ y hy; omega
    refine Tri.call (add_spec (N := 12) (by decide) s12 (x := ⟨⟨(i : Int) + 1, 0, 0, 1, 1⟩, 1 + u.1 % 9⟩) (room := 12) hg (by omega) (by decide)) (by repeat (first|exact Picks.nil|(apply Picks.cons; (first|exact K0|exact K1|exact K2|exact K3|exact K4|exact K5|exact K6|exact K7|exact K8|exact K9|exact K10|exact K11)))) ?_
    rintro v L' ⟨rfl, rfl⟩
    rw [add_new hx hno, putQ_all (by omega)]
    simp only [List.cons_append, List.nil_append]
    repeat (first|refine wa ?_|refine wb ?_|refine wc ?_|refine wd ?_|refine we ?_|refine wf ?_|refine wg ?_|refine wh rfl ?_|refine wi rfl ?_|refine wj rfl ?_|refine wk rfl ?_|refine wl rfl ?_|refine wm (by decide) ?_|refine wn ?_|refine wo ?_|refine wp (by decide) ?_|(apply Tri.ldE; (first|exact K0|exact K1|exact K2|exact K3|exact K4|exact K5|exact K6|exact K7|exact K8|exact K9|exact K10|exact K11); (exact rfl); (exact wz rfl))|(apply Tri.stE; (first|exact K0|exact K1|exact K2|exact K3|exact K4|exact K5|exact K6|exact K7|exact K8|exact K9|exact K10|exact K11); (exact rfl); (exact wz rfl))|(apply Tri.same; (first|exact K0|exact K1|exact K2|exact K3|exact K4|exact K5|exact K6|exact K7|exact K8|exact K9|exact K10|exact K11); (exact rfl); (exact wz rfl))|refine wq fun _ => ?_)
    refine Tri.cndF rfl ?_
    refine Tri.back (m' := n - (i + 1)) (by omega) ⟨i + 1, _, rfl, by omega, (hg.put hx hno).srt, by rw [ssort_length]; simp [hQl], fun x hxm => ?_, ?_, fun j => ?_, rfl, rfl⟩ (by repeat (first|exact Sub.refl _|exact Sub.nil _|(apply Sub.cons; (first|exact K0|exact K1|exact K2|exact K3|exact K4|exact K5|exact K6|exact K7|exact K8|exact K9|exact K10|exact K11))|apply Sub.skip))
    · rcases List.mem_append.1 (ssort_mem.1 hxm) with hm | hm
      · have := hQ x hm; omega
      · simp at hm; subst hm; simp only; omega
    · rw [lefts_perm (ssort_perm _), lefts_app]; simp only [lefts]; omega
    · rw [lf_perm _ (ssort_perm _), lf_app, hlf j]
      simp only [lf]
      have hw : wantU U i = 1 + u.1 % 9 := by unfold wantU; rw [hu]
      by_cases e : j = i
      · subst e
        rw [if_neg (by omega), if_pos (by omega), if_pos (by omega), hw]; omega
      · rw [if_neg (by omega : ¬ (i : Int) + 1 = (j : Int) + 1)]
        by_cases e2 : j < i
        · rw [if_pos e2, if_pos (by omega)]; omega
        · rw [if_neg e2, if_neg (by omega)]; omega
  · have hc : i = n := by simp at hc; omega
    subst hc
    refine Tri.exit (by decide) ?_
    unfold t4_k8
    repeat (first|refine wa ?_|refine wb ?_|refine wc ?_|refine wd ?_|refine we ?_|refine wf ?_|refine wg ?_|refine wh rfl ?_|refine wi rfl ?_|refine wj rfl ?_|refine wk rfl ?_|refine wl rfl ?_|refine wm (by decide) ?_|refine wn ?_|refine wo ?_|refine wp (by decide) ?_|(apply Tri.ldE; (first|exact K0|exact K1|exact K2|exact K3|exact K4|exact K5|exact K6|exact K7|exact K8|exact K9|exact K10|exact K11); (exact rfl); (exact wz rfl))|(apply Tri.stE; (first|exact K0|exact K1|exact K2|exact K3|exact K4|exact K5|exact K6|exact K7|exact K8|exact K9|exact K10|exact K11); (exact rfl); (exact wz rfl))|(apply Tri.same; (first|exact K0|exact K1|exact K2|exact K3|exact K4|exact K5|exact K6|exact K7|exact K8|exact K9|exact K10|exact K11); (exact rfl); (exact wz rfl))|refine wq fun _ => ?_)
    refine Tri.brT rfl ?_
    repeat (first|refine wa ?_|refine wb ?_|refine wc ?_|refine wd ?_|refine we ?_|refine wf ?_|refine wg ?_|refine wh rfl ?_|refine wi rfl ?_|refine wj rfl ?_|refine wk rfl ?_|refine wl rfl ?_|refine wm (by decide) ?_|refine wn ?_|refine wo ?_|refine wp (by decide) ?_|(apply Tri.ldE; (first|exact K0|exact K1|exact K2|exact K3|exact K4|exact K5|exact K6|exact K7|exact K8|exact K9|exact K10|exact K11); (exact rfl); (exact wz rfl))|(apply Tri.stE; (first|exact K0|exact K1|exact K2|exact K3|exact K4|exact K5|exact K6|exact K7|exact K8|exact K9|exact K10|exact K11); (exact rfl); (exact wz rfl))|(apply Tri.same; (first|exact K0|exact K1|exact K2|exact K3|exact K4|exact K5|exact K6|exact K7|exact K8|exact K9|exact K10|exact K11); (exact rfl); (exact wz rfl))|refine wq fun _ => ?_)
    rename_i a0
    refine Tri.mkS (T := i64E) (ro := false) (d := ⟨a0, 0, 13, 13, 1⟩) (l := List.replicate 13 0) (by first|exact K0|exact K1|exact K2|exact K3|exact K4|exact K5|exact K6|exact K7|exact K8|exact K9|exact K10|exact K11) (SlOk.mk' rfl (Nat.le_refl _) (Nat.le_refl _) rfl) ?_
    have hl0 := lefts_pos fun x hx => (hg.b x hx).2.2.1
    refine Tri.loop (I := tmI o1 o2 U V p i) (L0 := [Qu p Q 12, .sl false i64E (some ⟨a0, 0, 13, 13, 1⟩) (List.replicate 13 0), .sl true byE o1 U, .sl true byE o2 V])
      ⟨0, Q, some ⟨a0, 0, 13, 13, 1⟩, List.replicate 13 0, rfl, by omega, ⟨hg, by omega, fun x hx => by have := hQ x hx; omega, rfl, fun j x hj hx => ?_⟩, rfl, rfl⟩ (by repeat (first|exact Sub.refl _|exact Sub.nil _|(apply Sub.cons; (first|exact K0|exact K1|exact K2|exact K3|exact K4|exact K5|exact K6|exact K7|exact K8|exact K9|exact K10|exact K11))|apply Sub.skip)) ?_
    · rw [List.getElem?_replicate, if_pos (by omega)] at hx
      cases hx
      exact ⟨by omega, by rw [hlf j]; omega⟩
    clear hle hlf hQ hQl hg hl0
    rintro m l' L ⟨r, Q, ot, t, hm, hb, ht, rfl, rfl⟩
    unfold t4_b32
    repeat (first|refine wa ?_|refine wb ?_|refine wc ?_|refine wd ?_|refine we ?_|refine wf ?_|refine wg ?_|refine wh rfl ?_|refine wi rfl ?_|refine wj rfl ?_|refine wk rfl ?_|refine wl rfl ?_|refine wm (by decide) ?_|refine wn ?_|refine wo ?_|refine wp (by decide) ?_|(apply Tri.ldE; (first|exact K0|exact K1|exact K2|exact K3|exact K4|exact K5|exact K6|exact K7|exact K8|exact K9|exact K10|exact K11); (exact rfl); (exact wz rfl))|(apply Tri.stE; (first|exact K0|exact K1|exact K2|exact K3|exact K4|exact K5|exact K6|exact K7|exact K8|exact K9|exact K10|exact K11); (exact rfl); (exact wz rfl))|(apply Tri.same; (first|exact K0|exact K1|exact K2|exact K3|exact K4|exact K5|exact K6|exact K7|exact K8|exact K9|exact K10|exact K11); (exact rfl); (exact wz rfl))|refine wq fun _ => ?_)
    refine Tri.call (len_spec (room := 12)) (by repeat (first|exact Picks.nil|(apply Picks.cons; (first|exact K0|exact K1|exact K2|exact K3|exact K4|exact K5|exact K6|exact K7|exact K8|exact K9|exact K10|exact K11)))) ?_
    rintro v L' ⟨rfl, rfl⟩
    simp only [List.cons_append, List.nil_append]
    repeat (first|refine wa ?_|refine wb ?_|refine wc ?_|refine wd ?_|refine we ?_|refine wf ?_|refine wg ?_|refine wh rfl ?_|refine wi rfl ?_|refine wj rfl ?_|refine wk rfl ?_|refine wl rfl ?_|refine wm (by decide) ?_|refine wn ?_|refine wo ?_|refine wp (by decide) ?_|(apply Tri.ldE; (first|exact K0|exact K1|exact K2|exact K3|exact K4|exact K5|exact K6|exact K7|exact K8|exact K9|exact K10|exact K11); (exact rfl); (exact wz rfl))|(apply Tri.stE; (first|exact K0|exact K1|exact K2|exact K3|exact K4|exact K5|exact K6|exact K7|exact K8|exact K9|exact K10|exact K11); (exact rfl); (exact wz rfl))|(apply Tri.same; (first|exact K0|exact K1|exact K2|exact K3|exact K4|exact K5|exact K6|exact K7|exact K8|exact K9|exact K10|exact K11); (exact rfl); (exact wz rfl))|refine wq fun _ => ?_)
    have hl0 := lefts_pos fun x hx => (ht.g.b x hx).2.2.1
    refine Tri.cnd (fun hq => ?_) (fun hq => ?_)
    · have hq : 0 < Q.length := by simp at hq; omega
      refine Tri.slLen (l := V) (o := o2) (ro := true) (T := byE) (by first|exact K0|exact K1|exact K2|exact K3|exact K4|exact K5|exact K6|exact K7|exact K8|exact K9|exact K10|exact K11) fun e3 e4 => ?_
      rw [e4]
      refine Tri.cnd (fun hv => ?_) (fun hv => ?_)
      · have hv : r < V.length := by simp at hv; omega
        refine Tri.join ?_
        refine Tri.cnd (fun h6 => ?_) (fun h6 => ?_)
        · have h6 : r < 60 := by simp at h6; omega
          refine Tri.ixld (T := byE) (o := o2) (by first|exact K0|exact K1|exact K2|exact K3|exact K4|exact K5|exact K6|exact K7|exact K8|exact K9|exact K10|exact K11) rfl (by omega) (by omega) fun u hu => ?_
          repeat (first|refine wa ?_|refine wb ?_|refine wc ?_|refine wd ?_|refine we ?_|refine wf ?_|refine wg ?_|refine wh rfl ?_|refine wi rfl ?_|refine wj rfl ?_|refine wk rfl ?_|refine wl rfl ?_|refine wm (by decide) ?_|refine wn ?_|refine wo ?_|refine wp (by decide) ?_|(apply Tri.ldE; (first|exact K0|exact K1|exact K2|exact K3|exact K4|exact K5|exact K6|exact K7|exact K8|exact K9|exact K10|exact K11); (exact rfl); (exact wz rfl))|(apply Tri.stE; (first|exact K0|exact K1|exact K2|exact K3|exact K4|exact K5|exact K6|exact K7|exact K8|exact K9|exact K10|exact K11); (exact rfl); (exact wz rfl))|(apply Tri.same; (first|exact K0|exact K1|exact K2|exact K3|exact K4|exact K5|exact K6|exact K7|exact K8|exact K9|exact K10|exact K11); (exact rfl); (exact wz rfl))|refine wq fun _ => ?_)
          refine Tri.brT rfl ?_
          have hu2 := u.2
          rw [Int.tmod_eq_emod_of_nonneg hu2.1, wr_i64 (n := u.1 % 14) (by omega) (by omega)]
          obtain ⟨k, hk⟩ : ∃ k : Nat, u.1 % 14 = k := ⟨(u.1 % 14).toNat, by omega⟩
          rw [hk]
          refine Tri.thru ?_
          exact Tri.sub (by repeat (first|exact Sub.refl _|exact Sub.nil _|(apply Sub.cons; (first|exact K0|exact K1|exact K2|exact K3|exact K4|exact K5|exact K6|exact K7|exact K8|exact K9|exact K10|exact K11))|apply Sub.skip)) (round_tri (k := k) hm hb ht hq (by omega) (by omega))
        · have h6 : 60 ≤ r := by simp at h6; omega
          refine Tri.thru ?_
          exact Tri.sub (by repeat (first|exact Sub.refl _|exact Sub.nil _|(apply Sub.cons; (first|exact K0|exact K1|exact K2|exact K3|exact K4|exact K5|exact K6|exact K7|exact K8|exact K9|exact K10|exact K11))|apply Sub.skip)) (round_tri (k := 3) hm hb ht hq (by omega) (fun _ => rfl))
      · refine Tri.join ?_
        refine Tri.thru ?_
        exact Tri.sub (by repeat (first|exact Sub.refl _|exact Sub.nil _|(apply Sub.cons; (first|exact K0|exact K1|exact K2|exact K3|exact K4|exact K5|exact K6|exact K7|exact K8|exact K9|exact K10|exact K11))|apply Sub.skip)) (round_tri (k := 3) hm hb ht hq (by omega) (fun _ => rfl))
    · have hq : Q = [] := List.length_eq_zero_iff.1 (by have := of_decide_eq_false hq; omega)
      subst hq
      refine Tri.exit (by decide) ?_
      unfold t4_k32
      repeat (first|refine wa ?_|refine wb ?_|refine wc ?_|refine wd ?_|refine we ?_|refine wf ?_|refine wg ?_|refine wh rfl ?_|refine wi rfl ?_|refine wj rfl ?_|refine wk rfl ?_|refine wl rfl ?_|refine wm (by decide) ?_|refine wn ?_|refine wo ?_|refine wp (by decide) ?_|(apply Tri.ldE; (first|exact K0|exact K1|exact K2|exact K3|exact K4|exact K5|exact K6|exact K7|exact K8|exact K9|exact K10|exact K11); (exact rfl); (exact wz rfl))|(apply Tri.stE; (first|exact K0|exact K1|exact K2|exact K3|exact K4|exact K5|exact K6|exact K7|exact K8|exact K9|exact K10|exact K11); (exact rfl); (exact wz rfl))|(apply Tri.same; (first|exact K0|exact K1|exact K2|exact K3|exact K4|exact K5|exact K6|exact K7|exact K8|exact K9|exact K10|exact K11); (exact rfl); (exact wz rfl))|refine wq fun _ => ?_)
      refine Tri.loop (I := fun m l' L => ∃ (j : Nat), m = i - j ∧ j ≤ i ∧ l' = [.sc (.sl o1), .sc (.b true), .sc (.i .i64 i), .sc (.sl ot), .sc (.i .i64 j)] ∧ L = [.sl false i64E ot t, .sl true byE o1 U]) ⟨0, rfl, Nat.zero_le _, rfl, rfl⟩ (by repeat (first|exact Sub.refl _|exact Sub.nil _|(apply Sub.cons; (first|exact K0|exact K1|exact K2|exact K3|exact K4|exact K5|exact K6|exact K7|exact K8|exact K9|exact K10|exact K11))|apply Sub.skip)) ?_
      rintro m l' L ⟨j, rfl, hj, rfl, rfl⟩
      unfold t4_b175
      repeat (first|refine wa ?_|refine wb ?_|refine wc ?_|refine wd ?_|refine we ?_|refine wf ?_|refine wg ?_|refine wh rfl ?_|refine wi rfl ?_|refine wj rfl ?_|refine wk rfl ?_|refine wl rfl ?_|refine wm (by decide) ?_|refine wn ?_|refine wo ?_|refine wp (by decide) ?_|(apply Tri.ldE; (first|exact K0|exact K1|exact K2|exact K3|exact K4|exact K5|exact K6|exact K7|exact K8|exact K9|exact K10|exact K11); (exact rfl); (exact wz rfl))|(apply Tri.stE; (first|exact K0|exact K1|exact K2|exact K3|exact K4|exact K5|exact K6|exact K7|exact K8|exact K9|exact K10|exact K11); (exact rfl); (exact wz rfl))|(apply Tri.same; (first|exact K0|exact K1|exact K2|exact K3|exact K4|exact K5|exact K6|exact K7|exact K8|exact K9|exact K10|exact K11); (exact rfl); (exact wz rfl))|refine wq fun _ => ?_)
      refine Tri.cnd (fun hc => ?_) (fun hc => ?_)
      · have hc : j < i := by simp at hc; omega
        have hlen := ht.len
        have hw : IntKind.wrap .i64 ((j : Int) + 1) = ((j + 1 : Nat) : Int) := by rw [wr_i64 (by omega) (by omega)]; rfl
        rw [hw]
        refine Tri.ixld (T := i64E) (o := ot) (by first|exact K0|exact K1|exact K2|exact K3|exact K4|exact K5|exact K6|exact K7|exact K8|exact K9|exact K10|exact K11) rfl (by omega) (by omega) fun x hx => ?_
        rw [Int.toNat_natCast] at hx
        repeat (first|refine wa ?_|refine wb ?_|refine wc ?_|refine wd ?_|refine we ?_|refine wf ?_|refine wg ?_|refine wh rfl ?_|refine wi rfl ?_|refine wj rfl ?_|refine wk rfl ?_|refine wl rfl ?_|refine wm (by decide) ?_|refine wn ?_|refine wo ?_|refine wp (by decide) ?_|(apply Tri.ldE; (first|exact K0|exact K1|exact K2|exact K3|exact K4|exact K5|exact K6|exact K7|exact K8|exact K9|exact K10|exact K11); (exact rfl); (exact wz rfl))|(apply Tri.stE; (first|exact K0|exact K1|exact K2|exact K3|exact K4|exact K5|exact K6|exact K7|exact K8|exact K9|exact K10|exact K11); (exact rfl); (exact wz rfl))|(apply Tri.same; (first|exact K0|exact K1|exact K2|exact K3|exact K4|exact K5|exact K6|exact K7|exact K8|exact K9|exact K10|exact K11); (exact rfl); (exact wz rfl))|refine wq fun _ => ?_)
        refine Tri.ixld (T := byE) (o := o1) (by first|exact K0|exact K1|exact K2|exact K3|exact K4|exact K5|exact K6|exact K7|exact K8|exact K9|exact K10|exact K11) rfl (by omega) (by omega) fun u hu => ?_
        rw [Int.toNat_natCast] at hu
        repeat (first|refine wa ?_|refine wb ?_|refine wc ?_|refine wd ?_|refine we ?_|refine wf ?_|refine wg ?_|refine wh rfl ?_|refine wi rfl ?_|refine wj rfl ?_|refine wk rfl ?_|refine wl rfl ?_|refine wm (by decide) ?_|refine wn ?_|refine wo ?_|refine wp (by decide) ?_|(apply Tri.ldE; (first|exact K0|exact K1|exact K2|exact K3|exact K4|exact K5|exact K6|exact K7|exact K8|exact K9|exact K10|exact K11); (exact rfl); (exact wz rfl))|(apply Tri.stE; (first|exact K0|exact K1|exact K2|exact K3|exact K4|exact K5|exact K6|exact K7|exact K8|exact K9|exact K10|exact K11); (exact rfl); (exact wz rfl))|(apply Tri.same; (first|exact K0|exact K1|exact K2|exact K3|exact K4|exact K5|exact K6|exact K7|exact K8|exact K9|exact K10|exact K11); (exact rfl); (exact wz rfl))|refine wq fun _ => ?_)
        refine Tri.brT rfl ?_
        have hu2 := u.2
        have h1 := (ht.at_ j x (by omega) hx).2
        rw [if_pos hc] at h1
        have hwu : wantU U j = 1 + u.1 % 9 := by unfold wantU; rw [hu]
        simp only [lf] at h1
        rw [Int.tmod_eq_emod_of_nonneg hu2.1, wr_i64 (n := u.1 % 9) (by omega) (by omega), wr_i64 (n := 1 + u.1 % 9) (by omega) (by omega)]
        refine Tri.cndF (by simp; omega) ?_
        exact Tri.back (m' := i - (j + 1)) (by omega) ⟨j + 1, rfl, by omega, rfl, rfl⟩ (by repeat (first|exact Sub.refl _|exact Sub.nil _|(apply Sub.cons; (first|exact K0|exact K1|exact K2|exact K3|exact K4|exact K5|exact K6|exact K7|exact K8|exact K9|exact K10|exact K11))|apply Sub.skip))
      · refine Tri.exit (by decide) ?_
        unfold t4_k175
        repeat (first|refine wa ?_|refine wb ?_|refine wc ?_|refine wd ?_|refine we ?_|refine wf ?_|refine wg ?_|refine wh rfl ?_|refine wi rfl ?_|refine wj rfl ?_|refine wk rfl ?_|refine wl rfl ?_|refine wm (by decide) ?_|refine wn ?_|refine wo ?_|refine wp (by decide) ?_|(apply Tri.ldE; (first|exact K0|exact K1|exact K2|exact K3|exact K4|exact K5|exact K6|exact K7|exact K8|exact K9|exact K10|exact K11); (exact rfl); (exact wz rfl))|(apply Tri.stE; (first|exact K0|exact K1|exact K2|exact K3|exact K4|exact K5|exact K6|exact K7|exact K8|exact K9|exact K10|exact K11); (exact rfl); (exact wz rfl))|(apply Tri.same; (first|exact K0|exact K1|exact K2|exact K3|exact K4|exact K5|exact K6|exact K7|exact K8|exact K9|exact K10|exact K11); (exact rfl); (exact wz rfl))|refine wq fun _ => ?_)
        exact Tri.retF (L1 := []) rfl (Sub.nil _)
theorem times_run (o1 o2 : Option SlD) (U V : List By) (c1 c2 : List Sc) (hst : ∀ H' : AH, H'.obj 0 = some (.cells true c1) → H'.obj 1 = some (.cells true c2) → 1 < H'.next → Star H' [.sl true byE (oat 0 o1) U, .sl true byE (oat 1 o2) V]) :
    ∃ n H1, callA Try.prog T hs n 4 [.sc (.sl (oat 0 o1)), .sc (.sl (oat 1 o2))] (HB c1 c2) = some (.sc (.b true), H1) := by
  refine law_fin (E := E) (Try.func4 : Try.prog.funcs[4]? = some Try.f4) (t4_eq (oat 0 o1) (oat 1 o2)) ?_
  refine CallWp.mono (exW2 _) ?_
  rintro v H' ⟨rfl, h0, h1, hn⟩
  exact Tri.fin times_tri (hst H' h0 h1 hn)
end Go.Proofs.Ytphhflkpdejodaa
