/- What the document's answer comes to: at, Out. -/
import Derived.Test.YtloiifcocgpnbaaNR
namespace Go.Proofs.Ytloiifcocgpnbaa
open Go Go.Proofs.Ytloiifcocgpnbaa.Fw
set_option linter.unusedVariables false
set_option linter.unusedSimpArgs false
def Ris (l : List Bd) : Prop := l.Pairwise fun a b => a.port < b.port
def gapB (l : List Bd) : Nat := (freeB l - 20000).toNat
def atB (b : Bx) (inn key : Ad) : List Bd × Nat := match idxB (isK inn key) b.l with
  | some i => (b.l, i)
  | none => ((evictB b).take (gapB (evictB b)) ++ ⟨inn, key, freeB (evictB b), [], 0⟩ :: (evictB b).drop (gapB (evictB b)), gapB (evictB b))
theorem Ris.get {l : List Bd} (h : Ris l) {i j : Nat} {x y : Bd} (hij : i < j) (hx : l[i]? = some x) (hy : l[j]? = some y) : x.port < y.port := by
  obtain ⟨hi, rfl⟩ := List.getElem?_eq_some_iff.1 hx
  obtain ⟨hj, rfl⟩ := List.getElem?_eq_some_iff.1 hy
  exact List.pairwise_iff_getElem.1 h i j hi hj hij
theorem free_at {l : List Bd} (h : Ris l) (h0 : ∀ x ∈ l, 20000 ≤ x.port) {k : Nat} (hk : k ≤ l.length) (hlt : ∀ (j : Nat) (x : Bd), j < k → l[j]? = some x → x.port = 20000 + (j : Int)) (hne : ∀ x, l[k]? = some x → x.port ≠ 20000 + (k : Int)) : freeB l = 20000 + (k : Int) := by
  obtain ⟨f1, f2, f3, f4⟩ := freeB_ok l
  have hun : usedB l (20000 + (k : Int)) = false := by
    rw [Bool.eq_false_iff]
    intro hu
    obtain ⟨x, hx, hxp⟩ := used_iff.1 hu
    obtain ⟨j, hj, rfl⟩ := List.getElem_of_mem hx
    have hj' : l[j]? = some l[j] := List.getElem?_eq_getElem hj
    rcases Nat.lt_trichotomy j k with hjk | rfl | hjk
    · have := hlt j _ hjk hj'; omega
    · exact hne _ hj' hxp
    · have hkl : k < l.length := by omega
      have hk' : l[k]? = some l[k] := List.getElem?_eq_getElem hkl
      have h1 := h.get hjk hk' hj'
      have h2 := hne _ hk'
      have h3 : 20000 + (k : Int) ≤ l[k].port := by
        cases k with
        | zero => have := h0 l[0] (List.getElem_mem _); simp; omega
        | succ k =>
          have hp' : l[k]? = some l[k] := List.getElem?_eq_getElem (by omega)
          have := h.get (Nat.lt_succ_self k) hp' hk'
          have := hlt k _ (Nat.lt_succ_self k) hp'
          omega
      omega
  rcases Int.lt_trichotomy (freeB l) (20000 + (k : Int)) with hc | hc | hc
  · obtain ⟨j, hj⟩ := Int.eq_ofNat_of_zero_le (show 0 ≤ freeB l - 20000 by omega)
    have hjk : j < k := by omega
    have hj' : l[j]? = some l[j] := List.getElem?_eq_getElem (by omega)
    have := hlt j _ hjk hj'
    have hu : usedB l (freeB l) = true := used_iff.2 ⟨_, List.mem_of_getElem? hj', by omega⟩
    rw [f1] at hu; cases hu
  · exact hc
  · have := f4 (20000 + (k : Int)) (by omega) hc
    rw [hun] at this; cases this
theorem cut_filter {l : List Bd} (h : Ris l) {k : Nat} {m : Bd} (hk : l[k]? = some m) : l.take k ++ l.drop (k + 1) = l.filter fun y => !(y.port == m.port) := by
  have e : l = l.take k ++ m :: l.drop (k + 1) := by
    obtain ⟨hkl, rfl⟩ := List.getElem?_eq_some_iff.1 hk
    rw [← List.drop_eq_getElem_cons hkl, List.take_append_drop]
  have hr := h
  unfold Ris at hr
  rw [e] at hr
  obtain ⟨_, h2, h3⟩ := List.pairwise_append.1 hr
  obtain ⟨h4, _⟩ := List.pairwise_cons.1 h2
  conv => rhs; rw [e]
  rw [List.filter_append, List.filter_cons, if_neg (by simp), List.filter_eq_self.2 fun a ha => ?_, List.filter_eq_self.2 fun a ha => ?_]
  · have := h4 a ha; simp; omega
  · have := h3 a ha m (by simp); simp; omega
theorem Ris.evict {b : Bx} (h : Ris b.l) : Ris (evictB b) := List.Pairwise.sublist (evict_sublist b) h
set_option maxRecDepth 20000 in
set_option maxHeartbeats 4000000 in
theorem rat_spec {p : Nat} {b : Bx} {inn key : Ad} (hi : BI b) (hpt : Pt b.l b.room) (hris : Ris b.l) : FSpec E 49 [.sc (.p (some (p, 0))), .ag (adE.e inn), .ag (adE.e key)] [Bo p b]
    (fun v L' => v = .sc (.i .i64 (atB b inn key).2) ∧ L' = [Bo p { b with l := (atB b inn key).1 }]) := by
  refine FSpec.of (Try.func49 : Try.prog.funcs[49]? = some Try.f49) (t49_eq _ _ _ _ _ _) fun F => ?_
  have hb := hi.b90
  have hr2 := hi.r2
  have hr1 := hi.r1
  unfold t49
  refine Tri.al fun a0 => ?_
  refine Tri.al fun a1 => ?_
  refine Bo.op (by first|exact K0|exact K1|exact K2|exact K3|exact K4|exact K5|exact K6|exact K7|exact K8) fun o l hl hn e1 => ?_
  refine Tri.loop (I := fun m l' L => ∃ D R : List Bm, m = R.length ∧ l = D ++ R ∧ (∀ y ∈ D, isK inn key y.d = false) ∧ l' = [.sc (.p (some (p, 0))), .sc (.p (some (a0, 0))), .sc (.p (some (a1, 0))), .sc (.i .i64 D.length)] ∧
    L = pt p (bxC b o) :: .sl false bmE o l :: Mets l :: pt a0 (adE.e inn) :: pt a1 (adE.e key) :: F) ⟨[], l, rfl, rfl, by simp, rfl, rfl⟩ (by repeat (first|exact Sub.refl _|exact Sub.nil _|(apply Sub.cons; (first|exact K0|exact K1|exact K2|exact K3|exact K4|exact K5|exact K6|exact K7|exact K8))|apply Sub.skip)) ?_
  rintro m l' L ⟨D, R, rfl, hDR, hD, rfl, rfl⟩
  have hlc : l.length = D.length + R.length := by rw [hDR]; simp
  unfold t49_b2
  repeat (first|refine wa ?_|refine wb ?_|refine wc ?_|refine wd ?_|refine we ?_|refine wf ?_|refine wg ?_|refine wh rfl ?_|refine wi rfl ?_|refine wj rfl ?_|refine wk rfl ?_|refine wl rfl ?_|refine wm (by decide) ?_|(apply Tri.ldE; (first|exact K0|exact K1|exact K2|exact K3|exact K4|exact K5|exact K6|exact K7|exact K8); (exact rfl); (exact wz rfl))|(apply Tri.stE; (first|exact K0|exact K1|exact K2|exact K3|exact K4|exact K5|exact K6|exact K7|exact K8); (exact rfl); (exact wz rfl))|(apply Tri.same; (first|exact K0|exact K1|exact K2|exact K3|exact K4|exact K5|exact K6|exact K7|exact K8); (exact rfl); (exact wz rfl))|refine wq fun _ => ?_)
  rw [e1]
  cases R with
  | cons x R =>
    simp only [List.length_cons] at hlc
    have hx : l[D.length]? = some x := by rw [hDR]; simp
    have hwr : IntKind.wrap .i64 ((D.length : Int) + 1) = ((D ++ [x]).length : Int) := by rw [wr_i64 (by omega) (by omega)]; simp
    refine Tri.cndT (by simp; omega) ?_
    repeat (first|refine wa ?_|refine wb ?_|refine wc ?_|refine wd ?_|refine we ?_|refine wf ?_|refine wg ?_|refine wh rfl ?_|refine wi rfl ?_|refine wj rfl ?_|refine wk rfl ?_|refine wl rfl ?_|refine wm (by decide) ?_|(apply Tri.ldE; (first|exact K0|exact K1|exact K2|exact K3|exact K4|exact K5|exact K6|exact K7|exact K8); (exact rfl); (exact wz rfl))|(apply Tri.stE; (first|exact K0|exact K1|exact K2|exact K3|exact K4|exact K5|exact K6|exact K7|exact K8); (exact rfl); (exact wz rfl))|(apply Tri.same; (first|exact K0|exact K1|exact K2|exact K3|exact K4|exact K5|exact K6|exact K7|exact K8); (exact rfl); (exact wz rfl))|refine wq fun _ => ?_)
    refine Tri.ixldR (T := bmE) (o := o) (x := x) (k := 0) (n := 2) (by first|exact K0|exact K1|exact K2|exact K3|exact K4|exact K5|exact K6|exact K7|exact K8) rfl (by omega) (by rw [Int.toNat_natCast]; exact hx) (by decide) rfl ?_
    repeat (first|refine wa ?_|refine wb ?_|refine wc ?_|refine wd ?_|refine we ?_|refine wf ?_|refine wg ?_|refine wh rfl ?_|refine wi rfl ?_|refine wj rfl ?_|refine wk rfl ?_|refine wl rfl ?_|refine wm (by decide) ?_|(apply Tri.ldE; (first|exact K0|exact K1|exact K2|exact K3|exact K4|exact K5|exact K6|exact K7|exact K8); (exact rfl); (exact wz rfl))|(apply Tri.stE; (first|exact K0|exact K1|exact K2|exact K3|exact K4|exact K5|exact K6|exact K7|exact K8); (exact rfl); (exact wz rfl))|(apply Tri.same; (first|exact K0|exact K1|exact K2|exact K3|exact K4|exact K5|exact K6|exact K7|exact K8); (exact rfl); (exact wz rfl))|refine wq fun _ => ?_)
    rw [hwr]
    refine Tri.cnd (fun h1 => ?_) (fun h1 => ?_)
    · rw [ad_eq (a := x.d.inn) (b := inn)] at h1
      repeat (first|refine wa ?_|refine wb ?_|refine wc ?_|refine wd ?_|refine we ?_|refine wf ?_|refine wg ?_|refine wh rfl ?_|refine wi rfl ?_|refine wj rfl ?_|refine wk rfl ?_|refine wl rfl ?_|refine wm (by decide) ?_|(apply Tri.ldE; (first|exact K0|exact K1|exact K2|exact K3|exact K4|exact K5|exact K6|exact K7|exact K8); (exact rfl); (exact wz rfl))|(apply Tri.stE; (first|exact K0|exact K1|exact K2|exact K3|exact K4|exact K5|exact K6|exact K7|exact K8); (exact rfl); (exact wz rfl))|(apply Tri.same; (first|exact K0|exact K1|exact K2|exact K3|exact K4|exact K5|exact K6|exact K7|exact K8); (exact rfl); (exact wz rfl))|refine wq fun _ => ?_)
      refine Tri.ixldR (T := bmE) (o := o) (x := x) (k := 2) (n := 2) (by first|exact K0|exact K1|exact K2|exact K3|exact K4|exact K5|exact K6|exact K7|exact K8) rfl (by omega) (by rw [Int.toNat_natCast]; exact hx) (by decide) rfl ?_
      repeat (first|refine wa ?_|refine wb ?_|refine wc ?_|refine wd ?_|refine we ?_|refine wf ?_|refine wg ?_|refine wh rfl ?_|refine wi rfl ?_|refine wj rfl ?_|refine wk rfl ?_|refine wl rfl ?_|refine wm (by decide) ?_|(apply Tri.ldE; (first|exact K0|exact K1|exact K2|exact K3|exact K4|exact K5|exact K6|exact K7|exact K8); (exact rfl); (exact wz rfl))|(apply Tri.stE; (first|exact K0|exact K1|exact K2|exact K3|exact K4|exact K5|exact K6|exact K7|exact K8); (exact rfl); (exact wz rfl))|(apply Tri.same; (first|exact K0|exact K1|exact K2|exact K3|exact K4|exact K5|exact K6|exact K7|exact K8); (exact rfl); (exact wz rfl))|refine wq fun _ => ?_)
      refine Tri.cnd (fun h2 => ?_) (fun h2 => ?_)
      · rw [ad_eq (a := x.d.key) (b := key)] at h2
        have hidx : idxB (isK inn key) b.l = some D.length := by
          have h3 := idxB_mid (q := isK inn key) (D := D.map Bm.d) (R := R.map Bm.d) (x := x.d) (fun z hz => by
            obtain ⟨w, hw, rfl⟩ := List.mem_map.1 hz
            exact hD w hw) (by simp [isK]; exact ⟨by simpa using h1, by simpa using h2⟩)
          rw [← hl, hDR, List.map_append, List.map_cons, h3, List.length_map]
        have hat : atB b inn key = (b.l, D.length) := by unfold atB; rw [hidx]
        rw [hat]
        refine Tri.exit (by decide) ?_
        unfold t49_k2
        repeat (first|refine wa ?_|refine wb ?_|refine wc ?_|refine wd ?_|refine we ?_|refine wf ?_|refine wg ?_|refine wh rfl ?_|refine wi rfl ?_|refine wj rfl ?_|refine wk rfl ?_|refine wl rfl ?_|refine wm (by decide) ?_|(apply Tri.ldE; (first|exact K0|exact K1|exact K2|exact K3|exact K4|exact K5|exact K6|exact K7|exact K8); (exact rfl); (exact wz rfl))|(apply Tri.stE; (first|exact K0|exact K1|exact K2|exact K3|exact K4|exact K5|exact K6|exact K7|exact K8); (exact rfl); (exact wz rfl))|(apply Tri.same; (first|exact K0|exact K1|exact K2|exact K3|exact K4|exact K5|exact K6|exact K7|exact K8); (exact rfl); (exact wz rfl))|refine wq fun _ => ?_)
        refine Bo.mk (b := b) hl (by first|exact K0|exact K1|exact K2|exact K3|exact K4|exact K5|exact K6|exact K7|exact K8) (by first|exact K0|exact K1|exact K2|exact K3|exact K4|exact K5|exact K6|exact K7|exact K8) (by first|exact K0|exact K1|exact K2|exact K3|exact K4|exact K5|exact K6|exact K7|exact K8) ?_
        exact Tri.retF ⟨rfl, rfl⟩ (by repeat (first|exact Sub.refl _|exact Sub.nil _|(apply Sub.cons; (first|exact K0|exact K1|exact K2|exact K3|exact K4|exact K5|exact K6|exact K7|exact K8))|apply Sub.skip))
      · rw [ad_eq (a := x.d.key) (b := key)] at h2
        exact Tri.back (m' := R.length) (by simp) ⟨D ++ [x], R, rfl, by rw [hDR]; simp, fun z hz => (List.mem_append.1 hz).elim (hD z) fun hz => by simp at hz; subst hz; simp [isK]; exact fun _ => by simpa using h2, rfl, rfl⟩ (by repeat (first|exact Sub.refl _|exact Sub.nil _|(apply Sub.cons; (first|exact K0|exact K1|exact K2|exact K3|exact K4|exact K5|exact K6|exact K7|exact K8))|apply Sub.skip))
    · rw [ad_eq (a := x.d.inn) (b := inn)] at h1
      exact Tri.back (m' := R.length) (by simp) ⟨D ++ [x], R, rfl, by rw [hDR]; simp, fun z hz => (List.mem_append.1 hz).elim (hD z) fun hz => by simp at hz; subst hz; simp [isK]; exact fun h => by simp [h] at h1, rfl, rfl⟩ (by repeat (first|exact Sub.refl _|exact Sub.nil _|(apply Sub.cons; (first|exact K0|exact K1|exact K2|exact K3|exact K4|exact K5|exact K6|exact K7|exact K8))|apply Sub.skip))
  | nil =>
    have hidx : idxB (isK inn key) b.l = none := idxB_none fun x hx => by
      rw [← hl, hDR, List.append_nil] at hx
      obtain ⟨y, hy, rfl⟩ := List.mem_map.1 hx
      exact hD y hy
    have hat : atB b inn key = ((evictB b).take (gapB (evictB b)) ++ ⟨inn, key, freeB (evictB b), [], 0⟩ :: (evictB b).drop (gapB (evictB b)), gapB (evictB b)) := by unfold atB; rw [hidx]
    have hev := evict_lt hi
    have hevl := evict_len b
    have hpe := hpt.sub (evict_sublist b)
    have hre := hris.evict
    rw [hat]
    refine Tri.cndF (by simp at hlc; simp; omega) ?_
    refine Tri.exit (by decide) ?_
    unfold t49_k2
    repeat (first|refine wa ?_|refine wb ?_|refine wc ?_|refine wd ?_|refine we ?_|refine wf ?_|refine wg ?_|refine wh rfl ?_|refine wi rfl ?_|refine wj rfl ?_|refine wk rfl ?_|refine wl rfl ?_|refine wm (by decide) ?_|(apply Tri.ldE; (first|exact K0|exact K1|exact K2|exact K3|exact K4|exact K5|exact K6|exact K7|exact K8); (exact rfl); (exact wz rfl))|(apply Tri.stE; (first|exact K0|exact K1|exact K2|exact K3|exact K4|exact K5|exact K6|exact K7|exact K8); (exact rfl); (exact wz rfl))|(apply Tri.same; (first|exact K0|exact K1|exact K2|exact K3|exact K4|exact K5|exact K6|exact K7|exact K8); (exact rfl); (exact wz rfl))|refine wq fun _ => ?_)
    -- the gap
    have rest : Tri E (Bo p { b with l := evictB b } :: pt a0 (adE.e inn) :: pt a1 (adE.e key) :: F) (t49_k72 0 [.sc (.p (some (p, 0))), .sc (.p (some (a0, 0))), .sc (.p (some (a1, 0)))])
        (RQ F fun v L' => v = .sc (.i .i64 (gapB (evictB b))) ∧ L' = [Bo p { b with l := (evictB b).take (gapB (evictB b)) ++ ⟨inn, key, freeB (evictB b), [], 0⟩ :: (evictB b).drop (gapB (evictB b)) }]) := by
      generalize evictB b = l1 at *
      unfold t49_k72
      repeat (first|refine wa ?_|refine wb ?_|refine wc ?_|refine wd ?_|refine we ?_|refine wf ?_|refine wg ?_|refine wh rfl ?_|refine wi rfl ?_|refine wj rfl ?_|refine wk rfl ?_|refine wl rfl ?_|refine wm (by decide) ?_|(apply Tri.ldE; (first|exact K0|exact K1|exact K2|exact K3|exact K4|exact K5|exact K6|exact K7|exact K8); (exact rfl); (exact wz rfl))|(apply Tri.stE; (first|exact K0|exact K1|exact K2|exact K3|exact K4|exact K5|exact K6|exact K7|exact K8); (exact rfl); (exact wz rfl))|(apply Tri.same; (first|exact K0|exact K1|exact K2|exact K3|exact K4|exact K5|exact K6|exact K7|exact K8); (exact rfl); (exact wz rfl))|refine wq fun _ => ?_)
      refine Bo.op (by first|exact K0|exact K1|exact K2|exact K3|exact K4|exact K5|exact K6|exact K7|exact K8) fun o l hl hn e1 => ?_
      simp only at hl hn e1
      have hml : ∀ (j : Nat) (x : Bm), l[j]? = some x → l1[j]? = some x.d := fun j x h => by rw [← hl, List.getElem?_map, h]; rfl
      refine Tri.loop (I := fun m l' L => ∃ k : Nat, m = l.length - k ∧ k ≤ l.length ∧ (∀ (j : Nat) (x : Bd), j < k → l1[j]? = some x → x.port = 20000 + (j : Int)) ∧ l' = [.sc (.p (some (p, 0))), .sc (.p (some (a0, 0))), .sc (.p (some (a1, 0))), .sc (.i .i64 k)] ∧
        L = pt p (bxC b o) :: .sl false bmE o l :: Mets l :: pt a0 (adE.e inn) :: pt a1 (adE.e key) :: F) ⟨0, rfl, Nat.zero_le _, fun j x h => by omega, rfl, rfl⟩ (by repeat (first|exact Sub.refl _|exact Sub.nil _|(apply Sub.cons; (first|exact K0|exact K1|exact K2|exact K3|exact K4|exact K5|exact K6|exact K7|exact K8))|apply Sub.skip)) ?_
      rintro m l' L ⟨k, rfl, hkl, hlt, rfl, rfl⟩
      have fin : (∀ x, l1[k]? = some x → x.port ≠ 20000 + (k : Int)) → Tri E (pt p (bxC b o) :: .sl false bmE o l :: Mets l :: pt a0 (adE.e inn) :: pt a1 (adE.e key) :: F) (t49_k131 10 [.sc (.p (some (p, 0))), .sc (.p (some (a0, 0))), .sc (.p (some (a1, 0))), .sc (.i .i64 k)])
          (RQ F fun v L' => v = .sc (.i .i64 (gapB l1)) ∧ L' = [Bo p { b with l := l1.take (gapB l1) ++ ⟨inn, key, freeB l1, [], 0⟩ :: l1.drop (gapB l1) }]) := by
        intro hne
        have hfr := free_at hre (fun x hx => (hpe.r x hx).1) (by omega) hlt hne
        have hgap : gapB l1 = k := by unfold gapB; omega
        unfold t49_k131
        repeat (first|refine wa ?_|refine wb ?_|refine wc ?_|refine wd ?_|refine we ?_|refine wf ?_|refine wg ?_|refine wh rfl ?_|refine wi rfl ?_|refine wj rfl ?_|refine wk rfl ?_|refine wl rfl ?_|refine wm (by decide) ?_|(apply Tri.ldE; (first|exact K0|exact K1|exact K2|exact K3|exact K4|exact K5|exact K6|exact K7|exact K8); (exact rfl); (exact wz rfl))|(apply Tri.stE; (first|exact K0|exact K1|exact K2|exact K3|exact K4|exact K5|exact K6|exact K7|exact K8); (exact rfl); (exact wz rfl))|(apply Tri.same; (first|exact K0|exact K1|exact K2|exact K3|exact K4|exact K5|exact K6|exact K7|exact K8); (exact rfl); (exact wz rfl))|refine wq fun _ => ?_)
        refine Tri.slcLds (T := bmE) (o := o) (l := l) 0 k (by first|exact K0|exact K1|exact K2|exact K3|exact K4|exact K5|exact K6|exact K7|exact K8) rfl rfl rfl (by omega) (by omega) fun o2 h2 => ?_
        refine Tri.mkN false bmE ?_
        refine Tri.app (T := bmE) (o := none) (l := []) (l.take k) (by first|exact K0|exact K1|exact K2|exact K3|exact K4|exact K5|exact K6|exact K7|exact K8) rfl (by simp) (by simp; omega) (by decide) (by decide) (by simp [appBound]; omega) fun o3 => ?_
        repeat (first|refine wa ?_|refine wb ?_|refine wc ?_|refine wd ?_|refine we ?_|refine wf ?_|refine wg ?_|refine wh rfl ?_|refine wi rfl ?_|refine wj rfl ?_|refine wk rfl ?_|refine wl rfl ?_|refine wm (by decide) ?_|refine wn ?_|refine wo ?_|refine wp (by decide) ?_|(apply Tri.ldE; (first|exact K0|exact K1|exact K2|exact K3|exact K4|exact K5|exact K6|exact K7|exact K8); (exact rfl); (exact wz rfl))|(apply Tri.stE; (first|exact K0|exact K1|exact K2|exact K3|exact K4|exact K5|exact K6|exact K7|exact K8); (exact rfl); (exact wz rfl))|(apply Tri.same; (first|exact K0|exact K1|exact K2|exact K3|exact K4|exact K5|exact K6|exact K7|exact K8); (exact rfl); (exact wz rfl))|refine wq fun _ => ?_)
        refine Tri.ldsD (d := ⟨_, 0, 1, 1, 7⟩) (by first|exact K0|exact K1|exact K2|exact K3|exact K4|exact K5|exact K6|exact K7|exact K8) rfl (Nat.le_refl _) (Nat.le_of_ble_eq_true rfl) ?_
        have hwp : IntKind.wrap .u16 (IntKind.wrap .i64 (20000 + (k : Int))) = freeB l1 := by rw [wr_i64 (by omega) (by omega), wr_u16 (by omega) (by omega), hfr]
        rw [hwp]
        refine Tri.app (T := bmE) (o := o3) (l := [] ++ l.take k) [⟨⟨inn, key, freeB l1, [], 0⟩, none⟩] (by first|exact K0|exact K1|exact K2|exact K3|exact K4|exact K5|exact K6|exact K7|exact K8) rfl rfl rfl (by decide) (by decide) (by simp [appBound]; omega) fun o4 => ?_
        repeat (first|refine wa ?_|refine wb ?_|refine wc ?_|refine wd ?_|refine we ?_|refine wf ?_|refine wg ?_|refine wh rfl ?_|refine wi rfl ?_|refine wj rfl ?_|refine wk rfl ?_|refine wl rfl ?_|refine wm (by decide) ?_|refine wn ?_|refine wo ?_|refine wp (by decide) ?_|(apply Tri.ldE; (first|exact K0|exact K1|exact K2|exact K3|exact K4|exact K5|exact K6|exact K7|exact K8); (exact rfl); (exact wz rfl))|(apply Tri.stE; (first|exact K0|exact K1|exact K2|exact K3|exact K4|exact K5|exact K6|exact K7|exact K8); (exact rfl); (exact wz rfl))|(apply Tri.same; (first|exact K0|exact K1|exact K2|exact K3|exact K4|exact K5|exact K6|exact K7|exact K8); (exact rfl); (exact wz rfl))|refine wq fun _ => ?_)
        refine Tri.slcLds (T := bmE) (o := o) (l := l) k l.length (by first|exact K0|exact K1|exact K2|exact K3|exact K4|exact K5|exact K6|exact K7|exact K8) rfl rfl rfl (by omega) (by omega) fun o5 h5 => ?_
        rw [List.take_length]
        refine Tri.app (T := bmE) (o := o4) (l := ([] ++ l.take k) ++ [⟨⟨inn, key, freeB l1, [], 0⟩, none⟩]) (l.drop k) (by first|exact K0|exact K1|exact K2|exact K3|exact K4|exact K5|exact K6|exact K7|exact K8) rfl rfl (by simp; omega) (by decide) (by decide) (by simp [appBound]; omega) fun o6 => ?_
        rw [List.nil_append, List.append_assoc, List.singleton_append]
        repeat (first|refine wa ?_|refine wb ?_|refine wc ?_|refine wd ?_|refine we ?_|refine wf ?_|refine wg ?_|refine wh rfl ?_|refine wi rfl ?_|refine wj rfl ?_|refine wk rfl ?_|refine wl rfl ?_|refine wm (by decide) ?_|refine wn ?_|refine wo ?_|refine wp (by decide) ?_|(apply Tri.ldE; (first|exact K0|exact K1|exact K2|exact K3|exact K4|exact K5|exact K6|exact K7|exact K8); (exact rfl); (exact wz rfl))|(apply Tri.stE; (first|exact K0|exact K1|exact K2|exact K3|exact K4|exact K5|exact K6|exact K7|exact K8); (exact rfl); (exact wz rfl))|(apply Tri.same; (first|exact K0|exact K1|exact K2|exact K3|exact K4|exact K5|exact K6|exact K7|exact K8); (exact rfl); (exact wz rfl))|refine wq fun _ => ?_)
        refine Tri.mkN false adE ?_
        refine Tri.metsIn (l := l) ⟨⟨inn, key, freeB l1, [], 0⟩, none⟩ (by first|exact K0|exact K1|exact K2|exact K3|exact K4|exact K5|exact K6|exact K7|exact K8) (by first|exact K0|exact K1|exact K2|exact K3|exact K4|exact K5|exact K6|exact K7|exact K8) ?_
        refine Tri.metsTo (l' := l.take k ++ ⟨⟨inn, key, freeB l1, [], 0⟩, none⟩ :: l.drop k) (X := []) (by first|exact K0|exact K1|exact K2|exact K3|exact K4|exact K5|exact K6|exact K7|exact K8) (by
          rw [List.append_nil]
          have h6 := (List.perm_middle (a := (⟨⟨inn, key, freeB l1, [], 0⟩, none⟩ : Bm)) (l₁ := l.take k) (l₂ := l.drop k)).symm
          rw [List.take_append_drop] at h6; exact h6) ?_
        rw [hgap]
        refine Bo.mk (b := { b with l := l1.take k ++ ⟨inn, key, freeB l1, [], 0⟩ :: l1.drop k }) (o := o6) (l := l.take k ++ ⟨⟨inn, key, freeB l1, [], 0⟩, none⟩ :: l.drop k) (by simp only; rw [← hl]; simp) (by first|exact K0|exact K1|exact K2|exact K3|exact K4|exact K5|exact K6|exact K7|exact K8) (by first|exact K0|exact K1|exact K2|exact K3|exact K4|exact K5|exact K6|exact K7|exact K8) (by first|exact K0|exact K1|exact K2|exact K3|exact K4|exact K5|exact K6|exact K7|exact K8) ?_
        exact Tri.retF ⟨rfl, rfl⟩ (by repeat (first|exact Sub.refl _|exact Sub.nil _|(apply Sub.cons; (first|exact K0|exact K1|exact K2|exact K3|exact K4|exact K5|exact K6|exact K7|exact K8))|apply Sub.skip))
      unfold t49_b131
      repeat (first|refine wa ?_|refine wb ?_|refine wc ?_|refine wd ?_|refine we ?_|refine wf ?_|refine wg ?_|refine wh rfl ?_|refine wi rfl ?_|refine wj rfl ?_|refine wk rfl ?_|refine wl rfl ?_|refine wm (by decide) ?_|(apply Tri.ldE; (first|exact K0|exact K1|exact K2|exact K3|exact K4|exact K5|exact K6|exact K7|exact K8); (exact rfl); (exact wz rfl))|(apply Tri.stE; (first|exact K0|exact K1|exact K2|exact K3|exact K4|exact K5|exact K6|exact K7|exact K8); (exact rfl); (exact wz rfl))|(apply Tri.same; (first|exact K0|exact K1|exact K2|exact K3|exact K4|exact K5|exact K6|exact K7|exact K8); (exact rfl); (exact wz rfl))|refine wq fun _ => ?_)
      rw [e1]
      by_cases hk : k < l.length
      · obtain ⟨x, hx⟩ : ∃ x, l[k]? = some x := ⟨l[k], List.getElem?_eq_getElem hk⟩
        have hxd := hml k x hx
        have hxr := hpe.r x.d (List.mem_of_getElem? hxd)
        refine Tri.cndT (by simp; omega) ?_
        repeat (first|refine wa ?_|refine wb ?_|refine wc ?_|refine wd ?_|refine we ?_|refine wf ?_|refine wg ?_|refine wh rfl ?_|refine wi rfl ?_|refine wj rfl ?_|refine wk rfl ?_|refine wl rfl ?_|refine wm (by decide) ?_|(apply Tri.ldE; (first|exact K0|exact K1|exact K2|exact K3|exact K4|exact K5|exact K6|exact K7|exact K8); (exact rfl); (exact wz rfl))|(apply Tri.stE; (first|exact K0|exact K1|exact K2|exact K3|exact K4|exact K5|exact K6|exact K7|exact K8); (exact rfl); (exact wz rfl))|(apply Tri.same; (first|exact K0|exact K1|exact K2|exact K3|exact K4|exact K5|exact K6|exact K7|exact K8); (exact rfl); (exact wz rfl))|refine wq fun _ => ?_)
        refine Tri.ixldR (T := bmE) (o := o) (x := x) (k := 4) (n := 1) (by first|exact K0|exact K1|exact K2|exact K3|exact K4|exact K5|exact K6|exact K7|exact K8) rfl (by omega) (by rw [Int.toNat_natCast]; exact hx) (by decide) rfl ?_
        repeat (first|refine wa ?_|refine wb ?_|refine wc ?_|refine wd ?_|refine we ?_|refine wf ?_|refine wg ?_|refine wh rfl ?_|refine wi rfl ?_|refine wj rfl ?_|refine wk rfl ?_|refine wl rfl ?_|refine wm (by decide) ?_|(apply Tri.ldE; (first|exact K0|exact K1|exact K2|exact K3|exact K4|exact K5|exact K6|exact K7|exact K8); (exact rfl); (exact wz rfl))|(apply Tri.stE; (first|exact K0|exact K1|exact K2|exact K3|exact K4|exact K5|exact K6|exact K7|exact K8); (exact rfl); (exact wz rfl))|(apply Tri.same; (first|exact K0|exact K1|exact K2|exact K3|exact K4|exact K5|exact K6|exact K7|exact K8); (exact rfl); (exact wz rfl))|refine wq fun _ => ?_)
        rw [wr_i64 (n := x.d.port) (by omega) (by omega), wr_i64 (n := 20000 + (k : Int)) (by omega) (by omega), wr_i64 (n := (k : Int) + 1) (by omega) (by omega)]
        refine Tri.cnd (fun h => ?_) (fun h => ?_)
        · have h : x.d.port = 20000 + (k : Int) := by simpa using h
          refine Tri.back (m' := l.length - (k + 1)) (by omega) ⟨k + 1, rfl, by omega, fun j y hj hy => ?_, rfl, rfl⟩ (by repeat (first|exact Sub.refl _|exact Sub.nil _|(apply Sub.cons; (first|exact K0|exact K1|exact K2|exact K3|exact K4|exact K5|exact K6|exact K7|exact K8))|apply Sub.skip))
          by_cases e : j = k
          · subst e; rw [hxd] at hy; cases hy; exact h
          · exact hlt j y (by omega) hy
        · have h : x.d.port ≠ 20000 + (k : Int) := by simpa using h
          exact Tri.exit (by decide) ((fin fun y hy => by rw [hxd] at hy; cases hy; exact h).sub (by repeat (first|exact Sub.refl _|exact Sub.nil _|(apply Sub.cons; (first|exact K0|exact K1|exact K2|exact K3|exact K4|exact K5|exact K6|exact K7|exact K8))|apply Sub.skip)))
      · refine Tri.cndF (by simp; omega) ?_
        exact Tri.exit (by decide) ((fin fun y hy => by
          have := (List.getElem?_eq_some_iff.1 hy).1; omega).sub (by repeat (first|exact Sub.refl _|exact Sub.nil _|(apply Sub.cons; (first|exact K0|exact K1|exact K2|exact K3|exact K4|exact K5|exact K6|exact K7|exact K8))|apply Sub.skip)))
    rw [e1]
    refine wn ?_
    refine Tri.cnd (fun h => ?_) (fun h => ?_)
    · have h : (b.l.length : Int) ≥ b.room := by simpa using h
      obtain ⟨x0, l0, rfl⟩ : ∃ x0 l0, l = x0 :: l0 := by
        cases l with
        | nil => simp at hn; omega
        | cons x l => exact ⟨x, l, rfl⟩
      have hbl : b.l = x0.d :: l0.map Bm.d := by rw [← hl]; rfl
      have hevB : evictB b = b.l.filter fun y => !(y.port == (minB (l0.map Bm.d) x0.d).port) := by
        unfold evictB
        split
        · rename_i e; rw [hbl] at e; cases e
        · rename_i y r e
          rw [if_pos h]
          rw [hbl] at e; cases e; rfl
      have hml : ∀ (j : Nat) (x : Bm), (x0 :: l0)[j]? = some x → b.l[j]? = some x.d := fun j x h => by rw [← hl, List.getElem?_map, h]; rfl
      refine Tri.loop (I := fun m l' L => ∃ (i old : Nat) (x : Bm), m = (x0 :: l0).length - i ∧ i ≤ (x0 :: l0).length ∧ (x0 :: l0)[old]? = some x ∧ (old < i ∨ (i = 0 ∧ old = 0)) ∧ minB (((x0 :: l0).drop (max i 1)).map Bm.d) x.d = minB (l0.map Bm.d) x0.d ∧
        l' = [.sc (.p (some (p, 0))), .sc (.p (some (a0, 0))), .sc (.p (some (a1, 0))), .sc (.i .i64 old), .sc (.i .i64 i)] ∧
        L = pt p (bxC b o) :: .sl false bmE o (x0 :: l0) :: Mets (x0 :: l0) :: pt a0 (adE.e inn) :: pt a1 (adE.e key) :: F) ⟨0, 0, x0, rfl, Nat.zero_le _, rfl, .inr ⟨rfl, rfl⟩, rfl, rfl, rfl⟩ (by repeat (first|exact Sub.refl _|exact Sub.nil _|(apply Sub.cons; (first|exact K0|exact K1|exact K2|exact K3|exact K4|exact K5|exact K6|exact K7|exact K8))|apply Sub.skip)) ?_
      rintro m l' L ⟨i, old, x, rfl, hil, hx, hoi, hmin, rfl, rfl⟩
      have holt := (List.getElem?_eq_some_iff.1 hx).1
      unfold t49_b73
      repeat (first|refine wa ?_|refine wb ?_|refine wc ?_|refine wd ?_|refine we ?_|refine wf ?_|refine wg ?_|refine wh rfl ?_|refine wi rfl ?_|refine wj rfl ?_|refine wk rfl ?_|refine wl rfl ?_|refine wm (by decide) ?_|(apply Tri.ldE; (first|exact K0|exact K1|exact K2|exact K3|exact K4|exact K5|exact K6|exact K7|exact K8); (exact rfl); (exact wz rfl))|(apply Tri.stE; (first|exact K0|exact K1|exact K2|exact K3|exact K4|exact K5|exact K6|exact K7|exact K8); (exact rfl); (exact wz rfl))|(apply Tri.same; (first|exact K0|exact K1|exact K2|exact K3|exact K4|exact K5|exact K6|exact K7|exact K8); (exact rfl); (exact wz rfl))|refine wq fun _ => ?_)
      rw [e1]
      by_cases hil2 : i < (x0 :: l0).length
      · obtain ⟨y, hy⟩ : ∃ y, (x0 :: l0)[i]? = some y := ⟨(x0 :: l0)[i], List.getElem?_eq_getElem hil2⟩
        refine Tri.cndT (by simp; omega) ?_
        repeat (first|refine wa ?_|refine wb ?_|refine wc ?_|refine wd ?_|refine we ?_|refine wf ?_|refine wg ?_|refine wh rfl ?_|refine wi rfl ?_|refine wj rfl ?_|refine wk rfl ?_|refine wl rfl ?_|refine wm (by decide) ?_|(apply Tri.ldE; (first|exact K0|exact K1|exact K2|exact K3|exact K4|exact K5|exact K6|exact K7|exact K8); (exact rfl); (exact wz rfl))|(apply Tri.stE; (first|exact K0|exact K1|exact K2|exact K3|exact K4|exact K5|exact K6|exact K7|exact K8); (exact rfl); (exact wz rfl))|(apply Tri.same; (first|exact K0|exact K1|exact K2|exact K3|exact K4|exact K5|exact K6|exact K7|exact K8); (exact rfl); (exact wz rfl))|refine wq fun _ => ?_)
        refine Tri.ixldR (T := bmE) (o := o) (x := y) (k := 6) (n := 1) (by first|exact K0|exact K1|exact K2|exact K3|exact K4|exact K5|exact K6|exact K7|exact K8) rfl (by omega) (by rw [Int.toNat_natCast]; exact hy) (by decide) rfl ?_
        repeat (first|refine wa ?_|refine wb ?_|refine wc ?_|refine wd ?_|refine we ?_|refine wf ?_|refine wg ?_|refine wh rfl ?_|refine wi rfl ?_|refine wj rfl ?_|refine wk rfl ?_|refine wl rfl ?_|refine wm (by decide) ?_|(apply Tri.ldE; (first|exact K0|exact K1|exact K2|exact K3|exact K4|exact K5|exact K6|exact K7|exact K8); (exact rfl); (exact wz rfl))|(apply Tri.stE; (first|exact K0|exact K1|exact K2|exact K3|exact K4|exact K5|exact K6|exact K7|exact K8); (exact rfl); (exact wz rfl))|(apply Tri.same; (first|exact K0|exact K1|exact K2|exact K3|exact K4|exact K5|exact K6|exact K7|exact K8); (exact rfl); (exact wz rfl))|refine wq fun _ => ?_)
        refine Tri.ixldR (T := bmE) (o := o) (x := x) (k := 6) (n := 1) (by first|exact K0|exact K1|exact K2|exact K3|exact K4|exact K5|exact K6|exact K7|exact K8) rfl (by omega) (by rw [Int.toNat_natCast]; exact hx) (by decide) rfl ?_
        repeat (first|refine wa ?_|refine wb ?_|refine wc ?_|refine wd ?_|refine we ?_|refine wf ?_|refine wg ?_|refine wh rfl ?_|refine wi rfl ?_|refine wj rfl ?_|refine wk rfl ?_|refine wl rfl ?_|refine wm (by decide) ?_|(apply Tri.ldE; (first|exact K0|exact K1|exact K2|exact K3|exact K4|exact K5|exact K6|exact K7|exact K8); (exact rfl); (exact wz rfl))|(apply Tri.stE; (first|exact K0|exact K1|exact K2|exact K3|exact K4|exact K5|exact K6|exact K7|exact K8); (exact rfl); (exact wz rfl))|(apply Tri.same; (first|exact K0|exact K1|exact K2|exact K3|exact K4|exact K5|exact K6|exact K7|exact K8); (exact rfl); (exact wz rfl))|refine wq fun _ => ?_)
        rw [wr_i64 (n := (i : Int) + 1) (by omega) (by omega)]
        have hdrop : 1 ≤ i → ((x0 :: l0).drop (max i 1)).map Bm.d = y.d :: ((x0 :: l0).drop (max (i + 1) 1)).map Bm.d := fun h1 => by
          obtain ⟨hi', rfl⟩ := List.getElem?_eq_some_iff.1 hy
          rw [Nat.max_eq_left h1, Nat.max_eq_left (by omega), List.drop_eq_getElem_cons hi', List.map_cons]
        refine Tri.cnd (fun hc => ?_) (fun hc => ?_)
        · have hc : y.d.til < x.d.til := by simpa using hc
          have hi1 : 1 ≤ i := by
            rcases hoi with h | ⟨h1, h2⟩
            · omega
            · subst h1; subst h2; rw [hx] at hy; cases hy; omega
          rw [hdrop hi1, minB, if_pos (ult_iff.2 (.inl hc))] at hmin
          exact Tri.back (m' := (x0 :: l0).length - (i + 1)) (by omega) ⟨i + 1, i, y, rfl, by omega, hy, .inl (by omega), hmin, rfl, rfl⟩ (by repeat (first|exact Sub.refl _|exact Sub.nil _|(apply Sub.cons; (first|exact K0|exact K1|exact K2|exact K3|exact K4|exact K5|exact K6|exact K7|exact K8))|apply Sub.skip))
        · have hc : ¬ y.d.til < x.d.til := by simpa using hc
          refine Tri.back (m' := (x0 :: l0).length - (i + 1)) (by omega) ⟨i + 1, old, x, rfl, by omega, hx, .inl (by omega), ?_, rfl, rfl⟩ (by repeat (first|exact Sub.refl _|exact Sub.nil _|(apply Sub.cons; (first|exact K0|exact K1|exact K2|exact K3|exact K4|exact K5|exact K6|exact K7|exact K8))|apply Sub.skip))
          rcases Nat.eq_zero_or_pos i with h0 | h1
          · subst h0; exact hmin
          · have hol : old < i := by omega
            have hlt := hris.get hol (hml _ _ hx) (hml _ _ hy)
            rw [hdrop h1, minB, if_neg (fun h => by have := ult_iff.1 h; omega)] at hmin
            exact hmin
      · have hie : i = (x0 :: l0).length := by omega
        subst hie
        rw [List.drop_eq_nil_of_le (by simp)] at hmin
        have hmin : x.d = minB (l0.map Bm.d) x0.d := hmin
        refine Tri.cndF (by simp at hn; simp; omega) ?_
        refine Tri.exit (by decide) ?_
        unfold t49_k73
        repeat (first|refine wa ?_|refine wb ?_|refine wc ?_|refine wd ?_|refine we ?_|refine wf ?_|refine wg ?_|refine wh rfl ?_|refine wi rfl ?_|refine wj rfl ?_|refine wk rfl ?_|refine wl rfl ?_|refine wm (by decide) ?_|(apply Tri.ldE; (first|exact K0|exact K1|exact K2|exact K3|exact K4|exact K5|exact K6|exact K7|exact K8); (exact rfl); (exact wz rfl))|(apply Tri.stE; (first|exact K0|exact K1|exact K2|exact K3|exact K4|exact K5|exact K6|exact K7|exact K8); (exact rfl); (exact wz rfl))|(apply Tri.same; (first|exact K0|exact K1|exact K2|exact K3|exact K4|exact K5|exact K6|exact K7|exact K8); (exact rfl); (exact wz rfl))|refine wq fun _ => ?_)
        refine Bo.mk (b := b) hl (by first|exact K0|exact K1|exact K2|exact K3|exact K4|exact K5|exact K6|exact K7|exact K8) (by first|exact K0|exact K1|exact K2|exact K3|exact K4|exact K5|exact K6|exact K7|exact K8) (by first|exact K0|exact K1|exact K2|exact K3|exact K4|exact K5|exact K6|exact K7|exact K8) ?_
        refine Tri.call (rcut_spec (b := b) (k := old) (by omega) hb) (by repeat (first|exact Picks.nil|(apply Picks.cons; (first|exact K0|exact K1|exact K2|exact K3|exact K4|exact K5|exact K6|exact K7|exact K8)))) ?_
        rintro v L' ⟨rfl, rfl⟩
        simp only [List.cons_append, List.nil_append]
        repeat (first|refine wa ?_|refine wb ?_|refine wc ?_|refine wd ?_|refine we ?_|refine wf ?_|refine wg ?_|refine wh rfl ?_|refine wi rfl ?_|refine wj rfl ?_|refine wk rfl ?_|refine wl rfl ?_|refine wm (by decide) ?_|(apply Tri.ldE; (first|exact K0|exact K1|exact K2|exact K3|exact K4|exact K5|exact K6|exact K7|exact K8); (exact rfl); (exact wz rfl))|(apply Tri.stE; (first|exact K0|exact K1|exact K2|exact K3|exact K4|exact K5|exact K6|exact K7|exact K8); (exact rfl); (exact wz rfl))|(apply Tri.same; (first|exact K0|exact K1|exact K2|exact K3|exact K4|exact K5|exact K6|exact K7|exact K8); (exact rfl); (exact wz rfl))|refine wq fun _ => ?_)
        rw [cut_filter hris (hml _ _ hx), hmin, ← hevB]
        refine wo ?_
        exact rest.sub (by repeat (first|exact Sub.refl _|exact Sub.nil _|(apply Sub.cons; (first|exact K0|exact K1|exact K2|exact K3|exact K4|exact K5|exact K6|exact K7|exact K8))|apply Sub.skip))
    · have h : ¬ (b.l.length : Int) ≥ b.room := by simpa using h
      have hevB : evictB b = b.l := by
        unfold evictB
        split
        · rename_i e; rw [e]
        · rename_i y r e; rw [if_neg h]
      refine wo ?_
      refine Bo.mk (b := { b with l := evictB b }) (o := o) (l := l) (by simp only; rw [hl, hevB]) (by first|exact K0|exact K1|exact K2|exact K3|exact K4|exact K5|exact K6|exact K7|exact K8) (by first|exact K0|exact K1|exact K2|exact K3|exact K4|exact K5|exact K6|exact K7|exact K8) (by first|exact K0|exact K1|exact K2|exact K3|exact K4|exact K5|exact K6|exact K7|exact K8) ?_
      exact rest.sub (by repeat (first|exact Sub.refl _|exact Sub.nil _|(apply Sub.cons; (first|exact K0|exact K1|exact K2|exact K3|exact K4|exact K5|exact K6|exact K7|exact K8))|apply Sub.skip))
end Go.Proofs.Ytloiifcocgpnbaa
namespace Go.Proofs.Ytloiifcocgpnbaa
open Go Go.Proofs.Ytloiifcocgpnbaa.Fw
set_option linter.unusedVariables false
set_option linter.unusedSimpArgs false
def boundX (b : Bx) (now : Int) (src dst : Ad) : List Bd × Nat := atB (sweepB b now) src (keyB b.map dst)
def outX (b : Bx) (now : Int) (src dst : Ad) : (Ad × Int) × Bx :=
  if noneB src || noneB dst || decide (now > 4611686018427387904) then ((⟨0, 0⟩, 1), b)
  else match (boundX b now src dst).1[(boundX b now src dst).2]? with
    | some x => ((⟨b.ip, x.port⟩, 0), { b with l := (boundX b now src dst).1.set (boundX b now src dst).2 (useB now b.hold dst x) })
    | none => ((⟨0, 0⟩, 1), b)
theorem gap_le (l : List Bd) : gapB l ≤ l.length := by
  have := (freeB_ok l).2.2.1
  unfold gapB; omega
theorem atB_get (b : Bx) (inn key : Ad) : ∃ x, (atB b inn key).1[(atB b inn key).2]? = some x := by
  unfold atB
  split
  · rename_i i hi
    obtain ⟨x, hx, _⟩ := idxB_get hi
    exact ⟨x, hx⟩
  · refine ⟨⟨inn, key, freeB (evictB b), [], 0⟩, ?_⟩
    have := gap_le (evictB b)
    rw [List.getElem?_append_right (by rw [List.length_take]; omega), List.length_take, Nat.min_eq_left this, Nat.sub_self]; rfl
theorem atB_perm (b : Bx) (inn key : Ad) : (atB b inn key).1.Perm (bindB b inn key).1 := by
  unfold atB bindB
  cases idxB (isK inn key) b.l with
  | some i => exact List.Perm.refl _
  | none =>
    refine List.perm_middle.trans ?_
    rw [List.take_append_drop]
    exact List.perm_append_comm (l₁ := [_])
theorem Ris.sweep {b : Bx} (h : Ris b.l) (now : Int) : Ris (sweepB b now).l := List.Pairwise.sublist List.filter_sublist h
set_option maxRecDepth 20000 in
set_option maxHeartbeats 4000000 in
theorem rout_spec {p : Nat} {b : Bx} {now : Int} {src dst : Ad} (hi : BI b) (hpt : Pt b.l b.room) (hris : Ris b.l) : FSpec E 26 [.sc (.p (some (p, 0))), .sc (.i .u64 now), .ag (adE.e src), .ag (adE.e dst)] [Bo p b]
    (fun v L' => v = .tu [.ag (adE.e (outX b now src dst).1.1), .sc (.i .i64 (outX b now src dst).1.2)] ∧ L' = [Bo p (outX b now src dst).2]) := by
  refine FSpec.of (Try.func26 : Try.prog.funcs[26]? = some Try.f26) (t26_eq _ _ _ _ _ _ _) fun F => ?_
  unfold t26
  refine Tri.al fun a0 => ?_
  refine Tri.al fun a1 => ?_
  refine Tri.al fun a2 => ?_
  repeat (first|refine wa ?_|refine wb ?_|refine wc ?_|refine wd ?_|refine we ?_|refine wf ?_|refine wg ?_|refine wh rfl ?_|refine wi rfl ?_|refine wj rfl ?_|refine wk rfl ?_|refine wl rfl ?_|refine wm (by decide) ?_|(apply Tri.ldE; (first|exact K0|exact K1|exact K2|exact K3|exact K4|exact K5|exact K6|exact K7|exact K8); (exact rfl); (exact wz rfl))|(apply Tri.stE; (first|exact K0|exact K1|exact K2|exact K3|exact K4|exact K5|exact K6|exact K7|exact K8); (exact rfl); (exact wz rfl))|(apply Tri.same; (first|exact K0|exact K1|exact K2|exact K3|exact K4|exact K5|exact K6|exact K7|exact K8); (exact rfl); (exact wz rfl))|refine wq fun _ => ?_)
  refine Tri.call (rnone_spec (a := src)) (by repeat (first|exact Picks.nil|(apply Picks.cons; (first|exact K0|exact K1|exact K2|exact K3|exact K4|exact K5|exact K6|exact K7|exact K8)))) ?_
  rintro v L' ⟨rfl, rfl⟩
  simp only [List.cons_append, List.nil_append]
  repeat (first|refine wa ?_|refine wb ?_|refine wc ?_|refine wd ?_|refine we ?_|refine wf ?_|refine wg ?_|refine wh rfl ?_|refine wi rfl ?_|refine wj rfl ?_|refine wk rfl ?_|refine wl rfl ?_|refine wm (by decide) ?_|(apply Tri.ldE; (first|exact K0|exact K1|exact K2|exact K3|exact K4|exact K5|exact K6|exact K7|exact K8); (exact rfl); (exact wz rfl))|(apply Tri.stE; (first|exact K0|exact K1|exact K2|exact K3|exact K4|exact K5|exact K6|exact K7|exact K8); (exact rfl); (exact wz rfl))|(apply Tri.same; (first|exact K0|exact K1|exact K2|exact K3|exact K4|exact K5|exact K6|exact K7|exact K8); (exact rfl); (exact wz rfl))|refine wq fun _ => ?_)
  refine Tri.call (rnone_spec (a := dst)) (by repeat (first|exact Picks.nil|(apply Picks.cons; (first|exact K0|exact K1|exact K2|exact K3|exact K4|exact K5|exact K6|exact K7|exact K8)))) ?_
  rintro v L' ⟨rfl, rfl⟩
  simp only [List.cons_append, List.nil_append]
  repeat (first|refine wa ?_|refine wb ?_|refine wc ?_|refine wd ?_|refine we ?_|refine wf ?_|refine wg ?_|refine wh rfl ?_|refine wi rfl ?_|refine wj rfl ?_|refine wk rfl ?_|refine wl rfl ?_|refine wm (by decide) ?_|(apply Tri.ldE; (first|exact K0|exact K1|exact K2|exact K3|exact K4|exact K5|exact K6|exact K7|exact K8); (exact rfl); (exact wz rfl))|(apply Tri.stE; (first|exact K0|exact K1|exact K2|exact K3|exact K4|exact K5|exact K6|exact K7|exact K8); (exact rfl); (exact wz rfl))|(apply Tri.same; (first|exact K0|exact K1|exact K2|exact K3|exact K4|exact K5|exact K6|exact K7|exact K8); (exact rfl); (exact wz rfl))|refine wq fun _ => ?_)
  refine Tri.cnd (fun h1 => ?_) (fun h1 => ?_)
  · have hk : outX b now src dst = ((⟨0, 0⟩, 1), b) := by unfold outX; rw [if_pos (by simp [h1])]
    repeat (first|refine wa ?_|refine wb ?_|refine wc ?_|refine wd ?_|refine we ?_|refine wf ?_|refine wg ?_|refine wh rfl ?_|refine wi rfl ?_|refine wj rfl ?_|refine wk rfl ?_|refine wl rfl ?_|refine wm (by decide) ?_|(apply Tri.ldE; (first|exact K0|exact K1|exact K2|exact K3|exact K4|exact K5|exact K6|exact K7|exact K8); (exact rfl); (exact wz rfl))|(apply Tri.stE; (first|exact K0|exact K1|exact K2|exact K3|exact K4|exact K5|exact K6|exact K7|exact K8); (exact rfl); (exact wz rfl))|(apply Tri.same; (first|exact K0|exact K1|exact K2|exact K3|exact K4|exact K5|exact K6|exact K7|exact K8); (exact rfl); (exact wz rfl))|refine wq fun _ => ?_)
    rw [hk]
    exact Tri.retF ⟨rfl, rfl⟩ (by repeat (first|exact Sub.refl _|exact Sub.nil _|(apply Sub.cons; (first|exact K0|exact K1|exact K2|exact K3|exact K4|exact K5|exact K6|exact K7|exact K8))|apply Sub.skip))
  refine Tri.cnd (fun h2 => ?_) (fun h2 => ?_)
  · have hk : outX b now src dst = ((⟨0, 0⟩, 1), b) := by unfold outX; rw [if_pos (by simp [h2])]
    repeat (first|refine wa ?_|refine wb ?_|refine wc ?_|refine wd ?_|refine we ?_|refine wf ?_|refine wg ?_|refine wh rfl ?_|refine wi rfl ?_|refine wj rfl ?_|refine wk rfl ?_|refine wl rfl ?_|refine wm (by decide) ?_|(apply Tri.ldE; (first|exact K0|exact K1|exact K2|exact K3|exact K4|exact K5|exact K6|exact K7|exact K8); (exact rfl); (exact wz rfl))|(apply Tri.stE; (first|exact K0|exact K1|exact K2|exact K3|exact K4|exact K5|exact K6|exact K7|exact K8); (exact rfl); (exact wz rfl))|(apply Tri.same; (first|exact K0|exact K1|exact K2|exact K3|exact K4|exact K5|exact K6|exact K7|exact K8); (exact rfl); (exact wz rfl))|refine wq fun _ => ?_)
    rw [hk]
    exact Tri.retF ⟨rfl, rfl⟩ (by repeat (first|exact Sub.refl _|exact Sub.nil _|(apply Sub.cons; (first|exact K0|exact K1|exact K2|exact K3|exact K4|exact K5|exact K6|exact K7|exact K8))|apply Sub.skip))
  refine Tri.cnd (fun h3 => ?_) (fun h3 => ?_)
  · have hk : outX b now src dst = ((⟨0, 0⟩, 1), b) := by unfold outX; rw [if_pos (by simp at h3; simp [h3])]
    repeat (first|refine wa ?_|refine wb ?_|refine wc ?_|refine wd ?_|refine we ?_|refine wf ?_|refine wg ?_|refine wh rfl ?_|refine wi rfl ?_|refine wj rfl ?_|refine wk rfl ?_|refine wl rfl ?_|refine wm (by decide) ?_|(apply Tri.ldE; (first|exact K0|exact K1|exact K2|exact K3|exact K4|exact K5|exact K6|exact K7|exact K8); (exact rfl); (exact wz rfl))|(apply Tri.stE; (first|exact K0|exact K1|exact K2|exact K3|exact K4|exact K5|exact K6|exact K7|exact K8); (exact rfl); (exact wz rfl))|(apply Tri.same; (first|exact K0|exact K1|exact K2|exact K3|exact K4|exact K5|exact K6|exact K7|exact K8); (exact rfl); (exact wz rfl))|refine wq fun _ => ?_)
    rw [hk]
    exact Tri.retF ⟨rfl, rfl⟩ (by repeat (first|exact Sub.refl _|exact Sub.nil _|(apply Sub.cons; (first|exact K0|exact K1|exact K2|exact K3|exact K4|exact K5|exact K6|exact K7|exact K8))|apply Sub.skip))
  obtain ⟨x, hx⟩ := atB_get (sweepB b now) src (keyB b.map dst)
  have hk : outX b now src dst = ((⟨b.ip, x.port⟩, 0), { b with l := (boundX b now src dst).1.set (boundX b now src dst).2 (useB now b.hold dst x) }) := by
    unfold outX
    rw [if_neg (by simp at h3; simp [h1, h2]; omega)]
    unfold boundX
    rw [hx]
  rw [hk]
  unfold boundX
  have his := hi.sweep now
  have hp := atB_perm (sweepB b now) src (keyB b.map dst)
  have hlen : ((atB (sweepB b now) src (keyB b.map dst)).1.length : Int) ≤ b.room := by rw [hp.length_eq]; exact bind_le his src (keyB b.map dst)
  have hsm : ∀ y ∈ (atB (sweepB b now) src (keyB b.map dst)).1, y.m.length ≤ 16 := fun y hy => bindB_small his.sm src (keyB b.map dst) y (hp.mem_iff.1 hy)
  have hr2 := hi.r2
  repeat (first|refine wa ?_|refine wb ?_|refine wc ?_|refine wd ?_|refine we ?_|refine wf ?_|refine wg ?_|refine wh rfl ?_|refine wi rfl ?_|refine wj rfl ?_|refine wk rfl ?_|refine wl rfl ?_|refine wm (by decide) ?_|(apply Tri.ldE; (first|exact K0|exact K1|exact K2|exact K3|exact K4|exact K5|exact K6|exact K7|exact K8); (exact rfl); (exact wz rfl))|(apply Tri.stE; (first|exact K0|exact K1|exact K2|exact K3|exact K4|exact K5|exact K6|exact K7|exact K8); (exact rfl); (exact wz rfl))|(apply Tri.same; (first|exact K0|exact K1|exact K2|exact K3|exact K4|exact K5|exact K6|exact K7|exact K8); (exact rfl); (exact wz rfl))|refine wq fun _ => ?_)
  refine Tri.call (rsweep_spec (p := p) (b := b) (now := now) hi.b90) (by repeat (first|exact Picks.nil|(apply Picks.cons; (first|exact K0|exact K1|exact K2|exact K3|exact K4|exact K5|exact K6|exact K7|exact K8)))) ?_
  rintro v L' ⟨rfl, rfl⟩
  simp only [List.cons_append, List.nil_append]
  repeat (first|refine wa ?_|refine wb ?_|refine wc ?_|refine wd ?_|refine we ?_|refine wf ?_|refine wg ?_|refine wh rfl ?_|refine wi rfl ?_|refine wj rfl ?_|refine wk rfl ?_|refine wl rfl ?_|refine wm (by decide) ?_|(apply Tri.ldE; (first|exact K0|exact K1|exact K2|exact K3|exact K4|exact K5|exact K6|exact K7|exact K8); (exact rfl); (exact wz rfl))|(apply Tri.stE; (first|exact K0|exact K1|exact K2|exact K3|exact K4|exact K5|exact K6|exact K7|exact K8); (exact rfl); (exact wz rfl))|(apply Tri.same; (first|exact K0|exact K1|exact K2|exact K3|exact K4|exact K5|exact K6|exact K7|exact K8); (exact rfl); (exact wz rfl))|refine wq fun _ => ?_)
  refine Bo.op (by first|exact K0|exact K1|exact K2|exact K3|exact K4|exact K5|exact K6|exact K7|exact K8) fun o l hl hn e1 => ?_
  repeat (first|refine wa ?_|refine wb ?_|refine wc ?_|refine wd ?_|refine we ?_|refine wf ?_|refine wg ?_|refine wh rfl ?_|refine wi rfl ?_|refine wj rfl ?_|refine wk rfl ?_|refine wl rfl ?_|refine wm (by decide) ?_|(apply Tri.ldE; (first|exact K0|exact K1|exact K2|exact K3|exact K4|exact K5|exact K6|exact K7|exact K8); (exact rfl); (exact wz rfl))|(apply Tri.stE; (first|exact K0|exact K1|exact K2|exact K3|exact K4|exact K5|exact K6|exact K7|exact K8); (exact rfl); (exact wz rfl))|(apply Tri.same; (first|exact K0|exact K1|exact K2|exact K3|exact K4|exact K5|exact K6|exact K7|exact K8); (exact rfl); (exact wz rfl))|refine wq fun _ => ?_)
  refine Tri.call (rkey_spec (m := b.map) (f := b.fil) (a := dst)) (by repeat (first|exact Picks.nil|(apply Picks.cons; (first|exact K0|exact K1|exact K2|exact K3|exact K4|exact K5|exact K6|exact K7|exact K8)))) ?_
  rintro v L' ⟨rfl, rfl⟩
  simp only [List.cons_append, List.nil_append]
  repeat (first|refine wa ?_|refine wb ?_|refine wc ?_|refine wd ?_|refine we ?_|refine wf ?_|refine wg ?_|refine wh rfl ?_|refine wi rfl ?_|refine wj rfl ?_|refine wk rfl ?_|refine wl rfl ?_|refine wm (by decide) ?_|(apply Tri.ldE; (first|exact K0|exact K1|exact K2|exact K3|exact K4|exact K5|exact K6|exact K7|exact K8); (exact rfl); (exact wz rfl))|(apply Tri.stE; (first|exact K0|exact K1|exact K2|exact K3|exact K4|exact K5|exact K6|exact K7|exact K8); (exact rfl); (exact wz rfl))|(apply Tri.same; (first|exact K0|exact K1|exact K2|exact K3|exact K4|exact K5|exact K6|exact K7|exact K8); (exact rfl); (exact wz rfl))|refine wq fun _ => ?_)
  refine Bo.mk (b := sweepB b now) hl (by first|exact K0|exact K1|exact K2|exact K3|exact K4|exact K5|exact K6|exact K7|exact K8) (by first|exact K0|exact K1|exact K2|exact K3|exact K4|exact K5|exact K6|exact K7|exact K8) (by first|exact K0|exact K1|exact K2|exact K3|exact K4|exact K5|exact K6|exact K7|exact K8) ?_
  clear hl hn e1
  refine Tri.call (rat_spec (p := p) (b := sweepB b now) (inn := src) (key := keyB b.map dst) his (hpt.sweep now) (hris.sweep now)) (by repeat (first|exact Picks.nil|(apply Picks.cons; (first|exact K0|exact K1|exact K2|exact K3|exact K4|exact K5|exact K6|exact K7|exact K8)))) ?_
  rintro v L' ⟨rfl, rfl⟩
  simp only [List.cons_append, List.nil_append]
  repeat (first|refine wa ?_|refine wb ?_|refine wc ?_|refine wd ?_|refine we ?_|refine wf ?_|refine wg ?_|refine wh rfl ?_|refine wi rfl ?_|refine wj rfl ?_|refine wk rfl ?_|refine wl rfl ?_|refine wm (by decide) ?_|(apply Tri.ldE; (first|exact K0|exact K1|exact K2|exact K3|exact K4|exact K5|exact K6|exact K7|exact K8); (exact rfl); (exact wz rfl))|(apply Tri.stE; (first|exact K0|exact K1|exact K2|exact K3|exact K4|exact K5|exact K6|exact K7|exact K8); (exact rfl); (exact wz rfl))|(apply Tri.same; (first|exact K0|exact K1|exact K2|exact K3|exact K4|exact K5|exact K6|exact K7|exact K8); (exact rfl); (exact wz rfl))|refine wq fun _ => ?_)
  generalize atB (sweepB b now) src (keyB b.map dst) = r at *
  obtain ⟨r1, i⟩ := r
  simp only at hx hlen hsm ⊢
  refine Bo.op (by first|exact K0|exact K1|exact K2|exact K3|exact K4|exact K5|exact K6|exact K7|exact K8) fun o l hl hn e1 => ?_
  simp only at hl hn e1
  subst hl
  rw [List.getElem?_map] at hx
  obtain ⟨y, hy, rfl⟩ := Option.map_eq_some_iff.1 hx
  obtain ⟨A, B, rfl, rfl⟩ := split_at hy
  have hym : y.d.m.length ≤ 16 := hsm y.d (by simp)
  have hAl : (A.length : Int) < (A ++ y :: B).length := by rw [List.length_append, List.length_cons]; omega
  rw [List.length_map] at hlen
  repeat (first|refine wa ?_|refine wb ?_|refine wc ?_|refine wd ?_|refine we ?_|refine wf ?_|refine wg ?_|refine wh rfl ?_|refine wi rfl ?_|refine wj rfl ?_|refine wk rfl ?_|refine wl rfl ?_|refine wm (by decide) ?_|(apply Tri.ldE; (first|exact K0|exact K1|exact K2|exact K3|exact K4|exact K5|exact K6|exact K7|exact K8); (exact rfl); (exact wz rfl))|(apply Tri.stE; (first|exact K0|exact K1|exact K2|exact K3|exact K4|exact K5|exact K6|exact K7|exact K8); (exact rfl); (exact wz rfl))|(apply Tri.same; (first|exact K0|exact K1|exact K2|exact K3|exact K4|exact K5|exact K6|exact K7|exact K8); (exact rfl); (exact wz rfl))|refine wq fun _ => ?_)
  refine Tri.ixst1 (T := bmE) (o := o) (x := y) (k := 6) ⟨{ y.d with til := IntKind.wrap .u64 (now + b.hold) }, y.met⟩ (by first|exact K0|exact K1|exact K2|exact K3|exact K4|exact K5|exact K6|exact K7|exact K8) rfl (by decide) (by omega) (by rw [Int.toNat_natCast]; exact hy) rfl ?_
  rw [Int.toNat_natCast, set_split]
  repeat (first|refine wa ?_|refine wb ?_|refine wc ?_|refine wd ?_|refine we ?_|refine wf ?_|refine wg ?_|refine wh rfl ?_|refine wi rfl ?_|refine wj rfl ?_|refine wk rfl ?_|refine wl rfl ?_|refine wm (by decide) ?_|(apply Tri.ldE; (first|exact K0|exact K1|exact K2|exact K3|exact K4|exact K5|exact K6|exact K7|exact K8); (exact rfl); (exact wz rfl))|(apply Tri.stE; (first|exact K0|exact K1|exact K2|exact K3|exact K4|exact K5|exact K6|exact K7|exact K8); (exact rfl); (exact wz rfl))|(apply Tri.same; (first|exact K0|exact K1|exact K2|exact K3|exact K4|exact K5|exact K6|exact K7|exact K8); (exact rfl); (exact wz rfl))|refine wq fun _ => ?_)
  have hy1 : (A ++ (⟨{ y.d with til := IntKind.wrap .u64 (now + b.hold) }, y.met⟩ : Bm) :: B)[A.length]? = some ⟨{ y.d with til := IntKind.wrap .u64 (now + b.hold) }, y.met⟩ := by simp
  refine Tri.ixldR (T := bmE) (o := o) (k := 5) (n := 1) (by first|exact K0|exact K1|exact K2|exact K3|exact K4|exact K5|exact K6|exact K7|exact K8) rfl (by omega) (by rw [Int.toNat_natCast]; exact hy1) (by decide) rfl ?_
  repeat (first|refine wa ?_|refine wb ?_|refine wc ?_|refine wd ?_|refine we ?_|refine wf ?_|refine wg ?_|refine wh rfl ?_|refine wi rfl ?_|refine wj rfl ?_|refine wk rfl ?_|refine wl rfl ?_|refine wm (by decide) ?_|(apply Tri.ldE; (first|exact K0|exact K1|exact K2|exact K3|exact K4|exact K5|exact K6|exact K7|exact K8); (exact rfl); (exact wz rfl))|(apply Tri.stE; (first|exact K0|exact K1|exact K2|exact K3|exact K4|exact K5|exact K6|exact K7|exact K8); (exact rfl); (exact wz rfl))|(apply Tri.same; (first|exact K0|exact K1|exact K2|exact K3|exact K4|exact K5|exact K6|exact K7|exact K8); (exact rfl); (exact wz rfl))|refine wq fun _ => ?_)
  refine Tri.metsOut (x := y) (l' := A ++ B) (by first|exact K0|exact K1|exact K2|exact K3|exact K4|exact K5|exact K6|exact K7|exact K8) List.perm_middle ?_
  have hperm : ∀ z : Bm, (z :: (A ++ B)).Perm ((A ++ z :: B) ++ []) := fun z => by rw [List.append_nil]; exact List.perm_middle.symm
  have last : ∀ (o' : Option SlD), Tri E (.sl false adE o' (metB y.d.m dst) :: pt p (bxC b o) :: .sl false bmE o (A ++ ⟨{ y.d with til := IntKind.wrap .u64 (now + b.hold) }, y.met⟩ :: B) :: Mets (A ++ B) :: pt a2 [.i .u32 0, .i .u16 0] :: F)
      (t26_k121 0 [.sc (.p (some (p, 0))), .sc (.p (some (a2, 0))), .sc (.i .i64 A.length), .sc (.sl o')])
      (RQ F fun v L' => v = .tu [.ag (adE.e (⟨b.ip, y.d.port⟩ : Ad)), .sc (.i .i64 0)] ∧ L' = [Bo p { b with l := ((A ++ y :: B).map Bm.d).set A.length (useB now b.hold dst y.d) }]) := by
    intro o'
    unfold t26_k121
    repeat (first|refine wa ?_|refine wb ?_|refine wc ?_|refine wd ?_|refine we ?_|refine wf ?_|refine wg ?_|refine wh rfl ?_|refine wi rfl ?_|refine wj rfl ?_|refine wk rfl ?_|refine wl rfl ?_|refine wm (by decide) ?_|(apply Tri.ldE; (first|exact K0|exact K1|exact K2|exact K3|exact K4|exact K5|exact K6|exact K7|exact K8); (exact rfl); (exact wz rfl))|(apply Tri.stE; (first|exact K0|exact K1|exact K2|exact K3|exact K4|exact K5|exact K6|exact K7|exact K8); (exact rfl); (exact wz rfl))|(apply Tri.same; (first|exact K0|exact K1|exact K2|exact K3|exact K4|exact K5|exact K6|exact K7|exact K8); (exact rfl); (exact wz rfl))|refine wq fun _ => ?_)
    refine Tri.ixst1 (T := bmE) (o := o) (x := ⟨{ y.d with til := IntKind.wrap .u64 (now + b.hold) }, y.met⟩) (k := 5) ⟨useB now b.hold dst y.d, o'⟩ (by first|exact K0|exact K1|exact K2|exact K3|exact K4|exact K5|exact K6|exact K7|exact K8) rfl (by decide) (by omega) (by rw [Int.toNat_natCast]; exact hy1) rfl ?_
    rw [Int.toNat_natCast, set_split]
    repeat (first|refine wa ?_|refine wb ?_|refine wc ?_|refine wd ?_|refine we ?_|refine wf ?_|refine wg ?_|refine wh rfl ?_|refine wi rfl ?_|refine wj rfl ?_|refine wk rfl ?_|refine wl rfl ?_|refine wm (by decide) ?_|(apply Tri.ldE; (first|exact K0|exact K1|exact K2|exact K3|exact K4|exact K5|exact K6|exact K7|exact K8); (exact rfl); (exact wz rfl))|(apply Tri.stE; (first|exact K0|exact K1|exact K2|exact K3|exact K4|exact K5|exact K6|exact K7|exact K8); (exact rfl); (exact wz rfl))|(apply Tri.same; (first|exact K0|exact K1|exact K2|exact K3|exact K4|exact K5|exact K6|exact K7|exact K8); (exact rfl); (exact wz rfl))|refine wq fun _ => ?_)
    have hy2 : (A ++ (⟨useB now b.hold dst y.d, o'⟩ : Bm) :: B)[A.length]? = some ⟨useB now b.hold dst y.d, o'⟩ := by simp
    refine Tri.ixldR (T := bmE) (o := o) (k := 4) (n := 1) (by first|exact K0|exact K1|exact K2|exact K3|exact K4|exact K5|exact K6|exact K7|exact K8) rfl (by omega) (by rw [Int.toNat_natCast]; exact hy2) (by decide) rfl ?_
    repeat (first|refine wa ?_|refine wb ?_|refine wc ?_|refine wd ?_|refine we ?_|refine wf ?_|refine wg ?_|refine wh rfl ?_|refine wi rfl ?_|refine wj rfl ?_|refine wk rfl ?_|refine wl rfl ?_|refine wm (by decide) ?_|(apply Tri.ldE; (first|exact K0|exact K1|exact K2|exact K3|exact K4|exact K5|exact K6|exact K7|exact K8); (exact rfl); (exact wz rfl))|(apply Tri.stE; (first|exact K0|exact K1|exact K2|exact K3|exact K4|exact K5|exact K6|exact K7|exact K8); (exact rfl); (exact wz rfl))|(apply Tri.same; (first|exact K0|exact K1|exact K2|exact K3|exact K4|exact K5|exact K6|exact K7|exact K8); (exact rfl); (exact wz rfl))|refine wq fun _ => ?_)
    refine Tri.metsIn (l := A ++ B) ⟨useB now b.hold dst y.d, o'⟩ (by first|exact K0|exact K1|exact K2|exact K3|exact K4|exact K5|exact K6|exact K7|exact K8) (by first|exact K0|exact K1|exact K2|exact K3|exact K4|exact K5|exact K6|exact K7|exact K8) ?_
    refine Tri.metsTo (l' := A ++ ⟨useB now b.hold dst y.d, o'⟩ :: B) (X := []) (by first|exact K0|exact K1|exact K2|exact K3|exact K4|exact K5|exact K6|exact K7|exact K8) (hperm _) ?_
    refine Bo.mk (b := { b with l := ((A ++ y :: B).map Bm.d).set A.length (useB now b.hold dst y.d) }) (o := o) (l := A ++ ⟨useB now b.hold dst y.d, o'⟩ :: B) (by simp) (by first|exact K0|exact K1|exact K2|exact K3|exact K4|exact K5|exact K6|exact K7|exact K8) (by first|exact K0|exact K1|exact K2|exact K3|exact K4|exact K5|exact K6|exact K7|exact K8) (by first|exact K0|exact K1|exact K2|exact K3|exact K4|exact K5|exact K6|exact K7|exact K8) ?_
    exact Tri.retF ⟨rfl, rfl⟩ (by repeat (first|exact Sub.refl _|exact Sub.nil _|(apply Sub.cons; (first|exact K0|exact K1|exact K2|exact K3|exact K4|exact K5|exact K6|exact K7|exact K8))|apply Sub.skip))
  refine Tri.slLen (l := y.d.m) (o := y.met) (ro := false) (T := adE) (by first|exact K0|exact K1|exact K2|exact K3|exact K4|exact K5|exact K6|exact K7|exact K8) fun e5 e6 => ?_
  refine Tri.loop (I := fun m l' L => ∃ D R : List Ad, m = R.length ∧ y.d.m = D ++ R ∧ l' = [.sc (.p (some (p, 0))), .sc (.p (some (a1, 0))), .sc (.p (some (a2, 0))), .sc (.i .i64 A.length), .sc (.sl y.met), .sc (.b (decide (dst ∈ D))), .sc (.i .i64 D.length)] ∧
    L = .sl false adE y.met y.d.m :: pt p (bxC b o) :: .sl false bmE o (A ++ ⟨{ y.d with til := IntKind.wrap .u64 (now + b.hold) }, y.met⟩ :: B) :: Mets (A ++ B) :: pt a2 [.i .u32 0, .i .u16 0] :: pt a1 (adE.e dst) :: F) ⟨[], y.d.m, rfl, rfl, rfl, rfl⟩ (by repeat (first|exact Sub.refl _|exact Sub.nil _|(apply Sub.cons; (first|exact K0|exact K1|exact K2|exact K3|exact K4|exact K5|exact K6|exact K7|exact K8))|apply Sub.skip)) ?_
  rintro m l' L ⟨D, R, rfl, hDR, rfl, rfl⟩
  have hlc : y.d.m.length = D.length + R.length := by rw [hDR]; simp
  unfold t26_b83
  repeat (first|refine wa ?_|refine wb ?_|refine wc ?_|refine wd ?_|refine we ?_|refine wf ?_|refine wg ?_|refine wh rfl ?_|refine wi rfl ?_|refine wj rfl ?_|refine wk rfl ?_|refine wl rfl ?_|refine wm (by decide) ?_|(apply Tri.ldE; (first|exact K0|exact K1|exact K2|exact K3|exact K4|exact K5|exact K6|exact K7|exact K8); (exact rfl); (exact wz rfl))|(apply Tri.stE; (first|exact K0|exact K1|exact K2|exact K3|exact K4|exact K5|exact K6|exact K7|exact K8); (exact rfl); (exact wz rfl))|(apply Tri.same; (first|exact K0|exact K1|exact K2|exact K3|exact K4|exact K5|exact K6|exact K7|exact K8); (exact rfl); (exact wz rfl))|refine wq fun _ => ?_)
  rw [e6]
  cases R with
  | nil =>
    have hDl : D = y.d.m := by rw [hDR]; simp
    refine Tri.cndF (by simp at hlc; simp; omega) ?_
    refine Tri.exit (by decide) ?_
    unfold t26_k83
    repeat (first|refine wa ?_|refine wb ?_|refine wc ?_|refine wd ?_|refine we ?_|refine wf ?_|refine wg ?_|refine wh rfl ?_|refine wi rfl ?_|refine wj rfl ?_|refine wk rfl ?_|refine wl rfl ?_|refine wm (by decide) ?_|(apply Tri.ldE; (first|exact K0|exact K1|exact K2|exact K3|exact K4|exact K5|exact K6|exact K7|exact K8); (exact rfl); (exact wz rfl))|(apply Tri.stE; (first|exact K0|exact K1|exact K2|exact K3|exact K4|exact K5|exact K6|exact K7|exact K8); (exact rfl); (exact wz rfl))|(apply Tri.same; (first|exact K0|exact K1|exact K2|exact K3|exact K4|exact K5|exact K6|exact K7|exact K8); (exact rfl); (exact wz rfl))|refine wq fun _ => ?_)
    rw [hDl]
    refine wn ?_
    refine Tri.cnd (fun h4 => ?_) (fun h4 => ?_)
    · have h4 : dst ∉ y.d.m := by simpa using h4
      repeat (first|refine wa ?_|refine wb ?_|refine wc ?_|refine wd ?_|refine we ?_|refine wf ?_|refine wg ?_|refine wh rfl ?_|refine wi rfl ?_|refine wj rfl ?_|refine wk rfl ?_|refine wl rfl ?_|refine wm (by decide) ?_|(apply Tri.ldE; (first|exact K0|exact K1|exact K2|exact K3|exact K4|exact K5|exact K6|exact K7|exact K8); (exact rfl); (exact wz rfl))|(apply Tri.stE; (first|exact K0|exact K1|exact K2|exact K3|exact K4|exact K5|exact K6|exact K7|exact K8); (exact rfl); (exact wz rfl))|(apply Tri.same; (first|exact K0|exact K1|exact K2|exact K3|exact K4|exact K5|exact K6|exact K7|exact K8); (exact rfl); (exact wz rfl))|refine wq fun _ => ?_)
      refine Tri.lds (T := adE) (o := y.met) (l := y.d.m) (by first|exact K0|exact K1|exact K2|exact K3|exact K4|exact K5|exact K6|exact K7|exact K8) rfl rfl fun _ => ?_
      refine Tri.mkN false adE ?_
      refine Tri.app (T := adE) (o := none) (l := []) y.d.m (by first|exact K0|exact K1|exact K2|exact K3|exact K4|exact K5|exact K6|exact K7|exact K8) rfl rfl (by rw [e5]) (by decide) (by decide) (by simp [appBound]; omega) fun o3 => ?_
      repeat (first|refine wa ?_|refine wb ?_|refine wc ?_|refine wd ?_|refine we ?_|refine wf ?_|refine wg ?_|refine wh rfl ?_|refine wi rfl ?_|refine wj rfl ?_|refine wk rfl ?_|refine wl rfl ?_|refine wm (by decide) ?_|(apply Tri.ldE; (first|exact K0|exact K1|exact K2|exact K3|exact K4|exact K5|exact K6|exact K7|exact K8); (exact rfl); (exact wz rfl))|(apply Tri.stE; (first|exact K0|exact K1|exact K2|exact K3|exact K4|exact K5|exact K6|exact K7|exact K8); (exact rfl); (exact wz rfl))|(apply Tri.same; (first|exact K0|exact K1|exact K2|exact K3|exact K4|exact K5|exact K6|exact K7|exact K8); (exact rfl); (exact wz rfl))|refine wq fun _ => ?_)
      refine Tri.ldsD (d := ⟨_, 0, 1, 1, 2⟩) (by first|exact K0|exact K1|exact K2|exact K3|exact K4|exact K5|exact K6|exact K7|exact K8) rfl (Nat.le_refl _) (Nat.le_of_ble_eq_true rfl) ?_
      refine Tri.app (T := adE) (o := o3) (l := [] ++ y.d.m) [dst] (by first|exact K0|exact K1|exact K2|exact K3|exact K4|exact K5|exact K6|exact K7|exact K8) rfl rfl rfl (by decide) (by decide) (by simp [appBound]; omega) fun o4 => ?_
      rw [List.nil_append]
      refine Tri.slLen (l := y.d.m ++ [dst]) (o := o4) (ro := false) (T := adE) (by first|exact K0|exact K1|exact K2|exact K3|exact K4|exact K5|exact K6|exact K7|exact K8) fun _ e8 => ?_
      rw [e8, show maxI (IntKind.wrap .i64 (((y.d.m ++ [dst]).length : Int) - 16)) 0 = ((y.d.m.length + 1 - 16 : Nat) : Int) by
        rw [List.length_append, List.length_singleton, wr_i64 (by omega) (by omega)]; unfold maxI; split <;> omega]
      refine Tri.slc (T := adE) (ro := false) (o := o4) (l := y.d.m ++ [dst]) (y.d.m.length + 1 - 16) (y.d.m ++ [dst]).length (by first|exact K0|exact K1|exact K2|exact K3|exact K4|exact K5|exact K6|exact K7|exact K8) rfl rfl rfl (by simp; omega) (by omega) fun o5 => ?_
      rw [List.take_length]
      have hmet : (y.d.m ++ [dst]).drop (y.d.m.length + 1 - 16) = metB y.d.m dst := by
        unfold metB; rw [if_neg h4, List.drop_append_of_le_length (by omega)]
      rw [hmet]
      refine wo ?_
      exact (last o5).sub (by repeat (first|exact Sub.refl _|exact Sub.nil _|(apply Sub.cons; (first|exact K0|exact K1|exact K2|exact K3|exact K4|exact K5|exact K6|exact K7|exact K8))|apply Sub.skip))
    · have h4 : dst ∈ y.d.m := by simpa using h4
      have hmet : metB y.d.m dst = y.d.m := by unfold metB; rw [if_pos h4]
      refine wo ?_
      have hl := last y.met
      rw [hmet] at hl
      exact hl.sub (by repeat (first|exact Sub.refl _|exact Sub.nil _|(apply Sub.cons; (first|exact K0|exact K1|exact K2|exact K3|exact K4|exact K5|exact K6|exact K7|exact K8))|apply Sub.skip))
  | cons z R =>
    simp only [List.length_cons] at hlc
    have hz : y.d.m[D.length]? = some z := by rw [hDR]; simp
    have hwr : IntKind.wrap .i64 ((D.length : Int) + 1) = ((D ++ [z]).length : Int) := by rw [wr_i64 (by omega) (by omega)]; simp
    refine Tri.cndT (by simp; omega) ?_
    rw [hwr]
    refine Tri.cnd (fun h4 => ?_) (fun h4 => ?_)
    · have h4 : dst ∈ D := by simpa using h4
      exact Tri.back (m' := R.length) (by simp) ⟨D ++ [z], R, rfl, by rw [hDR]; simp, by rw [decide_eq_true (show dst ∈ D ++ [z] by simp [h4])], rfl⟩ (by repeat (first|exact Sub.refl _|exact Sub.nil _|(apply Sub.cons; (first|exact K0|exact K1|exact K2|exact K3|exact K4|exact K5|exact K6|exact K7|exact K8))|apply Sub.skip))
    · have h4 : dst ∉ D := by simpa using h4
      refine Tri.ixldR (T := adE) (o := y.met) (x := z) (k := 0) (n := 2) (by first|exact K0|exact K1|exact K2|exact K3|exact K4|exact K5|exact K6|exact K7|exact K8) rfl (by omega) (by rw [Int.toNat_natCast]; exact hz) (by decide) rfl ?_
      repeat (first|refine wa ?_|refine wb ?_|refine wc ?_|refine wd ?_|refine we ?_|refine wf ?_|refine wg ?_|refine wh rfl ?_|refine wi rfl ?_|refine wj rfl ?_|refine wk rfl ?_|refine wl rfl ?_|refine wm (by decide) ?_|(apply Tri.ldE; (first|exact K0|exact K1|exact K2|exact K3|exact K4|exact K5|exact K6|exact K7|exact K8); (exact rfl); (exact wz rfl))|(apply Tri.stE; (first|exact K0|exact K1|exact K2|exact K3|exact K4|exact K5|exact K6|exact K7|exact K8); (exact rfl); (exact wz rfl))|(apply Tri.same; (first|exact K0|exact K1|exact K2|exact K3|exact K4|exact K5|exact K6|exact K7|exact K8); (exact rfl); (exact wz rfl))|refine wq fun _ => ?_)
      rw [ad_eq (a := z) (b := dst)]
      exact Tri.back (m' := R.length) (by simp) ⟨D ++ [z], R, rfl, by rw [hDR]; simp, by simp [h4, eq_comm], rfl⟩ (by repeat (first|exact Sub.refl _|exact Sub.nil _|(apply Sub.cons; (first|exact K0|exact K1|exact K2|exact K3|exact K4|exact K5|exact K6|exact K7|exact K8))|apply Sub.skip))
end Go.Proofs.Ytloiifcocgpnbaa
