/- The two answers are one: plain laws; what the law's 'same' comes to. -/
import Derived.Test.YtloiifcocgpnbaaNT
namespace Go.Proofs.Ytloiifcocgpnbaa
open Go Go.Proofs.Ytloiifcocgpnbaa.Fw
set_option linter.unusedVariables false
set_option linter.unusedSimpArgs false
def who2 (x : Bd) : Ad × Ad := (x.inn, x.key)
theorem set_map {α : Type} (f : Bd → α) {l : List Bd} {i : Nat} {x y : Bd} (hx : l[i]? = some x) (hp : f y = f x) : (l.set i y).map f = l.map f := by
  apply List.ext_getElem?
  intro j
  rw [List.getElem?_map, List.getElem?_map, List.getElem?_set]
  obtain ⟨hi, rfl⟩ := List.getElem?_eq_some_iff.1 hx
  by_cases e : i = j
  · subst e
    rw [if_pos rfl, if_pos hi, List.getElem?_eq_getElem hi]
    simp [hp]
  · rw [if_neg e]
theorem ris_iff {l : List Bd} : Ris l ↔ (l.map Bd.port).Pairwise (· < ·) := by unfold Ris; rw [List.pairwise_map]
theorem Ris.set {l : List Bd} (h : Ris l) {i : Nat} {x y : Bd} (hx : l[i]? = some x) (hp : y.port = x.port) : Ris (l.set i y) := by
  rw [ris_iff, set_map Bd.port hx hp]; exact ris_iff.1 h
theorem Ris.nodup {l : List Bd} (h : Ris l) : (l.map Bd.port).Nodup := (ris_iff.1 h).imp fun h => by omega
structure Rel (b x : Bx) : Prop where
  map : x.map = b.map
  fil : x.fil = b.fil
  ip : x.ip = b.ip
  hold : x.hold = b.hold
  room : x.room = b.room
  p : x.l.Perm b.l
  ris : Ris x.l
  pt : Pt b.l b.room
  uq : (b.l.map who2).Nodup
  bi : BI b
theorem Rel.bix {b x : Bx} (h : Rel b x) : BI x := ⟨by rw [h.room]; exact h.bi.r1, by rw [h.room]; exact h.bi.r2, by rw [h.room, h.p.length_eq]; exact h.bi.len, fun y hy => h.bi.sm y (h.p.mem_iff.1 hy)⟩
theorem Rel.ptx {b x : Bx} (h : Rel b x) : Pt x.l x.room := by rw [h.room]; exact h.pt.perm h.p
theorem port_eq {l : List Bd} (h : (l.map Bd.port).Nodup) {y z : Bd} (hy : y ∈ l) (hz : z ∈ l) (e : y.port = z.port) : y = z := by
  obtain ⟨i, hi, rfl⟩ := List.getElem_of_mem hy
  obtain ⟨j, hj, rfl⟩ := List.getElem_of_mem hz
  have : i = j := (List.getElem?_inj (by simpa using hi) h).1 (by rw [List.getElem?_map, List.getElem?_map, List.getElem?_eq_getElem hi, List.getElem?_eq_getElem hj]; simp [e])
  subst this; rfl
theorem who_eq {l : List Bd} (h : (l.map who2).Nodup) {y z : Bd} (hy : y ∈ l) (hz : z ∈ l) (e : who2 y = who2 z) : y = z := by
  obtain ⟨i, hi, rfl⟩ := List.getElem_of_mem hy
  obtain ⟨j, hj, rfl⟩ := List.getElem_of_mem hz
  have : i = j := (List.getElem?_inj (by simpa using hi) h).1 (by rw [List.getElem?_map, List.getElem?_map, List.getElem?_eq_getElem hi, List.getElem?_eq_getElem hj]; simp [e])
  subst this; rfl
theorem set_perm {l l' : List Bd} (h : l.Perm l') {i j : Nat} {y y' : Bd} (hi : l[i]? = some y) (hj : l'[j]? = some y) : (l.set i y').Perm (l'.set j y') := by
  have sp : ∀ {l : List Bd} {i : Nat}, l[i]? = some y → l.Perm (y :: (l.take i ++ l.drop (i + 1))) ∧ (l.set i y').Perm (y' :: (l.take i ++ l.drop (i + 1))) := fun {l i} hi => by
    obtain ⟨hil, rfl⟩ := List.getElem?_eq_some_iff.1 hi
    refine ⟨?_, ?_⟩
    · have h1 : (l.take i ++ l[i] :: l.drop (i + 1)).Perm (l[i] :: (l.take i ++ l.drop (i + 1))) := List.perm_middle
      rw [← List.drop_eq_getElem_cons hil, List.take_append_drop] at h1; exact h1
    · rw [List.set_eq_take_append_cons_drop, if_pos hil]; exact List.perm_middle
  have h1 := sp hi
  have h2 := sp hj
  have h3 : (l.take i ++ l.drop (i + 1)).Perm (l'.take j ++ l'.drop (j + 1)) := (h1.1.symm.trans (h.trans h2.1)).cons_inv
  exact h1.2.trans ((h3.cons y').trans h2.2.symm)
theorem Rel.sweep {b x : Bx} (h : Rel b x) (now : Int) : Rel (sweepB b now) (sweepB x now) :=
  ⟨h.map, h.fil, h.ip, h.hold, h.room, h.p.filter _, h.ris.sweep now, h.pt.sweep now, h.uq.sublist (List.filter_sublist.map _), h.bi.sweep now⟩
theorem Rel.reb {b x : Bx} (h : Rel b x) (ip : Int) : (rebB x ip).1 = (rebB b ip).1 ∧ Rel (rebB b ip).2 (rebB x ip).2 := by
  have hb := h.bi.reb ip
  unfold rebB at hb ⊢
  split
  · exact ⟨rfl, h⟩
  · rename_i hz
    rw [if_neg hz] at hb
    exact ⟨rfl, ⟨h.map, h.fil, rfl, h.hold, h.room, List.Perm.refl _, List.Pairwise.nil, Pt.nil _, by simp, hb⟩⟩
theorem idx_rel {q : Bd → Bool} {l l' : List Bd} (p : l'.Perm l) (hu : ∀ y ∈ l, ∀ z ∈ l, q y = true → q z = true → y = z) : (idxB q l = none ∧ idxB q l' = none) ∨ ∃ i j y, idxB q l = some i ∧ idxB q l' = some j ∧ l[i]? = some y ∧ l'[j]? = some y := by
  cases h : idxB q l with
  | none => exact .inl ⟨rfl, idxB_none fun x hx => idxB_no h x (p.mem_iff.1 hx)⟩
  | some i =>
    obtain ⟨y, hy, hq, _⟩ := idxB_get h
    have hym := List.mem_of_getElem? hy
    cases h' : idxB q l' with
    | none => have := idxB_no h' y (p.mem_iff.2 hym); rw [hq] at this; cases this
    | some j =>
      obtain ⟨z, hz, hqz, _⟩ := idxB_get h'
      have := hu y hym z (p.mem_iff.1 (List.mem_of_getElem? hz)) hq hqz
      subst this
      exact .inr ⟨i, j, y, rfl, rfl, hy, hz⟩
theorem in_rel {b x : Bx} (h : Rel b x) (now port : Int) (src : Ad) : (inB x now port src).1 = (inB b now port src).1 ∧ Rel (inB b now port src).2 (inB x now port src).2 := by
  have hs := h.sweep now
  have hbi := h.bi.inn now port src
  unfold inB at hbi ⊢
  split
  · exact ⟨rfl, h⟩
  · rename_i hc
    rw [if_neg hc] at hbi
    rcases idx_rel (q := isP port) hs.p (fun y hy z hz h1 h2 => port_eq hs.pt.d hy hz (by simp [isP] at h1 h2; omega)) with ⟨e1, e2⟩ | ⟨i, j, y, e1, e2, hi, hj⟩
    · rw [e1, e2]; exact ⟨rfl, hs⟩
    · rw [e1] at hbi ⊢
      rw [e2]
      dsimp only at hbi ⊢
      rw [hi] at hbi ⊢
      rw [hj]
      dsimp only at hbi ⊢
      rw [h.fil]
      split
      · rename_i hp
        rw [if_pos hp] at hbi
        refine ⟨rfl, ⟨h.map, rfl, h.ip, h.hold, h.room, ?_, ?_, ?_, ?_, hbi⟩⟩
        · rw [h.hold]; exact set_perm hs.p hj hi
        · exact hs.ris.set hj rfl
        · exact hs.pt.set hi rfl
        · show ((List.set _ _ _).map who2).Nodup
          rw [set_map who2 (y := { y with til := IntKind.wrap .u64 (now + b.hold) }) hi rfl]; exact hs.uq
      · exact ⟨rfl, hs⟩
theorem minB_le : ∀ (l : List Bd) (m : Bd), (∀ y ∈ m :: l, ult y (minB l m) = false)
  | [], m => by simp [minB, ult]
  | x :: l, m => by
    have ih := minB_le l (if ult x m then x else m)
    rw [minB]
    have hlast := ih (if ult x m then x else m) (by simp)
    intro y hy
    rcases List.mem_cons.1 hy with rfl | hy
    · by_cases hc : ult x y = true
      · rw [if_pos hc] at hlast ⊢
        rw [Bool.eq_false_iff] at hlast ⊢
        intro h
        apply hlast
        rw [ult_iff] at *
        omega
      · rw [if_neg hc] at hlast ⊢; exact hlast
    · rcases List.mem_cons.1 hy with rfl | hy
      · by_cases hc : ult y m = true
        · rw [if_pos hc] at hlast ⊢; exact hlast
        · rw [if_neg hc] at hlast ⊢
          rw [Bool.eq_false_iff] at hlast ⊢
          intro h
          rw [Ne, ult_iff] at hlast
          rw [ult_iff] at hc h
          omega
      · exact ih y (by simp [hy])
theorem min_perm {x x' : Bd} {l l' : List Bd} (p : (x' :: l').Perm (x :: l)) (hn : ((x :: l).map Bd.port).Nodup) : minB l' x' = minB l x := by
  have h1 := minB_mem l x
  have h2 := p.mem_iff.1 (minB_mem l' x')
  have h3 := minB_le l x _ h2
  have h4 := minB_le l' x' _ (p.mem_iff.2 h1)
  refine port_eq hn h2 h1 ?_
  rw [Bool.eq_false_iff] at h3 h4
  rw [Ne, ult_iff] at h3 h4
  omega
theorem evict_rel {b x : Bx} (h : Rel b x) : (evictB x).Perm (evictB b) := by
  have hl := h.p.length_eq
  unfold evictB
  rw [h.room, hl]
  cases hb : b.l with
  | nil =>
    have : x.l = [] := by have := h.p; rw [hb] at this; exact this.eq_nil
    rw [this]
  | cons y r =>
    cases hx : x.l with
    | nil => rw [hb, hx] at hl; simp at hl
    | cons y' r' =>
      have hp := h.p
      rw [hb, hx] at hp
      have hm := min_perm hp (by rw [← hb]; exact h.pt.d)
      dsimp only
      rw [hm]
      split
      · exact hp.filter _
      · exact hp
theorem free_perm {l l' : List Bd} (p : l'.Perm l) : freeB l' = freeB l := by
  have hu : ∀ q, usedB l' q = usedB l q := fun q => by
    rw [Bool.eq_iff_iff, used_iff, used_iff]
    exact ⟨fun ⟨x, hx, e⟩ => ⟨x, p.mem_iff.1 hx, e⟩, fun ⟨x, hx, e⟩ => ⟨x, p.mem_iff.2 hx, e⟩⟩
  obtain ⟨a1, a2, a3, a4⟩ := freeB_ok l
  obtain ⟨b1, b2, b3, b4⟩ := freeB_ok l'
  rcases Int.lt_trichotomy (freeB l') (freeB l) with h | h | h
  · have := a4 _ b2 h; rw [← hu, b1] at this; cases this
  · exact h
  · have := b4 _ a2 h; rw [hu, a1] at this; cases this
theorem ris_ge {l : List Bd} (h : Ris l) (h0 : ∀ x ∈ l, 20000 ≤ x.port) : ∀ (i : Nat) (x : Bd), l[i]? = some x → 20000 + (i : Int) ≤ x.port
  | 0, x, hx => by have := h0 x (List.mem_of_getElem? hx); omega
  | i + 1, x, hx => by
    have hi := (List.getElem?_eq_some_iff.1 hx).1
    have hp : l[i]? = some l[i] := List.getElem?_eq_getElem (by omega)
    have := h.get (Nat.lt_succ_self i) hp hx
    have := ris_ge h h0 i _ hp
    omega
theorem gap_get {l : List Bd} (h : Ris l) (h0 : ∀ x ∈ l, 20000 ≤ x.port) (j : Nat) (hj : j < gapB l) : ∃ x, l[j]? = some x ∧ x.port = 20000 + (j : Int) := by
  induction j using Nat.strongRecOn with
  | ind j ih =>
    have hu := (freeB_ok l).2.2.2 (20000 + (j : Int)) (by omega) (by unfold gapB at hj; omega)
    obtain ⟨y, hy, hyp⟩ := used_iff.1 hu
    obtain ⟨i, hi, rfl⟩ := List.getElem_of_mem hy
    have hi' : l[i]? = some l[i] := List.getElem?_eq_getElem hi
    have hge := ris_ge h h0 i _ hi'
    rcases Nat.lt_or_ge i j with hij | hij
    · obtain ⟨z, hz, hzp⟩ := ih i hij (by omega)
      rw [hi'] at hz; cases hz; omega
    · have : i = j := by omega
      subst this
      exact ⟨_, hi', hyp⟩
theorem gap_ris {l : List Bd} (h : Ris l) (h0 : ∀ x ∈ l, 20000 ≤ x.port) {y : Bd} (hy : y.port = freeB l) : Ris (l.take (gapB l) ++ y :: l.drop (gapB l)) := by
  have hf := freeB_ok l
  have hg : (gapB l : Int) = freeB l - 20000 := by unfold gapB; omega
  refine List.pairwise_append.2 ⟨h.sublist (List.take_sublist _ _), List.pairwise_cons.2 ⟨fun z hz => ?_, h.sublist (List.drop_sublist _ _)⟩, fun a ha c hc => ?_⟩
  · obtain ⟨i, hi, rfl⟩ := List.getElem_of_mem hz
    simp only [List.length_drop] at hi
    rw [List.getElem_drop]
    have hi' : l[gapB l + i]? = some l[gapB l + i] := List.getElem?_eq_getElem (by omega)
    have := ris_ge h h0 _ _ hi'
    have hne : l[gapB l + i].port ≠ freeB l := fun e => by
      have := used_iff.2 ⟨_, List.mem_of_getElem? hi', e⟩
      rw [hf.1] at this; cases this
    omega
  · obtain ⟨i, hi, rfl⟩ := List.getElem_of_mem ha
    simp only [List.length_take] at hi
    rw [List.getElem_take]
    obtain ⟨z, hz, hzp⟩ := gap_get h h0 i (by omega)
    have hi' : l[i]? = some l[i] := List.getElem?_eq_getElem (by omega)
    rw [hi'] at hz
    have hzl : l[i].port = 20000 + (i : Int) := by rw [Option.some.inj hz]; exact hzp
    rcases List.mem_cons.1 hc with rfl | hc
    · omega
    · have : Ris (l.take (gapB l) ++ l.drop (gapB l)) := by rw [List.take_append_drop]; exact h
      have := (List.pairwise_append.1 this).2.2 l[i] (by rw [← List.getElem_take (j := gapB l) (h := by simp; omega)]; exact List.getElem_mem _) c hc
      exact this
theorem bound_rel {b x : Bx} (h : Rel b x) (inn key : Ad) : ∃ y, (bindB b inn key).1[(bindB b inn key).2]? = some y ∧ (atB x inn key).1[(atB x inn key).2]? = some y ∧ (atB x inn key).1.Perm (bindB b inn key).1 ∧ Ris (atB x inn key).1 ∧ ((bindB b inn key).1.map who2).Nodup := by
  rcases idx_rel (q := isK inn key) h.p (fun y hy z hz h1 h2 => who_eq h.uq hy hz (by
    have a := isK_self h1; have c := isK_self h2
    simp [who2, a, c])) with ⟨e1, e2⟩ | ⟨i, j, y, e1, e2, hi, hj⟩
  · have he := evict_rel h
    have hf := free_perm he
    have hb : bindB b inn key = (evictB b ++ [⟨inn, key, freeB (evictB b), [], 0⟩], (evictB b).length) := by unfold bindB; rw [e1]
    have hx : atB x inn key = ((evictB x).take (gapB (evictB x)) ++ ⟨inn, key, freeB (evictB x), [], 0⟩ :: (evictB x).drop (gapB (evictB x)), gapB (evictB x)) := by unfold atB; rw [e2]
    obtain ⟨z, hz⟩ := atB_get x inn key
    have hz2 := hz
    have hg := gap_le (evictB x)
    rw [hx] at hz2
    simp only at hz2
    rw [List.getElem?_append_right (by rw [List.length_take]; omega), List.length_take, Nat.min_eq_left hg, Nat.sub_self] at hz2
    cases hz2
    refine ⟨⟨inn, key, freeB (evictB x), [], 0⟩, by rw [hb, hf]; simp, hz, ?_, ?_, ?_⟩
    · rw [hx, hb]
      refine List.perm_middle.trans ?_
      rw [List.take_append_drop, ← hf]
      exact (List.perm_append_comm (l₁ := [_])).trans (he.append_right _)
    · rw [hx]
      exact gap_ris h.ris.evict (fun y hy => (h.ptx.r y (evict_sub x y hy)).1) rfl
    · rw [hb, List.map_append]
      refine List.nodup_append.2 ⟨h.uq.sublist ((evict_sublist b).map _), by simp, fun a ha c hc hac => ?_⟩
      simp at hc
      obtain ⟨w, hw, rfl⟩ := List.mem_map.1 ha
      have hno := idxB_no e1 w (evict_sub b w hw)
      rw [hc] at hac
      simp [who2] at hac
      simp [isK, hac] at hno
  · have hb : bindB b inn key = (b.l, i) := by unfold bindB; rw [e1]
    have hx : atB x inn key = (x.l, j) := by unfold atB; rw [e2]
    rw [hb, hx]
    exact ⟨y, hi, hj, h.p, h.ris, h.uq⟩
theorem out_rel {b x : Bx} (h : Rel b x) (now : Int) (src dst : Ad) : (outX x now src dst).1 = (outB b now src dst).1 ∧ Rel (outB b now src dst).2 (outX x now src dst).2 := by
  have hs := h.sweep now
  have hbi := h.bi.out now src dst
  have hpt := h.pt.out h.bi now src dst
  obtain ⟨y, hy, hz, hp, hr, hu⟩ := bound_rel hs src (keyB b.map dst)
  unfold outB at hbi hpt ⊢
  unfold outX
  split
  · exact ⟨rfl, h⟩
  · rename_i hc
    rw [if_neg hc] at hbi hpt
    unfold boundX
    rw [h.map]
    unfold bound1 at hbi hpt ⊢
    rw [hy] at hbi hpt ⊢
    rw [hz]
    dsimp only at hbi hpt ⊢
    refine ⟨by rw [h.ip], ⟨rfl, h.fil, h.ip, h.hold, h.room, ?_, ?_, hpt, ?_, hbi⟩⟩
    · rw [h.hold]; exact set_perm hp hz hy
    · exact hr.set hz rfl
    · show ((List.set _ _ (useB now b.hold dst y)).map who2).Nodup
      rw [set_map who2 (y := useB now b.hold dst y) hy rfl]; exact hu
end Go.Proofs.Ytloiifcocgpnbaa
namespace Go.Proofs.Ytloiifcocgpnbaa
open Go Go.Proofs.Ytloiifcocgpnbaa.Fw
set_option linter.unusedVariables false
set_option linter.unusedSimpArgs false
theorem type2_spec {p : Nat} {b : Bx} : FSpec E 51 [.sc (.p (some (p, 0)))] [Bo p b] (fun v L' => v = .ag [.i .i64 b.map, .i .i64 b.fil] ∧ L' = [Bo p b]) := by
  refine FSpec.of (Try.func51 : Try.prog.funcs[51]? = some Try.f51) (t51_eq _ _) fun F => ?_
  unfold t51
  refine Bo.op (by first|exact K0|exact K1|exact K2|exact K3|exact K4|exact K5|exact K6|exact K7|exact K8) fun o l hl hn e1 => ?_
  repeat (first|refine wa ?_|refine wb ?_|refine wc ?_|refine wd ?_|refine we ?_|refine wf ?_|refine wg ?_|refine wh rfl ?_|refine wi rfl ?_|refine wj rfl ?_|refine wk rfl ?_|refine wl rfl ?_|refine wm (by decide) ?_|refine wn ?_|refine wo ?_|refine wp (by decide) ?_|(apply Tri.ldE; (first|exact K0|exact K1|exact K2|exact K3|exact K4|exact K5|exact K6|exact K7|exact K8); (exact rfl); (exact wz rfl))|(apply Tri.stE; (first|exact K0|exact K1|exact K2|exact K3|exact K4|exact K5|exact K6|exact K7|exact K8); (exact rfl); (exact wz rfl))|(apply Tri.same; (first|exact K0|exact K1|exact K2|exact K3|exact K4|exact K5|exact K6|exact K7|exact K8); (exact rfl); (exact wz rfl))|refine wq fun _ => ?_)
  refine Bo.mk hl (by first|exact K0|exact K1|exact K2|exact K3|exact K4|exact K5|exact K6|exact K7|exact K8) (by first|exact K0|exact K1|exact K2|exact K3|exact K4|exact K5|exact K6|exact K7|exact K8) (by first|exact K0|exact K1|exact K2|exact K3|exact K4|exact K5|exact K6|exact K7|exact K8) ?_
  exact Tri.retF ⟨rfl, rfl⟩ (by repeat (first|exact Sub.refl _|exact Sub.nil _|(apply Sub.cons; (first|exact K0|exact K1|exact K2|exact K3|exact K4|exact K5|exact K6|exact K7|exact K8))|apply Sub.skip))
theorem ris_uniq : ∀ {l l' : List Bd}, Ris l → Ris l' → l.Perm l' → l = l'
  | [], l', _, _, p => p.nil_eq
  | a :: l, [], _, _, p => by have := p.length_eq; simp at this
  | a :: l, c :: l', h, h', p => by
    obtain ⟨h1, h2⟩ := List.pairwise_cons.1 h
    obtain ⟨h3, h4⟩ := List.pairwise_cons.1 h'
    have e : a = c := by
      have ha := p.mem_iff.1 (List.mem_cons_self)
      have hc := p.mem_iff.2 (List.mem_cons_self)
      rcases List.mem_cons.1 ha with e | ha
      · exact e
      · rcases List.mem_cons.1 hc with e | hc
        · exact e.symm
        · have := h3 a ha; have := h1 c hc; omega
    subst e
    rw [ris_uniq h2 h4 p.cons_inv]
set_option maxRecDepth 20000 in
set_option maxHeartbeats 4000000 in
theorem same_spec {p x : Nat} {b xb : Bx} (h : Rel b xb) : FSpec E 27 [.sc (.p (some (p, 0))), .sc (.p (some (x, 0)))] [Bo p b, Bo x xb] (fun v L' => v = .sc (.b true) ∧ L' = [Bo p b, Bo x xb]) := by
  refine FSpec.of (Try.func27 : Try.prog.funcs[27]? = some Try.f27) (t27_eq _ _ _ _) fun F => ?_
  have hb90 := h.bi.b90
  have hx90 := h.bix.b90
  unfold t27
  repeat (first|refine wa ?_|refine wb ?_|refine wc ?_|refine wd ?_|refine we ?_|refine wf ?_|refine wg ?_|refine wh rfl ?_|refine wi rfl ?_|refine wj rfl ?_|refine wk rfl ?_|refine wl rfl ?_|refine wm (by decide) ?_|(apply Tri.ldE; (first|exact K0|exact K1|exact K2|exact K3|exact K4|exact K5|exact K6|exact K7|exact K8); (exact rfl); (exact wz rfl))|(apply Tri.stE; (first|exact K0|exact K1|exact K2|exact K3|exact K4|exact K5|exact K6|exact K7|exact K8); (exact rfl); (exact wz rfl))|(apply Tri.same; (first|exact K0|exact K1|exact K2|exact K3|exact K4|exact K5|exact K6|exact K7|exact K8); (exact rfl); (exact wz rfl))|refine wq fun _ => ?_)
  refine Tri.call (binds_spec (b := b) hb90 h.bi.sm) (by repeat (first|exact Picks.nil|(apply Picks.cons; (first|exact K0|exact K1|exact K2|exact K3|exact K4|exact K5|exact K6|exact K7|exact K8)))) ?_
  rintro v L' ⟨ov, W, rfl, hp, hsrt, rfl⟩
  simp only [List.cons_append, List.nil_append]
  repeat (first|refine wa ?_|refine wb ?_|refine wc ?_|refine wd ?_|refine we ?_|refine wf ?_|refine wg ?_|refine wh rfl ?_|refine wi rfl ?_|refine wj rfl ?_|refine wk rfl ?_|refine wl rfl ?_|refine wm (by decide) ?_|(apply Tri.ldE; (first|exact K0|exact K1|exact K2|exact K3|exact K4|exact K5|exact K6|exact K7|exact K8); (exact rfl); (exact wz rfl))|(apply Tri.stE; (first|exact K0|exact K1|exact K2|exact K3|exact K4|exact K5|exact K6|exact K7|exact K8); (exact rfl); (exact wz rfl))|(apply Tri.same; (first|exact K0|exact K1|exact K2|exact K3|exact K4|exact K5|exact K6|exact K7|exact K8); (exact rfl); (exact wz rfl))|refine wq fun _ => ?_)
  have hWr : Ris (W.map Bm.d) := by
    have hnd : (W.map Bm.d).Pairwise (fun a b => a.port ≠ b.port) := List.pairwise_map.1 (h.pt.perm hp).d
    exact (hsrt.and hnd).imp fun ⟨h1, h2⟩ => by omega
  have hWx : W.map Bm.d = xb.l := ris_uniq hWr h.ris (hp.trans h.p.symm)
  refine Bo.op (p := x) (by first|exact K0|exact K1|exact K2|exact K3|exact K4|exact K5|exact K6|exact K7|exact K8) fun o l hl hn e1 => ?_
  refine Tri.slLen (l := W) (o := ov) (ro := false) (T := bmE) (by first|exact K0|exact K1|exact K2|exact K3|exact K4|exact K5|exact K6|exact K7|exact K8) fun _ e2 => ?_
  have hWl : W.length = l.length := by have := congrArg List.length (hWx.trans hl.symm); simpa using this
  repeat (first|refine wa ?_|refine wb ?_|refine wc ?_|refine wd ?_|refine we ?_|refine wf ?_|refine wg ?_|refine wh rfl ?_|refine wi rfl ?_|refine wj rfl ?_|refine wk rfl ?_|refine wl rfl ?_|refine wm (by decide) ?_|(apply Tri.ldE; (first|exact K0|exact K1|exact K2|exact K3|exact K4|exact K5|exact K6|exact K7|exact K8); (exact rfl); (exact wz rfl))|(apply Tri.stE; (first|exact K0|exact K1|exact K2|exact K3|exact K4|exact K5|exact K6|exact K7|exact K8); (exact rfl); (exact wz rfl))|(apply Tri.same; (first|exact K0|exact K1|exact K2|exact K3|exact K4|exact K5|exact K6|exact K7|exact K8); (exact rfl); (exact wz rfl))|refine wq fun _ => ?_)
  rw [e1, e2, hWl, hn]
  refine Tri.cndF (by simp) ?_
  repeat (first|refine wa ?_|refine wb ?_|refine wc ?_|refine wd ?_|refine we ?_|refine wf ?_|refine wg ?_|refine wh rfl ?_|refine wi rfl ?_|refine wj rfl ?_|refine wk rfl ?_|refine wl rfl ?_|refine wm (by decide) ?_|(apply Tri.ldE; (first|exact K0|exact K1|exact K2|exact K3|exact K4|exact K5|exact K6|exact K7|exact K8); (exact rfl); (exact wz rfl))|(apply Tri.stE; (first|exact K0|exact K1|exact K2|exact K3|exact K4|exact K5|exact K6|exact K7|exact K8); (exact rfl); (exact wz rfl))|(apply Tri.same; (first|exact K0|exact K1|exact K2|exact K3|exact K4|exact K5|exact K6|exact K7|exact K8); (exact rfl); (exact wz rfl))|refine wq fun _ => ?_)
  refine Tri.call (ip_spec (p := p) (b := b)) (by repeat (first|exact Picks.nil|(apply Picks.cons; (first|exact K0|exact K1|exact K2|exact K3|exact K4|exact K5|exact K6|exact K7|exact K8)))) ?_
  rintro v L' ⟨rfl, rfl⟩
  simp only [List.cons_append, List.nil_append]
  repeat (first|refine wa ?_|refine wb ?_|refine wc ?_|refine wd ?_|refine we ?_|refine wf ?_|refine wg ?_|refine wh rfl ?_|refine wi rfl ?_|refine wj rfl ?_|refine wk rfl ?_|refine wl rfl ?_|refine wm (by decide) ?_|(apply Tri.ldE; (first|exact K0|exact K1|exact K2|exact K3|exact K4|exact K5|exact K6|exact K7|exact K8); (exact rfl); (exact wz rfl))|(apply Tri.stE; (first|exact K0|exact K1|exact K2|exact K3|exact K4|exact K5|exact K6|exact K7|exact K8); (exact rfl); (exact wz rfl))|(apply Tri.same; (first|exact K0|exact K1|exact K2|exact K3|exact K4|exact K5|exact K6|exact K7|exact K8); (exact rfl); (exact wz rfl))|refine wq fun _ => ?_)
  refine Tri.cndF (by simp [h.ip]) ?_
  repeat (first|refine wa ?_|refine wb ?_|refine wc ?_|refine wd ?_|refine we ?_|refine wf ?_|refine wg ?_|refine wh rfl ?_|refine wi rfl ?_|refine wj rfl ?_|refine wk rfl ?_|refine wl rfl ?_|refine wm (by decide) ?_|(apply Tri.ldE; (first|exact K0|exact K1|exact K2|exact K3|exact K4|exact K5|exact K6|exact K7|exact K8); (exact rfl); (exact wz rfl))|(apply Tri.stE; (first|exact K0|exact K1|exact K2|exact K3|exact K4|exact K5|exact K6|exact K7|exact K8); (exact rfl); (exact wz rfl))|(apply Tri.same; (first|exact K0|exact K1|exact K2|exact K3|exact K4|exact K5|exact K6|exact K7|exact K8); (exact rfl); (exact wz rfl))|refine wq fun _ => ?_)
  refine Tri.call (type2_spec (p := p) (b := b)) (by repeat (first|exact Picks.nil|(apply Picks.cons; (first|exact K0|exact K1|exact K2|exact K3|exact K4|exact K5|exact K6|exact K7|exact K8)))) ?_
  rintro v L' ⟨rfl, rfl⟩
  simp only [List.cons_append, List.nil_append]
  repeat (first|refine wa ?_|refine wb ?_|refine wc ?_|refine wd ?_|refine we ?_|refine wf ?_|refine wg ?_|refine wh rfl ?_|refine wi rfl ?_|refine wj rfl ?_|refine wk rfl ?_|refine wl rfl ?_|refine wm (by decide) ?_|(apply Tri.ldE; (first|exact K0|exact K1|exact K2|exact K3|exact K4|exact K5|exact K6|exact K7|exact K8); (exact rfl); (exact wz rfl))|(apply Tri.stE; (first|exact K0|exact K1|exact K2|exact K3|exact K4|exact K5|exact K6|exact K7|exact K8); (exact rfl); (exact wz rfl))|(apply Tri.same; (first|exact K0|exact K1|exact K2|exact K3|exact K4|exact K5|exact K6|exact K7|exact K8); (exact rfl); (exact wz rfl))|refine wq fun _ => ?_)
  refine Tri.cndF (by simp [h.map]) ?_
  repeat (first|refine wa ?_|refine wb ?_|refine wc ?_|refine wd ?_|refine we ?_|refine wf ?_|refine wg ?_|refine wh rfl ?_|refine wi rfl ?_|refine wj rfl ?_|refine wk rfl ?_|refine wl rfl ?_|refine wm (by decide) ?_|(apply Tri.ldE; (first|exact K0|exact K1|exact K2|exact K3|exact K4|exact K5|exact K6|exact K7|exact K8); (exact rfl); (exact wz rfl))|(apply Tri.stE; (first|exact K0|exact K1|exact K2|exact K3|exact K4|exact K5|exact K6|exact K7|exact K8); (exact rfl); (exact wz rfl))|(apply Tri.same; (first|exact K0|exact K1|exact K2|exact K3|exact K4|exact K5|exact K6|exact K7|exact K8); (exact rfl); (exact wz rfl))|refine wq fun _ => ?_)
  refine Tri.call (type2_spec (p := p) (b := b)) (by repeat (first|exact Picks.nil|(apply Picks.cons; (first|exact K0|exact K1|exact K2|exact K3|exact K4|exact K5|exact K6|exact K7|exact K8)))) ?_
  rintro v L' ⟨rfl, rfl⟩
  simp only [List.cons_append, List.nil_append]
  repeat (first|refine wa ?_|refine wb ?_|refine wc ?_|refine wd ?_|refine we ?_|refine wf ?_|refine wg ?_|refine wh rfl ?_|refine wi rfl ?_|refine wj rfl ?_|refine wk rfl ?_|refine wl rfl ?_|refine wm (by decide) ?_|(apply Tri.ldE; (first|exact K0|exact K1|exact K2|exact K3|exact K4|exact K5|exact K6|exact K7|exact K8); (exact rfl); (exact wz rfl))|(apply Tri.stE; (first|exact K0|exact K1|exact K2|exact K3|exact K4|exact K5|exact K6|exact K7|exact K8); (exact rfl); (exact wz rfl))|(apply Tri.same; (first|exact K0|exact K1|exact K2|exact K3|exact K4|exact K5|exact K6|exact K7|exact K8); (exact rfl); (exact wz rfl))|refine wq fun _ => ?_)
  refine Tri.cndF (by simp [h.fil]) ?_
  have hget : ∀ (i : Nat) (w y : Bm), W[i]? = some w → l[i]? = some y → w.d = y.d := fun i w y hw hy => by
    have h1 : (W.map Bm.d)[i]? = some w.d := by rw [List.getElem?_map, hw]; rfl
    have h2 : (l.map Bm.d)[i]? = some y.d := by rw [List.getElem?_map, hy]; rfl
    rw [hWx, ← hl, h2] at h1
    exact (Option.some.inj h1).symm
  refine Tri.loop (I := fun m l' L => ∃ i : Nat, m = l.length - i ∧ i ≤ l.length ∧ l' = [.sc (.p (some (x, 0))), .sc (.sl ov), .sc (.i .i64 i)] ∧
    L = pt x (bxC xb o) :: .sl false bmE o l :: Mets l :: .sl false bmE ov W :: Mets W :: Bo p b :: F) ⟨0, rfl, Nat.zero_le _, rfl, rfl⟩ (by repeat (first|exact Sub.refl _|exact Sub.nil _|(apply Sub.cons; (first|exact K0|exact K1|exact K2|exact K3|exact K4|exact K5|exact K6|exact K7|exact K8))|apply Sub.skip)) ?_
  rintro m l' L ⟨i, rfl, hi, rfl, rfl⟩
  unfold t27_b40
  repeat (first|refine wa ?_|refine wb ?_|refine wc ?_|refine wd ?_|refine we ?_|refine wf ?_|refine wg ?_|refine wh rfl ?_|refine wi rfl ?_|refine wj rfl ?_|refine wk rfl ?_|refine wl rfl ?_|refine wm (by decide) ?_|(apply Tri.ldE; (first|exact K0|exact K1|exact K2|exact K3|exact K4|exact K5|exact K6|exact K7|exact K8); (exact rfl); (exact wz rfl))|(apply Tri.stE; (first|exact K0|exact K1|exact K2|exact K3|exact K4|exact K5|exact K6|exact K7|exact K8); (exact rfl); (exact wz rfl))|(apply Tri.same; (first|exact K0|exact K1|exact K2|exact K3|exact K4|exact K5|exact K6|exact K7|exact K8); (exact rfl); (exact wz rfl))|refine wq fun _ => ?_)
  rw [e2]
  by_cases hil : i < l.length
  · obtain ⟨y, hy⟩ : ∃ y, l[i]? = some y := ⟨l[i], List.getElem?_eq_getElem hil⟩
    obtain ⟨w, hw⟩ : ∃ w, W[i]? = some w := ⟨W[i], List.getElem?_eq_getElem (by omega)⟩
    have hwy := hget i w y hw hy
    obtain ⟨A, B, rfl, hA⟩ := split_at hy
    obtain ⟨A', B', rfl, hA'⟩ := split_at hw
    have hym : y.d.m.length ≤ 16 := h.bix.sm y.d (by rw [← hl]; simp)
    refine Tri.cndT (by simp; omega) ?_
    repeat (first|refine wa ?_|refine wb ?_|refine wc ?_|refine wd ?_|refine we ?_|refine wf ?_|refine wg ?_|refine wh rfl ?_|refine wi rfl ?_|refine wj rfl ?_|refine wk rfl ?_|refine wl rfl ?_|refine wm (by decide) ?_|(apply Tri.ldE; (first|exact K0|exact K1|exact K2|exact K3|exact K4|exact K5|exact K6|exact K7|exact K8); (exact rfl); (exact wz rfl))|(apply Tri.stE; (first|exact K0|exact K1|exact K2|exact K3|exact K4|exact K5|exact K6|exact K7|exact K8); (exact rfl); (exact wz rfl))|(apply Tri.same; (first|exact K0|exact K1|exact K2|exact K3|exact K4|exact K5|exact K6|exact K7|exact K8); (exact rfl); (exact wz rfl))|refine wq fun _ => ?_)
    refine Tri.ixldR (T := bmE) (o := o) (x := y) (k := 0) (n := 7) (by first|exact K0|exact K1|exact K2|exact K3|exact K4|exact K5|exact K6|exact K7|exact K8) rfl (by omega) (by rw [Int.toNat_natCast]; exact hy) (by decide) rfl ?_
    repeat (first|refine wa ?_|refine wb ?_|refine wc ?_|refine wd ?_|refine we ?_|refine wf ?_|refine wg ?_|refine wh rfl ?_|refine wi rfl ?_|refine wj rfl ?_|refine wk rfl ?_|refine wl rfl ?_|refine wm (by decide) ?_|(apply Tri.ldE; (first|exact K0|exact K1|exact K2|exact K3|exact K4|exact K5|exact K6|exact K7|exact K8); (exact rfl); (exact wz rfl))|(apply Tri.stE; (first|exact K0|exact K1|exact K2|exact K3|exact K4|exact K5|exact K6|exact K7|exact K8); (exact rfl); (exact wz rfl))|(apply Tri.same; (first|exact K0|exact K1|exact K2|exact K3|exact K4|exact K5|exact K6|exact K7|exact K8); (exact rfl); (exact wz rfl))|refine wq fun _ => ?_)
    rename_i a68
    refine Tri.ixldR (T := bmE) (o := ov) (x := w) (k := 0) (n := 2) (by first|exact K0|exact K1|exact K2|exact K3|exact K4|exact K5|exact K6|exact K7|exact K8) rfl (by omega) (by rw [Int.toNat_natCast]; exact hw) (by decide) rfl ?_
    repeat (first|refine wa ?_|refine wb ?_|refine wc ?_|refine wd ?_|refine we ?_|refine wf ?_|refine wg ?_|refine wh rfl ?_|refine wi rfl ?_|refine wj rfl ?_|refine wk rfl ?_|refine wl rfl ?_|refine wm (by decide) ?_|(apply Tri.ldE; (first|exact K0|exact K1|exact K2|exact K3|exact K4|exact K5|exact K6|exact K7|exact K8); (exact rfl); (exact wz rfl))|(apply Tri.stE; (first|exact K0|exact K1|exact K2|exact K3|exact K4|exact K5|exact K6|exact K7|exact K8); (exact rfl); (exact wz rfl))|(apply Tri.same; (first|exact K0|exact K1|exact K2|exact K3|exact K4|exact K5|exact K6|exact K7|exact K8); (exact rfl); (exact wz rfl))|refine wq fun _ => ?_)
    refine Tri.call (rref_spec (a := w.d.inn)) (by repeat (first|exact Picks.nil|(apply Picks.cons; (first|exact K0|exact K1|exact K2|exact K3|exact K4|exact K5|exact K6|exact K7|exact K8)))) ?_
    rintro v L' ⟨rfl, rfl⟩
    simp only [List.cons_append, List.nil_append]
    repeat (first|refine wa ?_|refine wb ?_|refine wc ?_|refine wd ?_|refine we ?_|refine wf ?_|refine wg ?_|refine wh rfl ?_|refine wi rfl ?_|refine wj rfl ?_|refine wk rfl ?_|refine wl rfl ?_|refine wm (by decide) ?_|(apply Tri.ldE; (first|exact K0|exact K1|exact K2|exact K3|exact K4|exact K5|exact K6|exact K7|exact K8); (exact rfl); (exact wz rfl))|(apply Tri.stE; (first|exact K0|exact K1|exact K2|exact K3|exact K4|exact K5|exact K6|exact K7|exact K8); (exact rfl); (exact wz rfl))|(apply Tri.same; (first|exact K0|exact K1|exact K2|exact K3|exact K4|exact K5|exact K6|exact K7|exact K8); (exact rfl); (exact wz rfl))|refine wq fun _ => ?_)
    refine Tri.cndF (by simp [hwy]) ?_
    refine Tri.ixldR (T := bmE) (o := ov) (x := w) (k := 2) (n := 2) (by first|exact K0|exact K1|exact K2|exact K3|exact K4|exact K5|exact K6|exact K7|exact K8) rfl (by omega) (by rw [Int.toNat_natCast]; exact hw) (by decide) rfl ?_
    repeat (first|refine wa ?_|refine wb ?_|refine wc ?_|refine wd ?_|refine we ?_|refine wf ?_|refine wg ?_|refine wh rfl ?_|refine wi rfl ?_|refine wj rfl ?_|refine wk rfl ?_|refine wl rfl ?_|refine wm (by decide) ?_|(apply Tri.ldE; (first|exact K0|exact K1|exact K2|exact K3|exact K4|exact K5|exact K6|exact K7|exact K8); (exact rfl); (exact wz rfl))|(apply Tri.stE; (first|exact K0|exact K1|exact K2|exact K3|exact K4|exact K5|exact K6|exact K7|exact K8); (exact rfl); (exact wz rfl))|(apply Tri.same; (first|exact K0|exact K1|exact K2|exact K3|exact K4|exact K5|exact K6|exact K7|exact K8); (exact rfl); (exact wz rfl))|refine wq fun _ => ?_)
    refine Tri.call (rref_spec (a := w.d.key)) (by repeat (first|exact Picks.nil|(apply Picks.cons; (first|exact K0|exact K1|exact K2|exact K3|exact K4|exact K5|exact K6|exact K7|exact K8)))) ?_
    rintro v L' ⟨rfl, rfl⟩
    simp only [List.cons_append, List.nil_append]
    repeat (first|refine wa ?_|refine wb ?_|refine wc ?_|refine wd ?_|refine we ?_|refine wf ?_|refine wg ?_|refine wh rfl ?_|refine wi rfl ?_|refine wj rfl ?_|refine wk rfl ?_|refine wl rfl ?_|refine wm (by decide) ?_|(apply Tri.ldE; (first|exact K0|exact K1|exact K2|exact K3|exact K4|exact K5|exact K6|exact K7|exact K8); (exact rfl); (exact wz rfl))|(apply Tri.stE; (first|exact K0|exact K1|exact K2|exact K3|exact K4|exact K5|exact K6|exact K7|exact K8); (exact rfl); (exact wz rfl))|(apply Tri.same; (first|exact K0|exact K1|exact K2|exact K3|exact K4|exact K5|exact K6|exact K7|exact K8); (exact rfl); (exact wz rfl))|refine wq fun _ => ?_)
    refine Tri.cndF (by simp [hwy]) ?_
    refine Tri.ixldR (T := bmE) (o := ov) (x := w) (k := 4) (n := 1) (by first|exact K0|exact K1|exact K2|exact K3|exact K4|exact K5|exact K6|exact K7|exact K8) rfl (by omega) (by rw [Int.toNat_natCast]; exact hw) (by decide) rfl ?_
    repeat (first|refine wa ?_|refine wb ?_|refine wc ?_|refine wd ?_|refine we ?_|refine wf ?_|refine wg ?_|refine wh rfl ?_|refine wi rfl ?_|refine wj rfl ?_|refine wk rfl ?_|refine wl rfl ?_|refine wm (by decide) ?_|(apply Tri.ldE; (first|exact K0|exact K1|exact K2|exact K3|exact K4|exact K5|exact K6|exact K7|exact K8); (exact rfl); (exact wz rfl))|(apply Tri.stE; (first|exact K0|exact K1|exact K2|exact K3|exact K4|exact K5|exact K6|exact K7|exact K8); (exact rfl); (exact wz rfl))|(apply Tri.same; (first|exact K0|exact K1|exact K2|exact K3|exact K4|exact K5|exact K6|exact K7|exact K8); (exact rfl); (exact wz rfl))|refine wq fun _ => ?_)
    refine Tri.cndF (by simp [hwy]) ?_
    refine Tri.ixldR (T := bmE) (o := ov) (x := w) (k := 6) (n := 1) (by first|exact K0|exact K1|exact K2|exact K3|exact K4|exact K5|exact K6|exact K7|exact K8) rfl (by omega) (by rw [Int.toNat_natCast]; exact hw) (by decide) rfl ?_
    repeat (first|refine wa ?_|refine wb ?_|refine wc ?_|refine wd ?_|refine we ?_|refine wf ?_|refine wg ?_|refine wh rfl ?_|refine wi rfl ?_|refine wj rfl ?_|refine wk rfl ?_|refine wl rfl ?_|refine wm (by decide) ?_|(apply Tri.ldE; (first|exact K0|exact K1|exact K2|exact K3|exact K4|exact K5|exact K6|exact K7|exact K8); (exact rfl); (exact wz rfl))|(apply Tri.stE; (first|exact K0|exact K1|exact K2|exact K3|exact K4|exact K5|exact K6|exact K7|exact K8); (exact rfl); (exact wz rfl))|(apply Tri.same; (first|exact K0|exact K1|exact K2|exact K3|exact K4|exact K5|exact K6|exact K7|exact K8); (exact rfl); (exact wz rfl))|refine wq fun _ => ?_)
    refine Tri.cndF (by simp [hwy]) ?_
    refine Tri.ixldR (T := bmE) (o := ov) (x := w) (k := 5) (n := 1) (by first|exact K0|exact K1|exact K2|exact K3|exact K4|exact K5|exact K6|exact K7|exact K8) rfl (by omega) (by rw [Int.toNat_natCast]; exact hw) (by decide) rfl ?_
    repeat (first|refine wa ?_|refine wb ?_|refine wc ?_|refine wd ?_|refine we ?_|refine wf ?_|refine wg ?_|refine wh rfl ?_|refine wi rfl ?_|refine wj rfl ?_|refine wk rfl ?_|refine wl rfl ?_|refine wm (by decide) ?_|(apply Tri.ldE; (first|exact K0|exact K1|exact K2|exact K3|exact K4|exact K5|exact K6|exact K7|exact K8); (exact rfl); (exact wz rfl))|(apply Tri.stE; (first|exact K0|exact K1|exact K2|exact K3|exact K4|exact K5|exact K6|exact K7|exact K8); (exact rfl); (exact wz rfl))|(apply Tri.same; (first|exact K0|exact K1|exact K2|exact K3|exact K4|exact K5|exact K6|exact K7|exact K8); (exact rfl); (exact wz rfl))|refine wq fun _ => ?_)
    refine Tri.metsOut (l := A ++ y :: B) (x := y) (l' := A ++ B) (by first|exact K0|exact K1|exact K2|exact K3|exact K4|exact K5|exact K6|exact K7|exact K8) List.perm_middle ?_
    refine Tri.metsOut (l := A' ++ w :: B') (x := w) (l' := A' ++ B') (by first|exact K0|exact K1|exact K2|exact K3|exact K4|exact K5|exact K6|exact K7|exact K8) List.perm_middle ?_
    rw [hwy]
    refine Tri.slLen (l := y.d.m) (o := y.met) (ro := false) (T := adE) (by first|exact K0|exact K1|exact K2|exact K3|exact K4|exact K5|exact K6|exact K7|exact K8) fun _ e5 => ?_
    refine Tri.slLen (l := y.d.m) (o := w.met) (ro := false) (T := adE) (by first|exact K0|exact K1|exact K2|exact K3|exact K4|exact K5|exact K6|exact K7|exact K8) fun _ e6 => ?_
    rw [e5, e6]
    refine Tri.cndF (by simp) ?_
    refine Tri.loop (I := fun m l' L => ∃ D R : List Ad, m = R.length ∧ y.d.m = D ++ R ∧ l' = [.sc (.p (some (x, 0))), .sc (.sl ov), .sc (.i .i64 i), .sc (.p (some (a68, 0))), .sc (.i .i64 D.length)] ∧
      L = pt a68 (bmE.e y) :: .sl false adE w.met y.d.m :: .sl false adE y.met y.d.m :: Mets (A' ++ B') :: Mets (A ++ B) :: pt x (bxC xb o) :: .sl false bmE o (A ++ y :: B) :: .sl false bmE ov (A' ++ w :: B') :: Bo p b :: F) ⟨[], y.d.m, rfl, rfl, rfl, rfl⟩ (by repeat (first|exact Sub.refl _|exact Sub.nil _|(apply Sub.cons; (first|exact K0|exact K1|exact K2|exact K3|exact K4|exact K5|exact K6|exact K7|exact K8))|apply Sub.skip)) ?_
    rintro m l' L ⟨D, R, rfl, hDR, rfl, rfl⟩
    have hlc : y.d.m.length = D.length + R.length := by rw [hDR]; simp
    unfold t27_b134
    repeat (first|refine wa ?_|refine wb ?_|refine wc ?_|refine wd ?_|refine we ?_|refine wf ?_|refine wg ?_|refine wh rfl ?_|refine wi rfl ?_|refine wj rfl ?_|refine wk rfl ?_|refine wl rfl ?_|refine wm (by decide) ?_|(apply Tri.ldE; (first|exact K0|exact K1|exact K2|exact K3|exact K4|exact K5|exact K6|exact K7|exact K8); (exact rfl); (exact wz rfl))|(apply Tri.stE; (first|exact K0|exact K1|exact K2|exact K3|exact K4|exact K5|exact K6|exact K7|exact K8); (exact rfl); (exact wz rfl))|(apply Tri.same; (first|exact K0|exact K1|exact K2|exact K3|exact K4|exact K5|exact K6|exact K7|exact K8); (exact rfl); (exact wz rfl))|refine wq fun _ => ?_)
    rw [e5]
    cases R with
    | nil =>
      refine Tri.cndF (by simp at hlc; simp; omega) ?_
      refine Tri.exit (by decide) ?_
      unfold t27_k134
      repeat (first|refine wa ?_|refine wb ?_|refine wc ?_|refine wd ?_|refine we ?_|refine wf ?_|refine wg ?_|refine wh rfl ?_|refine wi rfl ?_|refine wj rfl ?_|refine wk rfl ?_|refine wl rfl ?_|refine wm (by decide) ?_|(apply Tri.ldE; (first|exact K0|exact K1|exact K2|exact K3|exact K4|exact K5|exact K6|exact K7|exact K8); (exact rfl); (exact wz rfl))|(apply Tri.stE; (first|exact K0|exact K1|exact K2|exact K3|exact K4|exact K5|exact K6|exact K7|exact K8); (exact rfl); (exact wz rfl))|(apply Tri.same; (first|exact K0|exact K1|exact K2|exact K3|exact K4|exact K5|exact K6|exact K7|exact K8); (exact rfl); (exact wz rfl))|refine wq fun _ => ?_)
      refine Tri.metsIn (l := A ++ B) y (by first|exact K0|exact K1|exact K2|exact K3|exact K4|exact K5|exact K6|exact K7|exact K8) (by first|exact K0|exact K1|exact K2|exact K3|exact K4|exact K5) ?_
      refine Tri.metsTo (l := y :: (A ++ B)) (l' := A ++ y :: B) (X := []) (by first|exact K0|exact K1|exact K2|exact K3|exact K4|exact K5|exact K6|exact K7|exact K8) (by rw [List.append_nil]; exact List.perm_middle.symm) ?_
      rw [← hwy]
      refine Tri.metsIn (l := A' ++ B') w (by first|exact K0|exact K1|exact K2|exact K3|exact K4|exact K5|exact K6|exact K7|exact K8) (by first|exact K0|exact K1|exact K2|exact K3|exact K4|exact K5) ?_
      refine Tri.metsTo (l := w :: (A' ++ B')) (l' := A' ++ w :: B') (X := []) (by first|exact K0|exact K1|exact K2|exact K3|exact K4|exact K5|exact K6|exact K7|exact K8) (by rw [List.append_nil]; exact List.perm_middle.symm) ?_
      rw [wr_i64 (by omega) (by omega)]
      exact Tri.back (m' := (A ++ y :: B).length - (i + 1)) (by omega) ⟨i + 1, rfl, by omega, rfl, rfl⟩ (by repeat (first|exact Sub.refl _|exact Sub.nil _|(apply Sub.cons; (first|exact K0|exact K1|exact K2|exact K3|exact K4|exact K5|exact K6|exact K7|exact K8))|apply Sub.skip))
    | cons z R =>
      simp only [List.length_cons] at hlc
      have hz : y.d.m[D.length]? = some z := by rw [hDR]; simp
      have hwr : IntKind.wrap .i64 ((D.length : Int) + 1) = ((D ++ [z]).length : Int) := by rw [wr_i64 (by omega) (by omega)]; simp
      refine Tri.cndT (by simp; omega) ?_
      refine Tri.ixldR (T := bmE) (o := ov) (x := w) (k := 5) (n := 1) (by first|exact K0|exact K1|exact K2|exact K3|exact K4|exact K5|exact K6|exact K7|exact K8) rfl (by omega) (by rw [Int.toNat_natCast]; exact hw) (by decide) rfl ?_
      repeat (first|refine wa ?_|refine wb ?_|refine wc ?_|refine wd ?_|refine we ?_|refine wf ?_|refine wg ?_|refine wh rfl ?_|refine wi rfl ?_|refine wj rfl ?_|refine wk rfl ?_|refine wl rfl ?_|refine wm (by decide) ?_|(apply Tri.ldE; (first|exact K0|exact K1|exact K2|exact K3|exact K4|exact K5|exact K6|exact K7|exact K8); (exact rfl); (exact wz rfl))|(apply Tri.stE; (first|exact K0|exact K1|exact K2|exact K3|exact K4|exact K5|exact K6|exact K7|exact K8); (exact rfl); (exact wz rfl))|(apply Tri.same; (first|exact K0|exact K1|exact K2|exact K3|exact K4|exact K5|exact K6|exact K7|exact K8); (exact rfl); (exact wz rfl))|refine wq fun _ => ?_)
      refine Tri.ixldR (T := adE) (o := w.met) (x := z) (k := 0) (n := 2) (by first|exact K0|exact K1|exact K2|exact K3|exact K4|exact K5|exact K6|exact K7|exact K8) rfl (by omega) (by rw [Int.toNat_natCast]; exact hz) (by decide) rfl ?_
      repeat (first|refine wa ?_|refine wb ?_|refine wc ?_|refine wd ?_|refine we ?_|refine wf ?_|refine wg ?_|refine wh rfl ?_|refine wi rfl ?_|refine wj rfl ?_|refine wk rfl ?_|refine wl rfl ?_|refine wm (by decide) ?_|(apply Tri.ldE; (first|exact K0|exact K1|exact K2|exact K3|exact K4|exact K5|exact K6|exact K7|exact K8); (exact rfl); (exact wz rfl))|(apply Tri.stE; (first|exact K0|exact K1|exact K2|exact K3|exact K4|exact K5|exact K6|exact K7|exact K8); (exact rfl); (exact wz rfl))|(apply Tri.same; (first|exact K0|exact K1|exact K2|exact K3|exact K4|exact K5|exact K6|exact K7|exact K8); (exact rfl); (exact wz rfl))|refine wq fun _ => ?_)
      obtain ⟨yd, ym⟩ := y
      refine Tri.ixE (T := adE) (o := ym) (by first|exact K0|exact K1|exact K2|exact K3|exact K4|exact K5|exact K6|exact K7|exact K8) rfl (by omega) (by omega) fun d hd => ?_
      subst hd
      refine Tri.ldR (T := adE) (x := z) (k := 0) (by first|exact K0|exact K1|exact K2|exact K3|exact K4|exact K5|exact K6|exact K7|exact K8) rfl (by first|exact hz|simpa using hz) rfl (by decide) rfl ?_
      repeat (first|refine wa ?_|refine wb ?_|refine wc ?_|refine wd ?_|refine we ?_|refine wf ?_|refine wg ?_|refine wh rfl ?_|refine wi rfl ?_|refine wj rfl ?_|refine wk rfl ?_|refine wl rfl ?_|refine wm (by decide) ?_|(apply Tri.ldE; (first|exact K0|exact K1|exact K2|exact K3|exact K4|exact K5|exact K6|exact K7|exact K8); (exact rfl); (exact wz rfl))|(apply Tri.stE; (first|exact K0|exact K1|exact K2|exact K3|exact K4|exact K5|exact K6|exact K7|exact K8); (exact rfl); (exact wz rfl))|(apply Tri.same; (first|exact K0|exact K1|exact K2|exact K3|exact K4|exact K5|exact K6|exact K7|exact K8); (exact rfl); (exact wz rfl))|refine wq fun _ => ?_)
      refine Tri.call (rref_spec (a := z)) (by repeat (first|exact Picks.nil|(apply Picks.cons; (first|exact K0|exact K1|exact K2|exact K3|exact K4|exact K5|exact K6|exact K7|exact K8)))) ?_
      rintro v L' ⟨rfl, rfl⟩
      simp only [List.cons_append, List.nil_append]
      repeat (first|refine wa ?_|refine wb ?_|refine wc ?_|refine wd ?_|refine we ?_|refine wf ?_|refine wg ?_|refine wh rfl ?_|refine wi rfl ?_|refine wj rfl ?_|refine wk rfl ?_|refine wl rfl ?_|refine wm (by decide) ?_|(apply Tri.ldE; (first|exact K0|exact K1|exact K2|exact K3|exact K4|exact K5|exact K6|exact K7|exact K8); (exact rfl); (exact wz rfl))|(apply Tri.stE; (first|exact K0|exact K1|exact K2|exact K3|exact K4|exact K5|exact K6|exact K7|exact K8); (exact rfl); (exact wz rfl))|(apply Tri.same; (first|exact K0|exact K1|exact K2|exact K3|exact K4|exact K5|exact K6|exact K7|exact K8); (exact rfl); (exact wz rfl))|refine wq fun _ => ?_)
      refine Tri.sameR (T := adE) (x := z) (k := 0) (by first|exact K0|exact K1|exact K2|exact K3|exact K4|exact K5|exact K6|exact K7|exact K8) rfl (by first|exact hz|simpa using hz) rfl (Nat.le_of_ble_eq_true rfl) rfl ?_
      repeat (first|refine wa ?_|refine wb ?_|refine wc ?_|refine wd ?_|refine we ?_|refine wf ?_|refine wg ?_|refine wh rfl ?_|refine wi rfl ?_|refine wj rfl ?_|refine wk rfl ?_|refine wl rfl ?_|refine wm (by decide) ?_|(apply Tri.ldE; (first|exact K0|exact K1|exact K2|exact K3|exact K4|exact K5|exact K6|exact K7|exact K8); (exact rfl); (exact wz rfl))|(apply Tri.stE; (first|exact K0|exact K1|exact K2|exact K3|exact K4|exact K5|exact K6|exact K7|exact K8); (exact rfl); (exact wz rfl))|(apply Tri.same; (first|exact K0|exact K1|exact K2|exact K3|exact K4|exact K5|exact K6|exact K7|exact K8); (exact rfl); (exact wz rfl))|refine wq fun _ => ?_)
      refine Tri.cndF (by simp) ?_
      rw [hwr]
      exact Tri.back (m' := R.length) (by simp) ⟨D ++ [z], R, rfl, by rw [hDR]; simp, rfl, rfl⟩ (by repeat (first|exact Sub.refl _|exact Sub.nil _|(apply Sub.cons; (first|exact K0|exact K1|exact K2|exact K3|exact K4|exact K5|exact K6|exact K7|exact K8))|apply Sub.skip))
  · have hil : i = l.length := by omega
    subst hil
    refine Tri.cndF (by simp; omega) ?_
    refine Tri.exit (by decide) ?_
    unfold t27_k40
    repeat (first|refine wa ?_|refine wb ?_|refine wc ?_|refine wd ?_|refine we ?_|refine wf ?_|refine wg ?_|refine wh rfl ?_|refine wi rfl ?_|refine wj rfl ?_|refine wk rfl ?_|refine wl rfl ?_|refine wm (by decide) ?_|(apply Tri.ldE; (first|exact K0|exact K1|exact K2|exact K3|exact K4|exact K5|exact K6|exact K7|exact K8); (exact rfl); (exact wz rfl))|(apply Tri.stE; (first|exact K0|exact K1|exact K2|exact K3|exact K4|exact K5|exact K6|exact K7|exact K8); (exact rfl); (exact wz rfl))|(apply Tri.same; (first|exact K0|exact K1|exact K2|exact K3|exact K4|exact K5|exact K6|exact K7|exact K8); (exact rfl); (exact wz rfl))|refine wq fun _ => ?_)
    refine Bo.mk (p := x) (b := xb) hl (by first|exact K0|exact K1|exact K2|exact K3|exact K4|exact K5|exact K6|exact K7|exact K8) (by first|exact K0|exact K1|exact K2|exact K3|exact K4|exact K5|exact K6|exact K7|exact K8) (by first|exact K0|exact K1|exact K2|exact K3|exact K4|exact K5|exact K6|exact K7|exact K8) ?_
    exact Tri.retF ⟨rfl, rfl⟩ (by repeat (first|exact Sub.refl _|exact Sub.nil _|(apply Sub.cons; (first|exact K0|exact K1|exact K2|exact K3|exact K4|exact K5|exact K6|exact K7|exact K8))|apply Sub.skip))
end Go.Proofs.Ytloiifcocgpnbaa
