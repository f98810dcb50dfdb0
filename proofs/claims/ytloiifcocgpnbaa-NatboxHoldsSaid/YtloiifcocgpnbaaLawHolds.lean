/- The law NatboxHolds on the abstract machine. -/
import Derived.Test.YtloiifcocgpnbaaNG
import Derived.Test.YtloiifcocgpnbaaEx
import Derived.Test.YtloiifcocgpnbaaTreeE
namespace Go.Proofs.Ytloiifcocgpnbaa
open Go Go.Proofs.Ytloiifcocgpnbaa.Fw
set_option linter.unusedVariables false
set_option linter.unusedSimpArgs false
abbrev DdW := { d : Dd // 0 ≤ d.by_ ∧ d.by_ < 256 }
def dwE : Enc DdW where
  z := 8
  e d := ddE.e d.1
  len _ := rfl
theorem dwE_ok (c : List Sc) (h : All2 ScK [.i .u8, .i .u8, .i .u8, .i .u8, .i .u8, .i .u32, .i .u16, .i .u64] c) : ∃ x : DdW, c = dwE.e x := by
  obtain ⟨_, _, rfl, ⟨a, rfl, _⟩, _, _, rfl, ⟨b, rfl, _⟩, _, _, rfl, ⟨c, rfl, _⟩, _, _, rfl, ⟨d, rfl, _⟩, _, _, rfl, ⟨e, rfl, w⟩, _, _, rfl, ⟨f, rfl, _⟩, _, _, rfl, ⟨g, rfl, _⟩, _, _, rfl, ⟨h, rfl, _⟩, rfl⟩ := h
  have hb : 0 ≤ e ∧ e < 256 := by
    simp [Lit.wf, IntKind.min, IntKind.max, IntKind.signed, IntKind.bits] at w
    omega
  exact ⟨⟨⟨a, b, c, d, e, ⟨f, g⟩, h⟩, hb⟩, rfl⟩
structure HI (b : Bx) (now h n : Int) : Prop where
  bi : BI b
  pt : Pt b.l b.room
  hold : b.hold = h
  room : b.room = n
  ip : b.ip = 9
  fil : b.fil = 0 ∨ b.fil = 1 ∨ b.fil = 2
  til : ∀ x ∈ b.l, now < x.til ∧ x.til ≤ now + h
theorem sweep_all {b : Bx} {now : Int} (h : ∀ x ∈ b.l, now < x.til) : sweepB b now = b := by
  unfold sweepB
  rw [List.filter_eq_self.2 fun x hx => by have := h x hx; simp [liveB]; omega]
theorem set_mem {l : List Bd} {i : Nat} {y z : Bd} (h : z ∈ l.set i y) : z = y ∨ ∃ j, j ≠ i ∧ l[j]? = some z := by
  obtain ⟨j, hj, rfl⟩ := List.getElem_of_mem h
  by_cases e : i = j
  · subst e; exact .inl (by simp)
  · refine .inr ⟨j, fun h => e h.symm, ?_⟩
    rw [List.getElem_set_ne e]
    exact List.getElem?_eq_getElem _
theorem set_same {l : List Bd} {i : Nat} {y : Bd} (h : l[i]? = some y) : l.set i y = l := by
  obtain ⟨hi, rfl⟩ := List.getElem?_eq_some_iff.1 h
  exact List.set_getElem_self hi
theorem bind_other {b : Bx} {inn key : Ad} {j : Nat} {z : Bd} (hj : j ≠ (bindB b inn key).2) (hz : (bindB b inn key).1[j]? = some z) : z ∈ b.l := by
  unfold bindB at hj hz
  split at hz
  · exact List.mem_of_getElem? hz
  · rename_i hn
    rw [hn] at hj
    simp only at hj hz
    rw [List.getElem?_append] at hz
    split at hz
    · exact evict_sub b z (List.mem_of_getElem? hz)
    · rename_i h
      rw [List.getElem?_cons, if_neg (by omega)] at hz
      simp at hz
theorem passB_in {f : Int} {m : List Ad} {a : Ad} (hf : f = 0 ∨ f = 1 ∨ f = 2) (h : a ∈ m) : passB f m a = true := by
  unfold passB
  rcases hf with rfl | rfl | rfl
  · rfl
  · simp only [show ¬ (1 : Int) = 0 by decide, if_false, if_true]
    exact List.any_eq_true.2 ⟨a, h, by simp⟩
  · simp [h]
theorem hold_step {b : Bx} {now now' h n : Int} {src dst : Ad} (hi : HI b now h n) (h0 : 0 ≤ now) (h1 : now ≤ now') (h2 : now' ≤ 1000) (h3 : 1 ≤ h) (h4 : h ≤ 30) (hs : noneB src = false) (hd : noneB dst = false) :
    ∃ y, y ∈ (outB b now' src dst).2.l ∧ (outB b now' src dst).1 = (⟨9, y.port⟩, 0) ∧ HI (outB b now' src dst).2 now' h n ∧ inB (outB b now' src dst).2 now' y.port dst = ((src, 0), (outB b now' src dst).2) := by
  have bi2 := hi.bi.out now' src dst
  have pt2 := hi.pt.out hi.bi now' src dst
  have rm := outB_room b now' src dst
  obtain ⟨x, hx⟩ := bindB_get (sweepB b now') src (keyB b.map dst)
  have hout : outB b now' src dst = ((⟨b.ip, x.port⟩, 0), { b with l := (bound1 b now' src dst).1.set (bound1 b now' src dst).2 (useB now' b.hold dst x) }) := by
    unfold outB
    rw [if_neg (by simp [hs, hd]; omega)]
    unfold bound1
    rw [hx]
  have hat := bind_at _ _ _ hx
  have hother := fun j z => bind_other (b := sweepB b now') (inn := src) (key := keyB b.map dst) (j := j) (z := z)
  rw [← rm.1] at pt2
  generalize hb2 : outB b now' src dst = r at *
  obtain ⟨r1, b2⟩ := r
  simp only at *
  have hr1 : r1 = (⟨9, x.port⟩, 0) := by rw [← hi.ip]; exact congrArg Prod.fst hout
  have hl2 : b2.l = (bound1 b now' src dst).1.set (bound1 b now' src dst).2 (useB now' b.hold dst x) := by have := congrArg Prod.snd hout; simp only at this; rw [this]
  have hyt : (useB now' b.hold dst x).til = now' + h := by show IntKind.wrap .u64 (now' + b.hold) = _; rw [hi.hold, wr_u64 (by omega) (by omega)]
  unfold bound1 at hl2
  generalize bindB (sweepB b now') src (keyB b.map dst) = q at *
  obtain ⟨q1, i⟩ := q
  simp only at *
  have hti : ∀ z ∈ b2.l, now' < z.til ∧ z.til ≤ now' + h := fun z hz => by
    rw [hl2] at hz
    rcases set_mem hz with rfl | ⟨j, hj, hjz⟩
    · omega
    · have hzs := hother j z hj hjz
      obtain ⟨h5, h6⟩ := List.mem_filter.1 hzs
      have := hi.til z h5
      simp [liveB] at h6
      omega
  have hyi : b2.l[i]? = some (useB now' b.hold dst x) := by
    rw [hl2]
    obtain ⟨hil, _⟩ := List.getElem?_eq_some_iff.1 hx
    rw [List.getElem?_set_self hil]
  refine ⟨useB now' b.hold dst x, List.mem_of_getElem? hyi, hr1, ⟨bi2, pt2, by rw [rm.2.1, hi.hold], by rw [rm.1, hi.room], by rw [rm.2.2.2.2, hi.ip], by rw [rm.2.2.1]; exact hi.fil, hti⟩, ?_⟩
  have hsw := sweep_all (b := b2) (now := now') fun z hz => (hti z hz).1
  unfold inB
  rw [if_neg (by simp [hd]; omega), hsw]
  cases hj : idxB (isP (useB now' b.hold dst x).port) b2.l with
  | none =>
    have := idxB_no hj _ (List.mem_of_getElem? hyi)
    simp [isP] at this
  | some j =>
    obtain ⟨z, hz, hzp, _⟩ := idxB_get hj
    have hzp : z.port = (useB now' b.hold dst x).port := by simpa [isP] using hzp
    have hji : j = i := by
      obtain ⟨hjl, _⟩ := List.getElem?_eq_some_iff.1 hz
      refine (List.getElem?_inj (by simpa using hjl) pt2.d).1 ?_
      rw [List.getElem?_map, List.getElem?_map, hz, hyi]; simp [hzp]
    subst hji
    dsimp only
    rw [hyi]
    dsimp only
    have hp := passB_in (f := b2.fil) (by rw [rm.2.2.1]; exact hi.fil) (metB_mem x.m dst)
    rw [if_pos (show passB b2.fil (useB now' b.hold dst x).m dst = true from hp)]
    have he : { useB now' b.hold dst x with til := IntKind.wrap .u64 (now' + b2.hold) } = useB now' b.hold dst x := by
      rw [rm.2.1]; rfl
    rw [he, set_same hyi]
    show ((x.inn, (0 : Int)), b2) = _
    rw [hat.1]
theorem inner_some {d : Dd} (h : ¬ d.inn > 250) : noneB (innerB d) = false := by
  unfold innerB
  rw [if_neg h]
  have h1 := Int.tmod_lt_of_pos d.inn (b := 8) (by decide)
  have h2 : -8 < Int.tmod d.inn 8 := by have := Int.tmod_lt_of_pos (-(d.inn)) (b := 8) (by decide); rw [Int.neg_tmod] at this; omega
  simp only [noneB]
  generalize Int.tmod d.inn 8 = x at *
  have : IntKind.wrap .u32 (167772160 + IntKind.wrap .u32 x) ≠ 0 := by
    simp [IntKind.wrap, IntKind.bits, IntKind.signed]
    omega
  simp [this]
theorem outer_some {d : Dd} (h : ¬ d.out > 250) : noneB (outerB d) = false := by
  unfold outerB
  rw [if_neg h]
  have h1 := Int.tmod_lt_of_pos d.out (b := 4) (by decide)
  have h2 : -4 < Int.tmod d.out 4 := by have := Int.tmod_lt_of_pos (-(d.out)) (b := 4) (by decide); rw [Int.neg_tmod] at this; omega
  have h3 := Int.tmod_lt_of_pos (IntKind.wrap .u8 (Int.tdiv d.out 4)) (b := 3) (by decide)
  have h4 : -3 < Int.tmod (IntKind.wrap .u8 (Int.tdiv d.out 4)) 3 := by have := Int.tmod_lt_of_pos (-(IntKind.wrap .u8 (Int.tdiv d.out 4))) (b := 3) (by decide); rw [Int.neg_tmod] at this; omega
  simp only [noneB]
  generalize Int.tmod d.out 4 = x at *
  generalize Int.tmod (IntKind.wrap .u8 (Int.tdiv d.out 4)) 3 = y at *
  have e1 : IntKind.wrap .u32 (50 + IntKind.wrap .u32 x) ≠ 0 := by
    simp [IntKind.wrap, IntKind.bits, IntKind.signed]
    omega
  have e2 : IntKind.wrap .u16 (8 + IntKind.wrap .u16 y) ≠ 0 := by
    simp [IntKind.wrap, IntKind.bits, IntKind.signed]
    omega
  simp [e1, e2]
theorem hold30 {x : Int} (h : 0 ≤ x ∧ x < 256) : ∃ k : Int, 1 ≤ k ∧ k ≤ 30 ∧ IntKind.wrap .u64 (1 + IntKind.wrap .u64 (Int.tmod x 30)) = k := by
  obtain ⟨n, rfl⟩ := Int.eq_ofNat_of_zero_le h.1
  refine ⟨1 + (n : Int) % 30, by omega, by omega, ?_⟩
  rw [Int.tmod_eq_emod_of_nonneg (by omega), wr_u64 (n := (n : Int) % 30) (by omega) (by omega), wr_u64 (by omega) (by omega)]
theorem room6 {x : Int} (h : 0 ≤ x ∧ x < 256) : ∃ k : Int, 1 ≤ k ∧ k ≤ 6 ∧ IntKind.wrap .i64 (1 + IntKind.wrap .i64 (Int.tmod x 6)) = k := by
  obtain ⟨n, rfl⟩ := Int.eq_ofNat_of_zero_le h.1
  refine ⟨1 + (n : Int) % 6, by omega, by omega, ?_⟩
  rw [Int.tmod_eq_emod_of_nonneg (by omega), wr_i64 (n := (n : Int) % 6) (by omega) (by omega), wr_i64 (by omega) (by omega)]
def cut250 (d : Dd) : Dd := { d with inn := Int.tmod d.inn 250, out := Int.tmod d.out 250 }
set_option maxRecDepth 20000 in
set_option maxHeartbeats 4000000 in
theorem deeds_tri {p : Nat} {b0 : Bx} {o : Option SlD} {U : List DdW} {h n : Int} (h1 : 1 ≤ h) (h30 : h ≤ 30) (hn : 1 ≤ n) (hn6 : n ≤ 6) (hi0 : HI b0 0 h n) :
    Tri E [Bo p b0, .sl true dwE o U] (.loop t3_b8 [.sc (.sl o), .sc (.b true), .sc (.i .u64 h), .sc (.i .i64 n), .sc (.p (some (p, 0))), .sc (.i .u64 (0 : Int)), .sc (.i .i64 (0 : Int))] t3_k8) (RQ [] RT) := by
  refine Tri.loop (I := fun m l' L => ∃ (i : Nat) (b : Bx) (now : Int), m = U.length - i ∧ i ≤ U.length ∧ i ≤ 60 ∧ HI b now h n ∧ 0 ≤ now ∧ now ≤ 7 * i ∧
    l' = [.sc (.sl o), .sc (.b true), .sc (.i .u64 h), .sc (.i .i64 n), .sc (.p (some (p, 0))), .sc (.i .u64 now), .sc (.i .i64 i)] ∧ L = [Bo p b, .sl true dwE o U])
    ⟨0, b0, 0, rfl, Nat.zero_le _, by omega, hi0, by omega, by omega, rfl, rfl⟩ (by repeat (first|exact Sub.refl _|exact Sub.nil _|(apply Sub.cons; (first|exact K0|exact K1|exact K2|exact K3|exact K4|exact K5|exact K6|exact K7|exact K8|exact K9|exact K10|exact K11))|apply Sub.skip)) ?_
  rintro m l' L ⟨i, b, now, rfl, hil, hi60, hi, hn0, hn7, rfl, rfl⟩
  unfold t3_b8
  repeat (first|refine wa ?_|refine wb ?_|refine wc ?_|refine wd ?_|refine we ?_|refine wf ?_|refine wg ?_|refine wh rfl ?_|refine wi rfl ?_|refine wj rfl ?_|refine wk rfl ?_|refine wl rfl ?_|refine wm (by decide) ?_|(apply Tri.ldE; (first|exact K0|exact K1|exact K2|exact K3|exact K4|exact K5|exact K6|exact K7|exact K8|exact K9|exact K10|exact K11); (exact rfl); (exact wz rfl))|(apply Tri.stE; (first|exact K0|exact K1|exact K2|exact K3|exact K4|exact K5|exact K6|exact K7|exact K8|exact K9|exact K10|exact K11); (exact rfl); (exact wz rfl))|(apply Tri.same; (first|exact K0|exact K1|exact K2|exact K3|exact K4|exact K5|exact K6|exact K7|exact K8|exact K9|exact K10|exact K11); (exact rfl); (exact wz rfl))|refine wq fun _ => ?_)
  refine Tri.slLen (l := U) (o := o) (ro := true) (T := dwE) (by first|exact K0|exact K1|exact K2|exact K3|exact K4|exact K5|exact K6|exact K7|exact K8|exact K9|exact K10|exact K11) fun e1 e2 => ?_
  rw [e2]
  have away : Tri E [Bo p b, .sl true dwE o U] (t3_k8 2 [.sc (.b true), .sc (.i .u64 h), .sc (.p (some (p, 0))), .sc (.i .u64 now)]) (RQ [] RT) := by
    unfold t3_k8
    repeat (first|refine wa ?_|refine wb ?_|refine wc ?_|refine wd ?_|refine we ?_|refine wf ?_|refine wg ?_|refine wh rfl ?_|refine wi rfl ?_|refine wj rfl ?_|refine wk rfl ?_|refine wl rfl ?_|refine wm (by decide) ?_|(apply Tri.ldE; (first|exact K0|exact K1|exact K2|exact K3|exact K4|exact K5|exact K6|exact K7|exact K8|exact K9|exact K10|exact K11); (exact rfl); (exact wz rfl))|(apply Tri.stE; (first|exact K0|exact K1|exact K2|exact K3|exact K4|exact K5|exact K6|exact K7|exact K8|exact K9|exact K10|exact K11); (exact rfl); (exact wz rfl))|(apply Tri.same; (first|exact K0|exact K1|exact K2|exact K3|exact K4|exact K5|exact K6|exact K7|exact K8|exact K9|exact K10|exact K11); (exact rfl); (exact wz rfl))|refine wq fun _ => ?_)
    refine Tri.call (binds_spec (b := b) hi.bi.b90 hi.bi.sm) (by repeat (first|exact Picks.nil|(apply Picks.cons; (first|exact K0|exact K1|exact K2|exact K3|exact K4|exact K5|exact K6|exact K7|exact K8|exact K9|exact K10|exact K11)))) ?_
    rintro v L' ⟨ob, lb, rfl, hp, _, rfl⟩
    simp only [List.cons_append, List.nil_append]
    repeat (first|refine wa ?_|refine wb ?_|refine wc ?_|refine wd ?_|refine we ?_|refine wf ?_|refine wg ?_|refine wh rfl ?_|refine wi rfl ?_|refine wj rfl ?_|refine wk rfl ?_|refine wl rfl ?_|refine wm (by decide) ?_|(apply Tri.ldE; (first|exact K0|exact K1|exact K2|exact K3|exact K4|exact K5|exact K6|exact K7|exact K8|exact K9|exact K10|exact K11); (exact rfl); (exact wz rfl))|(apply Tri.stE; (first|exact K0|exact K1|exact K2|exact K3|exact K4|exact K5|exact K6|exact K7|exact K8|exact K9|exact K10|exact K11); (exact rfl); (exact wz rfl))|(apply Tri.same; (first|exact K0|exact K1|exact K2|exact K3|exact K4|exact K5|exact K6|exact K7|exact K8|exact K9|exact K10|exact K11); (exact rfl); (exact wz rfl))|refine wq fun _ => ?_)
    have hs0 := sweep_all fun x hx => (hi.til x hx).1
    refine Tri.call (sweep_spec (b := b) (now := now) (by have := hi.bi.b90; omega)) (by repeat (first|exact Picks.nil|(apply Picks.cons; (first|exact K0|exact K1|exact K2|exact K3|exact K4|exact K5|exact K6|exact K7|exact K8|exact K9|exact K10|exact K11)))) ?_
    rintro v L' ⟨rfl, rfl⟩
    rw [hs0]
    simp only [List.cons_append, List.nil_append]
    repeat (first|refine wa ?_|refine wb ?_|refine wc ?_|refine wd ?_|refine we ?_|refine wf ?_|refine wg ?_|refine wh rfl ?_|refine wi rfl ?_|refine wj rfl ?_|refine wk rfl ?_|refine wl rfl ?_|refine wm (by decide) ?_|(apply Tri.ldE; (first|exact K0|exact K1|exact K2|exact K3|exact K4|exact K5|exact K6|exact K7|exact K8|exact K9|exact K10|exact K11); (exact rfl); (exact wz rfl))|(apply Tri.stE; (first|exact K0|exact K1|exact K2|exact K3|exact K4|exact K5|exact K6|exact K7|exact K8|exact K9|exact K10|exact K11); (exact rfl); (exact wz rfl))|(apply Tri.same; (first|exact K0|exact K1|exact K2|exact K3|exact K4|exact K5|exact K6|exact K7|exact K8|exact K9|exact K10|exact K11); (exact rfl); (exact wz rfl))|refine wq fun _ => ?_)
    refine Tri.cndT (by simp) ?_
    rw [wr_u64 (n := now + h) (by omega) (by omega)]
    have hs1 : (sweepB b (now + h)).l = [] := List.filter_eq_nil_iff.2 fun x hx => by
      have := (hi.til x hx).2
      simp [liveB]; omega
    refine Tri.call (sweep_spec (b := b) (now := now + h) (by have := hi.bi.b90; omega)) (by repeat (first|exact Picks.nil|(apply Picks.cons; (first|exact K0|exact K1|exact K2|exact K3|exact K4|exact K5|exact K6|exact K7|exact K8|exact K9|exact K10|exact K11)))) ?_
    rintro v L' ⟨rfl, rfl⟩
    simp only [List.cons_append, List.nil_append]
    repeat (first|refine wa ?_|refine wb ?_|refine wc ?_|refine wd ?_|refine we ?_|refine wf ?_|refine wg ?_|refine wh rfl ?_|refine wi rfl ?_|refine wj rfl ?_|refine wk rfl ?_|refine wl rfl ?_|refine wm (by decide) ?_|(apply Tri.ldE; (first|exact K0|exact K1|exact K2|exact K3|exact K4|exact K5|exact K6|exact K7|exact K8|exact K9|exact K10|exact K11); (exact rfl); (exact wz rfl))|(apply Tri.stE; (first|exact K0|exact K1|exact K2|exact K3|exact K4|exact K5|exact K6|exact K7|exact K8|exact K9|exact K10|exact K11); (exact rfl); (exact wz rfl))|(apply Tri.same; (first|exact K0|exact K1|exact K2|exact K3|exact K4|exact K5|exact K6|exact K7|exact K8|exact K9|exact K10|exact K11); (exact rfl); (exact wz rfl))|refine wq fun _ => ?_)
    refine Tri.slLen (l := lb) (o := ob) (ro := false) (T := bmE) (by first|exact K0|exact K1|exact K2|exact K3|exact K4|exact K5|exact K6|exact K7|exact K8|exact K9|exact K10|exact K11) fun _ e4 => ?_
    have hll : lb.length = b.l.length := by have := hp.length_eq; rw [List.length_map] at this; exact this
    rw [e4, hs1, hll]
    refine Tri.cndT (by simp) ?_
    have bi2 := hi.bi.sweep (now + h)
    refine Tri.call (binds_spec (b := sweepB b (now + h)) bi2.b90 bi2.sm) (by repeat (first|exact Picks.nil|(apply Picks.cons; (first|exact K0|exact K1|exact K2|exact K3|exact K4|exact K5|exact K6|exact K7|exact K8|exact K9|exact K10|exact K11)))) ?_
    rintro v L' ⟨oc, lc, rfl, hp2, _, rfl⟩
    simp only [List.cons_append, List.nil_append]
    repeat (first|refine wa ?_|refine wb ?_|refine wc ?_|refine wd ?_|refine we ?_|refine wf ?_|refine wg ?_|refine wh rfl ?_|refine wi rfl ?_|refine wj rfl ?_|refine wk rfl ?_|refine wl rfl ?_|refine wm (by decide) ?_|(apply Tri.ldE; (first|exact K0|exact K1|exact K2|exact K3|exact K4|exact K5|exact K6|exact K7|exact K8|exact K9|exact K10|exact K11); (exact rfl); (exact wz rfl))|(apply Tri.stE; (first|exact K0|exact K1|exact K2|exact K3|exact K4|exact K5|exact K6|exact K7|exact K8|exact K9|exact K10|exact K11); (exact rfl); (exact wz rfl))|(apply Tri.same; (first|exact K0|exact K1|exact K2|exact K3|exact K4|exact K5|exact K6|exact K7|exact K8|exact K9|exact K10|exact K11); (exact rfl); (exact wz rfl))|refine wq fun _ => ?_)
    refine Tri.slLen (l := lc) (o := oc) (ro := false) (T := bmE) (by first|exact K0|exact K1|exact K2|exact K3|exact K4|exact K5|exact K6|exact K7|exact K8|exact K9|exact K10|exact K11) fun _ e5 => ?_
    have hlc : lc.length = 0 := by have := hp2.length_eq; rw [List.length_map, hs1] at this; exact this
    rw [e5, hlc]
    exact Tri.retF (L1 := []) rfl (Sub.nil _)
  refine Tri.cnd (fun ha => ?_) (fun ha => ?_)
  · have ha : i < U.length := by simpa using ha
    refine Tri.cnd (fun hb => ?_) (fun hb => ?_)
    · have hb : i < 60 := by simp at hb; omega
      obtain ⟨u, hu⟩ : ∃ u, U[i]? = some u := ⟨U[i], List.getElem?_eq_getElem ha⟩
      have hby := u.2
      refine Tri.ixldR (T := dwE) (o := o) (x := u) (k := 0) (n := 8) (by first|exact K0|exact K1|exact K2|exact K3|exact K4|exact K5|exact K6|exact K7|exact K8|exact K9|exact K10|exact K11) rfl (by omega) (by simpa using hu) (by decide) rfl ?_
      repeat (first|refine wa ?_|refine wb ?_|refine wc ?_|refine wd ?_|refine we ?_|refine wf ?_|refine wg ?_|refine wh rfl ?_|refine wi rfl ?_|refine wj rfl ?_|refine wk rfl ?_|refine wl rfl ?_|refine wm (by decide) ?_|(apply Tri.ldE; (first|exact K0|exact K1|exact K2|exact K3|exact K4|exact K5|exact K6|exact K7|exact K8|exact K9|exact K10|exact K11); (exact rfl); (exact wz rfl))|(apply Tri.stE; (first|exact K0|exact K1|exact K2|exact K3|exact K4|exact K5|exact K6|exact K7|exact K8|exact K9|exact K10|exact K11); (exact rfl); (exact wz rfl))|(apply Tri.same; (first|exact K0|exact K1|exact K2|exact K3|exact K4|exact K5|exact K6|exact K7|exact K8|exact K9|exact K10|exact K11); (exact rfl); (exact wz rfl))|refine wq fun _ => ?_)
      refine Tri.brT rfl ?_
      repeat (first|refine wa ?_|refine wb ?_|refine wc ?_|refine wd ?_|refine we ?_|refine wf ?_|refine wg ?_|refine wh rfl ?_|refine wi rfl ?_|refine wj rfl ?_|refine wk rfl ?_|refine wl rfl ?_|refine wm (by decide) ?_|(apply Tri.ldE; (first|exact K0|exact K1|exact K2|exact K3|exact K4|exact K5|exact K6|exact K7|exact K8|exact K9|exact K10|exact K11); (exact rfl); (exact wz rfl))|(apply Tri.stE; (first|exact K0|exact K1|exact K2|exact K3|exact K4|exact K5|exact K6|exact K7|exact K8|exact K9|exact K10|exact K11); (exact rfl); (exact wz rfl))|(apply Tri.same; (first|exact K0|exact K1|exact K2|exact K3|exact K4|exact K5|exact K6|exact K7|exact K8|exact K9|exact K10|exact K11); (exact rfl); (exact wz rfl))|refine wq fun _ => ?_)
      refine Tri.brT rfl ?_
      repeat (first|refine wa ?_|refine wb ?_|refine wc ?_|refine wd ?_|refine we ?_|refine wf ?_|refine wg ?_|refine wh rfl ?_|refine wi rfl ?_|refine wj rfl ?_|refine wk rfl ?_|refine wl rfl ?_|refine wm (by decide) ?_|(apply Tri.ldE; (first|exact K0|exact K1|exact K2|exact K3|exact K4|exact K5|exact K6|exact K7|exact K8|exact K9|exact K10|exact K11); (exact rfl); (exact wz rfl))|(apply Tri.stE; (first|exact K0|exact K1|exact K2|exact K3|exact K4|exact K5|exact K6|exact K7|exact K8|exact K9|exact K10|exact K11); (exact rfl); (exact wz rfl))|(apply Tri.same; (first|exact K0|exact K1|exact K2|exact K3|exact K4|exact K5|exact K6|exact K7|exact K8|exact K9|exact K10|exact K11); (exact rfl); (exact wz rfl))|refine wq fun _ => ?_)
      refine Tri.brT rfl ?_
      repeat (first|refine wa ?_|refine wb ?_|refine wc ?_|refine wd ?_|refine we ?_|refine wf ?_|refine wg ?_|refine wh rfl ?_|refine wi rfl ?_|refine wj rfl ?_|refine wk rfl ?_|refine wl rfl ?_|refine wm (by decide) ?_|(apply Tri.ldE; (first|exact K0|exact K1|exact K2|exact K3|exact K4|exact K5|exact K6|exact K7|exact K8|exact K9|exact K10|exact K11); (exact rfl); (exact wz rfl))|(apply Tri.stE; (first|exact K0|exact K1|exact K2|exact K3|exact K4|exact K5|exact K6|exact K7|exact K8|exact K9|exact K10|exact K11); (exact rfl); (exact wz rfl))|(apply Tri.same; (first|exact K0|exact K1|exact K2|exact K3|exact K4|exact K5|exact K6|exact K7|exact K8|exact K9|exact K10|exact K11); (exact rfl); (exact wz rfl))|refine wq fun _ => ?_)
      have hm1 : 0 ≤ Int.tmod u.1.by_ 8 := Int.tmod_nonneg _ hby.1
      have hm2 : Int.tmod u.1.by_ 8 < 8 := Int.tmod_lt_of_pos _ (by decide)
      have hnow : IntKind.wrap .u64 (now + IntKind.wrap .u64 (Int.tmod u.1.by_ 8)) = now + Int.tmod u.1.by_ 8 := by
        rw [wr_u64 (n := Int.tmod u.1.by_ 8) (by omega) (by omega), wr_u64 (by omega) (by omega)]
      rw [hnow]
      generalize hnw : now + Int.tmod u.1.by_ 8 = now' at *
      have hs := inner_some (d := cut250 u.1) (by have := Int.tmod_lt_of_pos u.1.inn (b := 250) (by decide); simp only [cut250]; omega)
      have hd := outer_some (d := cut250 u.1) (by have := Int.tmod_lt_of_pos u.1.out (b := 250) (by decide); simp only [cut250]; omega)
      obtain ⟨y, hy, ho, hi2, hin2⟩ := hold_step hi hn0 (now' := now') (by omega) (by omega) h1 h30 hs hd
      refine Tri.call (inner_spec (d := cut250 u.1)) (by repeat (first|exact Picks.nil|(apply Picks.cons; (first|exact K0|exact K1|exact K2|exact K3|exact K4|exact K5|exact K6|exact K7|exact K8|exact K9|exact K10|exact K11)))) ?_
      rintro v L' ⟨rfl, rfl⟩
      simp only [List.cons_append, List.nil_append]
      repeat (first|refine wa ?_|refine wb ?_|refine wc ?_|refine wd ?_|refine we ?_|refine wf ?_|refine wg ?_|refine wh rfl ?_|refine wi rfl ?_|refine wj rfl ?_|refine wk rfl ?_|refine wl rfl ?_|refine wm (by decide) ?_|(apply Tri.ldE; (first|exact K0|exact K1|exact K2|exact K3|exact K4|exact K5|exact K6|exact K7|exact K8|exact K9|exact K10|exact K11); (exact rfl); (exact wz rfl))|(apply Tri.stE; (first|exact K0|exact K1|exact K2|exact K3|exact K4|exact K5|exact K6|exact K7|exact K8|exact K9|exact K10|exact K11); (exact rfl); (exact wz rfl))|(apply Tri.same; (first|exact K0|exact K1|exact K2|exact K3|exact K4|exact K5|exact K6|exact K7|exact K8|exact K9|exact K10|exact K11); (exact rfl); (exact wz rfl))|refine wq fun _ => ?_)
      refine Tri.call (outer_spec (d := cut250 u.1)) (by repeat (first|exact Picks.nil|(apply Picks.cons; (first|exact K0|exact K1|exact K2|exact K3|exact K4|exact K5|exact K6|exact K7|exact K8|exact K9|exact K10|exact K11)))) ?_
      rintro v L' ⟨rfl, rfl⟩
      simp only [List.cons_append, List.nil_append]
      repeat (first|refine wa ?_|refine wb ?_|refine wc ?_|refine wd ?_|refine we ?_|refine wf ?_|refine wg ?_|refine wh rfl ?_|refine wi rfl ?_|refine wj rfl ?_|refine wk rfl ?_|refine wl rfl ?_|refine wm (by decide) ?_|(apply Tri.ldE; (first|exact K0|exact K1|exact K2|exact K3|exact K4|exact K5|exact K6|exact K7|exact K8|exact K9|exact K10|exact K11); (exact rfl); (exact wz rfl))|(apply Tri.stE; (first|exact K0|exact K1|exact K2|exact K3|exact K4|exact K5|exact K6|exact K7|exact K8|exact K9|exact K10|exact K11); (exact rfl); (exact wz rfl))|(apply Tri.same; (first|exact K0|exact K1|exact K2|exact K3|exact K4|exact K5|exact K6|exact K7|exact K8|exact K9|exact K10|exact K11); (exact rfl); (exact wz rfl))|refine wq fun _ => ?_)
      refine Tri.call (out_spec (b := b) (now := now') (src := innerB (cut250 u.1)) (dst := outerB (cut250 u.1)) hi.bi.b90 hi.bi.r1 hi.bi.sm) (by repeat (first|exact Picks.nil|(apply Picks.cons; (first|exact K0|exact K1|exact K2|exact K3|exact K4|exact K5|exact K6|exact K7|exact K8|exact K9|exact K10|exact K11)))) ?_
      rintro v L' ⟨rfl, rfl⟩
      rw [ho]
      generalize (outB b now' (innerB (cut250 u.1)) (outerB (cut250 u.1))).2 = b2 at *
      simp only [List.cons_append, List.nil_append]
      repeat (first|refine wa ?_|refine wb ?_|refine wc ?_|refine wd ?_|refine we ?_|refine wf ?_|refine wg ?_|refine wh rfl ?_|refine wi rfl ?_|refine wj rfl ?_|refine wk rfl ?_|refine wl rfl ?_|refine wm (by decide) ?_|(apply Tri.ldE; (first|exact K0|exact K1|exact K2|exact K3|exact K4|exact K5|exact K6|exact K7|exact K8|exact K9|exact K10|exact K11); (exact rfl); (exact wz rfl))|(apply Tri.stE; (first|exact K0|exact K1|exact K2|exact K3|exact K4|exact K5|exact K6|exact K7|exact K8|exact K9|exact K10|exact K11); (exact rfl); (exact wz rfl))|(apply Tri.same; (first|exact K0|exact K1|exact K2|exact K3|exact K4|exact K5|exact K6|exact K7|exact K8|exact K9|exact K10|exact K11); (exact rfl); (exact wz rfl))|refine wq fun _ => ?_)
      refine Tri.call (outer_spec (d := cut250 u.1)) (by repeat (first|exact Picks.nil|(apply Picks.cons; (first|exact K0|exact K1|exact K2|exact K3|exact K4|exact K5|exact K6|exact K7|exact K8|exact K9|exact K10|exact K11)))) ?_
      rintro v L' ⟨rfl, rfl⟩
      simp only [List.cons_append, List.nil_append]
      repeat (first|refine wa ?_|refine wb ?_|refine wc ?_|refine wd ?_|refine we ?_|refine wf ?_|refine wg ?_|refine wh rfl ?_|refine wi rfl ?_|refine wj rfl ?_|refine wk rfl ?_|refine wl rfl ?_|refine wm (by decide) ?_|(apply Tri.ldE; (first|exact K0|exact K1|exact K2|exact K3|exact K4|exact K5|exact K6|exact K7|exact K8|exact K9|exact K10|exact K11); (exact rfl); (exact wz rfl))|(apply Tri.stE; (first|exact K0|exact K1|exact K2|exact K3|exact K4|exact K5|exact K6|exact K7|exact K8|exact K9|exact K10|exact K11); (exact rfl); (exact wz rfl))|(apply Tri.same; (first|exact K0|exact K1|exact K2|exact K3|exact K4|exact K5|exact K6|exact K7|exact K8|exact K9|exact K10|exact K11); (exact rfl); (exact wz rfl))|refine wq fun _ => ?_)
      refine Tri.call (in_spec (b := b2) (now := now') (port := y.port) (src := outerB (cut250 u.1)) hi2.bi.b90 hi2.bi.sm) (by repeat (first|exact Picks.nil|(apply Picks.cons; (first|exact K0|exact K1|exact K2|exact K3|exact K4|exact K5|exact K6|exact K7|exact K8|exact K9|exact K10|exact K11)))) ?_
      rintro v L' ⟨rfl, rfl⟩
      rw [hin2]
      simp only [List.cons_append, List.nil_append]
      repeat (first|refine wa ?_|refine wb ?_|refine wc ?_|refine wd ?_|refine we ?_|refine wf ?_|refine wg ?_|refine wh rfl ?_|refine wi rfl ?_|refine wj rfl ?_|refine wk rfl ?_|refine wl rfl ?_|refine wm (by decide) ?_|(apply Tri.ldE; (first|exact K0|exact K1|exact K2|exact K3|exact K4|exact K5|exact K6|exact K7|exact K8|exact K9|exact K10|exact K11); (exact rfl); (exact wz rfl))|(apply Tri.stE; (first|exact K0|exact K1|exact K2|exact K3|exact K4|exact K5|exact K6|exact K7|exact K8|exact K9|exact K10|exact K11); (exact rfl); (exact wz rfl))|(apply Tri.same; (first|exact K0|exact K1|exact K2|exact K3|exact K4|exact K5|exact K6|exact K7|exact K8|exact K9|exact K10|exact K11); (exact rfl); (exact wz rfl))|refine wq fun _ => ?_)
      refine Tri.call (inner_spec (d := cut250 u.1)) (by repeat (first|exact Picks.nil|(apply Picks.cons; (first|exact K0|exact K1|exact K2|exact K3|exact K4|exact K5|exact K6|exact K7|exact K8|exact K9|exact K10|exact K11)))) ?_
      rintro v L' ⟨rfl, rfl⟩
      simp only [List.cons_append, List.nil_append]
      repeat (first|refine wa ?_|refine wb ?_|refine wc ?_|refine wd ?_|refine we ?_|refine wf ?_|refine wg ?_|refine wh rfl ?_|refine wi rfl ?_|refine wj rfl ?_|refine wk rfl ?_|refine wl rfl ?_|refine wm (by decide) ?_|(apply Tri.ldE; (first|exact K0|exact K1|exact K2|exact K3|exact K4|exact K5|exact K6|exact K7|exact K8|exact K9|exact K10|exact K11); (exact rfl); (exact wz rfl))|(apply Tri.stE; (first|exact K0|exact K1|exact K2|exact K3|exact K4|exact K5|exact K6|exact K7|exact K8|exact K9|exact K10|exact K11); (exact rfl); (exact wz rfl))|(apply Tri.same; (first|exact K0|exact K1|exact K2|exact K3|exact K4|exact K5|exact K6|exact K7|exact K8|exact K9|exact K10|exact K11); (exact rfl); (exact wz rfl))|refine wq fun _ => ?_)
      refine Tri.cndF (by simp) ?_
      repeat (first|refine wa ?_|refine wb ?_|refine wc ?_|refine wd ?_|refine we ?_|refine wf ?_|refine wg ?_|refine wh rfl ?_|refine wi rfl ?_|refine wj rfl ?_|refine wk rfl ?_|refine wl rfl ?_|refine wm (by decide) ?_|(apply Tri.ldE; (first|exact K0|exact K1|exact K2|exact K3|exact K4|exact K5|exact K6|exact K7|exact K8|exact K9|exact K10|exact K11); (exact rfl); (exact wz rfl))|(apply Tri.stE; (first|exact K0|exact K1|exact K2|exact K3|exact K4|exact K5|exact K6|exact K7|exact K8|exact K9|exact K10|exact K11); (exact rfl); (exact wz rfl))|(apply Tri.same; (first|exact K0|exact K1|exact K2|exact K3|exact K4|exact K5|exact K6|exact K7|exact K8|exact K9|exact K10|exact K11); (exact rfl); (exact wz rfl))|refine wq fun _ => ?_)
      refine Tri.call (binds_spec (b := b2) hi2.bi.b90 hi2.bi.sm) (by repeat (first|exact Picks.nil|(apply Picks.cons; (first|exact K0|exact K1|exact K2|exact K3|exact K4|exact K5|exact K6|exact K7|exact K8|exact K9|exact K10|exact K11)))) ?_
      rintro v L' ⟨ob, W, rfl, hp, hsrt, rfl⟩
      simp only [List.cons_append, List.nil_append]
      repeat (first|refine wa ?_|refine wb ?_|refine wc ?_|refine wd ?_|refine we ?_|refine wf ?_|refine wg ?_|refine wh rfl ?_|refine wi rfl ?_|refine wj rfl ?_|refine wk rfl ?_|refine wl rfl ?_|refine wm (by decide) ?_|(apply Tri.ldE; (first|exact K0|exact K1|exact K2|exact K3|exact K4|exact K5|exact K6|exact K7|exact K8|exact K9|exact K10|exact K11); (exact rfl); (exact wz rfl))|(apply Tri.stE; (first|exact K0|exact K1|exact K2|exact K3|exact K4|exact K5|exact K6|exact K7|exact K8|exact K9|exact K10|exact K11); (exact rfl); (exact wz rfl))|(apply Tri.same; (first|exact K0|exact K1|exact K2|exact K3|exact K4|exact K5|exact K6|exact K7|exact K8|exact K9|exact K10|exact K11); (exact rfl); (exact wz rfl))|refine wq fun _ => ?_)
      have hll : W.length = b2.l.length := by have := hp.length_eq; rw [List.length_map] at this; exact this
      have hlt : (W.map Bm.d).Pairwise (fun a b => a.port < b.port) := by
        have hnd : (W.map Bm.d).Pairwise (fun a b => a.port ≠ b.port) := List.pairwise_map.1 (hi2.pt.perm hp).d
        exact (hsrt.and hnd).imp fun ⟨h1, h2⟩ => by omega
      refine Tri.slLen (l := W) (o := ob) (ro := false) (T := bmE) (by first|exact K0|exact K1|exact K2|exact K3|exact K4|exact K5|exact K6|exact K7|exact K8|exact K9|exact K10|exact K11) fun _ e3 => ?_
      have hW90 := hi2.bi.b90
      refine Tri.loop (I := fun m l' L => ∃ D R : List Bm, m = R.length ∧ W = D ++ R ∧ l' = [.sc (.sl o), .sc (.b true), .sc (.i .u64 h), .sc (.i .i64 n), .sc (.p (some (p, 0))), .sc (.i .u64 now'), .sc (.i .i64 i), .sc (.sl ob), .sc (.i .i64 D.length)] ∧
        L = [.sl false bmE ob W, Bo p b2, .sl true dwE o U]) ⟨[], W, rfl, rfl, rfl, rfl⟩ (by repeat (first|exact Sub.refl _|exact Sub.nil _|(apply Sub.cons; (first|exact K0|exact K1|exact K2|exact K3|exact K4|exact K5|exact K6|exact K7|exact K8|exact K9|exact K10|exact K11))|apply Sub.skip)) ?_
      rintro m l' L ⟨D, R, rfl, hDR, rfl, rfl⟩
      have hlc : W.length = D.length + R.length := by rw [hDR]; simp
      unfold t3_b174
      repeat (first|refine wa ?_|refine wb ?_|refine wc ?_|refine wd ?_|refine we ?_|refine wf ?_|refine wg ?_|refine wh rfl ?_|refine wi rfl ?_|refine wj rfl ?_|refine wk rfl ?_|refine wl rfl ?_|refine wm (by decide) ?_|(apply Tri.ldE; (first|exact K0|exact K1|exact K2|exact K3|exact K4|exact K5|exact K6|exact K7|exact K8|exact K9|exact K10|exact K11); (exact rfl); (exact wz rfl))|(apply Tri.stE; (first|exact K0|exact K1|exact K2|exact K3|exact K4|exact K5|exact K6|exact K7|exact K8|exact K9|exact K10|exact K11); (exact rfl); (exact wz rfl))|(apply Tri.same; (first|exact K0|exact K1|exact K2|exact K3|exact K4|exact K5|exact K6|exact K7|exact K8|exact K9|exact K10|exact K11); (exact rfl); (exact wz rfl))|refine wq fun _ => ?_)
      rw [e3]
      cases R with
      | nil =>
        refine Tri.cndF (by simp at hlc; simp; omega) ?_
        refine Tri.exit (by decide) ?_
        unfold t3_k174
        repeat (first|refine wa ?_|refine wb ?_|refine wc ?_|refine wd ?_|refine we ?_|refine wf ?_|refine wg ?_|refine wh rfl ?_|refine wi rfl ?_|refine wj rfl ?_|refine wk rfl ?_|refine wl rfl ?_|refine wm (by decide) ?_|(apply Tri.ldE; (first|exact K0|exact K1|exact K2|exact K3|exact K4|exact K5|exact K6|exact K7|exact K8|exact K9|exact K10|exact K11); (exact rfl); (exact wz rfl))|(apply Tri.stE; (first|exact K0|exact K1|exact K2|exact K3|exact K4|exact K5|exact K6|exact K7|exact K8|exact K9|exact K10|exact K11); (exact rfl); (exact wz rfl))|(apply Tri.same; (first|exact K0|exact K1|exact K2|exact K3|exact K4|exact K5|exact K6|exact K7|exact K8|exact K9|exact K10|exact K11); (exact rfl); (exact wz rfl))|refine wq fun _ => ?_)
        rw [e3, hll]
        refine Tri.cndF (by have := hi2.bi.len; have := hi2.room; simp; omega) ?_
        refine Tri.cndF (by simp; exact List.ne_nil_of_mem hy) ?_
        rw [wr_i64 (by omega) (by omega)]
        exact Tri.back (m' := U.length - (i + 1)) (by omega) ⟨i + 1, b2, now', rfl, by omega, by omega, hi2, by omega, by omega, rfl, rfl⟩ (by repeat (first|exact Sub.refl _|exact Sub.nil _|(apply Sub.cons; (first|exact K0|exact K1|exact K2|exact K3|exact K4|exact K5|exact K6|exact K7|exact K8|exact K9|exact K10|exact K11))|apply Sub.skip))
      | cons x R =>
        simp only [List.length_cons] at hlc
        have hx : W[D.length]? = some x := by rw [hDR]; simp
        have hxm : x.d ∈ b2.l := hp.mem_iff.1 (List.mem_map.2 ⟨x, by rw [hDR]; simp, rfl⟩)
        have hxt := hi2.til x.d hxm
        have hxp := hi2.pt.r x.d hxm
        have hrm := hi2.room
        have hwr : IntKind.wrap .i64 ((D.length : Int) + 1) = ((D ++ [x]).length : Int) := by rw [wr_i64 (by omega) (by omega)]; simp
        refine Tri.cndT (by simp; omega) ?_
        refine Tri.ixldR (T := bmE) (o := ob) (x := x) (k := 6) (n := 1) (by first|exact K0|exact K1|exact K2|exact K3|exact K4|exact K5|exact K6|exact K7|exact K8|exact K9|exact K10|exact K11) rfl (by omega) (by rw [Int.toNat_natCast]; exact hx) (by decide) rfl ?_
        repeat (first|refine wa ?_|refine wb ?_|refine wc ?_|refine wd ?_|refine we ?_|refine wf ?_|refine wg ?_|refine wh rfl ?_|refine wi rfl ?_|refine wj rfl ?_|refine wk rfl ?_|refine wl rfl ?_|refine wm (by decide) ?_|(apply Tri.ldE; (first|exact K0|exact K1|exact K2|exact K3|exact K4|exact K5|exact K6|exact K7|exact K8|exact K9|exact K10|exact K11); (exact rfl); (exact wz rfl))|(apply Tri.stE; (first|exact K0|exact K1|exact K2|exact K3|exact K4|exact K5|exact K6|exact K7|exact K8|exact K9|exact K10|exact K11); (exact rfl); (exact wz rfl))|(apply Tri.same; (first|exact K0|exact K1|exact K2|exact K3|exact K4|exact K5|exact K6|exact K7|exact K8|exact K9|exact K10|exact K11); (exact rfl); (exact wz rfl))|refine wq fun _ => ?_)
        refine Tri.cndF (by simp; omega) ?_
        refine Tri.ixldR (T := bmE) (o := ob) (x := x) (k := 6) (n := 1) (by first|exact K0|exact K1|exact K2|exact K3|exact K4|exact K5|exact K6|exact K7|exact K8|exact K9|exact K10|exact K11) rfl (by omega) (by rw [Int.toNat_natCast]; exact hx) (by decide) rfl ?_
        repeat (first|refine wa ?_|refine wb ?_|refine wc ?_|refine wd ?_|refine we ?_|refine wf ?_|refine wg ?_|refine wh rfl ?_|refine wi rfl ?_|refine wj rfl ?_|refine wk rfl ?_|refine wl rfl ?_|refine wm (by decide) ?_|(apply Tri.ldE; (first|exact K0|exact K1|exact K2|exact K3|exact K4|exact K5|exact K6|exact K7|exact K8|exact K9|exact K10|exact K11); (exact rfl); (exact wz rfl))|(apply Tri.stE; (first|exact K0|exact K1|exact K2|exact K3|exact K4|exact K5|exact K6|exact K7|exact K8|exact K9|exact K10|exact K11); (exact rfl); (exact wz rfl))|(apply Tri.same; (first|exact K0|exact K1|exact K2|exact K3|exact K4|exact K5|exact K6|exact K7|exact K8|exact K9|exact K10|exact K11); (exact rfl); (exact wz rfl))|refine wq fun _ => ?_)
        rw [wr_u64 (n := now' + h) (by omega) (by omega)]
        refine Tri.cndF (by simp; omega) ?_
        refine Tri.ixldR (T := bmE) (o := ob) (x := x) (k := 4) (n := 1) (by first|exact K0|exact K1|exact K2|exact K3|exact K4|exact K5|exact K6|exact K7|exact K8|exact K9|exact K10|exact K11) rfl (by omega) (by rw [Int.toNat_natCast]; exact hx) (by decide) rfl ?_
        repeat (first|refine wa ?_|refine wb ?_|refine wc ?_|refine wd ?_|refine we ?_|refine wf ?_|refine wg ?_|refine wh rfl ?_|refine wi rfl ?_|refine wj rfl ?_|refine wk rfl ?_|refine wl rfl ?_|refine wm (by decide) ?_|(apply Tri.ldE; (first|exact K0|exact K1|exact K2|exact K3|exact K4|exact K5|exact K6|exact K7|exact K8|exact K9|exact K10|exact K11); (exact rfl); (exact wz rfl))|(apply Tri.stE; (first|exact K0|exact K1|exact K2|exact K3|exact K4|exact K5|exact K6|exact K7|exact K8|exact K9|exact K10|exact K11); (exact rfl); (exact wz rfl))|(apply Tri.same; (first|exact K0|exact K1|exact K2|exact K3|exact K4|exact K5|exact K6|exact K7|exact K8|exact K9|exact K10|exact K11); (exact rfl); (exact wz rfl))|refine wq fun _ => ?_)
        refine Tri.cndF (by simp; omega) ?_
        refine Tri.ixldR (T := bmE) (o := ob) (x := x) (k := 4) (n := 1) (by first|exact K0|exact K1|exact K2|exact K3|exact K4|exact K5|exact K6|exact K7|exact K8|exact K9|exact K10|exact K11) rfl (by omega) (by rw [Int.toNat_natCast]; exact hx) (by decide) rfl ?_
        repeat (first|refine wa ?_|refine wb ?_|refine wc ?_|refine wd ?_|refine we ?_|refine wf ?_|refine wg ?_|refine wh rfl ?_|refine wi rfl ?_|refine wj rfl ?_|refine wk rfl ?_|refine wl rfl ?_|refine wm (by decide) ?_|(apply Tri.ldE; (first|exact K0|exact K1|exact K2|exact K3|exact K4|exact K5|exact K6|exact K7|exact K8|exact K9|exact K10|exact K11); (exact rfl); (exact wz rfl))|(apply Tri.stE; (first|exact K0|exact K1|exact K2|exact K3|exact K4|exact K5|exact K6|exact K7|exact K8|exact K9|exact K10|exact K11); (exact rfl); (exact wz rfl))|(apply Tri.same; (first|exact K0|exact K1|exact K2|exact K3|exact K4|exact K5|exact K6|exact K7|exact K8|exact K9|exact K10|exact K11); (exact rfl); (exact wz rfl))|refine wq fun _ => ?_)
        refine Tri.cndF (by simp; omega) ?_
        rw [hwr]
        refine Tri.cnd (fun hz => ?_) (fun hz => ?_)
        · have hz : 0 < D.length := by simp at hz; omega
          obtain ⟨D', y', rfl⟩ : ∃ D' y', D = D' ++ [y'] := by
            rcases List.eq_nil_or_concat D with e | ⟨D', y', e⟩
            · subst e; simp at hz
            · exact ⟨D', y', by simpa using e⟩
          have hyx : y'.d.port < x.d.port := by
            rw [hDR, List.map_append, List.map_append] at hlt
            exact (List.pairwise_append.1 hlt).2.2 y'.d (by simp) x.d (by simp)
          have hy' : W[D'.length]? = some y' := by rw [hDR]; simp
          rw [show IntKind.wrap .i64 (((D' ++ [y']).length : Int) - 1) = (D'.length : Int) by rw [wr_i64 (by simp <;> omega) (by simp at hlc ⊢ <;> omega)]; simp]
          refine Tri.ixldR (T := bmE) (o := ob) (x := y') (k := 4) (n := 1) (by first|exact K0|exact K1|exact K2|exact K3|exact K4|exact K5|exact K6|exact K7|exact K8|exact K9|exact K10|exact K11) rfl (by omega) (by rw [Int.toNat_natCast]; exact hy') (by decide) rfl ?_
          repeat (first|refine wa ?_|refine wb ?_|refine wc ?_|refine wd ?_|refine we ?_|refine wf ?_|refine wg ?_|refine wh rfl ?_|refine wi rfl ?_|refine wj rfl ?_|refine wk rfl ?_|refine wl rfl ?_|refine wm (by decide) ?_|(apply Tri.ldE; (first|exact K0|exact K1|exact K2|exact K3|exact K4|exact K5|exact K6|exact K7|exact K8|exact K9|exact K10|exact K11); (exact rfl); (exact wz rfl))|(apply Tri.stE; (first|exact K0|exact K1|exact K2|exact K3|exact K4|exact K5|exact K6|exact K7|exact K8|exact K9|exact K10|exact K11); (exact rfl); (exact wz rfl))|(apply Tri.same; (first|exact K0|exact K1|exact K2|exact K3|exact K4|exact K5|exact K6|exact K7|exact K8|exact K9|exact K10|exact K11); (exact rfl); (exact wz rfl))|refine wq fun _ => ?_)
          refine Tri.ixldR (T := bmE) (o := ob) (x := x) (k := 4) (n := 1) (by first|exact K0|exact K1|exact K2|exact K3|exact K4|exact K5|exact K6|exact K7|exact K8|exact K9|exact K10|exact K11) rfl (by omega) (by rw [Int.toNat_natCast]; exact hx) (by decide) rfl ?_
          repeat (first|refine wa ?_|refine wb ?_|refine wc ?_|refine wd ?_|refine we ?_|refine wf ?_|refine wg ?_|refine wh rfl ?_|refine wi rfl ?_|refine wj rfl ?_|refine wk rfl ?_|refine wl rfl ?_|refine wm (by decide) ?_|(apply Tri.ldE; (first|exact K0|exact K1|exact K2|exact K3|exact K4|exact K5|exact K6|exact K7|exact K8|exact K9|exact K10|exact K11); (exact rfl); (exact wz rfl))|(apply Tri.stE; (first|exact K0|exact K1|exact K2|exact K3|exact K4|exact K5|exact K6|exact K7|exact K8|exact K9|exact K10|exact K11); (exact rfl); (exact wz rfl))|(apply Tri.same; (first|exact K0|exact K1|exact K2|exact K3|exact K4|exact K5|exact K6|exact K7|exact K8|exact K9|exact K10|exact K11); (exact rfl); (exact wz rfl))|refine wq fun _ => ?_)
          refine Tri.cndF (by simp; omega) ?_
          exact Tri.back (m' := R.length) (by simp) ⟨(D' ++ [y']) ++ [x], R, rfl, by rw [hDR]; simp, rfl, rfl⟩ (by repeat (first|exact Sub.refl _|exact Sub.nil _|(apply Sub.cons; (first|exact K0|exact K1|exact K2|exact K3|exact K4|exact K5|exact K6|exact K7|exact K8|exact K9|exact K10|exact K11))|apply Sub.skip))
        · exact Tri.back (m' := R.length) (by simp) ⟨D ++ [x], R, rfl, by rw [hDR]; simp, rfl, rfl⟩ (by repeat (first|exact Sub.refl _|exact Sub.nil _|(apply Sub.cons; (first|exact K0|exact K1|exact K2|exact K3|exact K4|exact K5|exact K6|exact K7|exact K8|exact K9|exact K10|exact K11))|apply Sub.skip))
    · exact Tri.exit (by decide) away
  · exact Tri.exit (by decide) away
set_option maxRecDepth 20000 in
set_option maxHeartbeats 4000000 in
theorem holds_tri {n0 n1 n2 : Int} (h0 : 0 ≤ n0 ∧ n0 < 256) (h1 : 0 ≤ n1 ∧ n1 < 256) (h2 : 0 ≤ n2 ∧ n2 < 256) {o : Option SlD} {U : List DdW} : Tri E [.sl true dwE o U] ((fun v0 : AV => match t3 n0 n1 n2 o with | .call _ _ f => f v0 | _ => .fail) (.sc (.b true))) (RQ [] RT) := by
  obtain ⟨t, ht1, ht2⟩ := type9 h0
  obtain ⟨h, hh1, hh30, hh⟩ := hold30 h1
  obtain ⟨n, hn1, hn6, hn⟩ := room6 h2
  have t9 := t.2
  unfold t3
  rw [ht1, ht2, hh, hn]
  dsimp only
  repeat (first|refine wa ?_|refine wb ?_|refine wc ?_|refine wd ?_|refine we ?_|refine wf ?_|refine wg ?_|refine wh rfl ?_|refine wi rfl ?_|refine wj rfl ?_|refine wk rfl ?_|refine wl rfl ?_|refine wm (by decide) ?_|(apply Tri.ldE; (first|exact K0|exact K1|exact K2|exact K3|exact K4|exact K5|exact K6|exact K7|exact K8|exact K9|exact K10|exact K11); (exact rfl); (exact wz rfl))|(apply Tri.stE; (first|exact K0|exact K1|exact K2|exact K3|exact K4|exact K5|exact K6|exact K7|exact K8|exact K9|exact K10|exact K11); (exact rfl); (exact wz rfl))|(apply Tri.same; (first|exact K0|exact K1|exact K2|exact K3|exact K4|exact K5|exact K6|exact K7|exact K8|exact K9|exact K10|exact K11); (exact rfl); (exact wz rfl))|refine wq fun _ => ?_)
  refine Tri.cndF rfl ?_
  refine Tri.brT rfl ?_
  refine Tri.brT rfl ?_
  refine Tri.brT rfl ?_
  refine Tri.brT rfl ?_
  refine Tri.brT rfl ?_
  refine Tri.call (new_ok (okN9 t (ip := 9) (hold := h) (room := n) (by decide) (by omega) (by omega) (by omega) (by omega))) (by repeat (first|exact Picks.nil|(apply Picks.cons; (first|exact K0|exact K1|exact K2|exact K3|exact K4|exact K5|exact K6|exact K7|exact K8|exact K9|exact K10|exact K11)))) ?_
  rintro v L' ⟨p, rfl, rfl⟩
  simp only [List.cons_append, List.nil_append]
  repeat (first|refine wa ?_|refine wb ?_|refine wc ?_|refine wd ?_|refine we ?_|refine wf ?_|refine wg ?_|refine wh rfl ?_|refine wi rfl ?_|refine wj rfl ?_|refine wk rfl ?_|refine wl rfl ?_|refine wm (by decide) ?_|(apply Tri.ldE; (first|exact K0|exact K1|exact K2|exact K3|exact K4|exact K5|exact K6|exact K7|exact K8|exact K9|exact K10|exact K11); (exact rfl); (exact wz rfl))|(apply Tri.stE; (first|exact K0|exact K1|exact K2|exact K3|exact K4|exact K5|exact K6|exact K7|exact K8|exact K9|exact K10|exact K11); (exact rfl); (exact wz rfl))|(apply Tri.same; (first|exact K0|exact K1|exact K2|exact K3|exact K4|exact K5|exact K6|exact K7|exact K8|exact K9|exact K10|exact K11); (exact rfl); (exact wz rfl))|refine wq fun _ => ?_)
  have hi0 : HI ⟨((t.1 % 3 : Nat) : Int), ((t.1 / 3 : Nat) : Int), 9, h, n, []⟩ 0 h n := ⟨BI.nil (by omega) (by omega), Pt.nil _, rfl, rfl, rfl, by simp only; omega, fun x hx => by cases hx⟩
  refine (deeds_tri hh1 hh30 hn1 hn6 hi0).sub (by repeat (first|exact Sub.refl _|exact Sub.nil _|(apply Sub.cons; (first|exact K0|exact K1|exact K2|exact K3|exact K4|exact K5|exact K6|exact K7|exact K8|exact K9|exact K10|exact K11))|apply Sub.skip))
theorem holds_run {n0 n1 n2 : Int} (h0 : 0 ≤ n0 ∧ n0 < 256) (h1 : 0 ≤ n1 ∧ n1 < 256) (h2 : 0 ≤ n2 ∧ n2 < 256) (o : Option SlD) (U : List DdW) (c : List Sc) (hst : ∀ H' : AH, H'.obj 0 = some (.cells true c) → 0 < H'.next → Star H' [.sl true dwE o U]) :
    ∃ n H1, callA Try.prog T hs n 3 [.sc (.i .u8 n0), .sc (.i .u8 n1), .sc (.i .u8 n2), .sc (.sl o)] (HA c) = some (.sc (.b true), H1) := by
  refine law_fin (E := E) (Try.func3 : Try.prog.funcs[3]? = some Try.f3) (t3_eq n0 n1 n2 o) ?_
  refine CallWp.mono (exW1 _) ?_
  rintro v H' ⟨rfl, g0, g1⟩
  exact Tri.fin (holds_tri h0 h1 h2) (hst H' g0 g1)
end Go.Proofs.Ytloiifcocgpnbaa
