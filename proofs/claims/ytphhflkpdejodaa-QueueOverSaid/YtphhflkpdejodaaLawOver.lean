/- The law QueueOver on the abstract machine. -/
import Derived.Test.YtphhflkpdejodaaQD
import Derived.Test.YtphhflkpdejodaaQT
import Derived.Test.YtphhflkpdejodaaTreeG
namespace Go.Proofs.Ytphhflkpdejodaa
open Go Go.Proofs.Ytphhflkpdejodaa.Fw
set_option linter.unusedVariables false
set_option linter.unusedSimpArgs false

theorem ssort_is {l l' : List Itm} (h : Good l) (p : l'.Perm l) (hs : Srt κ l') : ssort κ l = l' := by
  refine ssort_eq ⟨hs, fun v => ?_⟩
  have hp := p.filter fun x => κ x == v
  rcases filter_one h v with e | ⟨x, e⟩
  · rw [e] at hp ⊢; exact hp.eq_nil
  · rw [e] at hp ⊢; exact hp.eq_singleton
theorem ssort_one (x : Itm) : ssort κ [x] = [x] := by simp [ssort, ins]
def nine (j : Nat) : Itm := ⟨⟨2 + j, 0, 0, 1, 1⟩, 9⟩
def nines (i : Nat) : List Itm := (List.range i).map nine
theorem nines_succ (i : Nat) : nines (i + 1) = nines i ++ [nine i] := by simp [nines, List.range_succ]
theorem nines_len (i : Nat) : (nines i).length = i := by simp [nines]
theorem nines_mem {i : Nat} {x : Itm} (h : x ∈ nines i) : ∃ j, j < i ∧ x = nine j := by
  simp only [nines, List.mem_map, List.mem_range] at h
  obtain ⟨j, hj, rfl⟩ := h
  exact ⟨j, hj, rfl⟩
theorem nines_pw (i : Nat) : (nines i).Pairwise fun a b => a.r.id < b.r.id := by
  unfold nines
  rw [List.pairwise_map]
  refine List.Pairwise.imp (fun {a b} h => ?_) List.pairwise_lt_range
  simp [nine]; omega
theorem κ_eq (t : Itm) : κ t = t.r.id - 64 * t.left := rfl
theorem nines_srt (i : Nat) : Srt κ (nines i) := by
  refine List.pairwise_iff_getElem.2 fun a b ha hb hab => ?_
  have h1 := List.pairwise_iff_getElem.1 (nines_pw i) a b ha hb hab
  obtain ⟨u, _, e1⟩ := nines_mem (List.getElem_mem ha)
  obtain ⟨v, _, e2⟩ := nines_mem (List.getElem_mem hb)
  rw [e1, e2] at h1 ⊢
  simp only [κ_eq, nine] at h1 ⊢; omega
structure Last (z : Itm) : Prop where
  id : z.r.id = 1
  lo : 1 ≤ z.left
  hi : z.left ≤ 4
theorem all_good {z : Itm} (hz : Last z) {i : Nat} (hi : i ≤ 30) : Good (nines i ++ [z]) := by
  have := hz.id; have := hz.lo; have := hz.hi
  refine ⟨fun x hx => ?_, List.pairwise_append.2 ⟨(nines_pw i).imp fun {a b} h => by omega, by simp, fun a ha b hb => ?_⟩⟩
  · rcases List.mem_append.1 hx with hx | hx
    · obtain ⟨j, hj, rfl⟩ := nines_mem hx
      simp only [nine]; omega
    · simp at hx; subst hx; omega
  · obtain ⟨j, hj, rfl⟩ := nines_mem ha
    simp at hb; subst hb
    simp only [nine]; omega
theorem all_srt {z : Itm} (hz : Last z) {i : Nat} (hi : i ≤ 30) : Srt κ (nines i ++ [z]) := by
  have := hz.id; have := hz.lo; have := hz.hi
  refine List.pairwise_append.2 ⟨nines_srt i, by simp, fun a ha b hb => ?_⟩
  obtain ⟨j, hj, rfl⟩ := nines_mem ha
  simp at hb; subst hb
  simp only [κ_eq, nine]; omega
def Qn (z : Itm) (k i : Nat) : List Itm := (nines i ++ [z]).take k
theorem Qn_good {z : Itm} (hz : Last z) (k : Nat) {i : Nat} (hi : i ≤ 30) : Good (Qn z k i) := (all_good hz hi).sub (List.take_sublist _ _)
theorem Qn_no {z : Itm} (hz : Last z) (k i : Nat) : ∀ y ∈ Qn z k i, y.r.id ≠ (nine i).r.id := by
  intro y hy
  have := hz.id
  rcases List.mem_append.1 (List.mem_of_mem_take hy) with hy | hy
  · obtain ⟨j, hj, rfl⟩ := nines_mem hy
    simp only [nine]; omega
  · simp at hy; subst hy; simp only [nine]; omega
theorem Qn_len (z : Itm) (k i : Nat) : (Qn z k i).length = min k (i + 1) := by simp [Qn, nines_len]
theorem Qn_step {z : Itm} (hz : Last z) {k i : Nat} (hi : i < 30) : putQ (Qn z k i) (nine i) k = Qn z k (i + 1) := by
  unfold putQ
  rw [Int.toNat_natCast]
  rcases Nat.lt_or_ge i k with h | h
  · have e : Qn z k i = nines i ++ [z] := by unfold Qn; rw [List.take_of_length_le]; simp [nines_len]; omega
    have hp : (nines (i + 1) ++ [z]).Perm (nines i ++ [z] ++ [nine i]) := by
      rw [nines_succ, List.append_assoc, List.append_assoc]
      exact List.Perm.append_left _ (List.Perm.swap _ _ _)
    rw [e, ssort_is ((all_good hz (i := i + 1) (by omega)).perm hp.symm) hp (all_srt hz (by omega))]; rfl
  · have e : Qn z k i = (nines i).take k := by unfold Qn; rw [List.take_append_of_le_length (by rw [nines_len]; omega)]
    have e2 : Qn z k (i + 1) = (nines i).take k := by unfold Qn; rw [nines_succ, List.append_assoc, List.take_append_of_le_length (by rw [nines_len]; omega)]
    have hs : ((nines i).take k ++ [nine i]).Sublist (nines (i + 1)) := by rw [nines_succ]; exact (List.take_sublist _ _).append_right _
    have hg : Good (nines (i + 1)) := (all_good hz (i := i + 1) (by omega)).sub (List.sublist_append_left _ _)
    rw [e, e2, ssort_is (hg.sub hs) (List.Perm.refl _) ((nines_srt _).sublist hs)]
    rw [List.take_append_of_le_length (by rw [List.length_take, nines_len]; omega), List.take_take, Nat.min_self]
theorem Qn_srt {z : Itm} (hz : Last z) (k : Nat) {i : Nat} (hi : i ≤ 30) : ssort κ (Qn z k i) = Qn z k i := ssort_of_srt ((all_srt hz hi).sublist (List.take_sublist _ _))
theorem add_new {l : List Itm} {x : Itm} {room : Int} (hx : okQ x = true) (hn : ∀ y ∈ l, y.r.id ≠ x.r.id) : addQ l x room = (0, putQ l x room) := by
  unfold addQ
  rw [if_neg (by simp [hx]), List.find?_eq_none.2 fun y hy => by simp [isI, hn y hy]]

theorem fill_tri {p : Nat} {z : Itm} (hz : Last z) {k n : Nat} (hk : 1 ≤ k) (hk8 : k ≤ 8) (hn : n ≤ 11) {L : List Assn} : Tri E (Qu p [z] k :: L)
    (.loop t5_b215 [.sc (.b true), .sc (.i .i64 k), .sc (.p (some (p, 0))), .sc (.i .i64 0), .sc (.i .i64 n), .sc (.i .i64 0)] t5_k215) (RQ [] RT) := by
  refine Tri.loop (I := fun m l' L => ∃ i : Nat, m = n - i ∧ i ≤ n ∧ l' = [.sc (.b true), .sc (.i .i64 k), .sc (.p (some (p, 0))), .sc (.i .i64 0), .sc (.i .i64 n), .sc (.i .i64 i)] ∧ L = [Qu p (Qn z k i) k])
    (L0 := [Qu p [z] k]) ⟨0, rfl, Nat.zero_le _, rfl, by unfold Qn; rw [List.take_of_length_le (by simp [nines_len]; omega)]; rfl⟩ (by repeat (first|exact Sub.refl _|exact Sub.nil _|(apply Sub.cons; (first|exact K0|exact K1|exact K2|exact K3|exact K4|exact K5|exact K6|exact K7|exact K8|exact K9|exact K10|exact K11))|apply Sub.skip)) ?_
  rintro m l' L ⟨i, rfl, hi, rfl, rfl⟩
  unfold t5_b215
  repeat (first|refine wa ?_|refine wb ?_|refine wc ?_|refine wd ?_|refine we ?_|refine wf ?_|refine wg ?_|refine wh rfl ?_|refine wi rfl ?_|refine wj rfl ?_|refine wk rfl ?_|refine wl rfl ?_|refine wm (by decide) ?_|refine wn ?_|refine wo ?_|refine wp (by decide) ?_|(apply Tri.ldE; (first|exact K0|exact K1|exact K2|exact K3|exact K4|exact K5|exact K6|exact K7|exact K8|exact K9|exact K10|exact K11); (exact rfl); (exact wz rfl))|(apply Tri.stE; (first|exact K0|exact K1|exact K2|exact K3|exact K4|exact K5|exact K6|exact K7|exact K8|exact K9|exact K10|exact K11); (exact rfl); (exact wz rfl))|(apply Tri.same; (first|exact K0|exact K1|exact K2|exact K3|exact K4|exact K5|exact K6|exact K7|exact K8|exact K9|exact K10|exact K11); (exact rfl); (exact wz rfl))|refine wq fun _ => ?_)
  have hl := Qn_len z k i
  refine Tri.cnd (fun hc => ?_) (fun hc => ?_)
  · have hc : i < n := by simp at hc; omega
    rw [wr_i64 (n := (2 : Int) + i) (by omega) (by omega), wr_i64 (n := (i : Int) + 1) (by omega) (by omega)]
    have hok : okQ (nine i) = true := by
      have h1 : (1 : Int) ≤ 2 + i := by omega
      have h2 : (2 : Int) + i ≤ 32 := by omega
      simp [okQ, rightB, noneB, nine, h1, h2]
    refine Tri.call (add_spec (N := 12) (by decide) s12 (x := nine i) (l := Qn z k i) (room := (k : Int)) (Qn_good hz k (by omega)) (by omega) (by omega)) (by repeat (first|exact Picks.nil|(apply Picks.cons; (first|exact K0|exact K1|exact K2|exact K3|exact K4|exact K5|exact K6|exact K7|exact K8|exact K9|exact K10|exact K11)))) ?_
    rintro v L' ⟨rfl, rfl⟩
    rw [add_new hok (Qn_no hz k i), Qn_step hz (by omega)]
    simp only [List.cons_append, List.nil_append]
    repeat (first|refine wa ?_|refine wb ?_|refine wc ?_|refine wd ?_|refine we ?_|refine wf ?_|refine wg ?_|refine wh rfl ?_|refine wi rfl ?_|refine wj rfl ?_|refine wk rfl ?_|refine wl rfl ?_|refine wm (by decide) ?_|refine wn ?_|refine wo ?_|refine wp (by decide) ?_|(apply Tri.ldE; (first|exact K0|exact K1|exact K2|exact K3|exact K4|exact K5|exact K6|exact K7|exact K8|exact K9|exact K10|exact K11); (exact rfl); (exact wz rfl))|(apply Tri.stE; (first|exact K0|exact K1|exact K2|exact K3|exact K4|exact K5|exact K6|exact K7|exact K8|exact K9|exact K10|exact K11); (exact rfl); (exact wz rfl))|(apply Tri.same; (first|exact K0|exact K1|exact K2|exact K3|exact K4|exact K5|exact K6|exact K7|exact K8|exact K9|exact K10|exact K11); (exact rfl); (exact wz rfl))|refine wq fun _ => ?_)
    exact Tri.back (m' := n - (i + 1)) (by omega) ⟨i + 1, rfl, by omega, rfl, rfl⟩ (by repeat (first|exact Sub.refl _|exact Sub.nil _|(apply Sub.cons; (first|exact K0|exact K1|exact K2|exact K3|exact K4|exact K5|exact K6|exact K7|exact K8|exact K9|exact K10|exact K11))|apply Sub.skip))
  · have hc : i = n := by simp at hc; omega
    subst hc
    refine Tri.exit (by decide) ?_
    unfold t5_k215
    repeat (first|refine wa ?_|refine wb ?_|refine wc ?_|refine wd ?_|refine we ?_|refine wf ?_|refine wg ?_|refine wh rfl ?_|refine wi rfl ?_|refine wj rfl ?_|refine wk rfl ?_|refine wl rfl ?_|refine wm (by decide) ?_|refine wn ?_|refine wo ?_|refine wp (by decide) ?_|(apply Tri.ldE; (first|exact K0|exact K1|exact K2|exact K3|exact K4|exact K5|exact K6|exact K7|exact K8|exact K9|exact K10|exact K11); (exact rfl); (exact wz rfl))|(apply Tri.stE; (first|exact K0|exact K1|exact K2|exact K3|exact K4|exact K5|exact K6|exact K7|exact K8|exact K9|exact K10|exact K11); (exact rfl); (exact wz rfl))|(apply Tri.same; (first|exact K0|exact K1|exact K2|exact K3|exact K4|exact K5|exact K6|exact K7|exact K8|exact K9|exact K10|exact K11); (exact rfl); (exact wz rfl))|refine wq fun _ => ?_)
    refine Tri.call (items_spec (N := 12) (by decide) s12 (Qn_good hz k (i := i) (by omega)) (by omega)) (by repeat (first|exact Picks.nil|(apply Picks.cons; (first|exact K0|exact K1|exact K2|exact K3|exact K4|exact K5|exact K6|exact K7|exact K8|exact K9|exact K10|exact K11)))) ?_
    rw [Qn_srt hz k (by omega)]
    rintro v L' ⟨o, rfl, rfl⟩
    simp only [List.cons_append, List.nil_append]
    repeat (first|refine wa ?_|refine wb ?_|refine wc ?_|refine wd ?_|refine we ?_|refine wf ?_|refine wg ?_|refine wh rfl ?_|refine wi rfl ?_|refine wj rfl ?_|refine wk rfl ?_|refine wl rfl ?_|refine wm (by decide) ?_|refine wn ?_|refine wo ?_|refine wp (by decide) ?_|(apply Tri.ldE; (first|exact K0|exact K1|exact K2|exact K3|exact K4|exact K5|exact K6|exact K7|exact K8|exact K9|exact K10|exact K11); (exact rfl); (exact wz rfl))|(apply Tri.stE; (first|exact K0|exact K1|exact K2|exact K3|exact K4|exact K5|exact K6|exact K7|exact K8|exact K9|exact K10|exact K11); (exact rfl); (exact wz rfl))|(apply Tri.same; (first|exact K0|exact K1|exact K2|exact K3|exact K4|exact K5|exact K6|exact K7|exact K8|exact K9|exact K10|exact K11); (exact rfl); (exact wz rfl))|refine wq fun _ => ?_)
    refine Tri.slLen (l := Qn z k i) (o := o) (ro := false) (T := itE) (by first|exact K0|exact K1|exact K2|exact K3|exact K4|exact K5|exact K6|exact K7|exact K8|exact K9|exact K10|exact K11) fun e1 e2 => ?_
    rw [e2, hl, wr_i64 (n := (i : Int) + 1) (by omega) (by omega)]
    refine Tri.cndT rfl ?_
    refine Tri.cndT rfl ?_
    refine Tri.cndT (by unfold minI; simp; split <;> omega) ?_
    have hw : IntKind.wrap .i64 (((min k (i + 1) : Nat) : Int) - 1) = ((min k (i + 1) - 1 : Nat) : Int) := by rw [wr_i64 (by omega) (by omega)]; omega
    rw [hw]
    refine Tri.cnd (fun hc => ?_) (fun hc => ?_)
    · have hc : i < k := by simp at hc; omega
      refine Tri.cndF (by simp; omega) ?_
      have e : (Qn z k i)[min k (i + 1) - 1]? = some z := by
        unfold Qn
        rw [List.getElem?_take, if_pos (by omega)]
        exact get_mid' (by rw [nines_len]; omega)
      refine Tri.ixldR (T := itE) (x := z) (k := 0) (n := 1) (by first|exact K0|exact K1|exact K2|exact K3|exact K4|exact K5|exact K6|exact K7|exact K8|exact K9|exact K10|exact K11) rfl (by omega) (by rw [Int.toNat_natCast]; exact e) (by decide) rfl ?_
      repeat (first|refine wa ?_|refine wb ?_|refine wc ?_|refine wd ?_|refine we ?_|refine wf ?_|refine wg ?_|refine wh rfl ?_|refine wi rfl ?_|refine wj rfl ?_|refine wk rfl ?_|refine wl rfl ?_|refine wm (by decide) ?_|refine wn ?_|refine wo ?_|refine wp (by decide) ?_|(apply Tri.ldE; (first|exact K0|exact K1|exact K2|exact K3|exact K4|exact K5|exact K6|exact K7|exact K8|exact K9|exact K10|exact K11); (exact rfl); (exact wz rfl))|(apply Tri.stE; (first|exact K0|exact K1|exact K2|exact K3|exact K4|exact K5|exact K6|exact K7|exact K8|exact K9|exact K10|exact K11); (exact rfl); (exact wz rfl))|(apply Tri.same; (first|exact K0|exact K1|exact K2|exact K3|exact K4|exact K5|exact K6|exact K7|exact K8|exact K9|exact K10|exact K11); (exact rfl); (exact wz rfl))|refine wq fun _ => ?_)
      exact Tri.retF (L1 := []) (by simp [hz.id]) (Sub.nil _)
    · have hc : k ≤ i := by simp at hc; omega
      have e : (Qn z k i)[min k (i + 1) - 1]? = some (nine (min k (i + 1) - 1)) := by
        unfold Qn
        rw [List.getElem?_take, if_pos (by omega), List.getElem?_append_left (by rw [nines_len]; omega)]
        unfold nines
        rw [List.getElem?_map, List.getElem?_range (by omega)]; rfl
      refine Tri.ixldR (T := itE) (x := nine (min k (i + 1) - 1)) (k := 5) (n := 1) (by first|exact K0|exact K1|exact K2|exact K3|exact K4|exact K5|exact K6|exact K7|exact K8|exact K9|exact K10|exact K11) rfl (by omega) (by rw [Int.toNat_natCast]; exact e) (by decide) rfl ?_
      repeat (first|refine wa ?_|refine wb ?_|refine wc ?_|refine wd ?_|refine we ?_|refine wf ?_|refine wg ?_|refine wh rfl ?_|refine wi rfl ?_|refine wj rfl ?_|refine wk rfl ?_|refine wl rfl ?_|refine wm (by decide) ?_|refine wn ?_|refine wo ?_|refine wp (by decide) ?_|(apply Tri.ldE; (first|exact K0|exact K1|exact K2|exact K3|exact K4|exact K5|exact K6|exact K7|exact K8|exact K9|exact K10|exact K11); (exact rfl); (exact wz rfl))|(apply Tri.stE; (first|exact K0|exact K1|exact K2|exact K3|exact K4|exact K5|exact K6|exact K7|exact K8|exact K9|exact K10|exact K11); (exact rfl); (exact wz rfl))|(apply Tri.same; (first|exact K0|exact K1|exact K2|exact K3|exact K4|exact K5|exact K6|exact K7|exact K8|exact K9|exact K10|exact K11); (exact rfl); (exact wz rfl))|refine wq fun _ => ?_)
      refine Tri.cndT rfl ?_
      refine Tri.cndT (by simp; omega) ?_
      exact Tri.retF (L1 := []) rfl (Sub.nil _)

theorem thing_own {x : Thg} (h : 0 ≤ x.r.ip) : 0 ≤ (thing ⟨x.r, true⟩).st ∧ (thing ⟨x.r, true⟩).st < 4 ∧ (thing ⟨x.r, true⟩).ip ≠ 0 ∧ (thing ⟨x.r, true⟩).port = 7 := by
  have h1 : 0 ≤ IntKind.wrap .u64 x.r.st := by unfold IntKind.wrap; simp [IntKind.signed, IntKind.bits]; omega
  have h2 := Int.emod_nonneg (IntKind.wrap .u64 x.r.st) (b := 4) (by decide)
  have h3 := Int.emod_lt_of_pos (IntKind.wrap .u64 x.r.st) (b := 4) (by decide)
  have h4 := Int.emod_nonneg x.r.ip (b := 3) (by decide)
  have h5 := Int.emod_lt_of_pos x.r.ip (b := 3) (by decide)
  simp only [thing, if_true]
  rw [Int.tmod_eq_emod_of_nonneg h1, Int.tmod_eq_emod_of_nonneg h, wr_i64 (by omega) (by omega), wr_u32 (by omega) (by omega)]
  refine ⟨h2, h3, by omega, trivial⟩
def recA (x : Thg) : Rc := ⟨1, (thing ⟨x.r, true⟩).st, (thing ⟨x.r, true⟩).inc, (thing ⟨x.r, true⟩).ip, (thing ⟨x.r, true⟩).port⟩
theorem recA_ok {x : Thg} (h : 0 ≤ x.r.ip) : okQ ⟨recA x, 4⟩ = true := by
  obtain ⟨h1, h2, h3, h4⟩ := thing_own h
  simp only [okQ, rightB, recA, noneB, h4]
  simp [h1, h2, h3]

set_option maxRecDepth 20000 in
set_option maxHeartbeats 4000000 in
theorem over_tri {x y : Thg} (hx : 0 ≤ x.r.ip) (hy : 0 ≤ y.r.ip) {room more : Int} (hr : 0 ≤ room ∧ room < 256) (hm : 0 ≤ more ∧ more < 256) : Tri E [pt 0 (thE.e x), pt 1 (thE.e y)]
    ((fun v0 : AV => match t5 x.r.id x.r.st x.r.inc x.r.ip x.r.port x.own y.r.id y.r.st y.r.inc y.r.ip y.r.port y.own room more with | .al _ f => (match f 0 with | .al _ f => (match f 1 with | .call _ _ k => k v0 | _ => .fail) | _ => .fail) | _ => .fail) (.sc (.b true))) (RQ [] RT) := by
  unfold t5
  dsimp only
  repeat (first|refine wa ?_|refine wb ?_|refine wc ?_|refine wd ?_|refine we ?_|refine wf ?_|refine wg ?_|refine wh rfl ?_|refine wi rfl ?_|refine wj rfl ?_|refine wk rfl ?_|refine wl rfl ?_|refine wm (by decide) ?_|refine wn ?_|refine wo ?_|refine wp (by decide) ?_|(apply Tri.ldE; (first|exact K0|exact K1|exact K2|exact K3|exact K4|exact K5|exact K6|exact K7|exact K8|exact K9|exact K10|exact K11); (exact rfl); (exact wz rfl))|(apply Tri.stE; (first|exact K0|exact K1|exact K2|exact K3|exact K4|exact K5|exact K6|exact K7|exact K8|exact K9|exact K10|exact K11); (exact rfl); (exact wz rfl))|(apply Tri.same; (first|exact K0|exact K1|exact K2|exact K3|exact K4|exact K5|exact K6|exact K7|exact K8|exact K9|exact K10|exact K11); (exact rfl); (exact wz rfl))|refine wq fun _ => ?_)
  refine Tri.cndF rfl ?_
  refine Tri.brT rfl ?_
  obtain ⟨k, hk⟩ : ∃ k : Nat, (1 : Int) + room % 8 = k := ⟨(1 + room % 8).toNat, by omega⟩
  obtain ⟨n, hn⟩ : ∃ n : Nat, more % 12 = n := ⟨(more % 12).toNat, by omega⟩
  rw [Int.tmod_eq_emod_of_nonneg hr.1, wr_i64 (n := room % 8) (by omega) (by omega), wr_i64 (n := 1 + room % 8) (by omega) (by omega), hk, Int.tmod_eq_emod_of_nonneg hm.1, hn, wr_i64 (n := (n : Int)) (by omega) (by omega)]
  refine Tri.call (new_ok (room := (k : Int)) (by omega) (by omega)) (by repeat (first|exact Picks.nil|(apply Picks.cons; (first|exact K0|exact K1|exact K2|exact K3|exact K4|exact K5|exact K6|exact K7|exact K8|exact K9|exact K10|exact K11)))) ?_
  rintro v L' ⟨p, rfl, rfl⟩
  simp only [List.cons_append, List.nil_append]
  repeat (first|refine wa ?_|refine wb ?_|refine wc ?_|refine wd ?_|refine we ?_|refine wf ?_|refine wg ?_|refine wh rfl ?_|refine wi rfl ?_|refine wj rfl ?_|refine wk rfl ?_|refine wl rfl ?_|refine wm (by decide) ?_|refine wn ?_|refine wo ?_|refine wp (by decide) ?_|(apply Tri.ldE; (first|exact K0|exact K1|exact K2|exact K3|exact K4|exact K5|exact K6|exact K7|exact K8|exact K9|exact K10|exact K11); (exact rfl); (exact wz rfl))|(apply Tri.stE; (first|exact K0|exact K1|exact K2|exact K3|exact K4|exact K5|exact K6|exact K7|exact K8|exact K9|exact K10|exact K11); (exact rfl); (exact wz rfl))|(apply Tri.same; (first|exact K0|exact K1|exact K2|exact K3|exact K4|exact K5|exact K6|exact K7|exact K8|exact K9|exact K10|exact K11); (exact rfl); (exact wz rfl))|refine wq fun _ => ?_)
  refine Tri.call (thing_spec (t := ⟨x.r, true⟩)) (by repeat (first|exact Picks.nil|(apply Picks.cons; (first|exact K0|exact K1|exact K2|exact K3|exact K4|exact K5|exact K6|exact K7|exact K8|exact K9|exact K10|exact K11)))) ?_
  rintro v L' ⟨rfl, rfl⟩
  simp only [List.cons_append, List.nil_append]
  repeat (first|refine wa ?_|refine wb ?_|refine wc ?_|refine wd ?_|refine we ?_|refine wf ?_|refine wg ?_|refine wh rfl ?_|refine wi rfl ?_|refine wj rfl ?_|refine wk rfl ?_|refine wl rfl ?_|refine wm (by decide) ?_|refine wn ?_|refine wo ?_|refine wp (by decide) ?_|(apply Tri.ldE; (first|exact K0|exact K1|exact K2|exact K3|exact K4|exact K5|exact K6|exact K7|exact K8|exact K9|exact K10|exact K11); (exact rfl); (exact wz rfl))|(apply Tri.stE; (first|exact K0|exact K1|exact K2|exact K3|exact K4|exact K5|exact K6|exact K7|exact K8|exact K9|exact K10|exact K11); (exact rfl); (exact wz rfl))|(apply Tri.same; (first|exact K0|exact K1|exact K2|exact K3|exact K4|exact K5|exact K6|exact K7|exact K8|exact K9|exact K10|exact K11); (exact rfl); (exact wz rfl))|refine wq fun _ => ?_)
  refine Tri.call (thing_spec (t := ⟨y.r, true⟩)) (by repeat (first|exact Picks.nil|(apply Picks.cons; (first|exact K0|exact K1|exact K2|exact K3|exact K4|exact K5|exact K6|exact K7|exact K8|exact K9|exact K10|exact K11)))) ?_
  rintro v L' ⟨rfl, rfl⟩
  simp only [List.cons_append, List.nil_append]
  repeat (first|refine wa ?_|refine wb ?_|refine wc ?_|refine wd ?_|refine we ?_|refine wf ?_|refine wg ?_|refine wh rfl ?_|refine wi rfl ?_|refine wj rfl ?_|refine wk rfl ?_|refine wl rfl ?_|refine wm (by decide) ?_|refine wn ?_|refine wo ?_|refine wp (by decide) ?_|(apply Tri.ldE; (first|exact K0|exact K1|exact K2|exact K3|exact K4|exact K5|exact K6|exact K7|exact K8|exact K9|exact K10|exact K11); (exact rfl); (exact wz rfl))|(apply Tri.stE; (first|exact K0|exact K1|exact K2|exact K3|exact K4|exact K5|exact K6|exact K7|exact K8|exact K9|exact K10|exact K11); (exact rfl); (exact wz rfl))|(apply Tri.same; (first|exact K0|exact K1|exact K2|exact K3|exact K4|exact K5|exact K6|exact K7|exact K8|exact K9|exact K10|exact K11); (exact rfl); (exact wz rfl))|refine wq fun _ => ?_)
  have ga : Good [⟨recA x, 4⟩] := Good.nil.put (recA_ok hx) (by simp)
  have ga3 : Good [⟨recA x, 3⟩] := ⟨by simp [recA], by simp⟩
  have a1 : addQ [] ⟨recA x, 4⟩ k = (0, [⟨recA x, 4⟩]) := by
    rw [add_new (recA_ok hx) (by simp)]
    unfold putQ; rw [List.nil_append, ssort_one, List.take_of_length_le (by simp; omega)]
  have a2 : someQ [⟨recA x, 4⟩] 1 = [⟨recA x, 3⟩] := by simp [someQ, someL, someN, ssort_one, decQ, show (max (1 : Int) 0).toNat = 1 by decide]
  have a3 : addQ [⟨recA x, 3⟩] ⟨recA y, 4⟩ k = if overB (recA y) (recA x) then (0, [⟨recA y, 4⟩]) else (6, [⟨recA x, 3⟩]) := by
    unfold addQ
    rw [if_neg (by simp [recA_ok hy])]
    have : List.find? (isI (recA y).id) [(⟨recA x, 3⟩ : Itm)] = some ⟨recA x, 3⟩ := by simp [isI, recA]
    simp only [this]
    split
    · have : List.filter (fun t => !isI (recA y).id t) [(⟨recA x, 3⟩ : Itm)] = [] := by simp [isI, recA]
      unfold putQ; rw [this, List.nil_append, ssort_one, List.take_of_length_le (by simp; omega)]
    · rfl
  refine Tri.call (add_spec (N := 12) (by decide) s12 (x := ⟨recA x, 4⟩) (room := (k : Int)) (l := []) Good.nil (by decide) (by omega)) (by repeat (first|exact Picks.nil|(apply Picks.cons; (first|exact K0|exact K1|exact K2|exact K3|exact K4|exact K5|exact K6|exact K7|exact K8|exact K9|exact K10|exact K11)))) ?_
  rintro v L' ⟨rfl, rfl⟩
  rw [a1]
  simp only [List.cons_append, List.nil_append]
  repeat (first|refine wa ?_|refine wb ?_|refine wc ?_|refine wd ?_|refine we ?_|refine wf ?_|refine wg ?_|refine wh rfl ?_|refine wi rfl ?_|refine wj rfl ?_|refine wk rfl ?_|refine wl rfl ?_|refine wm (by decide) ?_|refine wn ?_|refine wo ?_|refine wp (by decide) ?_|(apply Tri.ldE; (first|exact K0|exact K1|exact K2|exact K3|exact K4|exact K5|exact K6|exact K7|exact K8|exact K9|exact K10|exact K11); (exact rfl); (exact wz rfl))|(apply Tri.stE; (first|exact K0|exact K1|exact K2|exact K3|exact K4|exact K5|exact K6|exact K7|exact K8|exact K9|exact K10|exact K11); (exact rfl); (exact wz rfl))|(apply Tri.same; (first|exact K0|exact K1|exact K2|exact K3|exact K4|exact K5|exact K6|exact K7|exact K8|exact K9|exact K10|exact K11); (exact rfl); (exact wz rfl))|refine wq fun _ => ?_)
  refine Tri.call (some_spec (N := 12) (by decide) s12 (k := 1) ga (wz rfl)) (by repeat (first|exact Picks.nil|(apply Picks.cons; (first|exact K0|exact K1|exact K2|exact K3|exact K4|exact K5|exact K6|exact K7|exact K8|exact K9|exact K10|exact K11)))) ?_
  rw [a2]
  rintro v L' ⟨o1, rfl, rfl⟩
  simp only [List.cons_append, List.nil_append]
  repeat (first|refine wa ?_|refine wb ?_|refine wc ?_|refine wd ?_|refine we ?_|refine wf ?_|refine wg ?_|refine wh rfl ?_|refine wi rfl ?_|refine wj rfl ?_|refine wk rfl ?_|refine wl rfl ?_|refine wm (by decide) ?_|refine wn ?_|refine wo ?_|refine wp (by decide) ?_|(apply Tri.ldE; (first|exact K0|exact K1|exact K2|exact K3|exact K4|exact K5|exact K6|exact K7|exact K8|exact K9|exact K10|exact K11); (exact rfl); (exact wz rfl))|(apply Tri.stE; (first|exact K0|exact K1|exact K2|exact K3|exact K4|exact K5|exact K6|exact K7|exact K8|exact K9|exact K10|exact K11); (exact rfl); (exact wz rfl))|(apply Tri.same; (first|exact K0|exact K1|exact K2|exact K3|exact K4|exact K5|exact K6|exact K7|exact K8|exact K9|exact K10|exact K11); (exact rfl); (exact wz rfl))|refine wq fun _ => ?_)
  refine Tri.call (add_spec (N := 12) (by decide) s12 (x := ⟨recA y, 4⟩) (room := (k : Int)) ga3 (wz rfl) (by omega)) (by repeat (first|exact Picks.nil|(apply Picks.cons; (first|exact K0|exact K1|exact K2|exact K3|exact K4|exact K5|exact K6|exact K7|exact K8|exact K9|exact K10|exact K11)))) ?_
  rintro v L' ⟨rfl, rfl⟩
  rw [a3]
  by_cases hov : overB (recA y) (recA x) = true
  · rw [if_pos hov]
    simp only [List.cons_append, List.nil_append]
    repeat (first|refine wa ?_|refine wb ?_|refine wc ?_|refine wd ?_|refine we ?_|refine wf ?_|refine wg ?_|refine wh rfl ?_|refine wi rfl ?_|refine wj rfl ?_|refine wk rfl ?_|refine wl rfl ?_|refine wm (by decide) ?_|refine wn ?_|refine wo ?_|refine wp (by decide) ?_|(apply Tri.ldE; (first|exact K0|exact K1|exact K2|exact K3|exact K4|exact K5|exact K6|exact K7|exact K8|exact K9|exact K10|exact K11); (exact rfl); (exact wz rfl))|(apply Tri.stE; (first|exact K0|exact K1|exact K2|exact K3|exact K4|exact K5|exact K6|exact K7|exact K8|exact K9|exact K10|exact K11); (exact rfl); (exact wz rfl))|(apply Tri.same; (first|exact K0|exact K1|exact K2|exact K3|exact K4|exact K5|exact K6|exact K7|exact K8|exact K9|exact K10|exact K11); (exact rfl); (exact wz rfl))|refine wq fun _ => ?_)
    have gb : Good [⟨recA y, 4⟩] := Good.nil.put (recA_ok hy) (by simp)
    refine Tri.call (items_spec (N := 12) (by decide) s12 gb (wz rfl)) (by repeat (first|exact Picks.nil|(apply Picks.cons; (first|exact K0|exact K1|exact K2|exact K3|exact K4|exact K5|exact K6|exact K7|exact K8|exact K9|exact K10|exact K11)))) ?_
    rw [ssort_one]
    rintro v L' ⟨o2, rfl, rfl⟩
    simp only [List.cons_append, List.nil_append]
    repeat (first|refine wa ?_|refine wb ?_|refine wc ?_|refine wd ?_|refine we ?_|refine wf ?_|refine wg ?_|refine wh rfl ?_|refine wi rfl ?_|refine wj rfl ?_|refine wk rfl ?_|refine wl rfl ?_|refine wm (by decide) ?_|refine wn ?_|refine wo ?_|refine wp (by decide) ?_|(apply Tri.ldE; (first|exact K0|exact K1|exact K2|exact K3|exact K4|exact K5|exact K6|exact K7|exact K8|exact K9|exact K10|exact K11); (exact rfl); (exact wz rfl))|(apply Tri.stE; (first|exact K0|exact K1|exact K2|exact K3|exact K4|exact K5|exact K6|exact K7|exact K8|exact K9|exact K10|exact K11); (exact rfl); (exact wz rfl))|(apply Tri.same; (first|exact K0|exact K1|exact K2|exact K3|exact K4|exact K5|exact K6|exact K7|exact K8|exact K9|exact K10|exact K11); (exact rfl); (exact wz rfl))|refine wq fun _ => ?_)
    refine Tri.call (over_spec (a := recA y) (b := recA x)) (by repeat (first|exact Picks.nil|(apply Picks.cons; (first|exact K0|exact K1|exact K2|exact K3|exact K4|exact K5|exact K6|exact K7|exact K8|exact K9|exact K10|exact K11)))) ?_
    rw [hov]
    rintro v L' ⟨rfl, rfl⟩
    simp only [List.cons_append, List.nil_append]
    repeat (first|refine wa ?_|refine wb ?_|refine wc ?_|refine wd ?_|refine we ?_|refine wf ?_|refine wg ?_|refine wh rfl ?_|refine wi rfl ?_|refine wj rfl ?_|refine wk rfl ?_|refine wl rfl ?_|refine wm (by decide) ?_|refine wn ?_|refine wo ?_|refine wp (by decide) ?_|(apply Tri.ldE; (first|exact K0|exact K1|exact K2|exact K3|exact K4|exact K5|exact K6|exact K7|exact K8|exact K9|exact K10|exact K11); (exact rfl); (exact wz rfl))|(apply Tri.stE; (first|exact K0|exact K1|exact K2|exact K3|exact K4|exact K5|exact K6|exact K7|exact K8|exact K9|exact K10|exact K11); (exact rfl); (exact wz rfl))|(apply Tri.same; (first|exact K0|exact K1|exact K2|exact K3|exact K4|exact K5|exact K6|exact K7|exact K8|exact K9|exact K10|exact K11); (exact rfl); (exact wz rfl))|refine wq fun _ => ?_)
    refine Tri.slLen (l := [(⟨recA y, 4⟩ : Itm)]) (o := o2) (ro := false) (T := itE) (by first|exact K0|exact K1|exact K2|exact K3|exact K4|exact K5|exact K6|exact K7|exact K8|exact K9|exact K10|exact K11) fun e1 e2 => ?_
    rw [e2]
    refine Tri.cndF rfl ?_
    refine Tri.cndF rfl ?_
    refine Tri.cndT rfl ?_
    refine Tri.ixldR (T := itE) (o := o2) (x := ⟨recA y, 4⟩) (k := 0) (n := 5) (by first|exact K0|exact K1|exact K2|exact K3|exact K4|exact K5|exact K6|exact K7|exact K8|exact K9|exact K10|exact K11) rfl (by decide) rfl (by decide) rfl ?_
    repeat (first|refine wa ?_|refine wb ?_|refine wc ?_|refine wd ?_|refine we ?_|refine wf ?_|refine wg ?_|refine wh rfl ?_|refine wi rfl ?_|refine wj rfl ?_|refine wk rfl ?_|refine wl rfl ?_|refine wm (by decide) ?_|refine wn ?_|refine wo ?_|refine wp (by decide) ?_|(apply Tri.ldE; (first|exact K0|exact K1|exact K2|exact K3|exact K4|exact K5|exact K6|exact K7|exact K8|exact K9|exact K10|exact K11); (exact rfl); (exact wz rfl))|(apply Tri.stE; (first|exact K0|exact K1|exact K2|exact K3|exact K4|exact K5|exact K6|exact K7|exact K8|exact K9|exact K10|exact K11); (exact rfl); (exact wz rfl))|(apply Tri.same; (first|exact K0|exact K1|exact K2|exact K3|exact K4|exact K5|exact K6|exact K7|exact K8|exact K9|exact K10|exact K11); (exact rfl); (exact wz rfl))|refine wq fun _ => ?_)
    refine Tri.cndF (by simp [recA]) ?_
    refine Tri.ixldR (T := itE) (o := o2) (x := ⟨recA y, 4⟩) (k := 5) (n := 1) (by first|exact K0|exact K1|exact K2|exact K3|exact K4|exact K5|exact K6|exact K7|exact K8|exact K9|exact K10|exact K11) rfl (by decide) rfl (by decide) rfl ?_
    repeat (first|refine wa ?_|refine wb ?_|refine wc ?_|refine wd ?_|refine we ?_|refine wf ?_|refine wg ?_|refine wh rfl ?_|refine wi rfl ?_|refine wj rfl ?_|refine wk rfl ?_|refine wl rfl ?_|refine wm (by decide) ?_|refine wn ?_|refine wo ?_|refine wp (by decide) ?_|(apply Tri.ldE; (first|exact K0|exact K1|exact K2|exact K3|exact K4|exact K5|exact K6|exact K7|exact K8|exact K9|exact K10|exact K11); (exact rfl); (exact wz rfl))|(apply Tri.stE; (first|exact K0|exact K1|exact K2|exact K3|exact K4|exact K5|exact K6|exact K7|exact K8|exact K9|exact K10|exact K11); (exact rfl); (exact wz rfl))|(apply Tri.same; (first|exact K0|exact K1|exact K2|exact K3|exact K4|exact K5|exact K6|exact K7|exact K8|exact K9|exact K10|exact K11); (exact rfl); (exact wz rfl))|refine wq fun _ => ?_)
    refine Tri.cndF rfl ?_
    refine Tri.cndF rfl ?_
    refine Tri.brT rfl ?_
    refine Tri.front (A := Qu p [⟨recA y, 4⟩] k) (by first|exact K0|exact K1|exact K2|exact K3|exact K4|exact K5|exact K6|exact K7|exact K8|exact K9|exact K10|exact K11) ?_
    exact fill_tri ⟨rfl, by show (1 : Int) ≤ 4; decide, by show (4 : Int) ≤ 4; decide⟩ (by omega) (by omega) (by omega)
  · have hov : overB (recA y) (recA x) = false := by simpa using hov
    rw [if_neg (by simp [hov])]
    simp only [List.cons_append, List.nil_append]
    repeat (first|refine wa ?_|refine wb ?_|refine wc ?_|refine wd ?_|refine we ?_|refine wf ?_|refine wg ?_|refine wh rfl ?_|refine wi rfl ?_|refine wj rfl ?_|refine wk rfl ?_|refine wl rfl ?_|refine wm (by decide) ?_|refine wn ?_|refine wo ?_|refine wp (by decide) ?_|(apply Tri.ldE; (first|exact K0|exact K1|exact K2|exact K3|exact K4|exact K5|exact K6|exact K7|exact K8|exact K9|exact K10|exact K11); (exact rfl); (exact wz rfl))|(apply Tri.stE; (first|exact K0|exact K1|exact K2|exact K3|exact K4|exact K5|exact K6|exact K7|exact K8|exact K9|exact K10|exact K11); (exact rfl); (exact wz rfl))|(apply Tri.same; (first|exact K0|exact K1|exact K2|exact K3|exact K4|exact K5|exact K6|exact K7|exact K8|exact K9|exact K10|exact K11); (exact rfl); (exact wz rfl))|refine wq fun _ => ?_)
    refine Tri.call (items_spec (N := 12) (by decide) s12 ga3 (wz rfl)) (by repeat (first|exact Picks.nil|(apply Picks.cons; (first|exact K0|exact K1|exact K2|exact K3|exact K4|exact K5|exact K6|exact K7|exact K8|exact K9|exact K10|exact K11)))) ?_
    rw [ssort_one]
    rintro v L' ⟨o2, rfl, rfl⟩
    simp only [List.cons_append, List.nil_append]
    repeat (first|refine wa ?_|refine wb ?_|refine wc ?_|refine wd ?_|refine we ?_|refine wf ?_|refine wg ?_|refine wh rfl ?_|refine wi rfl ?_|refine wj rfl ?_|refine wk rfl ?_|refine wl rfl ?_|refine wm (by decide) ?_|refine wn ?_|refine wo ?_|refine wp (by decide) ?_|(apply Tri.ldE; (first|exact K0|exact K1|exact K2|exact K3|exact K4|exact K5|exact K6|exact K7|exact K8|exact K9|exact K10|exact K11); (exact rfl); (exact wz rfl))|(apply Tri.stE; (first|exact K0|exact K1|exact K2|exact K3|exact K4|exact K5|exact K6|exact K7|exact K8|exact K9|exact K10|exact K11); (exact rfl); (exact wz rfl))|(apply Tri.same; (first|exact K0|exact K1|exact K2|exact K3|exact K4|exact K5|exact K6|exact K7|exact K8|exact K9|exact K10|exact K11); (exact rfl); (exact wz rfl))|refine wq fun _ => ?_)
    refine Tri.call (over_spec (a := recA y) (b := recA x)) (by repeat (first|exact Picks.nil|(apply Picks.cons; (first|exact K0|exact K1|exact K2|exact K3|exact K4|exact K5|exact K6|exact K7|exact K8|exact K9|exact K10|exact K11)))) ?_
    rw [hov]
    rintro v L' ⟨rfl, rfl⟩
    simp only [List.cons_append, List.nil_append]
    repeat (first|refine wa ?_|refine wb ?_|refine wc ?_|refine wd ?_|refine we ?_|refine wf ?_|refine wg ?_|refine wh rfl ?_|refine wi rfl ?_|refine wj rfl ?_|refine wk rfl ?_|refine wl rfl ?_|refine wm (by decide) ?_|refine wn ?_|refine wo ?_|refine wp (by decide) ?_|(apply Tri.ldE; (first|exact K0|exact K1|exact K2|exact K3|exact K4|exact K5|exact K6|exact K7|exact K8|exact K9|exact K10|exact K11); (exact rfl); (exact wz rfl))|(apply Tri.stE; (first|exact K0|exact K1|exact K2|exact K3|exact K4|exact K5|exact K6|exact K7|exact K8|exact K9|exact K10|exact K11); (exact rfl); (exact wz rfl))|(apply Tri.same; (first|exact K0|exact K1|exact K2|exact K3|exact K4|exact K5|exact K6|exact K7|exact K8|exact K9|exact K10|exact K11); (exact rfl); (exact wz rfl))|refine wq fun _ => ?_)
    refine Tri.slLen (l := [(⟨recA x, 3⟩ : Itm)]) (o := o2) (ro := false) (T := itE) (by first|exact K0|exact K1|exact K2|exact K3|exact K4|exact K5|exact K6|exact K7|exact K8|exact K9|exact K10|exact K11) fun e1 e2 => ?_
    rw [e2]
    refine Tri.cndF rfl ?_
    refine Tri.cndF rfl ?_
    refine Tri.cndF rfl ?_
    refine Tri.cndT rfl ?_
    refine Tri.ixldR (T := itE) (o := o2) (x := ⟨recA x, 3⟩) (k := 0) (n := 5) (by first|exact K0|exact K1|exact K2|exact K3|exact K4|exact K5|exact K6|exact K7|exact K8|exact K9|exact K10|exact K11) rfl (by decide) rfl (by decide) rfl ?_
    repeat (first|refine wa ?_|refine wb ?_|refine wc ?_|refine wd ?_|refine we ?_|refine wf ?_|refine wg ?_|refine wh rfl ?_|refine wi rfl ?_|refine wj rfl ?_|refine wk rfl ?_|refine wl rfl ?_|refine wm (by decide) ?_|refine wn ?_|refine wo ?_|refine wp (by decide) ?_|(apply Tri.ldE; (first|exact K0|exact K1|exact K2|exact K3|exact K4|exact K5|exact K6|exact K7|exact K8|exact K9|exact K10|exact K11); (exact rfl); (exact wz rfl))|(apply Tri.stE; (first|exact K0|exact K1|exact K2|exact K3|exact K4|exact K5|exact K6|exact K7|exact K8|exact K9|exact K10|exact K11); (exact rfl); (exact wz rfl))|(apply Tri.same; (first|exact K0|exact K1|exact K2|exact K3|exact K4|exact K5|exact K6|exact K7|exact K8|exact K9|exact K10|exact K11); (exact rfl); (exact wz rfl))|refine wq fun _ => ?_)
    refine Tri.cndF (by simp [recA]) ?_
    refine Tri.ixldR (T := itE) (o := o2) (x := ⟨recA x, 3⟩) (k := 5) (n := 1) (by first|exact K0|exact K1|exact K2|exact K3|exact K4|exact K5|exact K6|exact K7|exact K8|exact K9|exact K10|exact K11) rfl (by decide) rfl (by decide) rfl ?_
    repeat (first|refine wa ?_|refine wb ?_|refine wc ?_|refine wd ?_|refine we ?_|refine wf ?_|refine wg ?_|refine wh rfl ?_|refine wi rfl ?_|refine wj rfl ?_|refine wk rfl ?_|refine wl rfl ?_|refine wm (by decide) ?_|refine wn ?_|refine wo ?_|refine wp (by decide) ?_|(apply Tri.ldE; (first|exact K0|exact K1|exact K2|exact K3|exact K4|exact K5|exact K6|exact K7|exact K8|exact K9|exact K10|exact K11); (exact rfl); (exact wz rfl))|(apply Tri.stE; (first|exact K0|exact K1|exact K2|exact K3|exact K4|exact K5|exact K6|exact K7|exact K8|exact K9|exact K10|exact K11); (exact rfl); (exact wz rfl))|(apply Tri.same; (first|exact K0|exact K1|exact K2|exact K3|exact K4|exact K5|exact K6|exact K7|exact K8|exact K9|exact K10|exact K11); (exact rfl); (exact wz rfl))|refine wq fun _ => ?_)
    refine Tri.cndF rfl ?_
    refine Tri.cndF rfl ?_
    refine Tri.brT rfl ?_
    refine Tri.front (A := Qu p [⟨recA x, 3⟩] k) (by first|exact K0|exact K1|exact K2|exact K3|exact K4|exact K5|exact K6|exact K7|exact K8|exact K9|exact K10|exact K11) ?_
    exact fill_tri ⟨rfl, by show (1 : Int) ≤ 3; decide, by show (3 : Int) ≤ 4; decide⟩ (by omega) (by omega) (by omega)
abbrev Thn := { t : Thg // 0 ≤ t.r.ip }
theorem thn_ok (c : List Sc) (h : All2 ScK [.i .i64, .i .i64, .i .u32, .i .u32, .i .u16, .b] c) : ∃ x : Thn, c = thE.e x.1 := by
  obtain ⟨_, _, rfl, ⟨a, rfl, _⟩, _, _, rfl, ⟨b, rfl, _⟩, _, _, rfl, ⟨c, rfl, _⟩, _, _, rfl, ⟨d, rfl, w⟩, _, _, rfl, ⟨e, rfl, _⟩, _, _, rfl, ⟨f, rfl⟩, rfl⟩ := h
  refine ⟨⟨⟨⟨a, b, c, d, e⟩, f⟩, ?_⟩, rfl⟩
  simp [Lit.wf, IntKind.min, IntKind.max, IntKind.signed, IntKind.bits] at w
  exact w.1
theorem over_run (x y : Thn) {room more : Int} (hr : 0 ≤ room ∧ room < 256) (hm : 0 ≤ more ∧ more < 256) : ∃ n H1, callA Try.prog T hs n 5 [.ag (thE.e x.1), .ag (thE.e y.1), .sc (.i .u8 room), .sc (.i .u8 more)] H0 = some (.sc (.b true), H1) := by
  refine law_fin (E := E) (Try.func5 : Try.prog.funcs[5]? = some Try.f5) (t5_eq x.1.r.id x.1.r.st x.1.r.inc x.1.r.ip x.1.r.port x.1.own y.1.r.id y.1.r.st y.1.r.inc y.1.r.ip y.1.r.port y.1.own room more) ?_
  refine CallWp.mono (exW2 _) ?_
  rintro v H' ⟨rfl, h0, h1, hn⟩
  exact Tri.fin (over_tri x.2 y.2 hr hm) (Star.two_ (by decide) h0 (by omega) h1 hn)
end Go.Proofs.Ytphhflkpdejodaa
