/- The law NatboxEvicts on the abstract machine. -/
import Derived.Test.YtloiifcocgpnbaaNG
import Derived.Test.YtloiifcocgpnbaaEx
import Derived.Test.YtloiifcocgpnbaaTreeD
namespace Go.Proofs.Ytloiifcocgpnbaa
open Go Go.Proofs.Ytloiifcocgpnbaa.Fw
set_option linter.unusedVariables false
set_option linter.unusedSimpArgs false
def who (i : Int) : Ad := ⟨IntKind.wrap .u32 (100 + IntKind.wrap .u32 i), 1⟩
def eS (k : Nat) : Nat → Bx
  | 0 => ⟨0, 0, 9, 100, k, []⟩
  | i + 1 => (outB (eS k i) (IntKind.wrap .u64 i) (who i) ⟨50, 1⟩).2
def eU (k u : Nat) : Bx := (outB (eS k k) (IntKind.wrap .u64 k) (who u) ⟨50, 1⟩).2
def eV (k u : Nat) : Bx := (outB (eU k u) (IntKind.wrap .u64 (IntKind.wrap .i64 ((k : Int) + 1))) ⟨200, 1⟩ ⟨50, 1⟩).2
def goneB (u : Nat) : Int := if u = 0 then 1 else 0
def okE (u : Nat) (x : Bd) : Bool := !(x.inn.ip == IntKind.wrap .u32 (100 + IntKind.wrap .u32 (goneB u))) && (!(x.inn.ip == 200) || x.port == IntKind.wrap .u16 (20000 + IntKind.wrap .u16 (goneB u)))
set_option maxRecDepth 100000 in
theorem ev_all : ∀ (k : Fin 7) (u : Fin 6), 2 ≤ k.1 → u.1 < k.1 → ((eV k.1 u.1).l.length = k.1 ∧ (eV k.1 u.1).l.all (okE u.1) = true) := by decide +kernel
theorem eS_inv {k : Nat} (h1 : 2 ≤ k) (h2 : k ≤ 6) : ∀ i, BI (eS k i)
  | 0 => BI.nil (by omega) (by omega)
  | i + 1 => (eS_inv h1 h2 i).out _ _ _
theorem mod5 {x : Int} (h : 0 ≤ x ∧ x < 256) : ∃ k : Nat, 2 ≤ k ∧ k ≤ 6 ∧ IntKind.wrap .i64 (2 + IntKind.wrap .i64 (Int.tmod x 5)) = (k : Int) := by
  obtain ⟨n, rfl⟩ := Int.eq_ofNat_of_zero_le h.1
  refine ⟨2 + n % 5, by omega, by omega, ?_⟩
  rw [Int.tmod_eq_emod_of_nonneg (by omega), wr_i64 (n := (n : Int) % 5) (by omega) (by omega), wr_i64 (by omega) (by omega)]
  simp
theorem modk {x : Int} {k : Nat} (h : 0 ≤ x ∧ x < 256) (hk : 2 ≤ k) : ∃ u : Nat, u < k ∧ Int.tmod (IntKind.wrap .i64 x) k = (u : Int) := by
  obtain ⟨n, rfl⟩ := Int.eq_ofNat_of_zero_le h.1
  refine ⟨n % k, Nat.mod_lt _ (by omega), ?_⟩
  rw [wr_i64 (by omega) (by omega), Int.tmod_eq_emod_of_nonneg (by omega)]
  simp
set_option maxRecDepth 20000 in
set_option maxHeartbeats 4000000 in
theorem ev_tri {n0 n1 : Int} (h0 : 0 ≤ n0 ∧ n0 < 256) (h1 : 0 ≤ n1 ∧ n1 < 256) : Tri E [] ((fun v0 : AV => match t6 n0 n1 with | .call _ _ f => f v0 | _ => .fail) (.sc (.b true))) (RQ [] RT) := by
  obtain ⟨k, hk2, hk6, hk⟩ := mod5 h0
  obtain ⟨u, hu, huk⟩ := modk h1 hk2
  obtain ⟨hln, hall⟩ := ev_all ⟨k, by omega⟩ ⟨u, by omega⟩ hk2 hu
  simp only at hln hall
  unfold t6
  rw [hk]
  dsimp only
  repeat (first|refine wa ?_|refine wb ?_|refine wc ?_|refine wd ?_|refine we ?_|refine wf ?_|refine wg ?_|refine wh rfl ?_|refine wi rfl ?_|refine wj rfl ?_|refine wk rfl ?_|refine wl rfl ?_|refine wm (by decide) ?_|(apply Tri.ldE; (first|exact K0|exact K1|exact K2|exact K3|exact K4|exact K5|exact K6|exact K7|exact K8|exact K9|exact K10|exact K11); (exact rfl); (exact wz rfl))|(apply Tri.stE; (first|exact K0|exact K1|exact K2|exact K3|exact K4|exact K5|exact K6|exact K7|exact K8|exact K9|exact K10|exact K11); (exact rfl); (exact wz rfl))|(apply Tri.same; (first|exact K0|exact K1|exact K2|exact K3|exact K4|exact K5|exact K6|exact K7|exact K8|exact K9|exact K10|exact K11); (exact rfl); (exact wz rfl))|refine wq fun _ => ?_)
  refine Tri.cndF rfl ?_
  refine Tri.brT rfl ?_
  repeat (first|refine wa ?_|refine wb ?_|refine wc ?_|refine wd ?_|refine we ?_|refine wf ?_|refine wg ?_|refine wh rfl ?_|refine wi rfl ?_|refine wj rfl ?_|refine wk rfl ?_|refine wl rfl ?_|refine wm (by decide) ?_|(apply Tri.ldE; (first|exact K0|exact K1|exact K2|exact K3|exact K4|exact K5|exact K6|exact K7|exact K8|exact K9|exact K10|exact K11); (exact rfl); (exact wz rfl))|(apply Tri.stE; (first|exact K0|exact K1|exact K2|exact K3|exact K4|exact K5|exact K6|exact K7|exact K8|exact K9|exact K10|exact K11); (exact rfl); (exact wz rfl))|(apply Tri.same; (first|exact K0|exact K1|exact K2|exact K3|exact K4|exact K5|exact K6|exact K7|exact K8|exact K9|exact K10|exact K11); (exact rfl); (exact wz rfl))|refine wq fun _ => ?_)
  refine Tri.call (new_ok (m := 0) (f := 0) (ip := 9) (hold := 100) (room := k) (by simp [okN, kindB]; omega)) (by repeat (first|exact Picks.nil|(apply Picks.cons; (first|exact K0|exact K1|exact K2|exact K3|exact K4|exact K5|exact K6|exact K7|exact K8|exact K9|exact K10|exact K11)))) ?_
  rintro v L' ⟨p, rfl, rfl⟩
  rw [show (⟨0, 0, 9, 100, (k : Int), []⟩ : Bx) = eS k 0 from rfl]
  simp only [List.cons_append, List.nil_append]
  repeat (first|refine wa ?_|refine wb ?_|refine wc ?_|refine wd ?_|refine we ?_|refine wf ?_|refine wg ?_|refine wh rfl ?_|refine wi rfl ?_|refine wj rfl ?_|refine wk rfl ?_|refine wl rfl ?_|refine wm (by decide) ?_|(apply Tri.ldE; (first|exact K0|exact K1|exact K2|exact K3|exact K4|exact K5|exact K6|exact K7|exact K8|exact K9|exact K10|exact K11); (exact rfl); (exact wz rfl))|(apply Tri.stE; (first|exact K0|exact K1|exact K2|exact K3|exact K4|exact K5|exact K6|exact K7|exact K8|exact K9|exact K10|exact K11); (exact rfl); (exact wz rfl))|(apply Tri.same; (first|exact K0|exact K1|exact K2|exact K3|exact K4|exact K5|exact K6|exact K7|exact K8|exact K9|exact K10|exact K11); (exact rfl); (exact wz rfl))|refine wq fun _ => ?_)
  rename_i a8
  refine Tri.loop (I := fun m l' L => ∃ i : Nat, m = k - i ∧ i ≤ k ∧ l' = [.sc (.i .u8 n1), .sc (.b true), .sc (.i .i64 k), .sc (.p (some (p, 0))), .sc (.p (some (a8, 0))), .sc (.i .i64 i)] ∧ L = [Bo p (eS k i), pt a8 [.i .u32 50, .i .u16 1]]) ⟨0, rfl, Nat.zero_le _, rfl, rfl⟩ (by repeat (first|exact Sub.refl _|exact Sub.nil _|(apply Sub.cons; (first|exact K0|exact K1|exact K2|exact K3|exact K4|exact K5|exact K6|exact K7|exact K8|exact K9|exact K10|exact K11))|apply Sub.skip)) ?_
  rintro m l' L ⟨i, rfl, hi, rfl, rfl⟩
  have bi := eS_inv hk2 hk6 i
  unfold t6_b9
  repeat (first|refine wa ?_|refine wb ?_|refine wc ?_|refine wd ?_|refine we ?_|refine wf ?_|refine wg ?_|refine wh rfl ?_|refine wi rfl ?_|refine wj rfl ?_|refine wk rfl ?_|refine wl rfl ?_|refine wm (by decide) ?_|(apply Tri.ldE; (first|exact K0|exact K1|exact K2|exact K3|exact K4|exact K5|exact K6|exact K7|exact K8|exact K9|exact K10|exact K11); (exact rfl); (exact wz rfl))|(apply Tri.stE; (first|exact K0|exact K1|exact K2|exact K3|exact K4|exact K5|exact K6|exact K7|exact K8|exact K9|exact K10|exact K11); (exact rfl); (exact wz rfl))|(apply Tri.same; (first|exact K0|exact K1|exact K2|exact K3|exact K4|exact K5|exact K6|exact K7|exact K8|exact K9|exact K10|exact K11); (exact rfl); (exact wz rfl))|refine wq fun _ => ?_)
  refine Tri.cnd (fun hc => ?_) (fun hc => ?_)
  · have hc : i < k := by simpa using hc
    repeat (first|refine wa ?_|refine wb ?_|refine wc ?_|refine wd ?_|refine we ?_|refine wf ?_|refine wg ?_|refine wh rfl ?_|refine wi rfl ?_|refine wj rfl ?_|refine wk rfl ?_|refine wl rfl ?_|refine wm (by decide) ?_|(apply Tri.ldE; (first|exact K0|exact K1|exact K2|exact K3|exact K4|exact K5|exact K6|exact K7|exact K8|exact K9|exact K10|exact K11); (exact rfl); (exact wz rfl))|(apply Tri.stE; (first|exact K0|exact K1|exact K2|exact K3|exact K4|exact K5|exact K6|exact K7|exact K8|exact K9|exact K10|exact K11); (exact rfl); (exact wz rfl))|(apply Tri.same; (first|exact K0|exact K1|exact K2|exact K3|exact K4|exact K5|exact K6|exact K7|exact K8|exact K9|exact K10|exact K11); (exact rfl); (exact wz rfl))|refine wq fun _ => ?_)
    refine Tri.call (out_spec (b := eS k i) (now := IntKind.wrap .u64 i) (src := who i) (dst := ⟨50, 1⟩) bi.b90 bi.r1 bi.sm) (by repeat (first|exact Picks.nil|(apply Picks.cons; (first|exact K0|exact K1|exact K2|exact K3|exact K4|exact K5|exact K6|exact K7|exact K8|exact K9|exact K10|exact K11)))) ?_
    rintro v L' ⟨rfl, rfl⟩
    simp only [List.cons_append, List.nil_append]
    repeat (first|refine wa ?_|refine wb ?_|refine wc ?_|refine wd ?_|refine we ?_|refine wf ?_|refine wg ?_|refine wh rfl ?_|refine wi rfl ?_|refine wj rfl ?_|refine wk rfl ?_|refine wl rfl ?_|refine wm (by decide) ?_|(apply Tri.ldE; (first|exact K0|exact K1|exact K2|exact K3|exact K4|exact K5|exact K6|exact K7|exact K8|exact K9|exact K10|exact K11); (exact rfl); (exact wz rfl))|(apply Tri.stE; (first|exact K0|exact K1|exact K2|exact K3|exact K4|exact K5|exact K6|exact K7|exact K8|exact K9|exact K10|exact K11); (exact rfl); (exact wz rfl))|(apply Tri.same; (first|exact K0|exact K1|exact K2|exact K3|exact K4|exact K5|exact K6|exact K7|exact K8|exact K9|exact K10|exact K11); (exact rfl); (exact wz rfl))|refine wq fun _ => ?_)
    rw [wr_i64 (by omega) (by omega)]
    exact Tri.back (m' := k - (i + 1)) (by omega) ⟨i + 1, rfl, by omega, rfl, rfl⟩ (by repeat (first|exact Sub.refl _|exact Sub.nil _|(apply Sub.cons; (first|exact K0|exact K1|exact K2|exact K3|exact K4|exact K5|exact K6|exact K7|exact K8|exact K9|exact K10|exact K11))|apply Sub.skip))
  · have hc : i = k := by simp at hc; omega
    subst hc
    refine Tri.exit (by decide) ?_
    unfold t6_k9
    repeat (first|refine wa ?_|refine wb ?_|refine wc ?_|refine wd ?_|refine we ?_|refine wf ?_|refine wg ?_|refine wh rfl ?_|refine wi rfl ?_|refine wj rfl ?_|refine wk rfl ?_|refine wl rfl ?_|refine wm (by decide) ?_|(apply Tri.ldE; (first|exact K0|exact K1|exact K2|exact K3|exact K4|exact K5|exact K6|exact K7|exact K8|exact K9|exact K10|exact K11); (exact rfl); (exact wz rfl))|(apply Tri.stE; (first|exact K0|exact K1|exact K2|exact K3|exact K4|exact K5|exact K6|exact K7|exact K8|exact K9|exact K10|exact K11); (exact rfl); (exact wz rfl))|(apply Tri.same; (first|exact K0|exact K1|exact K2|exact K3|exact K4|exact K5|exact K6|exact K7|exact K8|exact K9|exact K10|exact K11); (exact rfl); (exact wz rfl))|refine wq fun _ => ?_)
    refine Tri.brT (by simp; omega) ?_
    rw [huk]
    repeat (first|refine wa ?_|refine wb ?_|refine wc ?_|refine wd ?_|refine we ?_|refine wf ?_|refine wg ?_|refine wh rfl ?_|refine wi rfl ?_|refine wj rfl ?_|refine wk rfl ?_|refine wl rfl ?_|refine wm (by decide) ?_|(apply Tri.ldE; (first|exact K0|exact K1|exact K2|exact K3|exact K4|exact K5|exact K6|exact K7|exact K8|exact K9|exact K10|exact K11); (exact rfl); (exact wz rfl))|(apply Tri.stE; (first|exact K0|exact K1|exact K2|exact K3|exact K4|exact K5|exact K6|exact K7|exact K8|exact K9|exact K10|exact K11); (exact rfl); (exact wz rfl))|(apply Tri.same; (first|exact K0|exact K1|exact K2|exact K3|exact K4|exact K5|exact K6|exact K7|exact K8|exact K9|exact K10|exact K11); (exact rfl); (exact wz rfl))|refine wq fun _ => ?_)
    refine Tri.call (out_spec (b := eS i i) (now := IntKind.wrap .u64 i) (src := who u) (dst := ⟨50, 1⟩) bi.b90 bi.r1 bi.sm) (by repeat (first|exact Picks.nil|(apply Picks.cons; (first|exact K0|exact K1|exact K2|exact K3|exact K4|exact K5|exact K6|exact K7|exact K8|exact K9|exact K10|exact K11)))) ?_
    rintro v L' ⟨rfl, rfl⟩
    simp only [List.cons_append, List.nil_append]
    repeat (first|refine wa ?_|refine wb ?_|refine wc ?_|refine wd ?_|refine we ?_|refine wf ?_|refine wg ?_|refine wh rfl ?_|refine wi rfl ?_|refine wj rfl ?_|refine wk rfl ?_|refine wl rfl ?_|refine wm (by decide) ?_|(apply Tri.ldE; (first|exact K0|exact K1|exact K2|exact K3|exact K4|exact K5|exact K6|exact K7|exact K8|exact K9|exact K10|exact K11); (exact rfl); (exact wz rfl))|(apply Tri.stE; (first|exact K0|exact K1|exact K2|exact K3|exact K4|exact K5|exact K6|exact K7|exact K8|exact K9|exact K10|exact K11); (exact rfl); (exact wz rfl))|(apply Tri.same; (first|exact K0|exact K1|exact K2|exact K3|exact K4|exact K5|exact K6|exact K7|exact K8|exact K9|exact K10|exact K11); (exact rfl); (exact wz rfl))|refine wq fun _ => ?_)
    have bi2 : BI (eU i u) := bi.out _ _ _
    refine Tri.call (out_spec (b := eU i u) (now := IntKind.wrap .u64 (IntKind.wrap .i64 ((i : Int) + 1))) (src := ⟨200, 1⟩) (dst := ⟨50, 1⟩) bi2.b90 bi2.r1 bi2.sm) (by repeat (first|exact Picks.nil|(apply Picks.cons; (first|exact K0|exact K1|exact K2|exact K3|exact K4|exact K5|exact K6|exact K7|exact K8|exact K9|exact K10|exact K11)))) ?_
    rintro v L' ⟨rfl, rfl⟩
    simp only [List.cons_append, List.nil_append]
    repeat (first|refine wa ?_|refine wb ?_|refine wc ?_|refine wd ?_|refine we ?_|refine wf ?_|refine wg ?_|refine wh rfl ?_|refine wi rfl ?_|refine wj rfl ?_|refine wk rfl ?_|refine wl rfl ?_|refine wm (by decide) ?_|(apply Tri.ldE; (first|exact K0|exact K1|exact K2|exact K3|exact K4|exact K5|exact K6|exact K7|exact K8|exact K9|exact K10|exact K11); (exact rfl); (exact wz rfl))|(apply Tri.stE; (first|exact K0|exact K1|exact K2|exact K3|exact K4|exact K5|exact K6|exact K7|exact K8|exact K9|exact K10|exact K11); (exact rfl); (exact wz rfl))|(apply Tri.same; (first|exact K0|exact K1|exact K2|exact K3|exact K4|exact K5|exact K6|exact K7|exact K8|exact K9|exact K10|exact K11); (exact rfl); (exact wz rfl))|refine wq fun _ => ?_)
    have bi3 : BI (eV i u) := bi2.out _ _ _
    have last : Tri E [Bo p (eV i u)] (t6_k73 0 [.sc (.b true), .sc (.i .i64 i), .sc (.p (some (p, 0))), .sc (.i .i64 (goneB u))]) (RQ [] RT) := by
      unfold t6_k73
      repeat (first|refine wa ?_|refine wb ?_|refine wc ?_|refine wd ?_|refine we ?_|refine wf ?_|refine wg ?_|refine wh rfl ?_|refine wi rfl ?_|refine wj rfl ?_|refine wk rfl ?_|refine wl rfl ?_|refine wm (by decide) ?_|(apply Tri.ldE; (first|exact K0|exact K1|exact K2|exact K3|exact K4|exact K5|exact K6|exact K7|exact K8|exact K9|exact K10|exact K11); (exact rfl); (exact wz rfl))|(apply Tri.stE; (first|exact K0|exact K1|exact K2|exact K3|exact K4|exact K5|exact K6|exact K7|exact K8|exact K9|exact K10|exact K11); (exact rfl); (exact wz rfl))|(apply Tri.same; (first|exact K0|exact K1|exact K2|exact K3|exact K4|exact K5|exact K6|exact K7|exact K8|exact K9|exact K10|exact K11); (exact rfl); (exact wz rfl))|refine wq fun _ => ?_)
      refine Tri.call (binds_spec (b := eV i u) bi3.b90 bi3.sm) (by repeat (first|exact Picks.nil|(apply Picks.cons; (first|exact K0|exact K1|exact K2|exact K3|exact K4|exact K5|exact K6|exact K7|exact K8|exact K9|exact K10|exact K11)))) ?_
      rintro v L' ⟨o, l, rfl, hp, _, rfl⟩
      simp only [List.cons_append, List.nil_append]
      repeat (first|refine wa ?_|refine wb ?_|refine wc ?_|refine wd ?_|refine we ?_|refine wf ?_|refine wg ?_|refine wh rfl ?_|refine wi rfl ?_|refine wj rfl ?_|refine wk rfl ?_|refine wl rfl ?_|refine wm (by decide) ?_|(apply Tri.ldE; (first|exact K0|exact K1|exact K2|exact K3|exact K4|exact K5|exact K6|exact K7|exact K8|exact K9|exact K10|exact K11); (exact rfl); (exact wz rfl))|(apply Tri.stE; (first|exact K0|exact K1|exact K2|exact K3|exact K4|exact K5|exact K6|exact K7|exact K8|exact K9|exact K10|exact K11); (exact rfl); (exact wz rfl))|(apply Tri.same; (first|exact K0|exact K1|exact K2|exact K3|exact K4|exact K5|exact K6|exact K7|exact K8|exact K9|exact K10|exact K11); (exact rfl); (exact wz rfl))|refine wq fun _ => ?_)
      refine Tri.slLen (l := l) (o := o) (ro := false) (T := bmE) (by first|exact K0|exact K1|exact K2|exact K3|exact K4|exact K5|exact K6|exact K7|exact K8|exact K9|exact K10|exact K11) fun _ e2 => ?_
      have hll : l.length = i := by have := hp.length_eq; rw [List.length_map] at this; rw [this]; exact hln
      rw [e2, hll]
      refine Tri.cndF (by simp) ?_
      refine Tri.loop (I := fun m l' L => ∃ D R : List Bm, m = R.length ∧ l = D ++ R ∧ l' = [.sc (.b true), .sc (.i .i64 (goneB u)), .sc (.sl o), .sc (.i .i64 D.length)] ∧ L = [.sl false bmE o l]) ⟨[], l, rfl, rfl, rfl, rfl⟩ (by repeat (first|exact Sub.refl _|exact Sub.nil _|(apply Sub.cons; (first|exact K0|exact K1|exact K2|exact K3|exact K4|exact K5|exact K6|exact K7|exact K8|exact K9|exact K10|exact K11))|apply Sub.skip)) ?_
      rintro m l' L ⟨D, R, rfl, hDR, rfl, rfl⟩
      have hlc : l.length = D.length + R.length := by rw [hDR]; simp
      unfold t6_b82
      repeat (first|refine wa ?_|refine wb ?_|refine wc ?_|refine wd ?_|refine we ?_|refine wf ?_|refine wg ?_|refine wh rfl ?_|refine wi rfl ?_|refine wj rfl ?_|refine wk rfl ?_|refine wl rfl ?_|refine wm (by decide) ?_|(apply Tri.ldE; (first|exact K0|exact K1|exact K2|exact K3|exact K4|exact K5|exact K6|exact K7|exact K8|exact K9|exact K10|exact K11); (exact rfl); (exact wz rfl))|(apply Tri.stE; (first|exact K0|exact K1|exact K2|exact K3|exact K4|exact K5|exact K6|exact K7|exact K8|exact K9|exact K10|exact K11); (exact rfl); (exact wz rfl))|(apply Tri.same; (first|exact K0|exact K1|exact K2|exact K3|exact K4|exact K5|exact K6|exact K7|exact K8|exact K9|exact K10|exact K11); (exact rfl); (exact wz rfl))|refine wq fun _ => ?_)
      rw [e2]
      cases R with
      | nil =>
        refine Tri.cndF (by simp at hlc; simp; omega) ?_
        refine Tri.exit (by decide) ?_
        unfold t6_k82
        repeat (first|refine wa ?_|refine wb ?_|refine wc ?_|refine wd ?_|refine we ?_|refine wf ?_|refine wg ?_|refine wh rfl ?_|refine wi rfl ?_|refine wj rfl ?_|refine wk rfl ?_|refine wl rfl ?_|refine wm (by decide) ?_|(apply Tri.ldE; (first|exact K0|exact K1|exact K2|exact K3|exact K4|exact K5|exact K6|exact K7|exact K8|exact K9|exact K10|exact K11); (exact rfl); (exact wz rfl))|(apply Tri.stE; (first|exact K0|exact K1|exact K2|exact K3|exact K4|exact K5|exact K6|exact K7|exact K8|exact K9|exact K10|exact K11); (exact rfl); (exact wz rfl))|(apply Tri.same; (first|exact K0|exact K1|exact K2|exact K3|exact K4|exact K5|exact K6|exact K7|exact K8|exact K9|exact K10|exact K11); (exact rfl); (exact wz rfl))|refine wq fun _ => ?_)
        exact Tri.retF (L1 := []) rfl (Sub.nil _)
      | cons x R =>
        simp only [List.length_cons] at hlc
        have hx : l[D.length]? = some x := by rw [hDR]; simp
        have hxo : okE u x.d = true := List.all_eq_true.1 hall _ (hp.mem_iff.1 (List.mem_map.2 ⟨x, by rw [hDR]; simp, rfl⟩))
        simp only [okE, Bool.and_eq_true, Bool.or_eq_true, Bool.not_eq_true'] at hxo
        have hwr : IntKind.wrap .i64 ((D.length : Int) + 1) = ((D ++ [x]).length : Int) := by rw [wr_i64 (by omega) (by omega)]; simp
        refine Tri.cndT (by simp; omega) ?_
        refine Tri.ixldR (T := bmE) (o := o) (x := x) (k := 0) (n := 1) (by first|exact K0|exact K1|exact K2|exact K3|exact K4|exact K5|exact K6|exact K7|exact K8|exact K9|exact K10|exact K11) rfl (by omega) (by rw [Int.toNat_natCast]; exact hx) (by decide) rfl ?_
        repeat (first|refine wa ?_|refine wb ?_|refine wc ?_|refine wd ?_|refine we ?_|refine wf ?_|refine wg ?_|refine wh rfl ?_|refine wi rfl ?_|refine wj rfl ?_|refine wk rfl ?_|refine wl rfl ?_|refine wm (by decide) ?_|(apply Tri.ldE; (first|exact K0|exact K1|exact K2|exact K3|exact K4|exact K5|exact K6|exact K7|exact K8|exact K9|exact K10|exact K11); (exact rfl); (exact wz rfl))|(apply Tri.stE; (first|exact K0|exact K1|exact K2|exact K3|exact K4|exact K5|exact K6|exact K7|exact K8|exact K9|exact K10|exact K11); (exact rfl); (exact wz rfl))|(apply Tri.same; (first|exact K0|exact K1|exact K2|exact K3|exact K4|exact K5|exact K6|exact K7|exact K8|exact K9|exact K10|exact K11); (exact rfl); (exact wz rfl))|refine wq fun _ => ?_)
        refine Tri.cndF hxo.1 ?_
        refine Tri.ixldR (T := bmE) (o := o) (x := x) (k := 0) (n := 1) (by first|exact K0|exact K1|exact K2|exact K3|exact K4|exact K5|exact K6|exact K7|exact K8|exact K9|exact K10|exact K11) rfl (by omega) (by rw [Int.toNat_natCast]; exact hx) (by decide) rfl ?_
        repeat (first|refine wa ?_|refine wb ?_|refine wc ?_|refine wd ?_|refine we ?_|refine wf ?_|refine wg ?_|refine wh rfl ?_|refine wi rfl ?_|refine wj rfl ?_|refine wk rfl ?_|refine wl rfl ?_|refine wm (by decide) ?_|(apply Tri.ldE; (first|exact K0|exact K1|exact K2|exact K3|exact K4|exact K5|exact K6|exact K7|exact K8|exact K9|exact K10|exact K11); (exact rfl); (exact wz rfl))|(apply Tri.stE; (first|exact K0|exact K1|exact K2|exact K3|exact K4|exact K5|exact K6|exact K7|exact K8|exact K9|exact K10|exact K11); (exact rfl); (exact wz rfl))|(apply Tri.same; (first|exact K0|exact K1|exact K2|exact K3|exact K4|exact K5|exact K6|exact K7|exact K8|exact K9|exact K10|exact K11); (exact rfl); (exact wz rfl))|refine wq fun _ => ?_)
        rw [hwr]
        refine Tri.cnd (fun h2 => ?_) (fun h2 => ?_)
        · have h3 := hxo.2.resolve_left (by rw [h2]; decide)
          refine Tri.ixldR (T := bmE) (o := o) (x := x) (k := 4) (n := 1) (by first|exact K0|exact K1|exact K2|exact K3|exact K4|exact K5|exact K6|exact K7|exact K8|exact K9|exact K10|exact K11) rfl (by omega) (by rw [Int.toNat_natCast]; exact hx) (by decide) rfl ?_
          repeat (first|refine wa ?_|refine wb ?_|refine wc ?_|refine wd ?_|refine we ?_|refine wf ?_|refine wg ?_|refine wh rfl ?_|refine wi rfl ?_|refine wj rfl ?_|refine wk rfl ?_|refine wl rfl ?_|refine wm (by decide) ?_|(apply Tri.ldE; (first|exact K0|exact K1|exact K2|exact K3|exact K4|exact K5|exact K6|exact K7|exact K8|exact K9|exact K10|exact K11); (exact rfl); (exact wz rfl))|(apply Tri.stE; (first|exact K0|exact K1|exact K2|exact K3|exact K4|exact K5|exact K6|exact K7|exact K8|exact K9|exact K10|exact K11); (exact rfl); (exact wz rfl))|(apply Tri.same; (first|exact K0|exact K1|exact K2|exact K3|exact K4|exact K5|exact K6|exact K7|exact K8|exact K9|exact K10|exact K11); (exact rfl); (exact wz rfl))|refine wq fun _ => ?_)
          refine Tri.cndF (by simpa using h3) ?_
          exact Tri.back (m' := R.length) (by simp) ⟨D ++ [x], R, rfl, by rw [hDR]; simp, rfl, rfl⟩ (by repeat (first|exact Sub.refl _|exact Sub.nil _|(apply Sub.cons; (first|exact K0|exact K1|exact K2|exact K3|exact K4|exact K5|exact K6|exact K7|exact K8|exact K9|exact K10|exact K11))|apply Sub.skip))
        · exact Tri.back (m' := R.length) (by simp) ⟨D ++ [x], R, rfl, by rw [hDR]; simp, rfl, rfl⟩ (by repeat (first|exact Sub.refl _|exact Sub.nil _|(apply Sub.cons; (first|exact K0|exact K1|exact K2|exact K3|exact K4|exact K5|exact K6|exact K7|exact K8|exact K9|exact K10|exact K11))|apply Sub.skip))
    refine wn ?_
    refine Tri.cnd (fun hz => ?_) (fun hz => ?_)
    · have hz : u = 0 := by simp at hz; omega
      refine wo ?_
      rw [show Sc.i .i64 1 = Sc.i .i64 (goneB u) by rw [hz]; rfl]
      exact last.sub (by repeat (first|exact Sub.refl _|exact Sub.nil _|(apply Sub.cons; (first|exact K0|exact K1|exact K2|exact K3|exact K4|exact K5|exact K6|exact K7|exact K8|exact K9|exact K10|exact K11))|apply Sub.skip))
    · have hz : ¬ u = 0 := by simp at hz; omega
      refine wo ?_
      rw [show Sc.i .i64 0 = Sc.i .i64 (goneB u) by unfold goneB; rw [if_neg hz]]
      exact last.sub (by repeat (first|exact Sub.refl _|exact Sub.nil _|(apply Sub.cons; (first|exact K0|exact K1|exact K2|exact K3|exact K4|exact K5|exact K6|exact K7|exact K8|exact K9|exact K10|exact K11))|apply Sub.skip))
theorem ev_run {n0 n1 : Int} (h0 : 0 ≤ n0 ∧ n0 < 256) (h1 : 0 ≤ n1 ∧ n1 < 256) : ∃ n H1, callA Try.prog T hs n 6 [.sc (.i .u8 n0), .sc (.i .u8 n1)] ⟨0, fun _ => none⟩ = some (.sc (.b true), H1) := by
  refine law_fin (E := E) (Try.func6 : Try.prog.funcs[6]? = some Try.f6) (t6_eq n0 n1) ?_
  refine CallWp.mono exW0 ?_
  rintro v H' rfl
  exact Tri.fin (ev_tri h0 h1) (Star.nil H')
end Go.Proofs.Ytloiifcocgpnbaa
