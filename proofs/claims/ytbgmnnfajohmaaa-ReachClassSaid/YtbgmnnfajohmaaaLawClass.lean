/- The law ReachClass on the abstract machine. -/
import Derived.Test.YtbgmnnfajohmaaaRB
import Derived.Test.YtbgmnnfajohmaaaEx
import Derived.Test.YtbgmnnfajohmaaaTreeC
namespace Go.Proofs.Ytbgmnnfajohmaaa
open Go Go.Proofs.Ytbgmnnfajohmaaa.Fw
set_option linter.unusedVariables false
set_option linter.unusedSimpArgs false

/-- how many rounds since something was heard -/
def sn : List Bool → Int → Int
  | [], n => n
  | b :: l, n => sn l (if b then 0 else n + 1)
def since (l : List Bool) : Int := sn l 1000
theorem sn_snoc (b : Bool) : ∀ (l : List Bool) (n : Int), sn (l ++ [b]) n = if b then 0 else sn l n + 1
  | [], n => rfl
  | c :: l, n => sn_snoc b l _
theorem since_snoc (l : List Bool) (b : Bool) : since (l ++ [b]) = if b then 0 else since l + 1 := sn_snoc b l 1000
theorem since_b (l : List Bool) : 0 ≤ since l ∧ since l ≤ 1000 + l.length := by
  unfold since
  have : ∀ (l : List Bool) (n : Int), 0 ≤ n → 0 ≤ sn l n ∧ sn l n ≤ n + l.length := by
    intro l
    induction l with
    | nil => intro n hn; simp [sn, hn]
    | cons b l ih =>
      intro n hn
      cases b
      · have := ih (n + 1) (by omega); simp only [sn, List.length_cons]; simp at this ⊢; omega
      · have := ih 0 (by omega); simp only [sn, List.length_cons]; simp at this ⊢; omega
  simpa using this l 1000 (by omega)
/-- the last n -/
def lst (l : List Bool) (n : Nat) : List Bool := l.drop (l.length - n)
theorem lst_snoc (l : List Bool) (b : Bool) (n : Nat) : lst (l ++ [b]) (n + 1) = lst l n ++ [b] := by
  unfold lst
  rw [List.length_append, List.length_singleton, Nat.add_sub_add_right, List.drop_append_of_le_length (by omega)]
theorem lst_len (l : List Bool) (n : Nat) : (lst l n).length = min n l.length := by unfold lst; rw [List.length_drop]; omega
theorem lst_lastN (l : List Bool) (b : Bool) {n : Nat} (hn : 1 ≤ n) : lastN (lst l n ++ [b]) n = lst (l ++ [b]) n := by
  obtain ⟨n, rfl⟩ : ∃ m, n = m + 1 := ⟨n - 1, by omega⟩
  rw [lst_snoc]
  unfold lastN
  have h1 := lst_len l (n + 1)
  rw [List.length_append, List.length_singleton]
  by_cases h : n + 1 ≤ l.length
  · have e : (max (((lst l (n + 1)).length + 1 : Nat) - ((n + 1 : Nat) : Int)) 0).toNat = 1 := by omega
    rw [e, List.drop_append_of_le_length (by omega)]
    congr 1
    unfold lst
    rw [List.drop_drop]; congr 1; omega
  · have e : (max (((lst l (n + 1)).length + 1 : Nat) - ((n + 1 : Nat) : Int)) 0).toNat = 0 := by omega
    rw [e, List.drop_zero]
    congr 1
    unfold lst
    rw [show l.length - (n + 1) = 0 by omega, show l.length - n = 0 by omega]
theorem since_lst : ∀ (k : Nat) (l : List Bool) (n : Nat), l.length = k → n ≤ 1000 → ((lst l n).contains true = decide (since l < n))
  | 0, l, n, hl, hn => by
    have : l = [] := List.length_eq_zero_iff.1 hl
    subst this
    have : ¬ since [] < (n : Int) := by simp [since, sn]; omega
    rw [decide_eq_false this]; simp [lst]
  | k + 1, l, n, hl, hn => by
    obtain ⟨D, b, rfl⟩ : ∃ D b, l = D ++ [b] := by
      rcases List.eq_nil_or_concat l with e | ⟨D, y, e⟩
      · subst e; cases hl
      · exact ⟨D, y, by simpa using e⟩
    have hD := since_b D
    rw [since_snoc]
    cases n with
    | zero =>
      have : ¬ ((if b = true then 0 else since D + 1) < ((0 : Nat) : Int)) := by cases b <;> simp <;> omega
      rw [decide_eq_false this]
      unfold lst; simp
    | succ n =>
      rw [lst_snoc]
      have ih := since_lst k D n (by simpa using hl) (by omega)
      cases b
      · have : (lst D n ++ [false]).contains true = (lst D n).contains true := by simp
        rw [this, ih]
        simp
      · have : (lst D n ++ [true]).contains true = true := by simp
        rw [this]
        symm; simp <;> omega

set_option maxRecDepth 20000 in
set_option maxHeartbeats 4000000 in
theorem class_tri {o : Option SlD} {U : List Bool} {rounds : Int} (hr : 0 ≤ rounds ∧ rounds < 256) : Tri E [.sl true boE o U] ((fun v0 : AV => match t3 rounds o with | .call _ _ k => k v0 | _ => .fail) (.sc (.b true))) (RQ [] RT) := by
  unfold t3
  dsimp only
  repeat (first|refine wa ?_|refine wb ?_|refine wc ?_|refine wd ?_|refine we ?_|refine wf ?_|refine wg ?_|refine wh rfl ?_|refine wi rfl ?_|refine wj rfl ?_|refine wk rfl ?_|refine wl rfl ?_|refine wm (by decide) ?_|(apply Tri.ldE; (first|exact K0|exact K1|exact K2|exact K3|exact K4|exact K5|exact K6|exact K7|exact K8|exact K9|exact K10|exact K11); (exact rfl); (exact wz rfl))|(apply Tri.stE; (first|exact K0|exact K1|exact K2|exact K3|exact K4|exact K5|exact K6|exact K7|exact K8|exact K9|exact K10|exact K11); (exact rfl); (exact wz rfl))|(apply Tri.same; (first|exact K0|exact K1|exact K2|exact K3|exact K4|exact K5|exact K6|exact K7|exact K8|exact K9|exact K10|exact K11); (exact rfl); (exact wz rfl))|refine wq fun _ => ?_)
  refine Tri.cndF rfl ?_
  refine Tri.brT rfl ?_
  obtain ⟨n, hn⟩ : ∃ n : Nat, (1 : Int) + rounds % 8 = n := ⟨(1 + rounds % 8).toNat, by omega⟩
  rw [Int.tmod_eq_emod_of_nonneg hr.1, wr_i64 (n := rounds % 8) (by omega) (by omega), wr_i64 (n := 1 + rounds % 8) (by omega) (by omega), hn]
  refine Tri.call (new_ok (r := (n : Int)) (h := 10) (by omega) (by omega) (by decide) (by decide)) (by repeat (first|exact Picks.nil|(apply Picks.cons; (first|exact K0|exact K1|exact K2|exact K3|exact K4|exact K5|exact K6|exact K7|exact K8|exact K9|exact K10|exact K11)))) ?_
  rintro v L' ⟨p, rfl, rfl⟩
  simp only [List.cons_append, List.nil_append]
  repeat (first|refine wa ?_|refine wb ?_|refine wc ?_|refine wd ?_|refine we ?_|refine wf ?_|refine wg ?_|refine wh rfl ?_|refine wi rfl ?_|refine wj rfl ?_|refine wk rfl ?_|refine wl rfl ?_|refine wm (by decide) ?_|(apply Tri.ldE; (first|exact K0|exact K1|exact K2|exact K3|exact K4|exact K5|exact K6|exact K7|exact K8|exact K9|exact K10|exact K11); (exact rfl); (exact wz rfl))|(apply Tri.stE; (first|exact K0|exact K1|exact K2|exact K3|exact K4|exact K5|exact K6|exact K7|exact K8|exact K9|exact K10|exact K11); (exact rfl); (exact wz rfl))|(apply Tri.same; (first|exact K0|exact K1|exact K2|exact K3|exact K4|exact K5|exact K6|exact K7|exact K8|exact K9|exact K10|exact K11); (exact rfl); (exact wz rfl))|refine wq fun _ => ?_)
  refine Tri.cndF rfl ?_
  refine Tri.cndF rfl ?_
  refine Tri.loop (I := fun m l' L => ∃ (i : Nat) (s : Rs), m = U.length - i ∧ i ≤ U.length ∧ i ≤ 40 ∧ s.V.length = 33 ∧ s.rounds = n ∧ s.on = false ∧ s.past = lst (U.take i) n ∧
    l' = [.sc (.sl o), .sc (.b true), .sc (.i .i64 n), .sc (.p (some (p, 0))), .sc (.i .i64 (since (U.take i))), .sc (.i .i64 i)] ∧ L = [Re p s, .sl true boE o U])
    ⟨0, rs0 n 10, rfl, by omega, by omega, rfl, rfl, rfl, by simp [lst, rs0], rfl, rfl⟩ (by repeat (first|exact Sub.refl _|exact Sub.nil _|(apply Sub.cons; (first|exact K0|exact K1|exact K2|exact K3|exact K4|exact K5|exact K6|exact K7|exact K8|exact K9|exact K10|exact K11))|apply Sub.skip)) ?_
  rintro m l' L ⟨i, s, rfl, hi, hi40, hV, hsr, hson, hpast, rfl, rfl⟩
  unfold t3_b8
  repeat (first|refine wa ?_|refine wb ?_|refine wc ?_|refine wd ?_|refine we ?_|refine wf ?_|refine wg ?_|refine wh rfl ?_|refine wi rfl ?_|refine wj rfl ?_|refine wk rfl ?_|refine wl rfl ?_|refine wm (by decide) ?_|(apply Tri.ldE; (first|exact K0|exact K1|exact K2|exact K3|exact K4|exact K5|exact K6|exact K7|exact K8|exact K9|exact K10|exact K11); (exact rfl); (exact wz rfl))|(apply Tri.stE; (first|exact K0|exact K1|exact K2|exact K3|exact K4|exact K5|exact K6|exact K7|exact K8|exact K9|exact K10|exact K11); (exact rfl); (exact wz rfl))|(apply Tri.same; (first|exact K0|exact K1|exact K2|exact K3|exact K4|exact K5|exact K6|exact K7|exact K8|exact K9|exact K10|exact K11); (exact rfl); (exact wz rfl))|refine wq fun _ => ?_)
  refine Tri.slLen (l := U) (o := o) (ro := true) (T := boE) (by first|exact K0|exact K1|exact K2|exact K3|exact K4|exact K5|exact K6|exact K7|exact K8|exact K9|exact K10|exact K11) fun e1 e2 => ?_
  rw [e2]
  refine Tri.cnd (fun hc => ?_) (fun hc => ?_)
  · have hc : i < U.length := by simp at hc; omega
    refine Tri.cnd (fun h40 => ?_) (fun h40 => ?_)
    · have h40 : i < 40 := by simp at h40; omega
      rw [wr_u32 (n := (i : Int)) (by omega) (by omega), wr_u32 (n := (i : Int) + 1) (by omega) (by omega)]
      refine Tri.call (round_spec (s := s) (q := (i : Int)) (now := 0) hV) (by repeat (first|exact Picks.nil|(apply Picks.cons; (first|exact K0|exact K1|exact K2|exact K3|exact K4|exact K5|exact K6|exact K7|exact K8|exact K9|exact K10|exact K11)))) ?_
      have r1 : roundR s i 0 = (0, { s with on := true, seq := i, got := false }) := by unfold roundR; rw [if_neg (by decide), if_neg (by simp [hson])]
      rw [r1]
      rintro v L' ⟨rfl, rfl⟩
      simp only [List.cons_append, List.nil_append]
      repeat (first|refine wa ?_|refine wb ?_|refine wc ?_|refine wd ?_|refine we ?_|refine wf ?_|refine wg ?_|refine wh rfl ?_|refine wi rfl ?_|refine wj rfl ?_|refine wk rfl ?_|refine wl rfl ?_|refine wm (by decide) ?_|(apply Tri.ldE; (first|exact K0|exact K1|exact K2|exact K3|exact K4|exact K5|exact K6|exact K7|exact K8|exact K9|exact K10|exact K11); (exact rfl); (exact wz rfl))|(apply Tri.stE; (first|exact K0|exact K1|exact K2|exact K3|exact K4|exact K5|exact K6|exact K7|exact K8|exact K9|exact K10|exact K11); (exact rfl); (exact wz rfl))|(apply Tri.same; (first|exact K0|exact K1|exact K2|exact K3|exact K4|exact K5|exact K6|exact K7|exact K8|exact K9|exact K10|exact K11); (exact rfl); (exact wz rfl))|refine wq fun _ => ?_)
      refine Tri.cndF rfl ?_
      refine Tri.call (heard_spec (s := { s with on := true, seq := i, got := false }) (q := (i : Int) + 1) hV) (by repeat (first|exact Picks.nil|(apply Picks.cons; (first|exact K0|exact K1|exact K2|exact K3|exact K4|exact K5|exact K6|exact K7|exact K8|exact K9|exact K10|exact K11)))) ?_
      have r2 : heardR { s with on := true, seq := i, got := false } ((i : Int) + 1) = (false, { s with on := true, seq := i, got := false }) := by
        unfold heardR
        have : ((i : Int) == (i : Int) + 1) = false := by rw [beq_eq_false_iff_ne]; omega
        simp [this]
      rw [r2]
      rintro v L' ⟨rfl, rfl⟩
      simp only [List.cons_append, List.nil_append]
      repeat (first|refine wa ?_|refine wb ?_|refine wc ?_|refine wd ?_|refine we ?_|refine wf ?_|refine wg ?_|refine wh rfl ?_|refine wi rfl ?_|refine wj rfl ?_|refine wk rfl ?_|refine wl rfl ?_|refine wm (by decide) ?_|(apply Tri.ldE; (first|exact K0|exact K1|exact K2|exact K3|exact K4|exact K5|exact K6|exact K7|exact K8|exact K9|exact K10|exact K11); (exact rfl); (exact wz rfl))|(apply Tri.stE; (first|exact K0|exact K1|exact K2|exact K3|exact K4|exact K5|exact K6|exact K7|exact K8|exact K9|exact K10|exact K11); (exact rfl); (exact wz rfl))|(apply Tri.same; (first|exact K0|exact K1|exact K2|exact K3|exact K4|exact K5|exact K6|exact K7|exact K8|exact K9|exact K10|exact K11); (exact rfl); (exact wz rfl))|refine wq fun _ => ?_)
      refine Tri.cndF rfl ?_
      obtain ⟨b, hb⟩ : ∃ b, U[i]? = some b := ⟨_, List.getElem?_eq_getElem hc⟩
      refine Tri.ixld (T := boE) (o := o) (by first|exact K0|exact K1|exact K2|exact K3|exact K4|exact K5|exact K6|exact K7|exact K8|exact K9|exact K10|exact K11) rfl (by omega) (by omega) fun b' hb' => ?_
      rw [Int.toNat_natCast, hb] at hb'; cases hb'
      repeat (first|refine wa ?_|refine wb ?_|refine wc ?_|refine wd ?_|refine we ?_|refine wf ?_|refine wg ?_|refine wh rfl ?_|refine wi rfl ?_|refine wj rfl ?_|refine wk rfl ?_|refine wl rfl ?_|refine wm (by decide) ?_|(apply Tri.ldE; (first|exact K0|exact K1|exact K2|exact K3|exact K4|exact K5|exact K6|exact K7|exact K8|exact K9|exact K10|exact K11); (exact rfl); (exact wz rfl))|(apply Tri.stE; (first|exact K0|exact K1|exact K2|exact K3|exact K4|exact K5|exact K6|exact K7|exact K8|exact K9|exact K10|exact K11); (exact rfl); (exact wz rfl))|(apply Tri.same; (first|exact K0|exact K1|exact K2|exact K3|exact K4|exact K5|exact K6|exact K7|exact K8|exact K9|exact K10|exact K11); (exact rfl); (exact wz rfl))|refine wq fun _ => ?_)
      have htk : U.take (i + 1) = U.take i ++ [b] := by rw [List.take_add_one, hb]; rfl
      have hs2 := since_snoc (U.take i) b
      have hsb := since_b (U.take i)
      have hsl : (U.take i).length = i := by rw [List.length_take]; omega
      refine Tri.joinQ (fun tag l' L => tag = 0 ∧ l' = [.sc (.sl o), .sc (.b true), .sc (.i .i64 n), .sc (.p (some (p, 0))), .sc (.i .i64 (since (U.take (i + 1)))), .sc (.i .i64 i)] ∧ L = [Re p { s with on := true, seq := i, got := b }, .sl true boE o U]) ?_ ?_
      · refine Tri.cnd (fun h1 => ?_) (fun h1 => ?_)
        · subst h1
          refine Tri.call (heard_spec (s := { s with on := true, seq := i, got := false }) (q := (i : Int)) hV) (by repeat (first|exact Picks.nil|(apply Picks.cons; (first|exact K0|exact K1|exact K2|exact K3|exact K4|exact K5|exact K6|exact K7|exact K8|exact K9|exact K10|exact K11)))) ?_
          have r3 : heardR { s with on := true, seq := i, got := false } (i : Int) = (true, { s with on := true, seq := i, got := true }) := by simp [heardR]
          rw [r3]
          rintro v L' ⟨rfl, rfl⟩
          simp only [List.cons_append, List.nil_append]
          repeat (first|refine wa ?_|refine wb ?_|refine wc ?_|refine wd ?_|refine we ?_|refine wf ?_|refine wg ?_|refine wh rfl ?_|refine wi rfl ?_|refine wj rfl ?_|refine wk rfl ?_|refine wl rfl ?_|refine wm (by decide) ?_|(apply Tri.ldE; (first|exact K0|exact K1|exact K2|exact K3|exact K4|exact K5|exact K6|exact K7|exact K8|exact K9|exact K10|exact K11); (exact rfl); (exact wz rfl))|(apply Tri.stE; (first|exact K0|exact K1|exact K2|exact K3|exact K4|exact K5|exact K6|exact K7|exact K8|exact K9|exact K10|exact K11); (exact rfl); (exact wz rfl))|(apply Tri.same; (first|exact K0|exact K1|exact K2|exact K3|exact K4|exact K5|exact K6|exact K7|exact K8|exact K9|exact K10|exact K11); (exact rfl); (exact wz rfl))|refine wq fun _ => ?_)
          refine Tri.cndF rfl ?_
          refine Tri.ret ⟨rfl, ?_, rfl⟩ (by repeat (first|exact Sub.refl _|exact Sub.nil _|(apply Sub.cons; (first|exact K0|exact K1|exact K2|exact K3|exact K4|exact K5|exact K6|exact K7|exact K8|exact K9|exact K10|exact K11))|apply Sub.skip))
          rw [htk, hs2]; rfl
        · subst h1
          refine Tri.ret ⟨rfl, ?_, rfl⟩ (by repeat (first|exact Sub.refl _|exact Sub.nil _|(apply Sub.cons; (first|exact K0|exact K1|exact K2|exact K3|exact K4|exact K5|exact K6|exact K7|exact K8|exact K9|exact K10|exact K11))|apply Sub.skip))
          rw [htk, hs2, wr_i64 (by omega) (by omega)]; rfl
      rintro tag l' L ⟨rfl, rfl, rfl⟩
      unfold t3_k26
      repeat (first|refine wa ?_|refine wb ?_|refine wc ?_|refine wd ?_|refine we ?_|refine wf ?_|refine wg ?_|refine wh rfl ?_|refine wi rfl ?_|refine wj rfl ?_|refine wk rfl ?_|refine wl rfl ?_|refine wm (by decide) ?_|(apply Tri.ldE; (first|exact K0|exact K1|exact K2|exact K3|exact K4|exact K5|exact K6|exact K7|exact K8|exact K9|exact K10|exact K11); (exact rfl); (exact wz rfl))|(apply Tri.stE; (first|exact K0|exact K1|exact K2|exact K3|exact K4|exact K5|exact K6|exact K7|exact K8|exact K9|exact K10|exact K11); (exact rfl); (exact wz rfl))|(apply Tri.same; (first|exact K0|exact K1|exact K2|exact K3|exact K4|exact K5|exact K6|exact K7|exact K8|exact K9|exact K10|exact K11); (exact rfl); (exact wz rfl))|refine wq fun _ => ?_)
      have hpl := lst_len (U.take i) n
      refine Tri.call (end_spec (s := { s with on := true, seq := i, got := b }) hV (by show s.past.length ≤ 100; rw [hpast, hpl]; omega) (by show 0 ≤ s.rounds ∧ s.rounds ≤ 8; omega)) (by repeat (first|exact Picks.nil|(apply Picks.cons; (first|exact K0|exact K1|exact K2|exact K3|exact K4|exact K5|exact K6|exact K7|exact K8|exact K9|exact K10|exact K11)))) ?_
      have r4 : endR { s with on := true, seq := i, got := b } = (true, { s with on := false, seq := i, got := b, past := lst (U.take (i + 1)) n }) := by
        have : lastN (s.past ++ [b]) s.rounds = lst (U.take (i + 1)) n := by rw [hpast, hsr, lst_lastN _ _ (by omega), ← htk]
        simp [endR, this]
      rw [r4]
      rintro v L' ⟨rfl, rfl⟩
      simp only [List.cons_append, List.nil_append]
      repeat (first|refine wa ?_|refine wb ?_|refine wc ?_|refine wd ?_|refine we ?_|refine wf ?_|refine wg ?_|refine wh rfl ?_|refine wi rfl ?_|refine wj rfl ?_|refine wk rfl ?_|refine wl rfl ?_|refine wm (by decide) ?_|(apply Tri.ldE; (first|exact K0|exact K1|exact K2|exact K3|exact K4|exact K5|exact K6|exact K7|exact K8|exact K9|exact K10|exact K11); (exact rfl); (exact wz rfl))|(apply Tri.stE; (first|exact K0|exact K1|exact K2|exact K3|exact K4|exact K5|exact K6|exact K7|exact K8|exact K9|exact K10|exact K11); (exact rfl); (exact wz rfl))|(apply Tri.same; (first|exact K0|exact K1|exact K2|exact K3|exact K4|exact K5|exact K6|exact K7|exact K8|exact K9|exact K10|exact K11); (exact rfl); (exact wz rfl))|refine wq fun _ => ?_)
      refine Tri.cndF rfl ?_
      rw [wr_u32 (n := (i : Int)) (by omega) (by omega)]
      refine Tri.call (heard_spec (s := { s with on := false, seq := i, got := b, past := lst (U.take (i + 1)) n }) (q := (i : Int)) hV) (by repeat (first|exact Picks.nil|(apply Picks.cons; (first|exact K0|exact K1|exact K2|exact K3|exact K4|exact K5|exact K6|exact K7|exact K8|exact K9|exact K10|exact K11)))) ?_
      have r5 : heardR { s with on := false, seq := i, got := b, past := lst (U.take (i + 1)) n } (i : Int) = (false, { s with on := false, seq := i, got := b, past := lst (U.take (i + 1)) n }) := by simp [heardR]
      rw [r5]
      rintro v L' ⟨rfl, rfl⟩
      simp only [List.cons_append, List.nil_append]
      repeat (first|refine wa ?_|refine wb ?_|refine wc ?_|refine wd ?_|refine we ?_|refine wf ?_|refine wg ?_|refine wh rfl ?_|refine wi rfl ?_|refine wj rfl ?_|refine wk rfl ?_|refine wl rfl ?_|refine wm (by decide) ?_|(apply Tri.ldE; (first|exact K0|exact K1|exact K2|exact K3|exact K4|exact K5|exact K6|exact K7|exact K8|exact K9|exact K10|exact K11); (exact rfl); (exact wz rfl))|(apply Tri.stE; (first|exact K0|exact K1|exact K2|exact K3|exact K4|exact K5|exact K6|exact K7|exact K8|exact K9|exact K10|exact K11); (exact rfl); (exact wz rfl))|(apply Tri.same; (first|exact K0|exact K1|exact K2|exact K3|exact K4|exact K5|exact K6|exact K7|exact K8|exact K9|exact K10|exact K11); (exact rfl); (exact wz rfl))|refine wq fun _ => ?_)
      refine Tri.cndF rfl ?_
      rw [wr_i64 (n := (i : Int) + 1) (by omega) (by omega)]
      have hl1 : (U.take (i + 1)).length = i + 1 := by rw [List.length_take]; omega
      have hpl1 := lst_len (U.take (i + 1)) n
      have hcon := since_lst _ (U.take (i + 1)) n rfl (by omega)
      refine Tri.cnd (fun g1 => ?_) (fun g1 => ?_)
      · have g1 : i + 1 < n := by simp at g1; omega
        refine Tri.call (class_spec (s := { s with on := false, seq := i, got := b, past := lst (U.take (i + 1)) n }) hV (by show (lst (U.take (i + 1)) n).length ≤ 100; omega)) (by repeat (first|exact Picks.nil|(apply Picks.cons; (first|exact K0|exact K1|exact K2|exact K3|exact K4|exact K5|exact K6|exact K7|exact K8|exact K9|exact K10|exact K11)))) ?_
        have c1 : classR { s with on := false, seq := i, got := b, past := lst (U.take (i + 1)) n } = 0 := by
          simp only [classR, hsr]; rw [if_pos (by omega)]
        rw [c1]
        rintro v L' ⟨rfl, rfl⟩
        simp only [List.cons_append, List.nil_append]
        repeat (first|refine wa ?_|refine wb ?_|refine wc ?_|refine wd ?_|refine we ?_|refine wf ?_|refine wg ?_|refine wh rfl ?_|refine wi rfl ?_|refine wj rfl ?_|refine wk rfl ?_|refine wl rfl ?_|refine wm (by decide) ?_|(apply Tri.ldE; (first|exact K0|exact K1|exact K2|exact K3|exact K4|exact K5|exact K6|exact K7|exact K8|exact K9|exact K10|exact K11); (exact rfl); (exact wz rfl))|(apply Tri.stE; (first|exact K0|exact K1|exact K2|exact K3|exact K4|exact K5|exact K6|exact K7|exact K8|exact K9|exact K10|exact K11); (exact rfl); (exact wz rfl))|(apply Tri.same; (first|exact K0|exact K1|exact K2|exact K3|exact K4|exact K5|exact K6|exact K7|exact K8|exact K9|exact K10|exact K11); (exact rfl); (exact wz rfl))|refine wq fun _ => ?_)
        refine Tri.cndF rfl ?_
        exact Tri.back (m' := U.length - (i + 1)) (by omega) ⟨i + 1, { s with on := false, seq := i, got := b, past := lst (U.take (i + 1)) n }, rfl, by omega, by omega, hV, hsr, rfl, rfl, rfl, rfl⟩ (by repeat (first|exact Sub.refl _|exact Sub.nil _|(apply Sub.cons; (first|exact K0|exact K1|exact K2|exact K3|exact K4|exact K5|exact K6|exact K7|exact K8|exact K9|exact K10|exact K11))|apply Sub.skip))
      · have g1 : n ≤ i + 1 := by simp at g1; omega
        refine Tri.cnd (fun g2 => ?_) (fun g2 => ?_)
        · have g2 : since (U.take (i + 1)) < n := by simpa using g2
          refine Tri.call (class_spec (s := { s with on := false, seq := i, got := b, past := lst (U.take (i + 1)) n }) hV (by show (lst (U.take (i + 1)) n).length ≤ 100; omega)) (by repeat (first|exact Picks.nil|(apply Picks.cons; (first|exact K0|exact K1|exact K2|exact K3|exact K4|exact K5|exact K6|exact K7|exact K8|exact K9|exact K10|exact K11)))) ?_
          have c1 : classR { s with on := false, seq := i, got := b, past := lst (U.take (i + 1)) n } = 1 := by
            simp only [classR, hsr, hcon]; rw [if_neg (by omega), if_pos (by simpa using g2)]
          rw [c1]
          rintro v L' ⟨rfl, rfl⟩
          simp only [List.cons_append, List.nil_append]
          repeat (first|refine wa ?_|refine wb ?_|refine wc ?_|refine wd ?_|refine we ?_|refine wf ?_|refine wg ?_|refine wh rfl ?_|refine wi rfl ?_|refine wj rfl ?_|refine wk rfl ?_|refine wl rfl ?_|refine wm (by decide) ?_|(apply Tri.ldE; (first|exact K0|exact K1|exact K2|exact K3|exact K4|exact K5|exact K6|exact K7|exact K8|exact K9|exact K10|exact K11); (exact rfl); (exact wz rfl))|(apply Tri.stE; (first|exact K0|exact K1|exact K2|exact K3|exact K4|exact K5|exact K6|exact K7|exact K8|exact K9|exact K10|exact K11); (exact rfl); (exact wz rfl))|(apply Tri.same; (first|exact K0|exact K1|exact K2|exact K3|exact K4|exact K5|exact K6|exact K7|exact K8|exact K9|exact K10|exact K11); (exact rfl); (exact wz rfl))|refine wq fun _ => ?_)
          refine Tri.cndF rfl ?_
          exact Tri.back (m' := U.length - (i + 1)) (by omega) ⟨i + 1, { s with on := false, seq := i, got := b, past := lst (U.take (i + 1)) n }, rfl, by omega, by omega, hV, hsr, rfl, rfl, rfl, rfl⟩ (by repeat (first|exact Sub.refl _|exact Sub.nil _|(apply Sub.cons; (first|exact K0|exact K1|exact K2|exact K3|exact K4|exact K5|exact K6|exact K7|exact K8|exact K9|exact K10|exact K11))|apply Sub.skip))
        · have g2 : ¬ since (U.take (i + 1)) < n := by simpa using g2
          refine Tri.call (class_spec (s := { s with on := false, seq := i, got := b, past := lst (U.take (i + 1)) n }) hV (by show (lst (U.take (i + 1)) n).length ≤ 100; omega)) (by repeat (first|exact Picks.nil|(apply Picks.cons; (first|exact K0|exact K1|exact K2|exact K3|exact K4|exact K5|exact K6|exact K7|exact K8|exact K9|exact K10|exact K11)))) ?_
          have c1 : classR { s with on := false, seq := i, got := b, past := lst (U.take (i + 1)) n } = 2 := by
            simp only [classR, hsr, hcon]; rw [if_neg (by omega), if_neg (by simpa using g2)]
          rw [c1]
          rintro v L' ⟨rfl, rfl⟩
          simp only [List.cons_append, List.nil_append]
          repeat (first|refine wa ?_|refine wb ?_|refine wc ?_|refine wd ?_|refine we ?_|refine wf ?_|refine wg ?_|refine wh rfl ?_|refine wi rfl ?_|refine wj rfl ?_|refine wk rfl ?_|refine wl rfl ?_|refine wm (by decide) ?_|(apply Tri.ldE; (first|exact K0|exact K1|exact K2|exact K3|exact K4|exact K5|exact K6|exact K7|exact K8|exact K9|exact K10|exact K11); (exact rfl); (exact wz rfl))|(apply Tri.stE; (first|exact K0|exact K1|exact K2|exact K3|exact K4|exact K5|exact K6|exact K7|exact K8|exact K9|exact K10|exact K11); (exact rfl); (exact wz rfl))|(apply Tri.same; (first|exact K0|exact K1|exact K2|exact K3|exact K4|exact K5|exact K6|exact K7|exact K8|exact K9|exact K10|exact K11); (exact rfl); (exact wz rfl))|refine wq fun _ => ?_)
          refine Tri.cndF rfl ?_
          exact Tri.back (m' := U.length - (i + 1)) (by omega) ⟨i + 1, { s with on := false, seq := i, got := b, past := lst (U.take (i + 1)) n }, rfl, by omega, by omega, hV, hsr, rfl, rfl, rfl, rfl⟩ (by repeat (first|exact Sub.refl _|exact Sub.nil _|(apply Sub.cons; (first|exact K0|exact K1|exact K2|exact K3|exact K4|exact K5|exact K6|exact K7|exact K8|exact K9|exact K10|exact K11))|apply Sub.skip))
    · refine Tri.exit (by decide) ?_
      unfold t3_k8
      repeat (first|refine wa ?_|refine wb ?_|refine wc ?_|refine wd ?_|refine we ?_|refine wf ?_|refine wg ?_|refine wh rfl ?_|refine wi rfl ?_|refine wj rfl ?_|refine wk rfl ?_|refine wl rfl ?_|refine wm (by decide) ?_|(apply Tri.ldE; (first|exact K0|exact K1|exact K2|exact K3|exact K4|exact K5|exact K6|exact K7|exact K8|exact K9|exact K10|exact K11); (exact rfl); (exact wz rfl))|(apply Tri.stE; (first|exact K0|exact K1|exact K2|exact K3|exact K4|exact K5|exact K6|exact K7|exact K8|exact K9|exact K10|exact K11); (exact rfl); (exact wz rfl))|(apply Tri.same; (first|exact K0|exact K1|exact K2|exact K3|exact K4|exact K5|exact K6|exact K7|exact K8|exact K9|exact K10|exact K11); (exact rfl); (exact wz rfl))|refine wq fun _ => ?_)
      exact Tri.retF (L1 := []) rfl (Sub.nil _)
  · refine Tri.exit (by decide) ?_
    unfold t3_k8
    repeat (first|refine wa ?_|refine wb ?_|refine wc ?_|refine wd ?_|refine we ?_|refine wf ?_|refine wg ?_|refine wh rfl ?_|refine wi rfl ?_|refine wj rfl ?_|refine wk rfl ?_|refine wl rfl ?_|refine wm (by decide) ?_|(apply Tri.ldE; (first|exact K0|exact K1|exact K2|exact K3|exact K4|exact K5|exact K6|exact K7|exact K8|exact K9|exact K10|exact K11); (exact rfl); (exact wz rfl))|(apply Tri.stE; (first|exact K0|exact K1|exact K2|exact K3|exact K4|exact K5|exact K6|exact K7|exact K8|exact K9|exact K10|exact K11); (exact rfl); (exact wz rfl))|(apply Tri.same; (first|exact K0|exact K1|exact K2|exact K3|exact K4|exact K5|exact K6|exact K7|exact K8|exact K9|exact K10|exact K11); (exact rfl); (exact wz rfl))|refine wq fun _ => ?_)
    exact Tri.retF (L1 := []) rfl (Sub.nil _)
theorem boE_ok (x : List Sc) (h : All2 ScK [.b] x) : ∃ a, x = boE.e a := by
  obtain ⟨_, _, rfl, ⟨a, rfl⟩, rfl⟩ := h
  exact ⟨a, rfl⟩
theorem class_run (o : Option SlD) (l : List Bool) (c : List Sc) (hst : ∀ H' : AH, H'.obj 0 = some (.cells true c) → 0 < H'.next → Star H' [.sl true boE o l]) (k : Int) (hk : 0 ≤ k ∧ k < 256) :
    ∃ n H1, callA Try.prog T hs n 3 [.sc (.i .u8 k), .sc (.sl o)] (HA c) = some (.sc (.b true), H1) := by
  refine law_fin (E := E) (Try.func3 : Try.prog.funcs[3]? = some Try.f3) (t3_eq k o) ?_
  refine CallWp.mono (exW1 _) ?_
  rintro v H' ⟨rfl, h0, hn⟩
  exact Tri.fin (class_tri hk) (hst H' h0 hn)
end Go.Proofs.Ytbgmnnfajohmaaa
