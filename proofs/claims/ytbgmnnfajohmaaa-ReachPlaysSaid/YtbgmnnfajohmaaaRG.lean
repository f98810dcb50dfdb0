/- The two answers are one. -/
import Derived.Test.YtbgmnnfajohmaaaRE
namespace Go.Proofs.Ytbgmnnfajohmaaa
open Go Go.Proofs.Ytbgmnnfajohmaaa.Fw
set_option linter.unusedVariables false
set_option linter.unusedSimpArgs false

def Wf (V : List Vt) : Prop := ∀ (k : Nat) (x : Vt), V[k + 1]? = some x → x.who = 0 ∨ x.who = (k : Int) + 1
structure Inv (s : Rs) : Prop where
  V : s.V.length = 33
  r : 1 ≤ s.rounds ∧ s.rounds ≤ 8
  p : s.past.length ≤ 8
  w : Wf s.V
structure Same (s : Rs) (r : Rx) : Prop where
  rounds : r.rounds = s.rounds
  hold : r.hold = s.hold
  X : r.X = votesL s
  past : r.past = s.past
  on : r.on = s.on
  cur : s.on = true → r.seq = s.seq ∧ r.got = s.got
theorem votes_rs0' (r h : Int) : votesL (rs0 r h) = [] := by
  unfold votesL rs0
  refine List.filter_eq_nil_iff.2 fun x hx => ?_
  rw [List.eq_of_mem_replicate (List.mem_of_mem_drop hx)]; decide
theorem inv0 {r h : Int} (hr : 1 ≤ r ∧ r ≤ 8) : Inv (rs0 r h) := ⟨rfl, hr, by simp [rs0], fun k x hx => by
  have := List.mem_of_getElem? hx
  exact .inl (by rw [List.eq_of_mem_replicate this])⟩
theorem same0 (r h : Int) : Same (rs0 r h) (rx0 r h) := ⟨rfl, rfl, (votes_rs0' r h).symm, rfl, rfl, fun h => by cases h⟩
theorem round_same {s : Rs} {r : Rx} (h : Same s r) (hi : Inv s) (q now : Int) : (roundX r q now).1 = (roundR s q now).1 ∧ Same (roundR s q now).2 (roundX r q now).2 ∧ Inv (roundR s q now).2 := by
  unfold roundX roundR
  rw [h.on]
  split
  · exact ⟨rfl, h, hi⟩
  · split
    · exact ⟨rfl, h, hi⟩
    · exact ⟨rfl, ⟨h.rounds, h.hold, h.X, h.past, rfl, fun _ => ⟨rfl, rfl⟩⟩, ⟨hi.V, hi.r, hi.p, hi.w⟩⟩
theorem heard_same {s : Rs} {r : Rx} (h : Same s r) (hi : Inv s) (q : Int) : (heardX r q).1 = (heardR s q).1 ∧ Same (heardR s q).2 (heardX r q).2 ∧ Inv (heardR s q).2 := by
  unfold heardX heardR
  refine ⟨?_, ?_, ⟨hi.V, hi.r, hi.p, hi.w⟩⟩
  · rw [h.on]
    by_cases h1 : s.on = true
    · rw [(h.cur h1).1]
      by_cases h2 : s.seq = q <;> simp [h1, h2]
    · simp [h1]
  · rw [h.on]
    by_cases h1 : s.on = true
    · rw [(h.cur h1).1]
      by_cases h2 : s.seq = q
      · rw [if_pos ⟨h1, h2⟩]
        exact ⟨h.rounds, h.hold, h.X, h.past, rfl, fun _ => ⟨(h.cur h1).1 ▸ rfl, by simp [h1, h2]⟩⟩
      · rw [if_neg (by simp [h2])]
        exact ⟨h.rounds, h.hold, h.X, h.past, h.on, fun _ => ⟨(h.cur h1).1, by simp [h2, (h.cur h1).2]⟩⟩
    · rw [if_neg (by simp [h1])]
      exact ⟨h.rounds, h.hold, h.X, h.past, h.on, fun h2 => absurd h2 h1⟩
theorem lastN_len (l : List Bool) {n : Int} (h0 : 0 ≤ n) (h : n ≤ 8) : (lastN l n).length ≤ 8 := by
  simp only [lastN, List.length_drop]; omega
theorem end_same {s : Rs} {r : Rx} (h : Same s r) (hi : Inv s) : (endX r).1 = (endR s).1 ∧ Same (endR s).2 (endX r).2 ∧ Inv (endR s).2 := by
  unfold endX endR
  rw [h.on]
  split
  · rename_i h1
    refine ⟨rfl, ⟨h.rounds, h.hold, h.X, ?_, rfl, fun h => by cases h⟩, ⟨hi.V, hi.r, lastN_len _ (by have := hi.r; omega) hi.r.2, hi.w⟩⟩
    show lastN (r.past ++ [r.got]) r.rounds = lastN (s.past ++ [s.got]) s.rounds
    rw [h.past, h.rounds, (h.cur h1).2]
  · exact ⟨rfl, h, hi⟩
theorem class_same {s : Rs} {r : Rx} (h : Same s r) : classX r = classR s := by
  unfold classX classR; rw [h.past, h.rounds]
theorem reset_same {s : Rs} {r : Rx} (h : Same s r) (hi : Inv s) : Same (rs0 s.rounds s.hold) { r with X := [], past := [], on := false } ∧ Inv (rs0 s.rounds s.hold) :=
  ⟨⟨h.rounds, h.hold, (votes_rs0' _ _).symm, rfl, rfl, fun h => by cases h⟩, inv0 hi.r⟩
theorem see_votes {V : List Vt} {v : Vt} {j : Nat} (hV : V.length = 33) (hw : Wf V) (hj : j < 32) (hv : v.who = (j : Int) + 1) :
    ((V.set (j + 1) v).drop 1).filter (fun t => !(t.who == 0)) = insX ((V.drop 1).filter fun t => !(t.who == 0)) v := by
  have hW : (V.drop 1).length = 32 := by simp; omega
  have e0 : (V.set (j + 1) v).drop 1 = (V.drop 1).set j v := by rw [List.drop_set, if_neg (by omega)]; rfl
  have hWf : ∀ (i : Nat) (x : Vt), (V.drop 1)[i]? = some x → x.who = 0 ∨ x.who = (i : Int) + 1 := fun i x hx => hw i x (by rw [List.getElem?_drop, Nat.add_comm] at hx; exact hx)
  rw [e0]
  generalize V.drop 1 = W at *
  have e1 : W = W.take j ++ W[j] :: W.drop (j + 1) := by rw [← List.drop_eq_getElem_cons (by omega), List.take_append_drop]
  rw [List.set_eq_take_append_cons_drop, if_pos (by omega)]
  have hy := hWf j W[j] (List.getElem?_eq_getElem (by omega))
  have hA : ∀ x ∈ (W.take j).filter (fun t => !(t.who == 0)), befW v.who x = true := by
    intro x hx
    obtain ⟨h1, h2⟩ := List.mem_filter.1 hx
    obtain ⟨i, hi, rfl⟩ := List.getElem_of_mem h1
    simp only [List.length_take] at hi
    have := hWf i W[i] (List.getElem?_eq_getElem (by omega))
    simp only [List.getElem_take] at h2 ⊢
    simp at h2
    simp only [befW, decide_eq_true_eq]; omega
  have hB : ∀ x ∈ (W.drop (j + 1)).filter (fun t => !(t.who == 0)), v.who < x.who := by
    intro x hx
    obtain ⟨h1, h2⟩ := List.mem_filter.1 hx
    obtain ⟨i, hi, rfl⟩ := List.getElem_of_mem h1
    simp only [List.length_drop] at hi
    have := hWf (j + 1 + i) W[j + 1 + i] (List.getElem?_eq_getElem (by omega))
    simp only [List.getElem_drop] at h2 ⊢
    simp at h2
    omega
  have hvp : (!(v.who == 0)) = true := by simp; omega
  have e2 : W.filter (fun t => !(t.who == 0)) = (W.take j).filter (fun t => !(t.who == 0)) ++ (W[j] :: W.drop (j + 1)).filter (fun t => !(t.who == 0)) := by
    rw [← List.filter_append, ← e1]
  rw [List.filter_append, List.filter_cons, if_pos hvp, e2]
  generalize (W.take j).filter (fun t => !(t.who == 0)) = A at *
  rw [List.filter_cons]
  generalize (W.drop (j + 1)).filter (fun t => !(t.who == 0)) = B at *
  generalize W[j] = y at *
  unfold insX
  by_cases h0 : y.who = 0
  · rw [if_neg (by simp [h0])]
    obtain ⟨w1, w2⟩ := tw_mid (p := befW v.who) (D := A) (R := B) hA fun z hz => by
      have := hB z (List.mem_of_mem_head? hz)
      simp only [befW, decide_eq_false_iff_not]; omega
    rw [w1, w2]
    congr 2
    cases B with
    | nil => rfl
    | cons z B =>
      have := hB z (by simp)
      show z :: B = if z.who = v.who then B else z :: B
      rw [if_neg (by omega)]
  · rw [if_pos (by simp [h0])]
    obtain ⟨w1, w2⟩ := tw_mid (p := befW v.who) (D := A) (R := y :: B) hA fun z hz => by
      simp at hz; subst hz
      simp only [befW, decide_eq_false_iff_not]; omega
    rw [w1, w2]
    show A ++ v :: B = A ++ v :: (if y.who = v.who then B else y :: B)
    rw [if_pos (by omega)]
theorem see_same {s : Rs} {r : Rx} (h : Same s r) (hi : Inv s) (who ip port now : Int) : (seeX r who ip port now).1 = (seeR s who ip port now).1 ∧ Same (seeR s who ip port now).2 (seeX r who ip port now).2 ∧ Inv (seeR s who ip port now).2 := by
  unfold seeX seeR
  split
  · rename_i hc
    have hw : who.toNat = (who.toNat - 1) + 1 := by omega
    refine ⟨rfl, ⟨h.rounds, h.hold, ?_, h.past, h.on, h.cur⟩, ⟨by simpa using hi.V, hi.r, hi.p, fun k x hx => ?_⟩⟩
    · show insX r.X ⟨who, ip, port, now⟩ = ((s.V.set who.toNat ⟨who, ip, port, now⟩).drop 1).filter _
      rw [h.X, hw, see_votes hi.V hi.w (by omega) (by simp only; omega)]
      rfl
    · simp only at hx
      by_cases e : who.toNat = k + 1
      · rw [e, List.getElem?_set_self (by have := hi.V; omega)] at hx
        cases hx
        exact .inr (by simp only; omega)
      · rw [List.getElem?_set_ne e] at hx
        exact hi.w k x hx
  · exact ⟨rfl, h, hi⟩
theorem live_same {s : Rs} {r : Rx} (h : Same s r) (now : Int) : r.X.filter (liveX r.hold now) = liveL s now := by
  unfold liveL
  rw [h.X, h.hold]
  congr 1
  funext t
  unfold liveX oldB
  by_cases hc : IntKind.wrap .u64 (t.at_ + s.hold) ≤ now
  · rw [decide_eq_true hc, decide_eq_false (by omega)]; rfl
  · rw [decide_eq_false hc, decide_eq_true (by omega)]; rfl
theorem Best.uniq {l : List Vt} {ip port ip' port' : Int} {ok ok' : Bool} (h : Best l ip port ok) (h' : Best l ip' port' ok') : ip = ip' ∧ port = port' ∧ ok = ok' := by
  have ex : ∀ {ip port : Int}, 0 < cnt ip port l → ∃ x ∈ l, x.ip = ip ∧ x.port = port := fun hp => by
    obtain ⟨x, hx, hx2⟩ := List.countP_pos_iff.1 hp
    exact ⟨x, hx, isA_iff.1 hx2⟩
  rcases h with ⟨h1, h2, h3, h4⟩ | ⟨h1, h2, h3⟩
  · rcases h' with ⟨_, h5, h6, h7⟩ | ⟨_, h5, _⟩
    · exact ⟨by omega, by omega, by rw [h4, h7]⟩
    · subst h1; simp [cnt] at h5
  · rcases h' with ⟨h4, _, _, _⟩ | ⟨h4, h5, h6⟩
    · subst h4; simp [cnt] at h2
    · obtain ⟨x, hx, x1, x2⟩ := ex h2
      obtain ⟨y, hy, y1, y2⟩ := ex h5
      have a := h3 y hy
      have b := h6 x hx
      rw [y1, y2] at a
      rw [x1, x2] at b
      have := a.2 (by omega)
      have := b.2 (by omega)
      exact ⟨by omega, by omega, by rw [h1, h4]⟩
end Go.Proofs.Ytbgmnnfajohmaaa
