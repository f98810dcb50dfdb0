/- Slices: elements got, set, put behind, cut. -/
import Derived.Test.YtpbhfolaoccpkaaGreatFwY
set_option linter.unusedSimpArgs false
set_option linter.unusedVariables false
namespace Go.Proofs.YtpbhfolaoccpkaaGreat.Fw
open Go
section enc
variable {α : Type} (T : Enc α)
theorem Enc.all_cons (x : α) (l : List α) : T.all (x :: l) = T.e x ++ T.all l := by simp [Enc.all]
theorem Enc.all_append (l m : List α) : T.all (l ++ m) = T.all l ++ T.all m := by simp [Enc.all]
theorem Enc.all_length : ∀ l : List α, (T.all l).length = l.length * T.z
  | [] => by simp [Enc.all]
  | x :: l => by rw [Enc.all_cons, List.length_append, T.len, Enc.all_length l]; simp [Nat.add_mul]; omega
theorem Enc.all_drop (l : List α) (j : Nat) : (T.all l).drop (j * T.z) = T.all (l.drop j) := by
  induction j generalizing l with
  | zero => simp
  | succ j ih =>
    cases l with
    | nil => simp [Enc.all]
    | cons x l => rw [Enc.all_cons, List.drop_succ_cons, ← ih, Nat.add_mul, Nat.one_mul, Nat.add_comm, ← List.drop_drop]; congr 1; exact List.drop_left' (T.len x)
theorem Enc.all_take (l : List α) (j : Nat) : (T.all l).take (j * T.z) = T.all (l.take j) := by
  induction j generalizing l with
  | zero => simp [Enc.all]
  | succ j ih =>
    cases l with
    | nil => simp [Enc.all]
    | cons x l => rw [Enc.all_cons, List.take_succ_cons, Enc.all_cons, ← ih, Nat.add_mul, Nat.one_mul, Nat.add_comm, List.take_append, T.len]; rw [List.take_of_length_le (by rw [T.len]; omega)]; congr 2; omega
theorem Enc.all_get (l : List α) (j : Nat) (x : α) (h : l[j]? = some x) : ((T.all l).drop (j * T.z)).take T.z = T.e x := by
  rw [T.all_drop]
  obtain ⟨hj, rfl⟩ := List.getElem?_eq_some_iff.1 h
  rw [List.drop_eq_getElem_cons hj, Enc.all_cons]
  exact List.take_left' (T.len _)
theorem Enc.all_set (l : List α) (j : Nat) (y : α) (hj : j < l.length) : (T.all l).take (j * T.z) ++ T.e y ++ (T.all l).drop (j * T.z + T.z) = T.all (l.set j y) := by
  have : j * T.z + T.z = (j + 1) * T.z := by rw [Nat.add_mul, Nat.one_mul]
  rw [this, T.all_drop, T.all_take, List.set_eq_take_append_cons_drop, if_pos hj, Enc.all_append, Enc.all_cons, List.append_assoc]
end enc
theorem take_drop_mid {α : Type} (c : List α) (a n i k : Nat) (h : i + k ≤ n) : (c.drop (a + i)).take k = (((c.drop a).take n).drop i).take k := by
  rw [← List.drop_drop, List.drop_take, List.take_take, Nat.min_eq_left (by omega)]

section
variable {α : Type} {T : Enc α} {d : SlD} {l : List α} {c : List Sc}
theorem SlOk.n (h : SlOk T d l c) : d.len = l.length := h.len
theorem SlOk.bound (h : SlOk T d l c) {j : Nat} (hj : j < l.length) : d.off + j * T.z + T.z ≤ c.length := by
  have h1 := h.fit; have h2 := h.cap; have h3 := h.len
  have : (j + 1) * T.z ≤ d.cap * T.z := Nat.mul_le_mul_right _ (by omega)
  rw [Nat.add_mul, Nat.one_mul] at this
  omega
theorem SlOk.get (h : SlOk T d l c) {j : Nat} {x : α} (hx : l[j]? = some x) : (c.drop (d.off + j * T.z)).take T.z = T.e x := by
  obtain ⟨hj, _⟩ := List.getElem?_eq_some_iff.1 hx
  have : (j + 1) * T.z ≤ d.len * T.z := Nat.mul_le_mul_right _ (by have := h.len; omega)
  rw [Nat.add_mul, Nat.one_mul] at this
  rw [take_drop_mid c d.off (d.len * T.z) (j * T.z) T.z this, h.at_, T.all_get l j x hx]
theorem SlOk.set (h : SlOk T d l c) {j : Nat} {y : α} (hj : j < l.length) : SlOk T d (l.set j y) (c.take (d.off + j * T.z) ++ T.e y ++ c.drop (d.off + j * T.z + T.z)) := by
  have hb := h.bound hj
  have hl := T.len y
  refine ⟨h.z, by simpa using h.len, h.cap, ?_, ?_⟩
  · have := h.fit
    simp only [List.length_append, List.length_take, List.length_drop, hl]; omega
  · have hlen := h.len
    have e1 : (j + 1) * T.z ≤ d.len * T.z := Nat.mul_le_mul_right _ (by omega)
    rw [Nat.add_mul, Nat.one_mul] at e1
    have h3 : d.off + d.len * T.z ≤ c.length := Nat.le_trans (Nat.add_le_add_left (Nat.mul_le_mul_right _ h.cap) _) h.fit
    have e2 : c.take (d.off + j * T.z) = c.take d.off ++ (c.drop d.off).take (j * T.z) := List.take_add
    rw [← T.all_set l j y hj, ← h.at_, e2, List.append_assoc, List.append_assoc, List.drop_append, List.length_take, Nat.min_eq_left (by omega), Nat.sub_self, List.drop_zero,
      List.drop_eq_nil_of_le (by simp; omega), List.nil_append, List.take_append, List.take_append, List.take_take, List.take_take, List.length_take, List.length_drop, hl]
    rw [Nat.min_eq_left (by omega : j * T.z ≤ c.length - d.off), Nat.min_eq_right (by omega), Nat.min_eq_left (by omega), List.take_of_length_le (by rw [hl]; omega : (T.e y).length ≤ d.len * T.z - j * T.z), List.append_assoc]
    congr 2
    rw [List.drop_take, List.drop_drop]
    congr 1
    · omega
    · congr 1; omega
/-- a part of it -/
theorem SlOk.cut (h : SlOk T d l c) {lo hi m : Nat} (h1 : lo ≤ hi) (h2 : hi ≤ l.length) (h3 : hi ≤ m) (h4 : m ≤ d.cap) : SlOk T ⟨d.id, d.off + lo * T.z, hi - lo, m - lo, T.z⟩ ((l.take hi).drop lo) c := by
  have hlen := h.len
  have e1 : (m - lo) * T.z + lo * T.z ≤ d.cap * T.z := by rw [← Nat.add_mul]; exact Nat.mul_le_mul_right _ (by omega)
  refine ⟨rfl, by simp; omega, by simp; omega, ?_, ?_⟩
  · have := h.fit; simp only; omega
  · have e2 : lo * T.z + (hi - lo) * T.z ≤ d.len * T.z := by rw [← Nat.add_mul]; exact Nat.mul_le_mul_right _ (by omega)
    simp only
    rw [take_drop_mid c d.off (d.len * T.z) (lo * T.z) ((hi - lo) * T.z) e2, h.at_, T.all_drop, T.all_take, List.drop_take]
theorem SlOk.mk' {id off len cap : Nat} (hl : len = l.length) (hc : len ≤ cap) (hf : off + cap * T.z ≤ c.length) (ha : (c.drop off).take (len * T.z) = T.all l) : SlOk T ⟨id, off, len, cap, T.z⟩ l c := ⟨rfl, hl, hc, hf, ha⟩
end
section
variable {E : Env} {L R : List Assn} {Q : Post} {α : Type} {T : Enc α} {ro : Bool} {o : Option SlD} {l : List α}

theorem Star.sl_len {H : AH} (h : Star H (.sl ro T o l :: L)) : Fw.slN o = l.length := by
  cases o with
  | none => obtain ⟨rfl, _⟩ := Star.slN.1 h; rfl
  | some d => obtain ⟨c, h0, _⟩ := Star.slS.1 h; exact h0.len
/-- its length is known -/
theorem Tri.slLen {t : Tree} (p : Pick L (.sl ro T o l) R) (h : Fw.slN o = l.length → Fw.slLen o = (l.length : Int) → Tri E L t Q) : Tri E L t Q := .mk fun H hs => by
  have e := (hs.perm p.h).sl_len
  refine (h e ?_).go H hs
  cases o with
  | none => simp only [Fw.slN] at e; simp only [Fw.slLen]; omega
  | some d => simp only [Fw.slN] at e; simp only [Fw.slLen]; omega

theorem Star.app {H : AH} {z eb n : Nat} {vs : List Sc} {xs : List α} (h : Star H (.sl false T o l :: L)) (hz : T.z = z) (he : 0 < eb) (he' : eb ≤ appBytes) (hv : vs = T.all xs) (hn : n = xs.length) (hb : (l.length + xs.length) * eb ≤ appBound) :
    ∃ o' H', H.app z eb o vs n = some (o', H') ∧ Star H' (.sl false T o' (l ++ xs) :: L) := by
  subst hz; subst hv; subst hn
  unfold AH.app
  rw [if_pos ⟨T.all_length xs, he, he'⟩]
  cases o with
  | none =>
    obtain ⟨rfl, h'⟩ := Star.slN.1 h
    clear h
    dsimp only
    by_cases hx : xs.length = 0
    · rw [if_pos hx]
      have : xs = [] := List.length_eq_zero_iff.1 hx
      subst this
      exact ⟨_, _, rfl, Star.slN.2 ⟨rfl, h'⟩⟩
    · rw [if_neg hx, if_pos (by simpa using hb)]
      refine ⟨_, _, rfl, Star.slS.2 ⟨_, ?_, h'.new⟩⟩
      exact SlOk.mk' rfl (Nat.le_refl _) (by simp [T.all_length]) (by simp [← T.all_length])
  | some d =>
    obtain ⟨c, k, h⟩ := Star.slS.1 h
    have k1 := k.z; have k2 := k.len; have k3 := k.cap; have k4 := k.fit
    have hfit : d.off + d.len * T.z ≤ c.length := Nat.le_trans (Nat.add_le_add_left (Nat.mul_le_mul_right _ k.cap) _) k.fit
    dsimp only
    rw [if_pos k1]
    by_cases hc : d.len + xs.length ≤ d.cap
    · rw [if_pos hc]
      by_cases hx : xs.length = 0
      · rw [if_pos hx]
        have : xs = [] := List.length_eq_zero_iff.1 hx
        subst this
        exact ⟨_, _, rfl, Star.slS.2 ⟨c, by simpa using k, h⟩⟩
      · rw [if_neg hx]
        have e1 : d.len * T.z + xs.length * T.z ≤ d.cap * T.z := by rw [← Nat.add_mul]; exact Nat.mul_le_mul_right _ hc
        have hwr : d.off + d.len * T.z + (T.all xs).length ≤ c.length := by rw [T.all_length]; omega
        refine ⟨some ⟨d.id, d.off, d.len + xs.length, d.cap, T.z⟩, _, by rw [AH.wr, h.get.1]; dsimp only; rw [if_pos hwr, obind_some], Star.slS.2 ⟨_, ?_, h.put⟩⟩
        refine SlOk.mk' (by simp [k2]) hc ?_ ?_
        · simp only [List.length_append, List.length_take, List.length_drop, T.all_length]; omega
        · have e2 : (c.take (d.off + d.len * T.z) ++ T.all xs ++ c.drop (d.off + d.len * T.z + (T.all xs).length)).drop d.off = (c.drop d.off).take (d.len * T.z) ++ (T.all xs ++ c.drop (d.off + d.len * T.z + (T.all xs).length)) := by
            rw [List.append_assoc, List.drop_append, List.length_take, Nat.min_eq_left (by omega), Nat.sub_eq_zero_of_le (by omega), List.drop_zero, List.drop_take, Nat.add_sub_cancel_left]
          rw [e2, k.at_, ← List.append_assoc, ← T.all_append, Nat.add_mul]
          rw [List.take_append, List.take_of_length_le (by rw [T.all_length]; simp [k2, Nat.add_mul]), T.all_length]
          simp [k2, Nat.add_mul]
    · rw [if_neg hc, if_pos (by rw [k2]; exact hb), h.get.1]
      dsimp only
      rw [if_pos hfit]
      refine ⟨_, _, rfl, Star.slS.2 ⟨_, ?_, h.kill.new⟩⟩
      rw [k.at_, ← T.all_append]
      refine SlOk.mk' (by simp [k2]) (Nat.le_refl _) ?_ ?_
      · rw [T.all_length]; simp [k2]
      · rw [List.drop_zero, List.take_of_length_le]; rw [T.all_length]; simp [k2]
theorem Tri.app {z eb n : Nat} {vs : List Sc} {f : Option SlD → Tree} (xs : List α) (p : Pick L (.sl false T o l) R) (hz : T.z = z) (hv : vs = T.all xs) (hn : n = xs.length) (he : 0 < eb) (he' : eb ≤ appBytes) (hb : (l.length + xs.length) * eb ≤ appBound)
    (h : ∀ o', Tri E (.sl false T o' (l ++ xs) :: R) (f o') Q) : Tri E L (.app z eb o vs n f) Q := .mk fun H hs => by
  obtain ⟨o', H', h1, h2⟩ := Star.app (hs.perm p.h) hz he he' hv hn hb
  exact ⟨(o', H'), h1, (h o').go H' h2⟩
/-- all of it is read -/
theorem Tri.lds {z n : Nat} {f : List Sc → Tree} (p : Pick L (.sl ro T o l) R) (hz : T.z = z) (hn : n = Fw.slN o) (h : n = l.length → Tri E L (f (T.all l)) Q) : Tri E L (.lds z o n f) Q := .mk fun H hs => by
  have hs' := hs.perm p.h
  have hl := hs'.sl_len
  refine ⟨T.all l, ?_, (h (by omega)).go H hs⟩
  subst hn; subst hz
  cases o with
  | none => obtain ⟨rfl, _⟩ := Star.slN.1 hs'; rfl
  | some d =>
    obtain ⟨c, k, hs2⟩ := Star.slS.1 hs'
    have hfit : d.off + d.len * T.z ≤ c.length := Nat.le_trans (Nat.add_le_add_left (Nat.mul_le_mul_right _ k.cap) _) k.fit
    have e0 : Fw.slN (some d) = d.len := rfl
    rw [e0]
    simp only [AH.rds]
    by_cases h0 : d.len = 0
    · rw [if_pos h0]
      rw [k.len] at h0
      have : l = [] := List.length_eq_zero_iff.1 h0
      subst this; rfl
    · rw [if_neg h0, if_pos ⟨Nat.le_refl _, k.z⟩]
      simp [AH.rd, hs2.get.1, hfit, k.at_]
/-- a part in the place of all -/
theorem Tri.slc {z : Nat} {lo hi : Option Int} {f : Option SlD → Tree} (a b : Nat) (p : Pick L (.sl ro T o l) R) (hz : T.z = z) (ha : lo.getD 0 = a) (hb : hi.getD l.length = b) (h1 : a ≤ b) (h2 : b ≤ l.length)
    (h : ∀ o', Tri E (.sl ro T o' ((l.take b).drop a) :: R) (f o') Q) : Tri E L (.slc z o lo hi none f) Q := .mk fun H hs => by
  have hs' := hs.perm p.h
  have hl := hs'.sl_len
  subst hz
  cases o with
  | none =>
    obtain ⟨rfl, hs2⟩ := Star.slN.1 hs'
    simp at h2 hb; subst h2
    have : a = 0 := by omega
    subst this
    refine ⟨none, ?_, (h none).go H (Star.slN.2 ⟨by simp, hs2⟩)⟩
    unfold slcIn; simp [ha, hb]
  | some d =>
    obtain ⟨c, k, hs2⟩ := Star.slS.1 hs'
    have k1 := k.z; have k2 := k.len; have k3 := k.cap
    refine ⟨some ⟨d.id, d.off + a * T.z, b - a, d.cap - a, T.z⟩, ?_, (h _).go H (Star.slS.2 ⟨c, k.cut h1 h2 (Nat.le_trans h2 (by omega)) (Nat.le_refl _), hs2⟩)⟩
    rw [← k2] at hb
    unfold slcIn
    simp only [ha, hb, Option.isNone_none, Bool.true_or, Option.getD_none]
    rw [if_pos ⟨trivial, by omega, by omega, by omega, by omega, by omega, by omega⟩, if_pos k1]
    congr 2
    congr 1 <;> omega
end
end Go.Proofs.YtpbhfolaoccpkaaGreat.Fw
set_option linter.unusedSimpArgs false
set_option linter.unusedVariables false
namespace Go.Proofs.YtpbhfolaoccpkaaGreat.Fw
open Go
section
variable {E : Env} {L R : List Assn} {Q : Post} {α : Type} {T : Enc α} {ro : Bool} {o : Option SlD} {l : List α} {d : SlD} {c : List Sc}

theorem SlOk.split (h : SlOk T d l c) : ∃ pre suf, c = pre ++ T.all l ++ suf ∧ pre.length = d.off ∧ (d.cap - d.len) * T.z ≤ suf.length := by
  have hfit : d.off + d.len * T.z ≤ c.length := Nat.le_trans (Nat.add_le_add_left (Nat.mul_le_mul_right _ h.cap) _) h.fit
  refine ⟨c.take d.off, c.drop (d.off + d.len * T.z), ?_, by simp; omega, ?_⟩
  · rw [← h.at_, ← List.drop_drop, List.append_assoc, List.take_append_drop, List.take_append_drop]
  · have := h.fit
    rw [Nat.sub_mul, List.length_drop]; omega
end
end Go.Proofs.YtpbhfolaoccpkaaGreat.Fw
