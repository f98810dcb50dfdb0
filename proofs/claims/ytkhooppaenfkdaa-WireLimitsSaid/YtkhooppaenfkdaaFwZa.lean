/- Slices of one object at work: cut, read, written, put behind, in place; and what a few of the library's functions come to. -/
import Derived.Test.YtkhooppaenfkdaaFwZ
set_option linter.unusedSimpArgs false
set_option linter.unusedVariables false
namespace Go.Proofs.Ytkhooppaenfkdaa.Fw
open Go

section
variable {E : Env} {L R : List Assn} {Q : Post} {α : Type} {T : Enc α} {ro : Bool} {o : Option SlD} {l : List α} {d : SlD} {c : List Sc}

theorem SlOk.split (h : SlOk T d l c) : ∃ pre suf, c = pre ++ T.all l ++ suf ∧ pre.length = d.off ∧ (d.cap - d.len) * T.z ≤ suf.length := by
  have hfit : d.off + d.len * T.z ≤ c.length := Nat.le_trans (Nat.add_le_add_left (Nat.mul_le_mul_right _ h.cap) _) h.fit
  refine ⟨c.take d.off, c.drop (d.off + d.len * T.z), ?_, by simp; omega, ?_⟩
  · rw [← h.at_, ← List.drop_drop, List.append_assoc, List.take_append_drop, List.take_append_drop]
  · have := h.fit
    rw [Nat.sub_mul, List.length_drop]; omega
theorem SlOk.ofSplit {pre suf : List Sc} {id off len cap : Nat} (hl : len = l.length) (hc : len ≤ cap) (hp : pre.length = off) (hs : (cap - len) * T.z ≤ suf.length) (e : c = pre ++ T.all l ++ suf) : SlOk T ⟨id, off, len, cap, T.z⟩ l c := by
  subst e; subst hp; subst hl
  refine SlOk.mk' rfl hc ?_ ?_
  · simp only [List.length_append, T.all_length]
    have : cap * T.z = l.length * T.z + (cap - l.length) * T.z := by rw [← Nat.add_mul]; congr 1; omega
    omega
  · rw [List.append_assoc, List.drop_left, ← T.all_length, List.take_left]

/-- a cut, in place -/
theorem Tri.slcD {z : Nat} {lo hi mx : Option Int} {f : Option SlD → Tree} (a b m : Nat) (hz : d.z = z) (ha : lo.getD 0 = a) (hb : hi.getD d.len = b) (hm : mx.getD d.cap = m) (hx : mx.isNone = true ∨ hi.isSome = true)
    (h1 : a ≤ b) (h2 : b ≤ m) (h3 : m ≤ d.cap) (h : Tri E L (f (some ⟨d.id, d.off + a * z, b - a, m - a, z⟩)) Q) : Tri E L (.slc z (some d) lo hi mx f) Q := .mk fun H hs => by
  refine ⟨some ⟨d.id, d.off + a * z, b - a, m - a, z⟩, ?_, h.go H hs⟩
  unfold slcIn
  simp only [ha, hb, hm]
  rw [if_pos ⟨by simpa using hx, by omega, by omega, by omega, by omega, by omega, by omega⟩, if_pos hz]
  congr 2
  congr 1 <;> omega
theorem Tri.ldsD {z n : Nat} {f : List Sc → Tree} (p : Pick L (.ob d.id (.cells ro c)) R) (hz : d.z = z) (hn : n ≤ d.len) (hf : d.off + n * z ≤ c.length) (h : Tri E L (f ((c.drop d.off).take (n * z))) Q) : Tri E L (.lds z (some d) n f) Q := .mk fun H hs => by
  refine ⟨_, ?_, h.go H hs⟩
  simp only [AH.rds]
  by_cases h0 : n = 0
  · rw [if_pos h0, h0]; simp
  · rw [if_neg h0, if_pos ⟨hn, hz⟩]
    simp [AH.rd, (hs.perm p.h).get.1, hf]
theorem Tri.stsD {z : Nat} {vs : List Sc} {t : Tree} (p : Pick L (pt d.id c) R) (hz : d.z = z) (hn : vs.length ≤ d.len * z) (hf : d.off + vs.length ≤ c.length) (h : Tri E (pt d.id (c.take d.off ++ vs ++ c.drop (d.off + vs.length)) :: R) t Q) : Tri E L (.sts z (some d) vs t) Q := .mk fun H hs => by
  have hs' := hs.perm p.h
  cases vs with
  | nil =>
    refine ⟨H, rfl, h.go H ?_⟩
    simpa using hs'
  | cons v vs =>
    refine ⟨_, ?_, h.go _ hs'.put⟩
    simp only [AH.wrs]
    rw [if_pos ⟨hn, hz⟩, AH.wr, hs'.get.1]
    dsimp only
    rw [if_pos hf]
theorem Tri.appD {z eb n : Nat} {vs : List Sc} {f : Option SlD → Tree} (p : Pick L (pt d.id c) R) (hz : d.z = z) (he : 0 < eb) (he' : eb ≤ appBytes) (hv : vs.length = n * z) (hc : d.len + n ≤ d.cap) (hf : d.off + d.len * z + vs.length ≤ c.length)
    (h : Tri E (pt d.id (c.take (d.off + d.len * z) ++ vs ++ c.drop (d.off + d.len * z + vs.length)) :: R) (f (some ⟨d.id, d.off, d.len + n, d.cap, z⟩)) Q) : Tri E L (.app z eb (some d) vs n f) Q := .mk fun H hs => by
  have hs' := hs.perm p.h
  by_cases h0 : n = 0
  · subst h0
    have : vs = [] := List.length_eq_zero_iff.1 (by omega)
    subst this
    subst hz
    refine ⟨(some d, H), ?_, ?_⟩
    · simp [AH.app, he, he']
      intro hc'; omega
    · have := h.go H (by simpa using hs')
      simpa using this
  · refine ⟨(some ⟨d.id, d.off, d.len + n, d.cap, z⟩, _), ?_, h.go _ hs'.put⟩
    unfold AH.app
    rw [if_pos ⟨hv, he, he'⟩]
    dsimp only
    rw [if_pos hz, if_pos hc, if_neg h0, AH.wr, hs'.get.1]
    dsimp only
    rw [if_pos hf, obind_some]; rfl

theorem take_pre {β : Type} {pre x : List β} {off n : Nat} (h : pre.length = off) : (pre ++ x).take (off + n) = pre ++ x.take n := by
  subst h; rw [List.take_append, List.take_of_length_le (by omega), Nat.add_sub_cancel_left]
theorem drop_pre {β : Type} {pre x : List β} {off n : Nat} (h : pre.length = off) : (pre ++ x).drop (off + n) = x.drop n := by
  subst h; rw [← List.drop_drop, List.drop_left]

/-! slices.Clone -/
def cloneT (z eb : Nat) (zs : List Sc) (o : Option SlD) : Tree :=
  cond (Option.isNone o) (.ret 0 [.sc (.sl none)]) (.al (zeros zs 0) fun a => .lds z o (slN o) fun l => .app z eb (some ⟨a, 0, 0, 0, z⟩) l (slN o) fun o2 => .ret 0 [.sc (.sl o2)])
theorem clone_tri {z eb : Nat} {zs : List Sc} (F : List Assn) (hz : T.z = z) (he : 0 < eb) (he' : eb ≤ appBytes) (hb : l.length * eb ≤ appBound) :
    Tri E (.sl ro T o l :: F) (cloneT z eb zs o) (RQ F fun v L' => ∃ o', v = .sc (.sl o') ∧ L' = [.sl ro T o l, .sl false T o' l]) := by
  subst hz
  unfold cloneT
  refine Tri.cnd (fun hc => ?_) (fun hc => ?_)
  · have : o = none := by simpa using hc
    subst this
    refine Tri.slN Pick.here fun hl => ?_
    subst hl
    refine Tri.mkN false T (Tri.mkN ro T ?_)
    exact Tri.retF ⟨none, rfl, rfl⟩ (Sub.refl _)
  · refine Tri.al fun a => ?_
    refine Tri.lds (Pick.there Pick.here) rfl rfl fun hn => ?_
    refine Tri.mkS (T := T) (d := ⟨a, 0, 0, 0, T.z⟩) (l := []) Pick.here (SlOk.mk' rfl (Nat.le_refl _) (by simp) (by simp [Enc.all])) ?_
    refine Tri.app l Pick.here rfl rfl hn he he' (by simpa using hb) fun o' => ?_
    exact Tri.retF ⟨o', rfl, rfl⟩ ⟨[], by simpa using List.Perm.swap _ _ _⟩

/-! slices.Delete -/
def delT (z eb : Nat) (zs : List Sc) (o : Option SlD) (i j : Int) : Tree :=
  .slc z o (.some i) (.some j) (.some (slLen o)) fun o0 =>
  cond (i == j)
    (.ret 0 [(.sc (.sl o))])
    (.slc z o .none (.some i) .none fun o1 =>
    .slc z o (.some j) .none .none fun o2 =>
    .lds z o2 (slN o2) fun l3 =>
    .app z eb o1 l3 (slN o2) fun o4 =>
    .slc z o4 (.some (slLen o4)) (.some (slLen o)) .none fun o5 =>
    .sts z o5 (zeros zs (slN o5)) (
    .ret 0 [(.sc (.sl o4))]))
theorem zeros_len (zs : List Sc) : ∀ n, (zeros zs n).length = n * zs.length
  | 0 => by simp [zeros]
  | n + 1 => by rw [zeros, List.length_append, zeros_len zs n, Nat.add_mul]; omega
theorem del_tri {z eb : Nat} {zs : List Sc} (F : List Assn) {i j : Nat} (hz : T.z = z) (hzs : zs.length = z) (he : 0 < eb) (he' : eb ≤ appBytes) (h1 : i ≤ j) (h2 : j ≤ l.length) :
    Tri E (.sl false T o l :: F) (delT z eb zs o i j) (RQ F fun v L' => ∃ o', v = .sc (.sl o') ∧ L' = [.sl false T o' (l.take i ++ l.drop j)]) := by
  subst hz
  unfold delT
  cases o with
  | none =>
    refine Tri.slN Pick.here fun hl => ?_
    subst hl
    have hj : j = 0 := by simpa using h2
    have hi : i = 0 := by omega
    subst hj; subst hi
    refine Tri.mk fun H hs => ?_
    refine ⟨none, by simp [slcIn, Fw.slLen], ?_⟩
    simp only [beq_self_eq_true, cond_true]
    exact (Tri.mkN false T (Tri.retF ⟨none, rfl, rfl⟩ (Sub.refl _))).go H hs
  | some d =>
    refine Tri.slS Pick.here fun c k => ?_
    have k1 := k.z; have k2 := k.len; have k3 := k.cap
    obtain ⟨pre, suf, e, hp, hsuf⟩ := k.split
    refine Tri.slcD i j d.len k1 (by simp) (by simp) (by simp [Fw.slLen]) (.inr rfl) h1 (by omega) k3 ?_
    refine Tri.cnd (fun hc => ?_) (fun hc => ?_)
    · have hc : i = j := by have : (i : Int) = j := by simpa using hc
                            omega
      subst hc
      refine Tri.mkS Pick.here k ?_
      exact Tri.retF (L1 := [.sl false T (some d) (l.take i ++ l.drop i)]) ⟨some d, rfl, rfl⟩ (by simpa using Sub.refl _)
    · have hij : i < j := by have : ¬ (i : Int) = j := by simpa using hc
                             omega
      refine Tri.slcD 0 i d.cap k1 (by simp) (by simp) (by simp) (.inl rfl) (by omega) (by omega) (by omega) ?_
      refine Tri.slcD j d.len d.cap k1 (by simp) (by simp) (by simp) (.inl rfl) (by omega) (by omega) (by omega) ?_
      subst e
      have hll := T.all_length l
      have hmul : d.len * T.z = j * T.z + (d.len - j) * T.z := by rw [← Nat.add_mul]; congr 1; omega
      have hmi : j * T.z = i * T.z + (j - i) * T.z := by rw [← Nat.add_mul]; congr 1; omega
      refine Tri.ldsD (d := ⟨d.id, d.off + j * T.z, d.len - j, d.cap - j, T.z⟩) Pick.here rfl (Nat.le_refl _) ?_ ?_
      · simp only [List.length_append, hll, slN, ← k2]; omega
      have eread : ((pre ++ T.all l ++ suf).drop (d.off + j * T.z)).take ((d.len - j) * T.z) = T.all (l.drop j) := by
        rw [← hp, List.append_assoc, ← List.drop_drop, List.drop_left, ← T.all_drop, List.drop_append_of_le_length (by rw [hll, ← k2]; omega), List.take_append_of_le_length (by simp [hll, ← k2]; omega), List.take_of_length_le (by simp [hll, ← k2]; omega)]
      simp only [slN]
      rw [eread]
      have hlr := T.all_length (l.drop j)
      have hld : (l.drop j).length = d.len - j := by simp [k2]
      rw [hld] at hlr
      refine Tri.appD (d := ⟨d.id, d.off + 0 * T.z, i - 0, d.cap - 0, T.z⟩) Pick.here rfl he he' hlr (by simp; omega) ?_ ?_
      · simp only [List.length_append, hll, hlr, ← k2]; simp; omega
      simp only [Nat.zero_mul, Nat.add_zero, Nat.sub_zero]
      have e2 : (pre ++ T.all l ++ suf).take (d.off + i * T.z) ++ T.all (l.drop j) ++ (pre ++ T.all l ++ suf).drop (d.off + i * T.z + (T.all (l.drop j)).length) = pre ++ T.all (l.take i ++ l.drop j) ++ (T.all (l.drop (i + (d.len - j))) ++ suf) := by
        have e9 : d.off + i * T.z + (d.len - j) * T.z = d.off + (i + (d.len - j)) * T.z := by rw [Nat.add_mul]; omega
        rw [hlr, e9, List.append_assoc pre, take_pre hp, drop_pre hp, List.take_append_of_le_length (by rw [hll, ← k2]; omega), T.all_take, T.all_append, List.drop_append_of_le_length (by rw [hll, ← k2, Nat.add_mul]; omega), T.all_drop]
        simp only [List.append_assoc]
      rw [e2]
      have e3 : i + (d.len - j) ≤ d.len := by omega
      have hl4 : (l.take i ++ l.drop j).length = i + (d.len - j) := by simp [← k2]; omega
      have hl5 : (T.all (l.take i ++ l.drop j)).length = (i + (d.len - j)) * T.z := by rw [T.all_length, hl4]
      have hl6 : (T.all (l.drop (i + (d.len - j)))).length = (d.len - (i + (d.len - j))) * T.z := by rw [T.all_length]; simp [← k2]
      refine Tri.slcD (d := ⟨d.id, d.off, i + (d.len - j), d.cap, T.z⟩) (i + (d.len - j)) d.len d.cap rfl (by simp [Fw.slLen]) (by simp [Fw.slLen]) (by simp) (.inl rfl) e3 k3 (Nat.le_refl _) ?_
      refine Tri.stsD (d := ⟨d.id, d.off + (i + (d.len - j)) * T.z, d.len - (i + (d.len - j)), d.cap - (i + (d.len - j)), T.z⟩) Pick.here rfl ?_ ?_ ?_
      · rw [zeros_len, hzs]; simp [slN]
      · rw [zeros_len, hzs]; simp only [slN, List.length_append, hl5, hl6, hp]; omega
      refine Tri.mkS (T := T) (l := l.take i ++ l.drop j) (d := ⟨d.id, d.off, i + (d.len - j), d.cap, T.z⟩) Pick.here ?_ ?_
      · refine SlOk.ofSplit (pre := pre) (suf := zeros zs (d.len - (i + (d.len - j))) ++ suf) hl4.symm (by omega) hp ?_ ?_
        · rw [List.length_append, zeros_len, hzs, ← Nat.sub_add_sub_cancel k3 e3, Nat.add_mul]; omega
        · simp only [slN, zeros_len, hzs]
          rw [List.append_assoc pre, List.take_append, List.take_of_length_le (by omega), hp, Nat.add_sub_cancel_left, List.take_append_of_le_length (by rw [hl5]; omega), List.take_of_length_le (by rw [hl5]; omega)]
          have : d.off + (i + (d.len - j)) * T.z + (d.len - (i + (d.len - j))) * T.z = (pre ++ (T.all (l.take i ++ l.drop j) ++ T.all (l.drop (i + (d.len - j))))).length := by
            simp only [List.length_append, hl5, hl6, hp]; omega
          rw [this]
          have e7 : pre ++ (T.all (l.take i ++ l.drop j) ++ (T.all (l.drop (i + (d.len - j))) ++ suf)) = (pre ++ (T.all (l.take i ++ l.drop j) ++ T.all (l.drop (i + (d.len - j))))) ++ suf := by simp only [List.append_assoc]
          rw [e7, List.drop_left]
          simp only [List.append_assoc]
      exact Tri.retF ⟨_, rfl, rfl⟩ (Sub.refl _)
end
end Go.Proofs.Ytkhooppaenfkdaa.Fw
