/- The end of slices.DeleteFunc; small helps. -/
import Derived.Test.YtkhooppaenfkdaaFwZc
set_option linter.unusedSimpArgs false
set_option linter.unusedVariables false
namespace Go.Proofs.Ytkhooppaenfkdaa.Fw
open Go
section
variable {E : Env} {L R : List Assn} {Q : Post} {α : Type} {T : Enc α} {o : Option SlD}
theorem Tri.mkEmp {t : Tree} (h : Tri E (.emp :: L) t Q) : Tri E L t Q := .mk fun H hs => h.go H (Star.emp.2 hs)

/-- a part is read, the whole stays -/
theorem Tri.slcLds {z : Nat} {lo hi : Option Int} {ro : Bool} {l : List α} {k : Option SlD → List Sc → Tree} (a b : Nat) (p : Pick L (.sl ro T o l) R) (hz : T.z = z) (ha : lo.getD 0 = a) (hb : hi.getD l.length = b) (h1 : a ≤ b) (h2 : b ≤ l.length)
    (h : ∀ o', Fw.slN o' = b - a → Tri E L (k o' (T.all ((l.take b).drop a))) Q) : Tri E L (.slc z o lo hi none fun o' => .lds z o' (Fw.slN o') fun v => k o' v) Q := .mk fun H hs => by
  have hs' := hs.perm p.h
  subst hz
  cases o with
  | none =>
    obtain ⟨rfl, _⟩ := Star.slN.1 hs'
    simp at h2 hb; subst h2
    have : a = 0 := by omega
    subst this
    refine ⟨none, by unfold slcIn; simp [ha, hb], [], by simp [Fw.slN, AH.rds], ?_⟩
    have := (h none (by simp [Fw.slN])).go H hs
    simpa [Enc.all] using this
  | some d =>
    obtain ⟨c, q, hs2⟩ := Star.slS.1 hs'
    have q2 := q.len
    have hc := q.cut (m := d.cap) h1 h2 (by have := q.cap; omega) (Nat.le_refl _)
    have hb' : hi.getD (d.len : Int) = b := by rw [q2]; exact hb
    refine (Tri.slcD (E := E) (L := .ob d.id (.cells ro c) :: R) (Q := Q) a b d.cap q.z ha hb' (by simp) (.inl rfl) h1 (by have := q.cap; omega) (Nat.le_refl _) ?_).go H hs2
    refine Tri.ldsD (d := ⟨d.id, d.off + a * T.z, b - a, d.cap - a, T.z⟩) Pick.here rfl (Nat.le_refl _) ?_ ?_
    · simp only [Fw.slN]
      exact Nat.le_trans (Nat.add_le_add_left (Nat.mul_le_mul_right _ hc.cap) _) hc.fit
    · simp only [Fw.slN]
      have := hc.at_
      simp only at this
      rw [this]
      refine .mk fun H hs => (h _ rfl).go H ?_
      exact (Star.slS.2 ⟨c, q, hs⟩).perm (List.Perm.symm p.h)

theorem SlOk.ofSplit' {l : List α} {c pre suf : List Sc} {d : SlD} (hz : d.z = T.z) (hl : d.len = l.length) (hc : d.len ≤ d.cap) (hp : pre.length = d.off) (hs : (d.cap - d.len) * T.z ≤ suf.length) (e : c = pre ++ T.all l ++ suf) : SlOk T d l c := by
  obtain ⟨id, off, len, cap, z⟩ := d
  subst hz
  exact SlOk.ofSplit hl hc hp hs e

theorem clear_tri {z : Nat} {zs : List Sc} {G M : List α} {i : Nat} {k : Option SlD → Tree} (p : Pick L (.sl false T o (G ++ M)) R) (hz : T.z = z) (hzs : zs.length = z) (hi : i = G.length)
    (h : ∀ o', Tri E (.sl false T o' G :: R) (k o') Q) :
    Tri E L (.slc z o (some (i : Int)) none none fun o1 => .sts z o1 (zeros zs (slN o1)) (.slc z o none (some (i : Int)) none k)) Q := by
  subst hz; subst hi
  cases o with
  | none =>
    refine Tri.slN p fun hl => ?_
    obtain ⟨rfl, rfl⟩ := List.append_eq_nil_iff.1 hl
    refine Tri.mk fun H hs => ?_
    refine ⟨none, by simp [slcIn], ?_⟩
    refine ⟨H, by simp [slN, zeros, AH.wrs], ?_⟩
    refine ⟨none, by simp [slcIn], ?_⟩
    exact (h none).go H (Star.slN.2 ⟨rfl, hs⟩)
  | some d =>
    refine Tri.slS p fun c k' => ?_
    have k1 := k'.z; have k2 := k'.len; have k3 := k'.cap
    obtain ⟨pre, suf, e, hp, hsuf⟩ := k'.split
    rw [List.length_append] at k2
    have hmul : d.len * T.z = G.length * T.z + M.length * T.z := by rw [k2, Nat.add_mul]
    have hG := T.all_length G
    have hM := T.all_length M
    refine Tri.slcD G.length d.len d.cap k1 (by simp) (by simp) (by simp) (.inl rfl) (by omega) k3 (Nat.le_refl _) ?_
    subst e
    rw [T.all_append] at *
    have hz2 : (zeros zs (d.len - G.length)).length = M.length * T.z := by rw [zeros_len, hzs]; congr 1; omega
    refine Tri.stsD (d := ⟨d.id, d.off + G.length * T.z, d.len - G.length, d.cap - G.length, T.z⟩) Pick.here rfl ?_ ?_ ?_
    · simp only [slN]; rw [zeros_len, hzs]; exact Nat.le_refl _
    · simp only [slN, hz2, List.length_append, hG, hM, hp]; omega
    simp only [slN]
    have e2 : (pre ++ (T.all G ++ T.all M) ++ suf).take (d.off + G.length * T.z) ++ zeros zs (d.len - G.length) ++ (pre ++ (T.all G ++ T.all M) ++ suf).drop (d.off + G.length * T.z + (zeros zs (d.len - G.length)).length) = pre ++ T.all G ++ (zeros zs (d.len - G.length) ++ suf) := by
      rw [hz2, List.append_assoc pre, take_pre hp, Nat.add_assoc, drop_pre hp, List.append_assoc (T.all G), ← hG, List.take_left, ← hM, ← List.drop_drop, List.drop_left, List.drop_left]
      simp only [List.append_assoc]
    rw [e2]
    refine Tri.slcD 0 G.length d.cap k1 (by simp) (by simp) (by simp) (.inl rfl) (by omega) (by omega) (Nat.le_refl _) ?_
    simp only [Nat.zero_mul, Nat.add_zero, Nat.sub_zero]
    refine Tri.mkS (T := T) (l := G) (d := ⟨d.id, d.off, G.length, d.cap, T.z⟩) Pick.here ?_ (h _)
    refine SlOk.ofSplit' rfl rfl (by simp only; omega) hp ?_ rfl
    simp only [List.length_append, hz2]
    have : (d.cap - G.length) * T.z = (d.cap - d.len) * T.z + M.length * T.z := by rw [← Nat.add_mul]; congr 1; omega
    omega
end
end Go.Proofs.Ytkhooppaenfkdaa.Fw
