/- Functions of the Go library over any element: what they come to. -/
import Derived.Test.YtkhooppaenfkdaaFwZi
import Derived.Test.YtkhooppaenfkdaaFwZg
set_option linter.unusedVariables false
set_option linter.unusedSimpArgs false
namespace Go.Proofs.Ytkhooppaenfkdaa.Fw
open Go

def KOk : Ck → Sc → Prop
  | .i k, x => ∃ n, x = .i k n
  | .b, x => ∃ b, x = .b b
  | .s, x => ∃ s, x = .s s
  | .p, x => ∃ o, x = .p o
  | .sl, x => ∃ o, x = .sl o
  | .it, x => ∃ o, x = .it o
  | .any, _ => True
  | .x, _ => True
  | _, _ => False
section
variable {E : Env} {α : Type} {T : Enc α} {z : Nat} {dec : Dec} {zs : List Sc} {S : SIds}
theorem decS_tri {c : Ck} {x : Sc} {f : Sc → Tree} {L : List Assn} {Q : Post} (h : KOk c x) (k : Tri E L (f x) Q) : Tri E L (decS c x f) Q := by
  cases c with
  | i _ => obtain ⟨n, rfl⟩ := h; exact .asI k
  | b => obtain ⟨n, rfl⟩ := h; exact .asB k
  | s => obtain ⟨n, rfl⟩ := h; exact .asS k
  | p => obtain ⟨n, rfl⟩ := h; exact .asP k
  | sl => obtain ⟨n, rfl⟩ := h; exact .asL k
  | it => obtain ⟨n, rfl⟩ := h; exact wt k
  | any => exact k
  | x => exact k
  | _ => exact h.elim
theorem decL_tri {L : List Assn} {Q : Post} : ∀ {ks : List Ck} {l pre : List Sc} {f : List Sc → Tree}, All2 KOk ks l → Tri E L (f l) Q → Tri E L (decL (pre ++ l) pre.length ks f) Q
  | [], l, pre, f, h, k => by cases h; exact k
  | c :: ks, l, pre, f, ⟨x, r, e, h1, h2⟩, k => by
    subst e
    refine Tri.nth (x := x) (by simp) (decS_tri h1 ?_)
    have := decL_tri (pre := pre ++ [x]) (f := fun r => f (x :: r)) h2 k
    simpa using this
/-- how an element is read -/
def DecOk (E : Env) (T : Enc α) (dec : Dec) : Prop := ∀ (a : α) (L : List Assn) (Q : Post) (f : List Sc → Tree), Tri E L (f (T.e a)) Q → Tri E L (dec (T.e a) f) Q
theorem decOk {ks : List Ck} (h : ∀ a, All2 KOk ks (T.e a)) : DecOk E T (fun l f => decL l 0 ks f) := fun a L Q f k => decL_tri (pre := []) (h a) k
structure ElOk (E : Env) (T : Enc α) (z : Nat) (dec : Dec) (zs : List Sc) : Prop where
  hz : T.z = z
  hzs : zs.length = z
  hd : DecOk E T dec
/-- a cell of an element is written -/
theorem Tri.ixst1 {o : Option SlD} {l : List α} {k : Nat} {j : Int} {v : Sc} {t : Tree} {L R : List Assn} {Q : Post} {x : α} (y : α) (p : Pick L (.sl false T o l) R) (hz : T.z = z) (hk : k < z) (h0 : 0 ≤ j) (hx : l[j.toNat]? = some x) (hy : T.e y = (T.e x).set k v)
    (h : Tri E (.sl false T o (l.set j.toNat y) :: R) t Q) : Tri E L (.ixS z o j fun a b c => .st a (b + c * z + k) [v] t) Q := by
  obtain ⟨hj, _⟩ := List.getElem?_eq_some_iff.1 hx
  refine Tri.ix p hz h0 (by omega) fun d c ho q => ?_
  subst ho; subst hz
  have := q.bound hj
  refine Tri.st Pick.here (by simp only [List.length_singleton]; omega) ?_
  exact Tri.mkS Pick.here (q.set1 hx hk hy) h
/-- some cells of an element are read -/
theorem Tri.ixldR {o : Option SlD} {ro : Bool} {l : List α} {k n : Nat} {j : Int} {f : List Sc → Tree} {L R : List Assn} {Q : Post} {x : α} {r : List Sc} (p : Pick L (.sl ro T o l) R) (hz : T.z = z) (h0 : 0 ≤ j) (hx : l[j.toNat]? = some x) (hk : k + n ≤ z) (hr : ((T.e x).drop k).take n = r)
    (h : Tri E (.sl ro T o l :: R) (f r) Q) : Tri E L (.ixS z o j fun a b c => .ld a (b + c * z + k) n f) Q := by
  obtain ⟨hj, _⟩ := List.getElem?_eq_some_iff.1 hx
  refine Tri.ix p hz h0 (by omega) fun d c ho q => ?_
  subst ho; subst hz
  have := q.bound hj
  refine Tri.ldE Pick.here (l := r) ?_ (by omega) (Tri.mkS Pick.here q h)
  rw [take_drop_mid c (d.off + j.toNat * T.z) T.z k n hk, q.get hx, hr]
def IsPred (E : Env) (T : Enc α) (g : FuncId) (f c : List (Nat × Nat)) (K : Assn) (p : α → Bool) : Prop :=
  ∀ x : α, FSpec E g (ptrs f ++ [.ag (T.e x)] ++ ptrs c) [K] (fun v L' => v = .sc (.b (p x)) ∧ L' = [K])
def IsCmp (E : Env) (T : Enc α) (g : FuncId) (f c : List (Nat × Nat)) (lt : α → α → Prop) : Prop :=
  ∀ a b : α, FSpec E g (ptrs f ++ [.ag (T.e a), .ag (T.e b)] ++ ptrs c) [] (fun v L' => ∃ n : Int, v = .sc (.i .i64 n) ∧ (n < 0 ↔ lt a b) ∧ L' = [])
def bl (n : Nat) : Nat := if n = 0 then 0 else n.log2 + 1
theorem bl_le {n m : Nat} : bl n ≤ m ↔ n < 2 ^ m := by
  unfold bl
  by_cases h : n = 0
  · subst h; simp; exact Nat.pow_pos (by decide)
  · rw [if_neg h, ← Nat.log2_lt h]; omega
theorem bl_div {n k : Nat} (h : 2 ^ k ≤ n) : bl n = k + bl (n / 2 ^ k) := by
  have hp : 0 < 2 ^ k := Nat.pow_pos (by decide)
  have h1 : bl n ≤ k + bl (n / 2 ^ k) := by
    rw [bl_le, Nat.pow_add, Nat.mul_comm, ← Nat.div_lt_iff_lt_mul hp]
    exact bl_le.1 (Nat.le_refl _)
  have hk : ¬ bl n ≤ k := by rw [bl_le]; omega
  have h2 : bl (n / 2 ^ k) ≤ bl n - k := by
    rw [bl_le, Nat.div_lt_iff_lt_mul hp, ← Nat.pow_add, show bl n - k + k = bl n by omega]
    exact bl_le.1 (Nat.le_refl _)
  omega
theorem bl_div8 {n : Nat} (h : 256 ≤ n) : bl n = 8 + bl (n / 256) := bl_div (k := 8) h
theorem bl_div16 {n : Nat} (h : 65536 ≤ n) : bl n = 16 + bl (n / 65536) := bl_div (k := 16) h
theorem tab_eq {j : Nat} (h : j < 256) : strAt (.mk (.mk [0, 1, 2, 2, 3, 3, 3, 3, 4, 4, 4, 4, 4, 4, 4, 4, 5, 5, 5, 5, 5, 5, 5, 5, 5, 5, 5, 5, 5, 5, 5, 5, 6, 6, 6, 6, 6, 6, 6, 6, 6, 6, 6, 6, 6, 6, 6, 6, 6, 6, 6, 6, 6, 6, 6, 6, 6, 6, 6, 6, 6, 6, 6, 6, 7, 7, 7, 7, 7, 7, 7, 7, 7, 7, 7, 7, 7, 7, 7, 7, 7, 7, 7, 7, 7, 7, 7, 7, 7, 7, 7, 7, 7, 7, 7, 7, 7, 7, 7, 7, 7, 7, 7, 7, 7, 7, 7, 7, 7, 7, 7, 7, 7, 7, 7, 7, 7, 7, 7, 7, 7, 7, 7, 7, 7, 7, 7, 7, 8, 8, 8, 8, 8, 8, 8, 8, 8, 8, 8, 8, 8, 8, 8, 8, 8, 8, 8, 8, 8, 8, 8, 8, 8, 8, 8, 8, 8, 8, 8, 8, 8, 8, 8, 8, 8, 8, 8, 8, 8, 8, 8, 8, 8, 8, 8, 8, 8, 8, 8, 8, 8, 8, 8, 8, 8, 8, 8, 8, 8, 8, 8, 8, 8, 8, 8, 8, 8, 8, 8, 8, 8, 8, 8, 8, 8, 8, 8, 8, 8, 8, 8, 8, 8, 8, 8, 8, 8, 8, 8, 8, 8, 8, 8, 8, 8, 8, 8, 8, 8, 8, 8, 8, 8, 8, 8, 8, 8, 8, 8, 8, 8, 8, 8, 8, 8, 8, 8, 8, 8, 8, 8, 8, 8, 8, 8, 8])) j = (bl j : Int) := by
  have : ∀ x : Fin 256, strAt (.mk (.mk [0, 1, 2, 2, 3, 3, 3, 3, 4, 4, 4, 4, 4, 4, 4, 4, 5, 5, 5, 5, 5, 5, 5, 5, 5, 5, 5, 5, 5, 5, 5, 5, 6, 6, 6, 6, 6, 6, 6, 6, 6, 6, 6, 6, 6, 6, 6, 6, 6, 6, 6, 6, 6, 6, 6, 6, 6, 6, 6, 6, 6, 6, 6, 6, 7, 7, 7, 7, 7, 7, 7, 7, 7, 7, 7, 7, 7, 7, 7, 7, 7, 7, 7, 7, 7, 7, 7, 7, 7, 7, 7, 7, 7, 7, 7, 7, 7, 7, 7, 7, 7, 7, 7, 7, 7, 7, 7, 7, 7, 7, 7, 7, 7, 7, 7, 7, 7, 7, 7, 7, 7, 7, 7, 7, 7, 7, 7, 7, 8, 8, 8, 8, 8, 8, 8, 8, 8, 8, 8, 8, 8, 8, 8, 8, 8, 8, 8, 8, 8, 8, 8, 8, 8, 8, 8, 8, 8, 8, 8, 8, 8, 8, 8, 8, 8, 8, 8, 8, 8, 8, 8, 8, 8, 8, 8, 8, 8, 8, 8, 8, 8, 8, 8, 8, 8, 8, 8, 8, 8, 8, 8, 8, 8, 8, 8, 8, 8, 8, 8, 8, 8, 8, 8, 8, 8, 8, 8, 8, 8, 8, 8, 8, 8, 8, 8, 8, 8, 8, 8, 8, 8, 8, 8, 8, 8, 8, 8, 8, 8, 8, 8, 8, 8, 8, 8, 8, 8, 8, 8, 8, 8, 8, 8, 8, 8, 8, 8, 8, 8, 8, 8, 8, 8, 8, 8, 8])) x.1 = (bl x.1 : Int) := by decide +kernel
  exact this ⟨j, h⟩
theorem bl_small {n : Nat} (h : n < 18446744073709551616) : bl n ≤ 64 := bl_le.2 h
theorem len64_spec {S : BIds} (B : BOk E S) {n : Nat} (hn : n < 18446744073709551616) : FSpec E S.len64 [.sc (.i .u64 n)] [] (fun v L' => v = .sc (.i .i64 (bl n)) ∧ L' = []) := by
  obtain ⟨fn, hf, hbk⟩ := B.len64
  refine FSpec.of hf (hbk _) fun F => ?_
  unfold glen64
  refine Tri.joinQ (fun tag l L => tag = 0 ∧ L = F ∧ ∃ x b : Nat, l = [.sc (.i .u64 x), .sc (.i .i64 b)] ∧ x < 4294967296 ∧ bl n = b + bl x ∧ b ≤ 32) ?_ ?_
  · refine Tri.cnd (fun h => ?_) (fun h => ?_)
    · have h : 4294967296 ≤ n := by simp at h; omega
      refine Tri.brT (by decide) ?_
      rw [Int.fdiv_eq_ediv_of_nonneg _ (by decide), show (n : Int) / 4294967296 = ((n / 4294967296 : Nat) : Int) by omega]
      exact Tri.ret ⟨rfl, rfl, n / 4294967296, 32, rfl, by omega, bl_div (k := 32) h, by omega⟩ (by repeat (first|exact Sub.refl _|exact Sub.nil _|(apply Sub.cons; (first|exact K0|exact K1|exact K2|exact K3|exact K4|exact K5|exact K6|exact K7|exact K8|exact K9|exact K10|exact K11))|apply Sub.skip))
    · have h : n < 4294967296 := by simp at h; omega
      exact Tri.ret ⟨rfl, rfl, n, 0, rfl, h, by omega, by omega⟩ (by repeat (first|exact Sub.refl _|exact Sub.nil _|(apply Sub.cons; (first|exact K0|exact K1|exact K2|exact K3|exact K4|exact K5|exact K6|exact K7|exact K8|exact K9|exact K10|exact K11))|apply Sub.skip))
  rintro tag l L ⟨rfl, rfl, x, b, rfl, hx, hb, hb32⟩
  unfold glen64_k0
  repeat (first|refine wa ?_|refine wb ?_|refine wc ?_|refine wd ?_|refine we ?_|refine wf ?_|refine wg ?_|refine wh rfl ?_|refine wi rfl ?_|refine wj rfl ?_|refine wk rfl ?_|refine wl rfl ?_|refine wm (by decide) ?_|refine wr ?_|refine ws ?_|refine wt ?_|refine hdec _ _ _ _ ?_|refine hd _ _ _ _ ?_|(apply Tri.ldE; (first|exact K0|exact K1|exact K2|exact K3|exact K4|exact K5|exact K6|exact K7|exact K8|exact K9|exact K10|exact K11); (exact rfl); (exact wz rfl))|(apply Tri.stE; (first|exact K0|exact K1|exact K2|exact K3|exact K4|exact K5|exact K6|exact K7|exact K8|exact K9|exact K10|exact K11); (exact rfl); (exact wz rfl))|(apply Tri.same; (first|exact K0|exact K1|exact K2|exact K3|exact K4|exact K5|exact K6|exact K7|exact K8|exact K9|exact K10|exact K11); (exact rfl); (exact wz rfl))|refine wq fun _ => ?_)
  refine Tri.joinQ (fun tag l L' => tag = 0 ∧ L' = L ∧ ∃ x b : Nat, l = [.sc (.i .u64 x), .sc (.i .i64 b)] ∧ x < 65536 ∧ bl n = b + bl x ∧ b ≤ 48) ?_ ?_
  · refine Tri.cnd (fun h => ?_) (fun h => ?_)
    · have h : 65536 ≤ x := by simp at h; omega
      refine Tri.brT (by decide) ?_
      rw [Int.fdiv_eq_ediv_of_nonneg _ (by decide), show (x : Int) / 65536 = ((x / 65536 : Nat) : Int) by omega, wr_i64 (by omega) (by omega), show (b : Int) + 16 = ((b + 16 : Nat) : Int) by omega]
      exact Tri.ret ⟨rfl, rfl, x / 65536, b + 16, rfl, by omega, by rw [hb, bl_div16 h]; omega, by omega⟩ (by repeat (first|exact Sub.refl _|exact Sub.nil _|(apply Sub.cons; (first|exact K0|exact K1|exact K2|exact K3|exact K4|exact K5|exact K6|exact K7|exact K8|exact K9|exact K10|exact K11))|apply Sub.skip))
    · have h : x < 65536 := by simp at h; omega
      exact Tri.ret ⟨rfl, rfl, x, b, rfl, h, hb, by omega⟩ (by repeat (first|exact Sub.refl _|exact Sub.nil _|(apply Sub.cons; (first|exact K0|exact K1|exact K2|exact K3|exact K4|exact K5|exact K6|exact K7|exact K8|exact K9|exact K10|exact K11))|apply Sub.skip))
  clear hx hb hb32
  rintro tag l L' ⟨rfl, rfl, x, b, rfl, hx, hb, hb48⟩
  have hs := bl_small hn
  unfold glen64_k5
  repeat (first|refine wa ?_|refine wb ?_|refine wc ?_|refine wd ?_|refine we ?_|refine wf ?_|refine wg ?_|refine wh rfl ?_|refine wi rfl ?_|refine wj rfl ?_|refine wk rfl ?_|refine wl rfl ?_|refine wm (by decide) ?_|refine wr ?_|refine ws ?_|refine wt ?_|refine hdec _ _ _ _ ?_|refine hd _ _ _ _ ?_|(apply Tri.ldE; (first|exact K0|exact K1|exact K2|exact K3|exact K4|exact K5|exact K6|exact K7|exact K8|exact K9|exact K10|exact K11); (exact rfl); (exact wz rfl))|(apply Tri.stE; (first|exact K0|exact K1|exact K2|exact K3|exact K4|exact K5|exact K6|exact K7|exact K8|exact K9|exact K10|exact K11); (exact rfl); (exact wz rfl))|(apply Tri.same; (first|exact K0|exact K1|exact K2|exact K3|exact K4|exact K5|exact K6|exact K7|exact K8|exact K9|exact K10|exact K11); (exact rfl); (exact wz rfl))|refine wq fun _ => ?_)
  refine Tri.cnd (fun h => ?_) (fun h => ?_)
  · have h : 256 ≤ x := by simp at h; omega
    refine Tri.brT (by decide) ?_
    rw [Int.fdiv_eq_ediv_of_nonneg _ (by decide), show (x : Int) / 256 = ((x / 256 : Nat) : Int) by omega, wr_u8 (by omega) (by omega)]
    refine Tri.brT (by simp; omega) ?_
    have hbl := bl_div8 h
    rw [Int.toNat_natCast, tab_eq (by omega), wr_i64 (n := (b : Int) + 8) (by omega) (by omega), wr_i64 (n := (bl (x / 256) : Int)) (by omega) (by omega), wr_i64 (by omega) (by omega)]
    refine Tri.retF ⟨?_, rfl⟩ (by repeat (first|exact Sub.refl _|exact Sub.nil _|(apply Sub.cons; (first|exact K0|exact K1|exact K2|exact K3|exact K4|exact K5|exact K6|exact K7|exact K8|exact K9|exact K10|exact K11))|apply Sub.skip))
    rw [hb, hbl]
    congr 3; omega
  · have h : x < 256 := by simp at h; omega
    rw [wr_u8 (n := (x : Int)) (by omega) (by omega)]
    refine Tri.brT (by simp; omega) ?_
    rw [Int.toNat_natCast, tab_eq h, wr_i64 (n := (bl x : Int)) (by omega) (by omega), wr_i64 (by omega) (by omega)]
    refine Tri.retF ⟨?_, rfl⟩ (by repeat (first|exact Sub.refl _|exact Sub.nil _|(apply Sub.cons; (first|exact K0|exact K1|exact K2|exact K3|exact K4|exact K5|exact K6|exact K7|exact K8|exact K9|exact K10|exact K11))|apply Sub.skip))
    rw [hb]
    congr 3
theorem blen_spec {S : BIds} (B : BOk E S) {n : Nat} (hn : n < 18446744073709551616) : FSpec E S.blen [.sc (.i .u64 n)] [] (fun v L' => v = .sc (.i .i64 (bl n)) ∧ L' = []) := by
  obtain ⟨fn, hf, hbk⟩ := B.blen
  refine FSpec.of hf (hbk _) fun F => ?_
  unfold gblen
  refine Tri.call (len64_spec B hn) (by repeat (first|exact Picks.nil|(apply Picks.cons; (first|exact K0|exact K1|exact K2|exact K3|exact K4|exact K5|exact K6|exact K7|exact K8|exact K9|exact K10|exact K11)))) ?_
  rintro v L' ⟨rfl, rfl⟩
  simp only [List.cons_append, List.nil_append]
  repeat (first|refine wa ?_|refine wb ?_|refine wc ?_|refine wd ?_|refine we ?_|refine wf ?_|refine wg ?_|refine wh rfl ?_|refine wi rfl ?_|refine wj rfl ?_|refine wk rfl ?_|refine wl rfl ?_|refine wm (by decide) ?_|refine wr ?_|refine ws ?_|refine wt ?_|refine hdec _ _ _ _ ?_|refine hd _ _ _ _ ?_|refine wn ?_|refine wo ?_|refine wp (by decide) ?_|(apply Tri.ldE; (first|exact K0|exact K1|exact K2|exact K3|exact K4|exact K5|exact K6|exact K7|exact K8|exact K9|exact K10|exact K11); (exact rfl); (exact wz rfl))|(apply Tri.stE; (first|exact K0|exact K1|exact K2|exact K3|exact K4|exact K5|exact K6|exact K7|exact K8|exact K9|exact K10|exact K11); (exact rfl); (exact wz rfl))|(apply Tri.same; (first|exact K0|exact K1|exact K2|exact K3|exact K4|exact K5|exact K6|exact K7|exact K8|exact K9|exact K10|exact K11); (exact rfl); (exact wz rfl))|refine wq fun _ => ?_)
  exact Tri.retF ⟨rfl, rfl⟩ (by repeat (first|exact Sub.refl _|exact Sub.nil _|(apply Sub.cons; (first|exact K0|exact K1|exact K2|exact K3|exact K4|exact K5|exact K6|exact K7|exact K8|exact K9|exact K10|exact K11))|apply Sub.skip))
theorem bl_double {k b : Nat} (hk : 0 < k) (hb : b ≤ 1) : bl (2 * k + b) = bl k + 1 := by
  have := bl_div (n := 2 * k + b) (k := 1) (by omega)
  rw [this, show (2 * k + b) / 2 ^ 1 = k by omega]; omega
theorem bl_mono {a b : Nat} (h : a ≤ b) : bl a ≤ bl b := bl_le.2 (Nat.lt_of_le_of_lt h (bl_le.1 (Nat.le_refl _)))
theorem filter_none {α : Type} {p : α → Bool} {D : List α} (h : ∀ x ∈ D, p x = false) : D.filter (fun x => !p x) = D := List.filter_eq_self.2 fun x hx => by simp [h x hx]

theorem idxF_spec {D : DIds} (B : DOk E z dec zs D) (el : ElOk E T z dec zs) {o : Option SlD} {l : List α} {g : FuncId} {f c : List (Nat × Nat)} {K : Assn} {p : α → Bool} (hp : IsPred E T g f c K p) (hl : l.length ≤ 1000) :
    FSpec E D.idxF [.sc (.sl o), .sc (.fn g f c)] [.sl false T o l, K]
      (fun v L' => L' = [.sl false T o l, K] ∧ ((v = .sc (.i .i64 (-1)) ∧ ∀ x ∈ l, p x = false) ∨ ∃ D x R, l = D ++ x :: R ∧ (∀ y ∈ D, p y = false) ∧ p x = true ∧ v = .sc (.i .i64 D.length))) := by
  have hd := el.hd
  have hz := el.hz
  have hzs := el.hzs
  subst hz
  obtain ⟨fn, hf, hbk⟩ := B.idxF
  refine FSpec.of hf (hbk _ _ _ _) fun F => ?_
  unfold gidxF
  simp only [List.cons_append, List.nil_append]
  refine Tri.slLen (l := l) (o := o) (ro := false) (T := T) (by first|exact K0|exact K1|exact K2|exact K3|exact K4|exact K5|exact K6|exact K7|exact K8|exact K9|exact K10|exact K11) fun e1 e2 => ?_
  rw [e2]
  refine Tri.loop (I := fun k l' L => ∃ (D R : List α), k = R.length ∧ l = D ++ R ∧ (∀ y ∈ D, p y = false) ∧
    l' = [.sc (.sl o), .sc (.fn g f c), .sc (.i .i64 l.length), .sc (.i .i64 D.length)] ∧ L = .sl false T o l :: K :: F) ⟨[], l, rfl, rfl, by simp, rfl, rfl⟩ (Sub.refl _) ?_
  rintro k l' L ⟨D, R, rfl, rfl, hD, rfl, rfl⟩
  repeat (first|refine wa ?_|refine wb ?_|refine wc ?_|refine wd ?_|refine we ?_|refine wf ?_|refine wg ?_|refine wh rfl ?_|refine wi rfl ?_|refine wj rfl ?_|refine wk rfl ?_|refine wl rfl ?_|refine wm (by decide) ?_|refine wr ?_|refine ws ?_|refine wt ?_|refine hdec _ _ _ _ ?_|refine hd _ _ _ _ ?_|refine wn ?_|refine wo ?_|refine wp (by decide) ?_|(apply Tri.ldE; (first|exact K0|exact K1|exact K2|exact K3|exact K4|exact K5|exact K6|exact K7|exact K8|exact K9|exact K10|exact K11); (exact rfl); (exact wz rfl))|(apply Tri.stE; (first|exact K0|exact K1|exact K2|exact K3|exact K4|exact K5|exact K6|exact K7|exact K8|exact K9|exact K10|exact K11); (exact rfl); (exact wz rfl))|(apply Tri.same; (first|exact K0|exact K1|exact K2|exact K3|exact K4|exact K5|exact K6|exact K7|exact K8|exact K9|exact K10|exact K11); (exact rfl); (exact wz rfl))|refine wq fun _ => ?_)
  refine Tri.cnd (fun hc => ?_) (fun hc => ?_)
  · cases R with
    | nil => simp at hc
    | cons x R =>
      simp only [List.length_append, List.length_cons] at hl
      refine Tri.ixld (T := T) (by first|exact K0|exact K1|exact K2|exact K3|exact K4|exact K5|exact K6|exact K7|exact K8|exact K9|exact K10|exact K11) rfl (by omega) (by simp; omega) fun x' hx' => ?_
      rw [Int.toNat_natCast, get_mid' rfl] at hx'; cases hx'
      repeat (first|refine wa ?_|refine wb ?_|refine wc ?_|refine wd ?_|refine we ?_|refine wf ?_|refine wg ?_|refine wh rfl ?_|refine wi rfl ?_|refine wj rfl ?_|refine wk rfl ?_|refine wl rfl ?_|refine wm (by decide) ?_|refine wr ?_|refine ws ?_|refine wt ?_|refine hdec _ _ _ _ ?_|refine hd _ _ _ _ ?_|refine wn ?_|refine wo ?_|refine wp (by decide) ?_|(apply Tri.ldE; (first|exact K0|exact K1|exact K2|exact K3|exact K4|exact K5|exact K6|exact K7|exact K8|exact K9|exact K10|exact K11); (exact rfl); (exact wz rfl))|(apply Tri.stE; (first|exact K0|exact K1|exact K2|exact K3|exact K4|exact K5|exact K6|exact K7|exact K8|exact K9|exact K10|exact K11); (exact rfl); (exact wz rfl))|(apply Tri.same; (first|exact K0|exact K1|exact K2|exact K3|exact K4|exact K5|exact K6|exact K7|exact K8|exact K9|exact K10|exact K11); (exact rfl); (exact wz rfl))|refine wq fun _ => ?_)
      refine Tri.callv rfl (hp x) (by repeat (first|exact Picks.nil|(apply Picks.cons; (first|exact K0|exact K1|exact K2|exact K3|exact K4|exact K5|exact K6|exact K7|exact K8|exact K9|exact K10|exact K11)))) ?_
      rintro v L' ⟨rfl, rfl⟩
      simp only [List.cons_append, List.nil_append]
      repeat (first|refine wa ?_|refine wb ?_|refine wc ?_|refine wd ?_|refine we ?_|refine wf ?_|refine wg ?_|refine wh rfl ?_|refine wi rfl ?_|refine wj rfl ?_|refine wk rfl ?_|refine wl rfl ?_|refine wm (by decide) ?_|refine wr ?_|refine ws ?_|refine wt ?_|refine hdec _ _ _ _ ?_|refine hd _ _ _ _ ?_|refine wn ?_|refine wo ?_|refine wp (by decide) ?_|(apply Tri.ldE; (first|exact K0|exact K1|exact K2|exact K3|exact K4|exact K5|exact K6|exact K7|exact K8|exact K9|exact K10|exact K11); (exact rfl); (exact wz rfl))|(apply Tri.stE; (first|exact K0|exact K1|exact K2|exact K3|exact K4|exact K5|exact K6|exact K7|exact K8|exact K9|exact K10|exact K11); (exact rfl); (exact wz rfl))|(apply Tri.same; (first|exact K0|exact K1|exact K2|exact K3|exact K4|exact K5|exact K6|exact K7|exact K8|exact K9|exact K10|exact K11); (exact rfl); (exact wz rfl))|refine wq fun _ => ?_)
      refine Tri.cnd (fun hk => ?_) (fun hk => ?_)
      · repeat (first|refine wa ?_|refine wb ?_|refine wc ?_|refine wd ?_|refine we ?_|refine wf ?_|refine wg ?_|refine wh rfl ?_|refine wi rfl ?_|refine wj rfl ?_|refine wk rfl ?_|refine wl rfl ?_|refine wm (by decide) ?_|refine wr ?_|refine ws ?_|refine wt ?_|refine hdec _ _ _ _ ?_|refine hd _ _ _ _ ?_|refine wn ?_|refine wo ?_|refine wp (by decide) ?_|(apply Tri.ldE; (first|exact K0|exact K1|exact K2|exact K3|exact K4|exact K5|exact K6|exact K7|exact K8|exact K9|exact K10|exact K11); (exact rfl); (exact wz rfl))|(apply Tri.stE; (first|exact K0|exact K1|exact K2|exact K3|exact K4|exact K5|exact K6|exact K7|exact K8|exact K9|exact K10|exact K11); (exact rfl); (exact wz rfl))|(apply Tri.same; (first|exact K0|exact K1|exact K2|exact K3|exact K4|exact K5|exact K6|exact K7|exact K8|exact K9|exact K10|exact K11); (exact rfl); (exact wz rfl))|refine wq fun _ => ?_)
        exact Tri.retF ⟨rfl, .inr ⟨D, x, R, rfl, hD, hk, rfl⟩⟩ (by repeat (first|exact Sub.refl _|exact Sub.nil _|(apply Sub.cons; (first|exact K0|exact K1|exact K2|exact K3|exact K4|exact K5|exact K6|exact K7|exact K8|exact K9|exact K10|exact K11))|apply Sub.skip))
      · refine Tri.back (m' := R.length) (by simp) ⟨D ++ [x], R, rfl, by simp, ?_, ?_, rfl⟩ (by repeat (first|exact Sub.refl _|exact Sub.nil _|(apply Sub.cons; (first|exact K0|exact K1|exact K2|exact K3|exact K4|exact K5|exact K6|exact K7|exact K8|exact K9|exact K10|exact K11))|apply Sub.skip))
        · intro y hy
          rcases List.mem_append.1 hy with hy | hy
          · exact hD y hy
          · simp at hy; subst hy; exact hk
        · rw [wr_i64 (by omega) (by omega)]; simp
  · have : R = [] := List.length_eq_zero_iff.1 (by simp at hc; omega)
    subst this
    repeat (first|refine wa ?_|refine wb ?_|refine wc ?_|refine wd ?_|refine we ?_|refine wf ?_|refine wg ?_|refine wh rfl ?_|refine wi rfl ?_|refine wj rfl ?_|refine wk rfl ?_|refine wl rfl ?_|refine wm (by decide) ?_|refine wr ?_|refine ws ?_|refine wt ?_|refine hdec _ _ _ _ ?_|refine hd _ _ _ _ ?_|refine wn ?_|refine wo ?_|refine wp (by decide) ?_|(apply Tri.ldE; (first|exact K0|exact K1|exact K2|exact K3|exact K4|exact K5|exact K6|exact K7|exact K8|exact K9|exact K10|exact K11); (exact rfl); (exact wz rfl))|(apply Tri.stE; (first|exact K0|exact K1|exact K2|exact K3|exact K4|exact K5|exact K6|exact K7|exact K8|exact K9|exact K10|exact K11); (exact rfl); (exact wz rfl))|(apply Tri.same; (first|exact K0|exact K1|exact K2|exact K3|exact K4|exact K5|exact K6|exact K7|exact K8|exact K9|exact K10|exact K11); (exact rfl); (exact wz rfl))|refine wq fun _ => ?_)
    exact Tri.retF ⟨rfl, .inl ⟨rfl, by simpa using hD⟩⟩ (by repeat (first|exact Sub.refl _|exact Sub.nil _|(apply Sub.cons; (first|exact K0|exact K1|exact K2|exact K3|exact K4|exact K5|exact K6|exact K7|exact K8|exact K9|exact K10|exact K11))|apply Sub.skip))

theorem delF_spec {D : DIds} (B : DOk E z dec zs D) (el : ElOk E T z dec zs) {o : Option SlD} {l : List α} {g : FuncId} {f c : List (Nat × Nat)} {K : Assn} {p : α → Bool} (hp : IsPred E T g f c K p) (hl : l.length ≤ 1000) :
    FSpec E D.delF [.sc (.sl o), .sc (.fn g f c)] [.sl false T o l, K] (fun v L' => ∃ o', v = .sc (.sl o') ∧ L' = [.sl false T o' (l.filter fun x => !p x), K]) := by
  have hd := el.hd
  have hz := el.hz
  have hzs := el.hzs
  subst hz
  obtain ⟨fn, hf, hbk⟩ := B.delF
  refine FSpec.of hf (hbk _ _ _ _) fun F => ?_
  unfold gdelF
  simp only [List.cons_append, List.nil_append]
  refine Tri.call (idxF_spec B el hp hl) (by repeat (first|exact Picks.nil|(apply Picks.cons; (first|exact K0|exact K1|exact K2|exact K3|exact K4|exact K5|exact K6|exact K7|exact K8|exact K9|exact K10|exact K11)))) ?_
  rintro v L' ⟨rfl, ⟨rfl, hno⟩ | ⟨D, x, R, rfl, hD, hx, rfl⟩⟩
  · simp only [List.cons_append, List.nil_append]
    repeat (first|refine wa ?_|refine wb ?_|refine wc ?_|refine wd ?_|refine we ?_|refine wf ?_|refine wg ?_|refine wh rfl ?_|refine wi rfl ?_|refine wj rfl ?_|refine wk rfl ?_|refine wl rfl ?_|refine wm (by decide) ?_|refine wr ?_|refine ws ?_|refine wt ?_|refine hdec _ _ _ _ ?_|refine hd _ _ _ _ ?_|refine wn ?_|refine wo ?_|refine wp (by decide) ?_|(apply Tri.ldE; (first|exact K0|exact K1|exact K2|exact K3|exact K4|exact K5|exact K6|exact K7|exact K8|exact K9|exact K10|exact K11); (exact rfl); (exact wz rfl))|(apply Tri.stE; (first|exact K0|exact K1|exact K2|exact K3|exact K4|exact K5|exact K6|exact K7|exact K8|exact K9|exact K10|exact K11); (exact rfl); (exact wz rfl))|(apply Tri.same; (first|exact K0|exact K1|exact K2|exact K3|exact K4|exact K5|exact K6|exact K7|exact K8|exact K9|exact K10|exact K11); (exact rfl); (exact wz rfl))|refine wq fun _ => ?_)
    refine Tri.cndT rfl ?_
    rw [filter_none hno]
    exact Tri.retF ⟨o, rfl, rfl⟩ (by repeat (first|exact Sub.refl _|exact Sub.nil _|(apply Sub.cons; (first|exact K0|exact K1|exact K2|exact K3|exact K4|exact K5|exact K6|exact K7|exact K8|exact K9|exact K10|exact K11))|apply Sub.skip))
  · simp only [List.cons_append, List.nil_append]
    repeat (first|refine wa ?_|refine wb ?_|refine wc ?_|refine wd ?_|refine we ?_|refine wf ?_|refine wg ?_|refine wh rfl ?_|refine wi rfl ?_|refine wj rfl ?_|refine wk rfl ?_|refine wl rfl ?_|refine wm (by decide) ?_|refine wr ?_|refine ws ?_|refine wt ?_|refine hdec _ _ _ _ ?_|refine hd _ _ _ _ ?_|refine wn ?_|refine wo ?_|refine wp (by decide) ?_|(apply Tri.ldE; (first|exact K0|exact K1|exact K2|exact K3|exact K4|exact K5|exact K6|exact K7|exact K8|exact K9|exact K10|exact K11); (exact rfl); (exact wz rfl))|(apply Tri.stE; (first|exact K0|exact K1|exact K2|exact K3|exact K4|exact K5|exact K6|exact K7|exact K8|exact K9|exact K10|exact K11); (exact rfl); (exact wz rfl))|(apply Tri.same; (first|exact K0|exact K1|exact K2|exact K3|exact K4|exact K5|exact K6|exact K7|exact K8|exact K9|exact K10|exact K11); (exact rfl); (exact wz rfl))|refine wq fun _ => ?_)
    simp only [List.length_append, List.length_cons] at hl
    refine Tri.cndF (by simp) ?_
    have hfil : (D ++ x :: R).filter (fun x => !p x) = D ++ R.filter (fun x => !p x) := by rw [List.filter_append, filter_none hD, List.filter_cons, if_neg (by simp [hx])]
    rw [hfil]
    refine Tri.loop (I := fun k l' L => ∃ (G M Q1 R' : List α), k = R'.length ∧ D ++ R.filter (fun x => !p x) = G ++ R'.filter (fun x => !p x) ∧ 0 < M.length ∧ G.length + M.length + R'.length = D.length + 1 + R.length ∧
      l' = [.sc (.sl o), .sc (.fn g f c), .sc (.i .i64 G.length), .sc (.i .i64 ((G.length + M.length : Nat) : Int))] ∧ L = .sl false T o (G ++ M ++ R') :: K :: F)
      ⟨D, [x], [], R, rfl, rfl, by simp, by simp, by rw [wr_i64 (by omega) (by omega)]; simp, rfl⟩ (by simpa using Sub.refl _) ?_
    rintro k l' L ⟨G, M, _, R', rfl, hfin, hM, hlen, rfl, rfl⟩
    repeat (first|refine wa ?_|refine wb ?_|refine wc ?_|refine wd ?_|refine we ?_|refine wf ?_|refine wg ?_|refine wh rfl ?_|refine wi rfl ?_|refine wj rfl ?_|refine wk rfl ?_|refine wl rfl ?_|refine wm (by decide) ?_|refine wr ?_|refine ws ?_|refine wt ?_|refine hdec _ _ _ _ ?_|refine hd _ _ _ _ ?_|refine wn ?_|refine wo ?_|refine wp (by decide) ?_|(apply Tri.ldE; (first|exact K0|exact K1|exact K2|exact K3|exact K4|exact K5|exact K6|exact K7|exact K8|exact K9|exact K10|exact K11); (exact rfl); (exact wz rfl))|(apply Tri.stE; (first|exact K0|exact K1|exact K2|exact K3|exact K4|exact K5|exact K6|exact K7|exact K8|exact K9|exact K10|exact K11); (exact rfl); (exact wz rfl))|(apply Tri.same; (first|exact K0|exact K1|exact K2|exact K3|exact K4|exact K5|exact K6|exact K7|exact K8|exact K9|exact K10|exact K11); (exact rfl); (exact wz rfl))|refine wq fun _ => ?_)
    refine Tri.slLen (l := G ++ M ++ R') (o := o) (ro := false) (T := T) (by first|exact K0|exact K1|exact K2|exact K3|exact K4|exact K5|exact K6|exact K7|exact K8|exact K9|exact K10|exact K11) fun e1 e2 => ?_
    rw [e2]
    refine Tri.cnd (fun hc => ?_) (fun hc => ?_)
    · cases R' with
      | nil => simp at hc
      | cons y R' =>
        simp only [List.length_cons] at hlen
        refine Tri.ixld (T := T) (by first|exact K0|exact K1|exact K2|exact K3|exact K4|exact K5|exact K6|exact K7|exact K8|exact K9|exact K10|exact K11) rfl (by omega) (by simp; omega) fun y' hy' => ?_
        rw [Int.toNat_natCast, get_mid' (A := G ++ M) (by simp)] at hy'; cases hy'
        repeat (first|refine wa ?_|refine wb ?_|refine wc ?_|refine wd ?_|refine we ?_|refine wf ?_|refine wg ?_|refine wh rfl ?_|refine wi rfl ?_|refine wj rfl ?_|refine wk rfl ?_|refine wl rfl ?_|refine wm (by decide) ?_|refine wr ?_|refine ws ?_|refine wt ?_|refine hdec _ _ _ _ ?_|refine hd _ _ _ _ ?_|refine wn ?_|refine wo ?_|refine wp (by decide) ?_|(apply Tri.ldE; (first|exact K0|exact K1|exact K2|exact K3|exact K4|exact K5|exact K6|exact K7|exact K8|exact K9|exact K10|exact K11); (exact rfl); (exact wz rfl))|(apply Tri.stE; (first|exact K0|exact K1|exact K2|exact K3|exact K4|exact K5|exact K6|exact K7|exact K8|exact K9|exact K10|exact K11); (exact rfl); (exact wz rfl))|(apply Tri.same; (first|exact K0|exact K1|exact K2|exact K3|exact K4|exact K5|exact K6|exact K7|exact K8|exact K9|exact K10|exact K11); (exact rfl); (exact wz rfl))|refine wq fun _ => ?_)
        refine Tri.stE (c' := T.e y) (by first|exact K0|exact K1|exact K2|exact K3|exact K4|exact K5|exact K6|exact K7|exact K8|exact K9|exact K10|exact K11) (by simp [T.len, hzs]) (by simp [T.len, hzs]) ?_
        refine Tri.ldE (l := T.e y) (by first|exact K0|exact K1|exact K2|exact K3|exact K4|exact K5|exact K6|exact K7|exact K8|exact K9|exact K10|exact K11) (by simp [← T.len y]) (by simp [T.len]) ?_
        repeat (first|refine wa ?_|refine wb ?_|refine wc ?_|refine wd ?_|refine we ?_|refine wf ?_|refine wg ?_|refine wh rfl ?_|refine wi rfl ?_|refine wj rfl ?_|refine wk rfl ?_|refine wl rfl ?_|refine wm (by decide) ?_|refine wr ?_|refine ws ?_|refine wt ?_|refine hdec _ _ _ _ ?_|refine hd _ _ _ _ ?_|refine wn ?_|refine wo ?_|refine wp (by decide) ?_|(apply Tri.ldE; (first|exact K0|exact K1|exact K2|exact K3|exact K4|exact K5|exact K6|exact K7|exact K8|exact K9|exact K10|exact K11); (exact rfl); (exact wz rfl))|(apply Tri.stE; (first|exact K0|exact K1|exact K2|exact K3|exact K4|exact K5|exact K6|exact K7|exact K8|exact K9|exact K10|exact K11); (exact rfl); (exact wz rfl))|(apply Tri.same; (first|exact K0|exact K1|exact K2|exact K3|exact K4|exact K5|exact K6|exact K7|exact K8|exact K9|exact K10|exact K11); (exact rfl); (exact wz rfl))|refine wq fun _ => ?_)
        refine Tri.callv rfl (hp y) (by repeat (first|exact Picks.nil|(apply Picks.cons; (first|exact K0|exact K1|exact K2|exact K3|exact K4|exact K5|exact K6|exact K7|exact K8|exact K9|exact K10|exact K11)))) ?_
        rintro v L' ⟨rfl, rfl⟩
        simp only [List.cons_append, List.nil_append]
        repeat (first|refine wa ?_|refine wb ?_|refine wc ?_|refine wd ?_|refine we ?_|refine wf ?_|refine wg ?_|refine wh rfl ?_|refine wi rfl ?_|refine wj rfl ?_|refine wk rfl ?_|refine wl rfl ?_|refine wm (by decide) ?_|refine wr ?_|refine ws ?_|refine wt ?_|refine hdec _ _ _ _ ?_|refine hd _ _ _ _ ?_|refine wn ?_|refine wo ?_|refine wp (by decide) ?_|(apply Tri.ldE; (first|exact K0|exact K1|exact K2|exact K3|exact K4|exact K5|exact K6|exact K7|exact K8|exact K9|exact K10|exact K11); (exact rfl); (exact wz rfl))|(apply Tri.stE; (first|exact K0|exact K1|exact K2|exact K3|exact K4|exact K5|exact K6|exact K7|exact K8|exact K9|exact K10|exact K11); (exact rfl); (exact wz rfl))|(apply Tri.same; (first|exact K0|exact K1|exact K2|exact K3|exact K4|exact K5|exact K6|exact K7|exact K8|exact K9|exact K10|exact K11); (exact rfl); (exact wz rfl))|refine wq fun _ => ?_)
        refine Tri.cnd (fun hk => ?_) (fun hk => ?_)
        · refine Tri.ldE (l := T.e y) (by first|exact K0|exact K1|exact K2|exact K3|exact K4|exact K5|exact K6|exact K7|exact K8|exact K9|exact K10|exact K11) (by simp [← T.len y]) (by simp [T.len]) ?_
          repeat (first|refine wa ?_|refine wb ?_|refine wc ?_|refine wd ?_|refine we ?_|refine wf ?_|refine wg ?_|refine wh rfl ?_|refine wi rfl ?_|refine wj rfl ?_|refine wk rfl ?_|refine wl rfl ?_|refine wm (by decide) ?_|refine wr ?_|refine ws ?_|refine wt ?_|refine hdec _ _ _ _ ?_|refine hd _ _ _ _ ?_|refine wn ?_|refine wo ?_|refine wp (by decide) ?_|(apply Tri.ldE; (first|exact K0|exact K1|exact K2|exact K3|exact K4|exact K5|exact K6|exact K7|exact K8|exact K9|exact K10|exact K11); (exact rfl); (exact wz rfl))|(apply Tri.stE; (first|exact K0|exact K1|exact K2|exact K3|exact K4|exact K5|exact K6|exact K7|exact K8|exact K9|exact K10|exact K11); (exact rfl); (exact wz rfl))|(apply Tri.same; (first|exact K0|exact K1|exact K2|exact K3|exact K4|exact K5|exact K6|exact K7|exact K8|exact K9|exact K10|exact K11); (exact rfl); (exact wz rfl))|refine wq fun _ => ?_)
          obtain ⟨z, M', rfl⟩ : ∃ z M', M = z :: M' := by
            cases M with
            | nil => simp at hM
            | cons z M' => exact ⟨z, M', rfl⟩
          refine Tri.ixst (T := T) y (by first|exact K0|exact K1|exact K2|exact K3|exact K4|exact K5|exact K6|exact K7|exact K8|exact K9|exact K10|exact K11) rfl (by omega) (by simp; omega) rfl ?_
          rw [Int.toNat_natCast, show G ++ z :: M' ++ y :: R' = G ++ z :: (M' ++ y :: R') by simp, set_mid' rfl]
          refine Tri.back (m' := R'.length) (by simp) ⟨G ++ [y], M' ++ [y], [], R', rfl, ?_, by simp, by simp at hlen ⊢; omega, ?_, rfl⟩ (by simpa using (by repeat (first|exact Sub.refl _|exact Sub.nil _|(apply Sub.cons; (first|exact K0|exact K1|exact K2|exact K3|exact K4|exact K5|exact K6|exact K7|exact K8|exact K9|exact K10|exact K11))|apply Sub.skip)))
          · rw [hfin, List.filter_cons, if_pos hk]; simp
          · rw [wr_i64 (by simp at hlen ⊢; omega) (by simp at hlen ⊢; omega), wr_i64 (by simp at hlen ⊢; omega) (by simp at hlen ⊢; omega)]
            rw [show (G.length : Int) + 1 = ((G ++ [y]).length : Nat) by simp, show ((G.length + (z :: M').length : Nat) : Int) + 1 = (((G ++ [y]).length + (M' ++ [y]).length : Nat) : Int) by simp; omega]
        · refine Tri.back (m' := R'.length) (by simp) ⟨G, M ++ [y], [], R', rfl, ?_, by simp, by simp; omega, ?_, rfl⟩ (by simpa using (by repeat (first|exact Sub.refl _|exact Sub.nil _|(apply Sub.cons; (first|exact K0|exact K1|exact K2|exact K3|exact K4|exact K5|exact K6|exact K7|exact K8|exact K9|exact K10|exact K11))|apply Sub.skip)))
          · rw [hfin, List.filter_cons, if_neg (by simpa using hk)]
          · rw [wr_i64 (by omega) (by omega)]
            simp only [List.length_append, List.length_cons, List.length_nil]
            congr 5
    · have hc : R' = [] := List.length_eq_zero_iff.1 (by simp at hc; omega)
      subst hc
      repeat (first|refine wa ?_|refine wb ?_|refine wc ?_|refine wd ?_|refine we ?_|refine wf ?_|refine wg ?_|refine wh rfl ?_|refine wi rfl ?_|refine wj rfl ?_|refine wk rfl ?_|refine wl rfl ?_|refine wm (by decide) ?_|refine wr ?_|refine ws ?_|refine wt ?_|refine hdec _ _ _ _ ?_|refine hd _ _ _ _ ?_|refine wn ?_|refine wo ?_|refine wp (by decide) ?_|(apply Tri.ldE; (first|exact K0|exact K1|exact K2|exact K3|exact K4|exact K5|exact K6|exact K7|exact K8|exact K9|exact K10|exact K11); (exact rfl); (exact wz rfl))|(apply Tri.stE; (first|exact K0|exact K1|exact K2|exact K3|exact K4|exact K5|exact K6|exact K7|exact K8|exact K9|exact K10|exact K11); (exact rfl); (exact wz rfl))|(apply Tri.same; (first|exact K0|exact K1|exact K2|exact K3|exact K4|exact K5|exact K6|exact K7|exact K8|exact K9|exact K10|exact K11); (exact rfl); (exact wz rfl))|refine wq fun _ => ?_)
      rw [List.append_nil]
      refine clear_tri (T := T) (z := T.z) (by first|exact K0|exact K1|exact K2|exact K3|exact K4|exact K5|exact K6|exact K7|exact K8|exact K9|exact K10|exact K11) rfl hzs rfl fun o' => ?_
      simp only [List.filter_nil, List.append_nil] at hfin
      rw [hfin]
      exact Tri.retF ⟨o', rfl, rfl⟩ (by repeat (first|exact Sub.refl _|exact Sub.nil _|(apply Sub.cons; (first|exact K0|exact K1|exact K2|exact K3|exact K4|exact K5|exact K6|exact K7|exact K8|exact K9|exact K10|exact K11))|apply Sub.skip))

/-! cmp.Or -/
def i64E : Enc Int where
  z := 1
  e n := [.i .i64 n]
  len _ := rfl
def orI (l : List Int) : Int := (l.find? (· != 0)).getD 0
theorem or_spec {S : BIds} (B : BOk E S) {o : Option SlD} {l : List Int} (hl : l.length ≤ 1000) : FSpec E S.or_ [.sc (.sl o)] [.sl false i64E o l] (fun v L' => v = .sc (.i .i64 (orI l)) ∧ L' = [.sl false i64E o l]) := by
  obtain ⟨fn, hf, hbk⟩ := B.or_
  refine FSpec.of hf (hbk _) fun F => ?_
  unfold gor_
  refine Tri.slLen (l := l) (o := o) (ro := false) (T := i64E) (by first|exact K0|exact K1|exact K2|exact K3|exact K4|exact K5|exact K6|exact K7|exact K8|exact K9|exact K10|exact K11) fun e1 e2 => ?_
  rw [e2]
  refine Tri.loop (I := fun m l' L => ∃ (D R : List Int), m = R.length ∧ l = D ++ R ∧ (∀ y ∈ D, y = 0) ∧
    l' = [.sc (.i .i64 0), .sc (.sl o), .sc (.i .i64 l.length), .sc (.i .i64 D.length)] ∧ L = .sl false i64E o l :: F) ⟨[], l, rfl, rfl, by simp, rfl, rfl⟩ (Sub.refl _) ?_
  rintro m l' L ⟨D, R, rfl, rfl, hD, rfl, rfl⟩
  repeat (first|refine wa ?_|refine wb ?_|refine wc ?_|refine wd ?_|refine we ?_|refine wf ?_|refine wg ?_|refine wh rfl ?_|refine wi rfl ?_|refine wj rfl ?_|refine wk rfl ?_|refine wl rfl ?_|refine wm (by decide) ?_|refine wr ?_|refine ws ?_|refine wt ?_|refine hdec _ _ _ _ ?_|refine hd _ _ _ _ ?_|refine wn ?_|refine wo ?_|refine wp (by decide) ?_|(apply Tri.ldE; (first|exact K0|exact K1|exact K2|exact K3|exact K4|exact K5|exact K6|exact K7|exact K8|exact K9|exact K10|exact K11); (exact rfl); (exact wz rfl))|(apply Tri.stE; (first|exact K0|exact K1|exact K2|exact K3|exact K4|exact K5|exact K6|exact K7|exact K8|exact K9|exact K10|exact K11); (exact rfl); (exact wz rfl))|(apply Tri.same; (first|exact K0|exact K1|exact K2|exact K3|exact K4|exact K5|exact K6|exact K7|exact K8|exact K9|exact K10|exact K11); (exact rfl); (exact wz rfl))|refine wq fun _ => ?_)
  refine Tri.cnd (fun hc => ?_) (fun hc => ?_)
  · cases R with
    | nil => simp at hc
    | cons x R =>
      simp only [List.length_append, List.length_cons] at hl
      refine Tri.ixld (T := i64E) (by first|exact K0|exact K1|exact K2|exact K3|exact K4|exact K5|exact K6|exact K7|exact K8|exact K9|exact K10|exact K11) rfl (by omega) (by simp; omega) fun x' hx' => ?_
      rw [Int.toNat_natCast, get_mid' rfl] at hx'; cases hx'
      repeat (first|refine wa ?_|refine wb ?_|refine wc ?_|refine wd ?_|refine we ?_|refine wf ?_|refine wg ?_|refine wh rfl ?_|refine wi rfl ?_|refine wj rfl ?_|refine wk rfl ?_|refine wl rfl ?_|refine wm (by decide) ?_|refine wr ?_|refine ws ?_|refine wt ?_|refine hdec _ _ _ _ ?_|refine hd _ _ _ _ ?_|refine wn ?_|refine wo ?_|refine wp (by decide) ?_|(apply Tri.ldE; (first|exact K0|exact K1|exact K2|exact K3|exact K4|exact K5|exact K6|exact K7|exact K8|exact K9|exact K10|exact K11); (exact rfl); (exact wz rfl))|(apply Tri.stE; (first|exact K0|exact K1|exact K2|exact K3|exact K4|exact K5|exact K6|exact K7|exact K8|exact K9|exact K10|exact K11); (exact rfl); (exact wz rfl))|(apply Tri.same; (first|exact K0|exact K1|exact K2|exact K3|exact K4|exact K5|exact K6|exact K7|exact K8|exact K9|exact K10|exact K11); (exact rfl); (exact wz rfl))|refine wq fun _ => ?_)
      have hno : D.find? (· != 0) = none := List.find?_eq_none.2 fun y hy => by simp [hD y hy]
      refine Tri.cnd (fun hk => ?_) (fun hk => ?_)
      · repeat (first|refine wa ?_|refine wb ?_|refine wc ?_|refine wd ?_|refine we ?_|refine wf ?_|refine wg ?_|refine wh rfl ?_|refine wi rfl ?_|refine wj rfl ?_|refine wk rfl ?_|refine wl rfl ?_|refine wm (by decide) ?_|refine wr ?_|refine ws ?_|refine wt ?_|refine hdec _ _ _ _ ?_|refine hd _ _ _ _ ?_|refine wn ?_|refine wo ?_|refine wp (by decide) ?_|(apply Tri.ldE; (first|exact K0|exact K1|exact K2|exact K3|exact K4|exact K5|exact K6|exact K7|exact K8|exact K9|exact K10|exact K11); (exact rfl); (exact wz rfl))|(apply Tri.stE; (first|exact K0|exact K1|exact K2|exact K3|exact K4|exact K5|exact K6|exact K7|exact K8|exact K9|exact K10|exact K11); (exact rfl); (exact wz rfl))|(apply Tri.same; (first|exact K0|exact K1|exact K2|exact K3|exact K4|exact K5|exact K6|exact K7|exact K8|exact K9|exact K10|exact K11); (exact rfl); (exact wz rfl))|refine wq fun _ => ?_)
        exact Tri.retF ⟨by unfold orI; rw [List.find?_append, hno, List.find?_cons, hk]; rfl, rfl⟩ (by repeat (first|exact Sub.refl _|exact Sub.nil _|(apply Sub.cons; (first|exact K0|exact K1|exact K2|exact K3|exact K4|exact K5|exact K6|exact K7|exact K8|exact K9|exact K10|exact K11))|apply Sub.skip))
      · have hk : x = 0 := by simpa using hk
        subst hk
        refine Tri.back (m' := R.length) (by simp) ⟨D ++ [0], R, rfl, by simp, ?_, ?_, rfl⟩ (by repeat (first|exact Sub.refl _|exact Sub.nil _|(apply Sub.cons; (first|exact K0|exact K1|exact K2|exact K3|exact K4|exact K5|exact K6|exact K7|exact K8|exact K9|exact K10|exact K11))|apply Sub.skip))
        · intro y hy
          rcases List.mem_append.1 hy with hy | hy
          · exact hD y hy
          · simpa using hy
        · rw [wr_i64 (by omega) (by omega)]; simp
  · have : R = [] := List.length_eq_zero_iff.1 (by simp at hc; omega)
    subst this
    repeat (first|refine wa ?_|refine wb ?_|refine wc ?_|refine wd ?_|refine we ?_|refine wf ?_|refine wg ?_|refine wh rfl ?_|refine wi rfl ?_|refine wj rfl ?_|refine wk rfl ?_|refine wl rfl ?_|refine wm (by decide) ?_|refine wr ?_|refine ws ?_|refine wt ?_|refine hdec _ _ _ _ ?_|refine hd _ _ _ _ ?_|refine wn ?_|refine wo ?_|refine wp (by decide) ?_|(apply Tri.ldE; (first|exact K0|exact K1|exact K2|exact K3|exact K4|exact K5|exact K6|exact K7|exact K8|exact K9|exact K10|exact K11); (exact rfl); (exact wz rfl))|(apply Tri.stE; (first|exact K0|exact K1|exact K2|exact K3|exact K4|exact K5|exact K6|exact K7|exact K8|exact K9|exact K10|exact K11); (exact rfl); (exact wz rfl))|(apply Tri.same; (first|exact K0|exact K1|exact K2|exact K3|exact K4|exact K5|exact K6|exact K7|exact K8|exact K9|exact K10|exact K11); (exact rfl); (exact wz rfl))|refine wq fun _ => ?_)
    have hno : D.find? (· != 0) = none := List.find?_eq_none.2 fun y hy => by simp [hD y hy]
    rw [List.append_nil]
    exact Tri.retF ⟨by unfold orI; rw [hno]; rfl, rfl⟩ (by repeat (first|exact Sub.refl _|exact Sub.nil _|(apply Sub.cons; (first|exact K0|exact K1|exact K2|exact K3|exact K4|exact K5|exact K6|exact K7|exact K8|exact K9|exact K10|exact K11))|apply Sub.skip))
def cmpI (x y : Int) : Int := if x < y then -1 else if y < x then 1 else 0
theorem cmpI_neg {x y : Int} : cmpI x y < 0 ↔ x < y := by
  unfold cmpI; split
  · simp; assumption
  · split <;> simp <;> omega
theorem cmpI_zero {x y : Int} : cmpI x y = 0 ↔ x = y := by
  unfold cmpI; split
  · simp; omega
  · split <;> simp <;> omega
theorem ins_spec (B : SOk E z dec zs S) (el : ElOk E T z dec zs) {o : Option SlD} {l : List α} {a b : Nat} {g : FuncId} {f c : List (Nat × Nat)} {lt : α → α → Prop} (hcmp : IsCmp E T g f c lt) (ho : Ord lt) (hab : a ≤ b) (hb : b ≤ l.length)
    (hl : l.length ≤ 1000) : FSpec E S.ins [.sc (.sl o), .sc (.i .i64 a), .sc (.i .i64 b), .sc (.fn g f c)] [.sl false T o l]
    (fun v L' => ∃ l', v = .tu [] ∧ L' = [.sl false T o l'] ∧ Rng a b l l' ∧ Inc lt a b l') := by
  have hd := el.hd
  have hz := el.hz
  subst hz
  obtain ⟨fn, hf, hbk⟩ := B.ins
  refine FSpec.of hf (hbk _ _ _ _ _ _) fun F => ?_
  unfold gins
  rw [show IntKind.wrap .i64 ((a : Int) + 1) = ((a + 1 : Nat) : Int) by rw [wr_i64 (by omega) (by omega)]; omega]
  refine Tri.loop (I := fun m l' L => ∃ (i : Nat) (l1 : List α), m = b - i ∧ a < i ∧ Rng a b l l1 ∧ Inc lt a i l1 ∧
    l' = [.sc (.sl o), .sc (.i .i64 a), .sc (.i .i64 b), .sc (.fn g f c), .sc (.i .i64 i)] ∧ L = .sl false T o l1 :: F)
    (m := b - (a + 1)) (L0 := .sl false T o l :: F) ⟨a + 1, l, rfl, by omega, Rng.refl _ _ _, (fun p q x y h1 h2 h3 => by omega), rfl, rfl⟩ (Sub.refl _) ?_
  rintro m l' L ⟨i, l1, rfl, hi, hr, hinc, rfl, rfl⟩
  repeat (first|refine wa ?_|refine wb ?_|refine wc ?_|refine wd ?_|refine we ?_|refine wf ?_|refine wg ?_|refine wh rfl ?_|refine wi rfl ?_|refine wj rfl ?_|refine wk rfl ?_|refine wl rfl ?_|refine wm (by decide) ?_|refine wr ?_|refine ws ?_|refine wt ?_|refine hdec _ _ _ _ ?_|refine hd _ _ _ _ ?_|refine wn ?_|refine wo ?_|refine wp (by decide) ?_|(apply Tri.ldE; (first|exact K0|exact K1|exact K2|exact K3|exact K4|exact K5|exact K6|exact K7|exact K8|exact K9|exact K10|exact K11); (exact rfl); (exact wz rfl))|(apply Tri.stE; (first|exact K0|exact K1|exact K2|exact K3|exact K4|exact K5|exact K6|exact K7|exact K8|exact K9|exact K10|exact K11); (exact rfl); (exact wz rfl))|(apply Tri.same; (first|exact K0|exact K1|exact K2|exact K3|exact K4|exact K5|exact K6|exact K7|exact K8|exact K9|exact K10|exact K11); (exact rfl); (exact wz rfl))|refine wq fun _ => ?_)
  refine Tri.cnd (fun hc => ?_) (fun hc => ?_)
  · have hc : i < b := by simp at hc; omega
    refine Tri.loop (I := fun m l' L => ∃ (j : Nat) (l2 : List α), m = j - a ∧ a ≤ j ∧ j ≤ i ∧ Rng a b l l2 ∧ Ins lt a i j l2 ∧
      l' = [.sc (.sl o), .sc (.i .i64 a), .sc (.i .i64 b), .sc (.fn g f c), .sc (.i .i64 i), .sc (.i .i64 j)] ∧ L = .sl false T o l2 :: F)
      (m := i - a) ⟨i, l1, rfl, by omega, by omega, hr, Ins.start hinc, rfl, rfl⟩ (Sub.refl _) ?_
    rintro m l' L ⟨j, l2, rfl, haj, hji, hr2, hins, rfl, rfl⟩
    have hlen := hr2.len
    have outer : (j = a ∨ ∀ x y, l2[j]? = some x → l2[j - 1]? = some y → ¬ lt x y) → ∀ t : Tree, t = .ret 0 [.sc (.sl o), .sc (.i .i64 a), .sc (.i .i64 b), .sc (.fn g f c), .sc (.i .i64 (IntKind.wrap .i64 ((i : Int) + 1)))] → ∀ Q : Post,
        Q = (LQ E (fun m l' L => ∃ (i : Nat) (l1 : List α), m = b - i ∧ a < i ∧ Rng a b l l1 ∧ Inc lt a i l1 ∧
          l' = [.sc (.sl o), .sc (.i .i64 a), .sc (.i .i64 b), .sc (.fn g f c), .sc (.i .i64 i)] ∧ L = .sl false T o l1 :: F) (b - i)
          (gins_k0 T.z dec zs S) (RQ F fun v L' => ∃ l', v = .tu [] ∧ L' = [.sl false T o l'] ∧ Rng a b l l' ∧ Inc lt a b l')) →
        Tri E (.sl false T o l2 :: F) t Q := by
      rintro h1 t rfl Q rfl
      refine Tri.back (m' := b - (i + 1)) (by omega) ⟨i + 1, l2, rfl, by omega, hr2, hins.done ho haj hji (by omega) h1, ?_, rfl⟩ (Sub.refl _)
      rw [wr_i64 (by omega) (by omega)]; rfl
    repeat (first|refine wa ?_|refine wb ?_|refine wc ?_|refine wd ?_|refine we ?_|refine wf ?_|refine wg ?_|refine wh rfl ?_|refine wi rfl ?_|refine wj rfl ?_|refine wk rfl ?_|refine wl rfl ?_|refine wm (by decide) ?_|refine wr ?_|refine ws ?_|refine wt ?_|refine hdec _ _ _ _ ?_|refine hd _ _ _ _ ?_|refine wn ?_|refine wo ?_|refine wp (by decide) ?_|(apply Tri.ldE; (first|exact K0|exact K1|exact K2|exact K3|exact K4|exact K5|exact K6|exact K7|exact K8|exact K9|exact K10|exact K11); (exact rfl); (exact wz rfl))|(apply Tri.stE; (first|exact K0|exact K1|exact K2|exact K3|exact K4|exact K5|exact K6|exact K7|exact K8|exact K9|exact K10|exact K11); (exact rfl); (exact wz rfl))|(apply Tri.same; (first|exact K0|exact K1|exact K2|exact K3|exact K4|exact K5|exact K6|exact K7|exact K8|exact K9|exact K10|exact K11); (exact rfl); (exact wz rfl))|refine wq fun _ => ?_)
    refine Tri.cnd (fun hj => ?_) (fun hj => ?_)
    · have hj : a < j := by simp at hj; omega
      have ew : IntKind.wrap .i64 ((j : Int) - 1) = ((j - 1 : Nat) : Int) := by rw [wr_i64 (by omega) (by omega)]; omega
      rw [ew]
      refine Tri.ixld (T := T) (by first|exact K0|exact K1|exact K2|exact K3|exact K4|exact K5|exact K6|exact K7|exact K8|exact K9|exact K10|exact K11) rfl (by omega) (by omega) fun x hx => ?_
      rw [Int.toNat_natCast] at hx
      repeat (first|refine wa ?_|refine wb ?_|refine wc ?_|refine wd ?_|refine we ?_|refine wf ?_|refine wg ?_|refine wh rfl ?_|refine wi rfl ?_|refine wj rfl ?_|refine wk rfl ?_|refine wl rfl ?_|refine wm (by decide) ?_|refine wr ?_|refine ws ?_|refine wt ?_|refine hdec _ _ _ _ ?_|refine hd _ _ _ _ ?_|refine wn ?_|refine wo ?_|refine wp (by decide) ?_|(apply Tri.ldE; (first|exact K0|exact K1|exact K2|exact K3|exact K4|exact K5|exact K6|exact K7|exact K8|exact K9|exact K10|exact K11); (exact rfl); (exact wz rfl))|(apply Tri.stE; (first|exact K0|exact K1|exact K2|exact K3|exact K4|exact K5|exact K6|exact K7|exact K8|exact K9|exact K10|exact K11); (exact rfl); (exact wz rfl))|(apply Tri.same; (first|exact K0|exact K1|exact K2|exact K3|exact K4|exact K5|exact K6|exact K7|exact K8|exact K9|exact K10|exact K11); (exact rfl); (exact wz rfl))|refine wq fun _ => ?_)
      refine Tri.ixld (T := T) (by first|exact K0|exact K1|exact K2|exact K3|exact K4|exact K5|exact K6|exact K7|exact K8|exact K9|exact K10|exact K11) rfl (by omega) (by omega) fun y hy => ?_
      rw [Int.toNat_natCast] at hy
      repeat (first|refine wa ?_|refine wb ?_|refine wc ?_|refine wd ?_|refine we ?_|refine wf ?_|refine wg ?_|refine wh rfl ?_|refine wi rfl ?_|refine wj rfl ?_|refine wk rfl ?_|refine wl rfl ?_|refine wm (by decide) ?_|refine wr ?_|refine ws ?_|refine wt ?_|refine hdec _ _ _ _ ?_|refine hd _ _ _ _ ?_|refine wn ?_|refine wo ?_|refine wp (by decide) ?_|(apply Tri.ldE; (first|exact K0|exact K1|exact K2|exact K3|exact K4|exact K5|exact K6|exact K7|exact K8|exact K9|exact K10|exact K11); (exact rfl); (exact wz rfl))|(apply Tri.stE; (first|exact K0|exact K1|exact K2|exact K3|exact K4|exact K5|exact K6|exact K7|exact K8|exact K9|exact K10|exact K11); (exact rfl); (exact wz rfl))|(apply Tri.same; (first|exact K0|exact K1|exact K2|exact K3|exact K4|exact K5|exact K6|exact K7|exact K8|exact K9|exact K10|exact K11); (exact rfl); (exact wz rfl))|refine wq fun _ => ?_)
      refine Tri.callv rfl (hcmp x y) (by repeat (first|exact Picks.nil|(apply Picks.cons; (first|exact K0|exact K1|exact K2|exact K3|exact K4|exact K5|exact K6|exact K7|exact K8|exact K9|exact K10|exact K11)))) ?_
      rintro v L' ⟨n, rfl, hn, rfl⟩
      simp only [List.cons_append, List.nil_append]
      repeat (first|refine wa ?_|refine wb ?_|refine wc ?_|refine wd ?_|refine we ?_|refine wf ?_|refine wg ?_|refine wh rfl ?_|refine wi rfl ?_|refine wj rfl ?_|refine wk rfl ?_|refine wl rfl ?_|refine wm (by decide) ?_|refine wr ?_|refine ws ?_|refine wt ?_|refine hdec _ _ _ _ ?_|refine hd _ _ _ _ ?_|refine wn ?_|refine wo ?_|refine wp (by decide) ?_|(apply Tri.ldE; (first|exact K0|exact K1|exact K2|exact K3|exact K4|exact K5|exact K6|exact K7|exact K8|exact K9|exact K10|exact K11); (exact rfl); (exact wz rfl))|(apply Tri.stE; (first|exact K0|exact K1|exact K2|exact K3|exact K4|exact K5|exact K6|exact K7|exact K8|exact K9|exact K10|exact K11); (exact rfl); (exact wz rfl))|(apply Tri.same; (first|exact K0|exact K1|exact K2|exact K3|exact K4|exact K5|exact K6|exact K7|exact K8|exact K9|exact K10|exact K11); (exact rfl); (exact wz rfl))|refine wq fun _ => ?_)
      refine Tri.cnd (fun hk => ?_) (fun hk => ?_)
      · have hk : lt x y := hn.1 (by simpa using hk)
        refine Tri.ixld (T := T) (by first|exact K0|exact K1|exact K2|exact K3|exact K4|exact K5|exact K6|exact K7|exact K8|exact K9|exact K10|exact K11) rfl (by omega) (by omega) fun y' hy' => ?_
        rw [Int.toNat_natCast, hy] at hy'; cases hy'
        repeat (first|refine wa ?_|refine wb ?_|refine wc ?_|refine wd ?_|refine we ?_|refine wf ?_|refine wg ?_|refine wh rfl ?_|refine wi rfl ?_|refine wj rfl ?_|refine wk rfl ?_|refine wl rfl ?_|refine wm (by decide) ?_|refine wr ?_|refine ws ?_|refine wt ?_|refine hdec _ _ _ _ ?_|refine hd _ _ _ _ ?_|refine wn ?_|refine wo ?_|refine wp (by decide) ?_|(apply Tri.ldE; (first|exact K0|exact K1|exact K2|exact K3|exact K4|exact K5|exact K6|exact K7|exact K8|exact K9|exact K10|exact K11); (exact rfl); (exact wz rfl))|(apply Tri.stE; (first|exact K0|exact K1|exact K2|exact K3|exact K4|exact K5|exact K6|exact K7|exact K8|exact K9|exact K10|exact K11); (exact rfl); (exact wz rfl))|(apply Tri.same; (first|exact K0|exact K1|exact K2|exact K3|exact K4|exact K5|exact K6|exact K7|exact K8|exact K9|exact K10|exact K11); (exact rfl); (exact wz rfl))|refine wq fun _ => ?_)
        refine Tri.ixld (T := T) (by first|exact K0|exact K1|exact K2|exact K3|exact K4|exact K5|exact K6|exact K7|exact K8|exact K9|exact K10|exact K11) rfl (by omega) (by omega) fun x' hx' => ?_
        rw [Int.toNat_natCast, hx] at hx'; cases hx'
        repeat (first|refine wa ?_|refine wb ?_|refine wc ?_|refine wd ?_|refine we ?_|refine wf ?_|refine wg ?_|refine wh rfl ?_|refine wi rfl ?_|refine wj rfl ?_|refine wk rfl ?_|refine wl rfl ?_|refine wm (by decide) ?_|refine wr ?_|refine ws ?_|refine wt ?_|refine hdec _ _ _ _ ?_|refine hd _ _ _ _ ?_|refine wn ?_|refine wo ?_|refine wp (by decide) ?_|(apply Tri.ldE; (first|exact K0|exact K1|exact K2|exact K3|exact K4|exact K5|exact K6|exact K7|exact K8|exact K9|exact K10|exact K11); (exact rfl); (exact wz rfl))|(apply Tri.stE; (first|exact K0|exact K1|exact K2|exact K3|exact K4|exact K5|exact K6|exact K7|exact K8|exact K9|exact K10|exact K11); (exact rfl); (exact wz rfl))|(apply Tri.same; (first|exact K0|exact K1|exact K2|exact K3|exact K4|exact K5|exact K6|exact K7|exact K8|exact K9|exact K10|exact K11); (exact rfl); (exact wz rfl))|refine wq fun _ => ?_)
        refine Tri.ixst (T := T) y (by first|exact K0|exact K1|exact K2|exact K3|exact K4|exact K5|exact K6|exact K7|exact K8|exact K9|exact K10|exact K11) rfl (by omega) (by omega) rfl ?_
        refine Tri.ixst (T := T) x (by first|exact K0|exact K1|exact K2|exact K3|exact K4|exact K5|exact K6|exact K7|exact K8|exact K9|exact K10|exact K11) rfl (by omega) (by simp; omega) rfl ?_
        rw [Int.toNat_natCast, Int.toNat_natCast, ← sw_eq hx hy]
        exact Tri.back (m' := j - 1 - a) (by omega) ⟨j - 1, sw l2 j (j - 1), rfl, by omega, by omega, hr2.trans (Rng.sw (by omega) (by omega) (by omega) (by omega) (by omega)), hins.step ho hj hji (by omega) hx hy hk, rfl, rfl⟩ (Sub.refl _)
      · have hk : ¬ lt x y := fun h => by have := hn.2 h; simp at hk; omega
        repeat (first|refine wa ?_|refine wb ?_|refine wc ?_|refine wd ?_|refine we ?_|refine wf ?_|refine wg ?_|refine wh rfl ?_|refine wi rfl ?_|refine wj rfl ?_|refine wk rfl ?_|refine wl rfl ?_|refine wm (by decide) ?_|refine wr ?_|refine ws ?_|refine wt ?_|refine hdec _ _ _ _ ?_|refine hd _ _ _ _ ?_|refine wn ?_|refine wo ?_|refine wp (by decide) ?_|(apply Tri.ldE; (first|exact K0|exact K1|exact K2|exact K3|exact K4|exact K5|exact K6|exact K7|exact K8|exact K9|exact K10|exact K11); (exact rfl); (exact wz rfl))|(apply Tri.stE; (first|exact K0|exact K1|exact K2|exact K3|exact K4|exact K5|exact K6|exact K7|exact K8|exact K9|exact K10|exact K11); (exact rfl); (exact wz rfl))|(apply Tri.same; (first|exact K0|exact K1|exact K2|exact K3|exact K4|exact K5|exact K6|exact K7|exact K8|exact K9|exact K10|exact K11); (exact rfl); (exact wz rfl))|refine wq fun _ => ?_)
        refine outer (.inr fun x' y' hx' hy' => ?_) _ rfl _ rfl
        rw [hx] at hx'; rw [hy] at hy'; cases hx'; cases hy'
        exact hk
    · have hj : j = a := by simp at hj; omega
      repeat (first|refine wa ?_|refine wb ?_|refine wc ?_|refine wd ?_|refine we ?_|refine wf ?_|refine wg ?_|refine wh rfl ?_|refine wi rfl ?_|refine wj rfl ?_|refine wk rfl ?_|refine wl rfl ?_|refine wm (by decide) ?_|refine wr ?_|refine ws ?_|refine wt ?_|refine hdec _ _ _ _ ?_|refine hd _ _ _ _ ?_|refine wn ?_|refine wo ?_|refine wp (by decide) ?_|(apply Tri.ldE; (first|exact K0|exact K1|exact K2|exact K3|exact K4|exact K5|exact K6|exact K7|exact K8|exact K9|exact K10|exact K11); (exact rfl); (exact wz rfl))|(apply Tri.stE; (first|exact K0|exact K1|exact K2|exact K3|exact K4|exact K5|exact K6|exact K7|exact K8|exact K9|exact K10|exact K11); (exact rfl); (exact wz rfl))|(apply Tri.same; (first|exact K0|exact K1|exact K2|exact K3|exact K4|exact K5|exact K6|exact K7|exact K8|exact K9|exact K10|exact K11); (exact rfl); (exact wz rfl))|refine wq fun _ => ?_)
      exact outer (.inl hj) _ rfl _ rfl
  · have hc : b ≤ i := by simp at hc; omega
    repeat (first|refine wa ?_|refine wb ?_|refine wc ?_|refine wd ?_|refine we ?_|refine wf ?_|refine wg ?_|refine wh rfl ?_|refine wi rfl ?_|refine wj rfl ?_|refine wk rfl ?_|refine wl rfl ?_|refine wm (by decide) ?_|refine wr ?_|refine ws ?_|refine wt ?_|refine hdec _ _ _ _ ?_|refine hd _ _ _ _ ?_|refine wn ?_|refine wo ?_|refine wp (by decide) ?_|(apply Tri.ldE; (first|exact K0|exact K1|exact K2|exact K3|exact K4|exact K5|exact K6|exact K7|exact K8|exact K9|exact K10|exact K11); (exact rfl); (exact wz rfl))|(apply Tri.stE; (first|exact K0|exact K1|exact K2|exact K3|exact K4|exact K5|exact K6|exact K7|exact K8|exact K9|exact K10|exact K11); (exact rfl); (exact wz rfl))|(apply Tri.same; (first|exact K0|exact K1|exact K2|exact K3|exact K4|exact K5|exact K6|exact K7|exact K8|exact K9|exact K10|exact K11); (exact rfl); (exact wz rfl))|refine wq fun _ => ?_)
    exact Tri.retF ⟨l1, rfl, rfl, hr, fun p q x y h1 h2 h3 => hinc p q x y h1 h2 (by omega)⟩ (Sub.refl _)

/-! the sort, of few -/
theorem pdq_small (B : SOk E z dec zs S) (el : ElOk E T z dec zs) {o : Option SlD} {l : List α} {lim : Int} {g : FuncId} {f c : List (Nat × Nat)} {lt : α → α → Prop} (hcmp : IsCmp E T g f c lt) (ho : Ord lt) (hl : l.length ≤ 12) :
    FSpec E S.pdq [.sc (.sl o), .sc (.i .i64 (0 : Int)), .sc (.i .i64 l.length), .sc (.i .i64 lim), .sc (.fn g f c)] [.sl false T o l]
    (fun v L' => ∃ l', v = .tu [] ∧ L' = [.sl false T o l'] ∧ Rng 0 l.length l l' ∧ Inc lt 0 l.length l') := by
  have hd := el.hd
  have hz := el.hz
  subst hz
  obtain ⟨fn, hf, hbk⟩ := B.pdq
  refine FSpec.of hf (hbk _ _ _ _ _ _ _) fun F => ?_
  unfold gpdq
  refine Tri.loop (I := fun m l' L => l' = [.sc (.sl o), .sc (.i .i64 (0 : Int)), .sc (.i .i64 l.length), .sc (.i .i64 lim), .sc (.fn g f c), .sc (.b true), .sc (.b true)] ∧ L = .sl false T o l :: F) (m := 0) ⟨rfl, rfl⟩ (Sub.refl _) ?_
  rintro m l' L ⟨rfl, rfl⟩
  repeat (first|refine wa ?_|refine wb ?_|refine wc ?_|refine wd ?_|refine we ?_|refine wf ?_|refine wg ?_|refine wh rfl ?_|refine wi rfl ?_|refine wj rfl ?_|refine wk rfl ?_|refine wl rfl ?_|refine wm (by decide) ?_|refine wr ?_|refine ws ?_|refine wt ?_|refine hdec _ _ _ _ ?_|refine hd _ _ _ _ ?_|refine wn ?_|refine wo ?_|refine wp (by decide) ?_|(apply Tri.ldE; (first|exact K0|exact K1|exact K2|exact K3|exact K4|exact K5|exact K6|exact K7|exact K8|exact K9|exact K10|exact K11); (exact rfl); (exact wz rfl))|(apply Tri.stE; (first|exact K0|exact K1|exact K2|exact K3|exact K4|exact K5|exact K6|exact K7|exact K8|exact K9|exact K10|exact K11); (exact rfl); (exact wz rfl))|(apply Tri.same; (first|exact K0|exact K1|exact K2|exact K3|exact K4|exact K5|exact K6|exact K7|exact K8|exact K9|exact K10|exact K11); (exact rfl); (exact wz rfl))|refine wq fun _ => ?_)
  rw [wr_i64 (by omega) (by omega)]
  refine Tri.cndT (by simp; omega) ?_
  refine Tri.call (ins_spec B el (l := l) (a := 0) (b := l.length) hcmp ho (by omega) (by omega) (by omega)) (by repeat (first|exact Picks.nil|(apply Picks.cons; (first|exact K0|exact K1|exact K2|exact K3|exact K4|exact K5|exact K6|exact K7|exact K8|exact K9|exact K10|exact K11)))) ?_
  rintro v L' ⟨l', rfl, rfl, h1, h2⟩
  simp only [List.cons_append, List.nil_append]
  refine Tri.exit (by decide) ?_
  repeat (first|refine wa ?_|refine wb ?_|refine wc ?_|refine wd ?_|refine we ?_|refine wf ?_|refine wg ?_|refine wh rfl ?_|refine wi rfl ?_|refine wj rfl ?_|refine wk rfl ?_|refine wl rfl ?_|refine wm (by decide) ?_|refine wr ?_|refine ws ?_|refine wt ?_|refine hdec _ _ _ _ ?_|refine hd _ _ _ _ ?_|refine wn ?_|refine wo ?_|refine wp (by decide) ?_|(apply Tri.ldE; (first|exact K0|exact K1|exact K2|exact K3|exact K4|exact K5|exact K6|exact K7|exact K8|exact K9|exact K10|exact K11); (exact rfl); (exact wz rfl))|(apply Tri.stE; (first|exact K0|exact K1|exact K2|exact K3|exact K4|exact K5|exact K6|exact K7|exact K8|exact K9|exact K10|exact K11); (exact rfl); (exact wz rfl))|(apply Tri.same; (first|exact K0|exact K1|exact K2|exact K3|exact K4|exact K5|exact K6|exact K7|exact K8|exact K9|exact K10|exact K11); (exact rfl); (exact wz rfl))|refine wq fun _ => ?_)
  exact Tri.retF ⟨l', rfl, rfl, h1, h2⟩ (Sub.refl _)
/-- the sort does what it is to do, of lists up to a length -/
def SortOk (E : Env) (T : Enc α) (f : FuncId) (N : Nat) : Prop := ∀ {o : Option SlD} {l : List α} {g : FuncId} {fs c : List (Nat × Nat)} {lt : α → α → Prop}, IsCmp E T g fs c lt → Ord lt → l.length ≤ N →
  FSpec E f [.sc (.sl o), .sc (.fn g fs c)] [.sl false T o l] (fun v L' => ∃ l', v = .tu [] ∧ L' = [.sl false T o l'] ∧ l'.Perm l ∧ Inc lt 0 l.length l')
theorem sort_small (B : SOk E z dec zs S) (el : ElOk E T z dec zs) : SortOk E T S.sortF 12 := by
  intro o l g f c lt hcmp ho hl
  have hd := el.hd
  have hz := el.hz
  subst hz
  obtain ⟨fn, hf, hbk⟩ := B.sortF
  refine FSpec.of hf (hbk _ _ _ _) fun F => ?_
  unfold gsortF
  refine Tri.slLen (l := l) (o := o) (ro := false) (T := T) (by first|exact K0|exact K1|exact K2|exact K3|exact K4|exact K5|exact K6|exact K7|exact K8|exact K9|exact K10|exact K11) fun e1 e2 => ?_
  rw [e2, wr_u64 (by omega) (by omega)]
  refine Tri.call (blen_spec B.b (n := l.length) (by omega)) (by repeat (first|exact Picks.nil|(apply Picks.cons; (first|exact K0|exact K1|exact K2|exact K3|exact K4|exact K5|exact K6|exact K7|exact K8|exact K9|exact K10|exact K11)))) ?_
  rintro v L' ⟨rfl, rfl⟩
  simp only [List.cons_append, List.nil_append]
  repeat (first|refine wa ?_|refine wb ?_|refine wc ?_|refine wd ?_|refine we ?_|refine wf ?_|refine wg ?_|refine wh rfl ?_|refine wi rfl ?_|refine wj rfl ?_|refine wk rfl ?_|refine wl rfl ?_|refine wm (by decide) ?_|refine wr ?_|refine ws ?_|refine wt ?_|refine hdec _ _ _ _ ?_|refine hd _ _ _ _ ?_|refine wn ?_|refine wo ?_|refine wp (by decide) ?_|(apply Tri.ldE; (first|exact K0|exact K1|exact K2|exact K3|exact K4|exact K5|exact K6|exact K7|exact K8|exact K9|exact K10|exact K11); (exact rfl); (exact wz rfl))|(apply Tri.stE; (first|exact K0|exact K1|exact K2|exact K3|exact K4|exact K5|exact K6|exact K7|exact K8|exact K9|exact K10|exact K11); (exact rfl); (exact wz rfl))|(apply Tri.same; (first|exact K0|exact K1|exact K2|exact K3|exact K4|exact K5|exact K6|exact K7|exact K8|exact K9|exact K10|exact K11); (exact rfl); (exact wz rfl))|refine wq fun _ => ?_)
  refine Tri.call (pdq_small B el (l := l) hcmp ho hl) (by repeat (first|exact Picks.nil|(apply Picks.cons; (first|exact K0|exact K1|exact K2|exact K3|exact K4|exact K5|exact K6|exact K7|exact K8|exact K9|exact K10|exact K11)))) ?_
  rintro v L' ⟨l', rfl, rfl, h1, h2⟩
  simp only [List.cons_append, List.nil_append]
  exact Tri.retF ⟨l', rfl, rfl, h1.perm, h2⟩ (Sub.refl _)
end
end Go.Proofs.Ytkhooppaenfkdaa.Fw
