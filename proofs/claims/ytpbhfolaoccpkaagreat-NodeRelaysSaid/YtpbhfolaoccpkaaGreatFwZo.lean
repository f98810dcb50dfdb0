/- Functions of the Go library over any element: what they come to. -/
import Derived.Test.YtpbhfolaoccpkaaGreatFwZi
import Derived.Test.YtpbhfolaoccpkaaGreatFwZh
set_option linter.unusedVariables false
set_option linter.unusedSimpArgs false
namespace Go.Proofs.YtpbhfolaoccpkaaGreat.Fw
open Go
def KOk : Ck → Sc → Prop
  | .i k, x => ∃ n, x = .i k n
  | .b, x => ∃ b, x = .b b
  | .s, x => ∃ s, x = .s s
  | .p, x => ∃ o, x = .p o
  | .sl, x => ∃ o, x = .sl o
  | .it, x => ∃ o, x = .it o
  | .any, _ => True
  | .x, _ => True
  | _, _ => False
section
variable {E : Env} {α : Type} {T : Enc α} {z : Nat} {dec : Dec} {zs : List Sc} {S : SIds}
theorem decS_tri {c : Ck} {x : Sc} {f : Sc → Tree} {L : List Assn} {Q : Post} (h : KOk c x) (k : Tri E L (f x) Q) : Tri E L (decS c x f) Q := by
  cases c with
  | i _ => obtain ⟨n, rfl⟩ := h; exact .asI k
  | b => obtain ⟨n, rfl⟩ := h; exact .asB k
  | s => obtain ⟨n, rfl⟩ := h; exact .asS k
  | p => obtain ⟨n, rfl⟩ := h; exact .asP k
  | sl => obtain ⟨n, rfl⟩ := h; exact .asL k
  | it => obtain ⟨n, rfl⟩ := h; exact wt k
  | any => exact k
  | x => exact k
  | _ => exact h.elim
theorem decL_tri {L : List Assn} {Q : Post} : ∀ {ks : List Ck} {l pre : List Sc} {f : List Sc → Tree}, All2 KOk ks l → Tri E L (f l) Q → Tri E L (decL (pre ++ l) pre.length ks f) Q
  | [], l, pre, f, h, k => by cases h; exact k
  | c :: ks, l, pre, f, ⟨x, r, e, h1, h2⟩, k => by
    subst e
    refine Tri.nth (x := x) (by simp) (decS_tri h1 ?_)
    have := decL_tri (pre := pre ++ [x]) (f := fun r => f (x :: r)) h2 k
    simpa using this
/-- how an element is read -/
def DecOk (E : Env) (T : Enc α) (dec : Dec) : Prop := ∀ (a : α) (L : List Assn) (Q : Post) (f : List Sc → Tree), Tri E L (f (T.e a)) Q → Tri E L (dec (T.e a) f) Q
theorem decOk {ks : List Ck} (h : ∀ a, All2 KOk ks (T.e a)) : DecOk E T (fun l f => decL l 0 ks f) := fun a L Q f k => decL_tri (pre := []) (h a) k
structure ElOk (E : Env) (T : Enc α) (z : Nat) (dec : Dec) (zs : List Sc) : Prop where
  hz : T.z = z
  hzs : zs.length = z
  hd : DecOk E T dec
/-- some cells of an element are read -/
theorem Tri.ixldR {o : Option SlD} {ro : Bool} {l : List α} {k n : Nat} {j : Int} {f : List Sc → Tree} {L R : List Assn} {Q : Post} {x : α} {r : List Sc} (p : Pick L (.sl ro T o l) R) (hz : T.z = z) (h0 : 0 ≤ j) (hx : l[j.toNat]? = some x) (hk : k + n ≤ z) (hr : ((T.e x).drop k).take n = r)
    (h : Tri E (.sl ro T o l :: R) (f r) Q) : Tri E L (.ixS z o j fun a b c => .ld a (b + c * z + k) n f) Q := by
  obtain ⟨hj, _⟩ := List.getElem?_eq_some_iff.1 hx
  refine Tri.ix p hz h0 (by omega) fun d c ho q => ?_
  subst ho; subst hz
  have := q.bound hj
  refine Tri.ldE Pick.here (l := r) ?_ (by omega) (Tri.mkS Pick.here q h)
  rw [take_drop_mid c (d.off + j.toNat * T.z) T.z k n hk, q.get hx, hr]
def IsPred (E : Env) (T : Enc α) (g : FuncId) (f c : List (Nat × Nat)) (K : Assn) (p : α → Bool) : Prop :=
  ∀ x : α, FSpec E g (ptrs f ++ [.ag (T.e x)] ++ ptrs c) [K] (fun v L' => v = .sc (.b (p x)) ∧ L' = [K])
theorem filter_none {α : Type} {p : α → Bool} {D : List α} (h : ∀ x ∈ D, p x = false) : D.filter (fun x => !p x) = D := List.filter_eq_self.2 fun x hx => by simp [h x hx]

theorem idxF_spec {D : DIds} (B : DOk E z dec zs D) (el : ElOk E T z dec zs) {o : Option SlD} {l : List α} {g : FuncId} {f c : List (Nat × Nat)} {K : Assn} {p : α → Bool} (hp : IsPred E T g f c K p) (hl : l.length ≤ 1000) :
    FSpec E D.idxF [.sc (.sl o), .sc (.fn g f c)] [.sl false T o l, K]
      (fun v L' => L' = [.sl false T o l, K] ∧ ((v = .sc (.i .i64 (-1)) ∧ ∀ x ∈ l, p x = false) ∨ ∃ D x R, l = D ++ x :: R ∧ (∀ y ∈ D, p y = false) ∧ p x = true ∧ v = .sc (.i .i64 D.length))) := by
  have hd := el.hd
  have hz := el.hz
  have hzs := el.hzs
  subst hz
  obtain ⟨fn, hf, hbk⟩ := B.idxF
  refine FSpec.of hf (hbk _ _ _ _) fun F => ?_
  unfold gidxF
  simp only [List.cons_append, List.nil_append]
  refine Tri.slLen (l := l) (o := o) (ro := false) (T := T) (by first|exact K0|exact K1|exact K2|exact K3|exact K4|exact K5|exact K6|exact K7|exact K8|exact K9|exact K10|exact K11) fun e1 e2 => ?_
  rw [e2]
  refine Tri.loop (I := fun k l' L => ∃ (D R : List α), k = R.length ∧ l = D ++ R ∧ (∀ y ∈ D, p y = false) ∧
    l' = [.sc (.sl o), .sc (.fn g f c), .sc (.i .i64 l.length), .sc (.i .i64 D.length)] ∧ L = .sl false T o l :: K :: F) ⟨[], l, rfl, rfl, by simp, rfl, rfl⟩ (Sub.refl _) ?_
  rintro k l' L ⟨D, R, rfl, rfl, hD, rfl, rfl⟩
  repeat (first|refine wa ?_|refine wb ?_|refine wc ?_|refine wd ?_|refine we ?_|refine wf ?_|refine wg ?_|refine wh rfl ?_|refine wi rfl ?_|refine wj rfl ?_|refine wk rfl ?_|refine wl rfl ?_|refine wm (by decide) ?_|refine wr ?_|refine ws ?_|refine wt ?_|refine hdec _ _ _ _ ?_|refine hd _ _ _ _ ?_|refine wn ?_|refine wo ?_|refine wp (by decide) ?_|(apply Tri.ldE; (first|exact K0|exact K1|exact K2|exact K3|exact K4|exact K5|exact K6|exact K7|exact K8|exact K9|exact K10|exact K11); (exact rfl); (exact wz rfl))|(apply Tri.stE; (first|exact K0|exact K1|exact K2|exact K3|exact K4|exact K5|exact K6|exact K7|exact K8|exact K9|exact K10|exact K11); (exact rfl); (exact wz rfl))|(apply Tri.same; (first|exact K0|exact K1|exact K2|exact K3|exact K4|exact K5|exact K6|exact K7|exact K8|exact K9|exact K10|exact K11); (exact rfl); (exact wz rfl))|refine wq fun _ => ?_)
  refine Tri.cnd (fun hc => ?_) (fun hc => ?_)
  · cases R with
    | nil => simp at hc
    | cons x R =>
      simp only [List.length_append, List.length_cons] at hl
      refine Tri.ixld (T := T) (by first|exact K0|exact K1|exact K2|exact K3|exact K4|exact K5|exact K6|exact K7|exact K8|exact K9|exact K10|exact K11) rfl (by omega) (by simp; omega) fun x' hx' => ?_
      rw [Int.toNat_natCast, get_mid' rfl] at hx'; cases hx'
      repeat (first|refine wa ?_|refine wb ?_|refine wc ?_|refine wd ?_|refine we ?_|refine wf ?_|refine wg ?_|refine wh rfl ?_|refine wi rfl ?_|refine wj rfl ?_|refine wk rfl ?_|refine wl rfl ?_|refine wm (by decide) ?_|refine wr ?_|refine ws ?_|refine wt ?_|refine hdec _ _ _ _ ?_|refine hd _ _ _ _ ?_|refine wn ?_|refine wo ?_|refine wp (by decide) ?_|(apply Tri.ldE; (first|exact K0|exact K1|exact K2|exact K3|exact K4|exact K5|exact K6|exact K7|exact K8|exact K9|exact K10|exact K11); (exact rfl); (exact wz rfl))|(apply Tri.stE; (first|exact K0|exact K1|exact K2|exact K3|exact K4|exact K5|exact K6|exact K7|exact K8|exact K9|exact K10|exact K11); (exact rfl); (exact wz rfl))|(apply Tri.same; (first|exact K0|exact K1|exact K2|exact K3|exact K4|exact K5|exact K6|exact K7|exact K8|exact K9|exact K10|exact K11); (exact rfl); (exact wz rfl))|refine wq fun _ => ?_)
      refine Tri.callv rfl (hp x) (by repeat (first|exact Picks.nil|(apply Picks.cons; (first|exact K0|exact K1|exact K2|exact K3|exact K4|exact K5|exact K6|exact K7|exact K8|exact K9|exact K10|exact K11)))) ?_
      rintro v L' ⟨rfl, rfl⟩
      simp only [List.cons_append, List.nil_append]
      repeat (first|refine wa ?_|refine wb ?_|refine wc ?_|refine wd ?_|refine we ?_|refine wf ?_|refine wg ?_|refine wh rfl ?_|refine wi rfl ?_|refine wj rfl ?_|refine wk rfl ?_|refine wl rfl ?_|refine wm (by decide) ?_|refine wr ?_|refine ws ?_|refine wt ?_|refine hdec _ _ _ _ ?_|refine hd _ _ _ _ ?_|refine wn ?_|refine wo ?_|refine wp (by decide) ?_|(apply Tri.ldE; (first|exact K0|exact K1|exact K2|exact K3|exact K4|exact K5|exact K6|exact K7|exact K8|exact K9|exact K10|exact K11); (exact rfl); (exact wz rfl))|(apply Tri.stE; (first|exact K0|exact K1|exact K2|exact K3|exact K4|exact K5|exact K6|exact K7|exact K8|exact K9|exact K10|exact K11); (exact rfl); (exact wz rfl))|(apply Tri.same; (first|exact K0|exact K1|exact K2|exact K3|exact K4|exact K5|exact K6|exact K7|exact K8|exact K9|exact K10|exact K11); (exact rfl); (exact wz rfl))|refine wq fun _ => ?_)
      refine Tri.cnd (fun hk => ?_) (fun hk => ?_)
      · repeat (first|refine wa ?_|refine wb ?_|refine wc ?_|refine wd ?_|refine we ?_|refine wf ?_|refine wg ?_|refine wh rfl ?_|refine wi rfl ?_|refine wj rfl ?_|refine wk rfl ?_|refine wl rfl ?_|refine wm (by decide) ?_|refine wr ?_|refine ws ?_|refine wt ?_|refine hdec _ _ _ _ ?_|refine hd _ _ _ _ ?_|refine wn ?_|refine wo ?_|refine wp (by decide) ?_|(apply Tri.ldE; (first|exact K0|exact K1|exact K2|exact K3|exact K4|exact K5|exact K6|exact K7|exact K8|exact K9|exact K10|exact K11); (exact rfl); (exact wz rfl))|(apply Tri.stE; (first|exact K0|exact K1|exact K2|exact K3|exact K4|exact K5|exact K6|exact K7|exact K8|exact K9|exact K10|exact K11); (exact rfl); (exact wz rfl))|(apply Tri.same; (first|exact K0|exact K1|exact K2|exact K3|exact K4|exact K5|exact K6|exact K7|exact K8|exact K9|exact K10|exact K11); (exact rfl); (exact wz rfl))|refine wq fun _ => ?_)
        exact Tri.retF ⟨rfl, .inr ⟨D, x, R, rfl, hD, hk, rfl⟩⟩ (by repeat (first|exact Sub.refl _|exact Sub.nil _|(apply Sub.cons; (first|exact K0|exact K1|exact K2|exact K3|exact K4|exact K5|exact K6|exact K7|exact K8|exact K9|exact K10|exact K11))|apply Sub.skip))
      · refine Tri.back (m' := R.length) (by simp) ⟨D ++ [x], R, rfl, by simp, ?_, ?_, rfl⟩ (by repeat (first|exact Sub.refl _|exact Sub.nil _|(apply Sub.cons; (first|exact K0|exact K1|exact K2|exact K3|exact K4|exact K5|exact K6|exact K7|exact K8|exact K9|exact K10|exact K11))|apply Sub.skip))
        · intro y hy
          rcases List.mem_append.1 hy with hy | hy
          · exact hD y hy
          · simp at hy; subst hy; exact hk
        · rw [wr_i64 (by omega) (by omega)]; simp
  · have : R = [] := List.length_eq_zero_iff.1 (by simp at hc; omega)
    subst this
    repeat (first|refine wa ?_|refine wb ?_|refine wc ?_|refine wd ?_|refine we ?_|refine wf ?_|refine wg ?_|refine wh rfl ?_|refine wi rfl ?_|refine wj rfl ?_|refine wk rfl ?_|refine wl rfl ?_|refine wm (by decide) ?_|refine wr ?_|refine ws ?_|refine wt ?_|refine hdec _ _ _ _ ?_|refine hd _ _ _ _ ?_|refine wn ?_|refine wo ?_|refine wp (by decide) ?_|(apply Tri.ldE; (first|exact K0|exact K1|exact K2|exact K3|exact K4|exact K5|exact K6|exact K7|exact K8|exact K9|exact K10|exact K11); (exact rfl); (exact wz rfl))|(apply Tri.stE; (first|exact K0|exact K1|exact K2|exact K3|exact K4|exact K5|exact K6|exact K7|exact K8|exact K9|exact K10|exact K11); (exact rfl); (exact wz rfl))|(apply Tri.same; (first|exact K0|exact K1|exact K2|exact K3|exact K4|exact K5|exact K6|exact K7|exact K8|exact K9|exact K10|exact K11); (exact rfl); (exact wz rfl))|refine wq fun _ => ?_)
    exact Tri.retF ⟨rfl, .inl ⟨rfl, by simpa using hD⟩⟩ (by repeat (first|exact Sub.refl _|exact Sub.nil _|(apply Sub.cons; (first|exact K0|exact K1|exact K2|exact K3|exact K4|exact K5|exact K6|exact K7|exact K8|exact K9|exact K10|exact K11))|apply Sub.skip))

theorem delF_spec {D : DIds} (B : DOk E z dec zs D) (el : ElOk E T z dec zs) {o : Option SlD} {l : List α} {g : FuncId} {f c : List (Nat × Nat)} {K : Assn} {p : α → Bool} (hp : IsPred E T g f c K p) (hl : l.length ≤ 1000) :
    FSpec E D.delF [.sc (.sl o), .sc (.fn g f c)] [.sl false T o l, K] (fun v L' => ∃ o', v = .sc (.sl o') ∧ L' = [.sl false T o' (l.filter fun x => !p x), K]) := by
  have hd := el.hd
  have hz := el.hz
  have hzs := el.hzs
  subst hz
  obtain ⟨fn, hf, hbk⟩ := B.delF
  refine FSpec.of hf (hbk _ _ _ _) fun F => ?_
  unfold gdelF
  simp only [List.cons_append, List.nil_append]
  refine Tri.call (idxF_spec B el hp hl) (by repeat (first|exact Picks.nil|(apply Picks.cons; (first|exact K0|exact K1|exact K2|exact K3|exact K4|exact K5|exact K6|exact K7|exact K8|exact K9|exact K10|exact K11)))) ?_
  rintro v L' ⟨rfl, ⟨rfl, hno⟩ | ⟨D, x, R, rfl, hD, hx, rfl⟩⟩
  · simp only [List.cons_append, List.nil_append]
    repeat (first|refine wa ?_|refine wb ?_|refine wc ?_|refine wd ?_|refine we ?_|refine wf ?_|refine wg ?_|refine wh rfl ?_|refine wi rfl ?_|refine wj rfl ?_|refine wk rfl ?_|refine wl rfl ?_|refine wm (by decide) ?_|refine wr ?_|refine ws ?_|refine wt ?_|refine hdec _ _ _ _ ?_|refine hd _ _ _ _ ?_|refine wn ?_|refine wo ?_|refine wp (by decide) ?_|(apply Tri.ldE; (first|exact K0|exact K1|exact K2|exact K3|exact K4|exact K5|exact K6|exact K7|exact K8|exact K9|exact K10|exact K11); (exact rfl); (exact wz rfl))|(apply Tri.stE; (first|exact K0|exact K1|exact K2|exact K3|exact K4|exact K5|exact K6|exact K7|exact K8|exact K9|exact K10|exact K11); (exact rfl); (exact wz rfl))|(apply Tri.same; (first|exact K0|exact K1|exact K2|exact K3|exact K4|exact K5|exact K6|exact K7|exact K8|exact K9|exact K10|exact K11); (exact rfl); (exact wz rfl))|refine wq fun _ => ?_)
    refine Tri.cndT rfl ?_
    rw [filter_none hno]
    exact Tri.retF ⟨o, rfl, rfl⟩ (by repeat (first|exact Sub.refl _|exact Sub.nil _|(apply Sub.cons; (first|exact K0|exact K1|exact K2|exact K3|exact K4|exact K5|exact K6|exact K7|exact K8|exact K9|exact K10|exact K11))|apply Sub.skip))
  · simp only [List.cons_append, List.nil_append]
    repeat (first|refine wa ?_|refine wb ?_|refine wc ?_|refine wd ?_|refine we ?_|refine wf ?_|refine wg ?_|refine wh rfl ?_|refine wi rfl ?_|refine wj rfl ?_|refine wk rfl ?_|refine wl rfl ?_|refine wm (by decide) ?_|refine wr ?_|refine ws ?_|refine wt ?_|refine hdec _ _ _ _ ?_|refine hd _ _ _ _ ?_|refine wn ?_|refine wo ?_|refine wp (by decide) ?_|(apply Tri.ldE; (first|exact K0|exact K1|exact K2|exact K3|exact K4|exact K5|exact K6|exact K7|exact K8|exact K9|exact K10|exact K11); (exact rfl); (exact wz rfl))|(apply Tri.stE; (first|exact K0|exact K1|exact K2|exact K3|exact K4|exact K5|exact K6|exact K7|exact K8|exact K9|exact K10|exact K11); (exact rfl); (exact wz rfl))|(apply Tri.same; (first|exact K0|exact K1|exact K2|exact K3|exact K4|exact K5|exact K6|exact K7|exact K8|exact K9|exact K10|exact K11); (exact rfl); (exact wz rfl))|refine wq fun _ => ?_)
    simp only [List.length_append, List.length_cons] at hl
    refine Tri.cndF (by simp) ?_
    have hfil : (D ++ x :: R).filter (fun x => !p x) = D ++ R.filter (fun x => !p x) := by rw [List.filter_append, filter_none hD, List.filter_cons, if_neg (by simp [hx])]
    rw [hfil]
    refine Tri.loop (I := fun k l' L => ∃ (G M Q1 R' : List α), k = R'.length ∧ D ++ R.filter (fun x => !p x) = G ++ R'.filter (fun x => !p x) ∧ 0 < M.length ∧ G.length + M.length + R'.length = D.length + 1 + R.length ∧
      l' = [.sc (.sl o), .sc (.fn g f c), .sc (.i .i64 G.length), .sc (.i .i64 ((G.length + M.length : Nat) : Int))] ∧ L = .sl false T o (G ++ M ++ R') :: K :: F)
      ⟨D, [x], [], R, rfl, rfl, by simp, by simp, by rw [wr_i64 (by omega) (by omega)]; simp, rfl⟩ (by simpa using Sub.refl _) ?_
    rintro k l' L ⟨G, M, _, R', rfl, hfin, hM, hlen, rfl, rfl⟩
    repeat (first|refine wa ?_|refine wb ?_|refine wc ?_|refine wd ?_|refine we ?_|refine wf ?_|refine wg ?_|refine wh rfl ?_|refine wi rfl ?_|refine wj rfl ?_|refine wk rfl ?_|refine wl rfl ?_|refine wm (by decide) ?_|refine wr ?_|refine ws ?_|refine wt ?_|refine hdec _ _ _ _ ?_|refine hd _ _ _ _ ?_|refine wn ?_|refine wo ?_|refine wp (by decide) ?_|(apply Tri.ldE; (first|exact K0|exact K1|exact K2|exact K3|exact K4|exact K5|exact K6|exact K7|exact K8|exact K9|exact K10|exact K11); (exact rfl); (exact wz rfl))|(apply Tri.stE; (first|exact K0|exact K1|exact K2|exact K3|exact K4|exact K5|exact K6|exact K7|exact K8|exact K9|exact K10|exact K11); (exact rfl); (exact wz rfl))|(apply Tri.same; (first|exact K0|exact K1|exact K2|exact K3|exact K4|exact K5|exact K6|exact K7|exact K8|exact K9|exact K10|exact K11); (exact rfl); (exact wz rfl))|refine wq fun _ => ?_)
    refine Tri.slLen (l := G ++ M ++ R') (o := o) (ro := false) (T := T) (by first|exact K0|exact K1|exact K2|exact K3|exact K4|exact K5|exact K6|exact K7|exact K8|exact K9|exact K10|exact K11) fun e1 e2 => ?_
    rw [e2]
    refine Tri.cnd (fun hc => ?_) (fun hc => ?_)
    · cases R' with
      | nil => simp at hc
      | cons y R' =>
        simp only [List.length_cons] at hlen
        refine Tri.ixld (T := T) (by first|exact K0|exact K1|exact K2|exact K3|exact K4|exact K5|exact K6|exact K7|exact K8|exact K9|exact K10|exact K11) rfl (by omega) (by simp; omega) fun y' hy' => ?_
        rw [Int.toNat_natCast, get_mid' (A := G ++ M) (by simp)] at hy'; cases hy'
        repeat (first|refine wa ?_|refine wb ?_|refine wc ?_|refine wd ?_|refine we ?_|refine wf ?_|refine wg ?_|refine wh rfl ?_|refine wi rfl ?_|refine wj rfl ?_|refine wk rfl ?_|refine wl rfl ?_|refine wm (by decide) ?_|refine wr ?_|refine ws ?_|refine wt ?_|refine hdec _ _ _ _ ?_|refine hd _ _ _ _ ?_|refine wn ?_|refine wo ?_|refine wp (by decide) ?_|(apply Tri.ldE; (first|exact K0|exact K1|exact K2|exact K3|exact K4|exact K5|exact K6|exact K7|exact K8|exact K9|exact K10|exact K11); (exact rfl); (exact wz rfl))|(apply Tri.stE; (first|exact K0|exact K1|exact K2|exact K3|exact K4|exact K5|exact K6|exact K7|exact K8|exact K9|exact K10|exact K11); (exact rfl); (exact wz rfl))|(apply Tri.same; (first|exact K0|exact K1|exact K2|exact K3|exact K4|exact K5|exact K6|exact K7|exact K8|exact K9|exact K10|exact K11); (exact rfl); (exact wz rfl))|refine wq fun _ => ?_)
        refine Tri.stE (c' := T.e y) (by first|exact K0|exact K1|exact K2|exact K3|exact K4|exact K5|exact K6|exact K7|exact K8|exact K9|exact K10|exact K11) (by simp [T.len, hzs]) (by simp [T.len, hzs]) ?_
        refine Tri.ldE (l := T.e y) (by first|exact K0|exact K1|exact K2|exact K3|exact K4|exact K5|exact K6|exact K7|exact K8|exact K9|exact K10|exact K11) (by simp [← T.len y]) (by simp [T.len]) ?_
        repeat (first|refine wa ?_|refine wb ?_|refine wc ?_|refine wd ?_|refine we ?_|refine wf ?_|refine wg ?_|refine wh rfl ?_|refine wi rfl ?_|refine wj rfl ?_|refine wk rfl ?_|refine wl rfl ?_|refine wm (by decide) ?_|refine wr ?_|refine ws ?_|refine wt ?_|refine hdec _ _ _ _ ?_|refine hd _ _ _ _ ?_|refine wn ?_|refine wo ?_|refine wp (by decide) ?_|(apply Tri.ldE; (first|exact K0|exact K1|exact K2|exact K3|exact K4|exact K5|exact K6|exact K7|exact K8|exact K9|exact K10|exact K11); (exact rfl); (exact wz rfl))|(apply Tri.stE; (first|exact K0|exact K1|exact K2|exact K3|exact K4|exact K5|exact K6|exact K7|exact K8|exact K9|exact K10|exact K11); (exact rfl); (exact wz rfl))|(apply Tri.same; (first|exact K0|exact K1|exact K2|exact K3|exact K4|exact K5|exact K6|exact K7|exact K8|exact K9|exact K10|exact K11); (exact rfl); (exact wz rfl))|refine wq fun _ => ?_)
        refine Tri.callv rfl (hp y) (by repeat (first|exact Picks.nil|(apply Picks.cons; (first|exact K0|exact K1|exact K2|exact K3|exact K4|exact K5|exact K6|exact K7|exact K8|exact K9|exact K10|exact K11)))) ?_
        rintro v L' ⟨rfl, rfl⟩
        simp only [List.cons_append, List.nil_append]
        repeat (first|refine wa ?_|refine wb ?_|refine wc ?_|refine wd ?_|refine we ?_|refine wf ?_|refine wg ?_|refine wh rfl ?_|refine wi rfl ?_|refine wj rfl ?_|refine wk rfl ?_|refine wl rfl ?_|refine wm (by decide) ?_|refine wr ?_|refine ws ?_|refine wt ?_|refine hdec _ _ _ _ ?_|refine hd _ _ _ _ ?_|refine wn ?_|refine wo ?_|refine wp (by decide) ?_|(apply Tri.ldE; (first|exact K0|exact K1|exact K2|exact K3|exact K4|exact K5|exact K6|exact K7|exact K8|exact K9|exact K10|exact K11); (exact rfl); (exact wz rfl))|(apply Tri.stE; (first|exact K0|exact K1|exact K2|exact K3|exact K4|exact K5|exact K6|exact K7|exact K8|exact K9|exact K10|exact K11); (exact rfl); (exact wz rfl))|(apply Tri.same; (first|exact K0|exact K1|exact K2|exact K3|exact K4|exact K5|exact K6|exact K7|exact K8|exact K9|exact K10|exact K11); (exact rfl); (exact wz rfl))|refine wq fun _ => ?_)
        refine Tri.cnd (fun hk => ?_) (fun hk => ?_)
        · refine Tri.ldE (l := T.e y) (by first|exact K0|exact K1|exact K2|exact K3|exact K4|exact K5|exact K6|exact K7|exact K8|exact K9|exact K10|exact K11) (by simp [← T.len y]) (by simp [T.len]) ?_
          repeat (first|refine wa ?_|refine wb ?_|refine wc ?_|refine wd ?_|refine we ?_|refine wf ?_|refine wg ?_|refine wh rfl ?_|refine wi rfl ?_|refine wj rfl ?_|refine wk rfl ?_|refine wl rfl ?_|refine wm (by decide) ?_|refine wr ?_|refine ws ?_|refine wt ?_|refine hdec _ _ _ _ ?_|refine hd _ _ _ _ ?_|refine wn ?_|refine wo ?_|refine wp (by decide) ?_|(apply Tri.ldE; (first|exact K0|exact K1|exact K2|exact K3|exact K4|exact K5|exact K6|exact K7|exact K8|exact K9|exact K10|exact K11); (exact rfl); (exact wz rfl))|(apply Tri.stE; (first|exact K0|exact K1|exact K2|exact K3|exact K4|exact K5|exact K6|exact K7|exact K8|exact K9|exact K10|exact K11); (exact rfl); (exact wz rfl))|(apply Tri.same; (first|exact K0|exact K1|exact K2|exact K3|exact K4|exact K5|exact K6|exact K7|exact K8|exact K9|exact K10|exact K11); (exact rfl); (exact wz rfl))|refine wq fun _ => ?_)
          obtain ⟨z, M', rfl⟩ : ∃ z M', M = z :: M' := by
            cases M with
            | nil => simp at hM
            | cons z M' => exact ⟨z, M', rfl⟩
          refine Tri.ixst (T := T) y (by first|exact K0|exact K1|exact K2|exact K3|exact K4|exact K5|exact K6|exact K7|exact K8|exact K9|exact K10|exact K11) rfl (by omega) (by simp; omega) rfl ?_
          rw [Int.toNat_natCast, show G ++ z :: M' ++ y :: R' = G ++ z :: (M' ++ y :: R') by simp, set_mid' rfl]
          refine Tri.back (m' := R'.length) (by simp) ⟨G ++ [y], M' ++ [y], [], R', rfl, ?_, by simp, by simp at hlen ⊢; omega, ?_, rfl⟩ (by simpa using (by repeat (first|exact Sub.refl _|exact Sub.nil _|(apply Sub.cons; (first|exact K0|exact K1|exact K2|exact K3|exact K4|exact K5|exact K6|exact K7|exact K8|exact K9|exact K10|exact K11))|apply Sub.skip)))
          · rw [hfin, List.filter_cons, if_pos hk]; simp
          · rw [wr_i64 (by simp at hlen ⊢; omega) (by simp at hlen ⊢; omega), wr_i64 (by simp at hlen ⊢; omega) (by simp at hlen ⊢; omega)]
            rw [show (G.length : Int) + 1 = ((G ++ [y]).length : Nat) by simp, show ((G.length + (z :: M').length : Nat) : Int) + 1 = (((G ++ [y]).length + (M' ++ [y]).length : Nat) : Int) by simp; omega]
        · refine Tri.back (m' := R'.length) (by simp) ⟨G, M ++ [y], [], R', rfl, ?_, by simp, by simp; omega, ?_, rfl⟩ (by simpa using (by repeat (first|exact Sub.refl _|exact Sub.nil _|(apply Sub.cons; (first|exact K0|exact K1|exact K2|exact K3|exact K4|exact K5|exact K6|exact K7|exact K8|exact K9|exact K10|exact K11))|apply Sub.skip)))
          · rw [hfin, List.filter_cons, if_neg (by simpa using hk)]
          · rw [wr_i64 (by omega) (by omega)]
            simp only [List.length_append, List.length_cons, List.length_nil]
            congr 5
    · have hc : R' = [] := List.length_eq_zero_iff.1 (by simp at hc; omega)
      subst hc
      repeat (first|refine wa ?_|refine wb ?_|refine wc ?_|refine wd ?_|refine we ?_|refine wf ?_|refine wg ?_|refine wh rfl ?_|refine wi rfl ?_|refine wj rfl ?_|refine wk rfl ?_|refine wl rfl ?_|refine wm (by decide) ?_|refine wr ?_|refine ws ?_|refine wt ?_|refine hdec _ _ _ _ ?_|refine hd _ _ _ _ ?_|refine wn ?_|refine wo ?_|refine wp (by decide) ?_|(apply Tri.ldE; (first|exact K0|exact K1|exact K2|exact K3|exact K4|exact K5|exact K6|exact K7|exact K8|exact K9|exact K10|exact K11); (exact rfl); (exact wz rfl))|(apply Tri.stE; (first|exact K0|exact K1|exact K2|exact K3|exact K4|exact K5|exact K6|exact K7|exact K8|exact K9|exact K10|exact K11); (exact rfl); (exact wz rfl))|(apply Tri.same; (first|exact K0|exact K1|exact K2|exact K3|exact K4|exact K5|exact K6|exact K7|exact K8|exact K9|exact K10|exact K11); (exact rfl); (exact wz rfl))|refine wq fun _ => ?_)
      rw [List.append_nil]
      refine clear_tri (T := T) (z := T.z) (by first|exact K0|exact K1|exact K2|exact K3|exact K4|exact K5|exact K6|exact K7|exact K8|exact K9|exact K10|exact K11) rfl hzs rfl fun o' => ?_
      simp only [List.filter_nil, List.append_nil] at hfin
      rw [hfin]
      exact Tri.retF ⟨o', rfl, rfl⟩ (by repeat (first|exact Sub.refl _|exact Sub.nil _|(apply Sub.cons; (first|exact K0|exact K1|exact K2|exact K3|exact K4|exact K5|exact K6|exact K7|exact K8|exact K9|exact K10|exact K11))|apply Sub.skip))

end
end Go.Proofs.YtpbhfolaoccpkaaGreat.Fw
set_option linter.unusedVariables false
set_option linter.unusedSimpArgs false
namespace Go.Proofs.YtpbhfolaoccpkaaGreat.Fw
open Go
section
variable {E : Env}
abbrev RT : AV → List Assn → Prop := fun v _ => v = .sc (.b true)
abbrev WT : Res → Prop := fun r => r.1.1 = 0 ∧ ∃ v, r.1.2 = [v] ∧ v = .sc (.b true)
theorem law_fin {f : FuncId} {fn : Func} {args : List AV} {t : Tree} {H : AH} (hf : E.P.funcs[f]? = some fn) (ht : bodyK E.T (E.hs f) fn args = t) (h : Wp E t H WT) :
    ∃ n H1, callA E.P E.T E.hs n f args H = some (.sc (.b true), H1) := by
  obtain ⟨n, v, H1, h1, rfl⟩ := CallWp.ofTri (R := fun v _ => v = .sc (.b true)) hf ht h
  exact ⟨n, H1, h1⟩
theorem Tri.fin {L : List Assn} {t : Tree} {H : AH} (h : Tri E L t (RQ [] RT)) (hs : Star H L) : Wp E t H WT :=
  Wp.mono _ (fun r hr => by
    obtain ⟨L', ⟨h0, v, L1, h1, h2, h3⟩, h4⟩ := hr
    exact ⟨h0, v, h1, h2⟩) (h.go H hs)
theorem Star.nil (H : AH) : Star H [] := trivial
theorem Star.cons {H : AH} {id : Nat} {o : AO} {L : List Assn} (ho : H.obj id = some o) (hn : id < H.next) (hL : StarU H (fun i => i = id) L) : Star H (.ob id o :: L) := by
  refine ⟨one id o, rfl, fun i x hi => ?_, StarU.weak (fun i hi => ?_) hL⟩
  · simp only [one] at hi
    split at hi
    · rename_i e; cases hi; subst e; exact ⟨ho, hn, fun h => h⟩
    · cases hi
  · rcases hi with hi | hi
    · exact hi.elim
    · simp only [one] at hi
      split at hi
      · assumption
      · exact absurd rfl hi
end
end Go.Proofs.YtpbhfolaoccpkaaGreat.Fw
set_option linter.unusedVariables false
set_option linter.unusedSimpArgs false
namespace Go.Proofs.YtpbhfolaoccpkaaGreat.Fw
open Go
section
variable {E : Env} {α : Type} {T : Enc α} {z : Nat}
theorem Tri.ixE {o : Option SlD} {ro : Bool} {l : List α} {j : Int} {f : Nat → Nat → Nat → Tree} {L R : List Assn} {Q : Post} (p : Pick L (.sl ro T o l) R) (hz : T.z = z) (h0 : 0 ≤ j) (h1 : j < l.length)
    (h : ∀ d, o = some d → Tri E (.sl ro T (some d) l :: R) (f d.id d.off j.toNat) Q) : Tri E L (.ixS z o j f) Q := by
  refine Tri.ix p hz h0 h1 fun d c ho q => ?_
  exact Tri.mkS Pick.here q (h d ho)
theorem Tri.slOp {d : SlD} {ro : Bool} {l : List α} {t : Tree} {L R : List Assn} {Q : Post} (p : Pick L (.sl ro T (some d) l) R) (h : ∀ c, SlOk T d l c → Tri E (.ob d.id (.cells ro c) :: R) t Q) : Tri E L t Q := Tri.slS p h
theorem Tri.ldR {d : SlD} {ro : Bool} {l : List α} {k n off : Nat} {j : Nat} {f : List Sc → Tree} {L R : List Assn} {Q : Post} {x : α} {r : List Sc} (p : Pick L (.sl ro T (some d) l) R) (hz : T.z = z) (hx : l[j]? = some x) (ho : off = d.off + j * z + k) (hk : k + n ≤ z) (hr : ((T.e x).drop k).take n = r)
    (h : Tri E (.sl ro T (some d) l :: R) (f r) Q) : Tri E L (.ld d.id off n f) Q := by
  obtain ⟨hj, _⟩ := List.getElem?_eq_some_iff.1 hx
  refine Tri.slOp p fun c q => ?_
  subst hz; subst ho
  have := q.bound hj
  refine Tri.ldE Pick.here (l := r) ?_ (by omega) (Tri.mkS Pick.here q h)
  rw [take_drop_mid c (d.off + j * T.z) T.z k n hk, q.get hx, hr]
end
end Go.Proofs.YtpbhfolaoccpkaaGreat.Fw
