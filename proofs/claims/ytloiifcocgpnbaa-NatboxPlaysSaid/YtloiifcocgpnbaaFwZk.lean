/- The library's sort in place, over any element: partition, pivot, heap sort, patterns. -/
import Derived.Test.YtloiifcocgpnbaaFwZj
set_option linter.unusedVariables false
set_option linter.unusedSimpArgs false
namespace Go.Proofs.Ytloiifcocgpnbaa.Fw
open Go
section
variable {E : Env} {α : Type} {T : Enc α} {z : Nat} {dec : Dec} {zs : List Sc} {S : SIds}

theorem up1 (B : SOk E z dec zs S) (el : ElOk E T z dec zs) {o : Option SlD} {l : List α} {a b i j : Nat} {g : FuncId} {f c : List (Nat × Nat)} {lt : α → α → Prop} (hcmp : IsCmp E T g f c lt) (hb : b ≤ l.length) (hl : l.length ≤ 1000) (hp : Prt lt a b i j l)
    {k : Nat → List AV → Tree} {Q : Post} {F : List Assn}
    (h : ∀ i', i ≤ i' → Prt lt a b i' j l → (i' < j → ∀ x y, l[i']? = some x → l[a]? = some y → ¬ lt x y) → Tri E (.sl false T o l :: F) (k 2 [.sc (.sl o), .sc (.i .i64 a), .sc (.fn g f c), .sc (.i .i64 i'), .sc (.i .i64 ((j : Int) - 1))]) Q) :
    Tri E (.sl false T o l :: F) (.loop (gpart_b38 T.z dec zs S) [.sc (.sl o), .sc (.i .i64 a), .sc (.fn g f c), .sc (.i .i64 i), .sc (.i .i64 ((j : Int) - 1))] k) Q := by
  have hdec := el.hd
  have hz := el.hz
  subst hz
  refine Tri.loop (I := fun m l' L => ∃ r : Nat, m = j - r ∧ i ≤ r ∧ Prt lt a b r j l ∧ l' = [.sc (.sl o), .sc (.i .i64 a), .sc (.fn g f c), .sc (.i .i64 r), .sc (.i .i64 ((j : Int) - 1))] ∧ L = .sl false T o l :: F)
    ⟨i, rfl, Nat.le_refl _, hp, rfl, rfl⟩ (Sub.refl _) ?_
  clear hp
  rintro m l' L ⟨i, rfl, hge, hp, rfl, rfl⟩
  have h1 := hp.ai
  have h2 := hp.ij
  have h3 := hp.jb
  repeat (first|refine wa ?_|refine wb ?_|refine wc ?_|refine wd ?_|refine we ?_|refine wf ?_|refine wg ?_|refine wh rfl ?_|refine wi rfl ?_|refine wj rfl ?_|refine wk rfl ?_|refine wl rfl ?_|refine wm (by decide) ?_|refine hdec _ _ _ _ ?_|refine wn ?_|refine wo ?_|refine wp (by decide) ?_|(apply Tri.ldE; (first|exact K0|exact K1|exact K2|exact K3|exact K4|exact K5|exact K6|exact K7|exact K8|exact K9|exact K10|exact K11); (exact rfl); (exact wz rfl))|(apply Tri.stE; (first|exact K0|exact K1|exact K2|exact K3|exact K4|exact K5|exact K6|exact K7|exact K8|exact K9|exact K10|exact K11); (exact rfl); (exact wz rfl))|(apply Tri.same; (first|exact K0|exact K1|exact K2|exact K3|exact K4|exact K5|exact K6|exact K7|exact K8|exact K9|exact K10|exact K11); (exact rfl); (exact wz rfl))|refine wq fun _ => ?_)
  refine Tri.cnd (fun hc => ?_) (fun hc => ?_)
  · have hc : i < j := by simp at hc; omega
    refine Tri.ixld (T := T) (by first|exact K0|exact K1|exact K2|exact K3|exact K4|exact K5|exact K6|exact K7|exact K8|exact K9|exact K10|exact K11) rfl (by omega) (by omega) fun x hx => ?_
    rw [Int.toNat_natCast] at hx
    repeat (first|refine wa ?_|refine wb ?_|refine wc ?_|refine wd ?_|refine we ?_|refine wf ?_|refine wg ?_|refine wh rfl ?_|refine wi rfl ?_|refine wj rfl ?_|refine wk rfl ?_|refine wl rfl ?_|refine wm (by decide) ?_|refine hdec _ _ _ _ ?_|refine wn ?_|refine wo ?_|refine wp (by decide) ?_|(apply Tri.ldE; (first|exact K0|exact K1|exact K2|exact K3|exact K4|exact K5|exact K6|exact K7|exact K8|exact K9|exact K10|exact K11); (exact rfl); (exact wz rfl))|(apply Tri.stE; (first|exact K0|exact K1|exact K2|exact K3|exact K4|exact K5|exact K6|exact K7|exact K8|exact K9|exact K10|exact K11); (exact rfl); (exact wz rfl))|(apply Tri.same; (first|exact K0|exact K1|exact K2|exact K3|exact K4|exact K5|exact K6|exact K7|exact K8|exact K9|exact K10|exact K11); (exact rfl); (exact wz rfl))|refine wq fun _ => ?_)
    refine Tri.ixld (T := T) (by first|exact K0|exact K1|exact K2|exact K3|exact K4|exact K5|exact K6|exact K7|exact K8|exact K9|exact K10|exact K11) rfl (by omega) (by omega) fun y hy => ?_
    rw [Int.toNat_natCast] at hy
    repeat (first|refine wa ?_|refine wb ?_|refine wc ?_|refine wd ?_|refine we ?_|refine wf ?_|refine wg ?_|refine wh rfl ?_|refine wi rfl ?_|refine wj rfl ?_|refine wk rfl ?_|refine wl rfl ?_|refine wm (by decide) ?_|refine hdec _ _ _ _ ?_|refine wn ?_|refine wo ?_|refine wp (by decide) ?_|(apply Tri.ldE; (first|exact K0|exact K1|exact K2|exact K3|exact K4|exact K5|exact K6|exact K7|exact K8|exact K9|exact K10|exact K11); (exact rfl); (exact wz rfl))|(apply Tri.stE; (first|exact K0|exact K1|exact K2|exact K3|exact K4|exact K5|exact K6|exact K7|exact K8|exact K9|exact K10|exact K11); (exact rfl); (exact wz rfl))|(apply Tri.same; (first|exact K0|exact K1|exact K2|exact K3|exact K4|exact K5|exact K6|exact K7|exact K8|exact K9|exact K10|exact K11); (exact rfl); (exact wz rfl))|refine wq fun _ => ?_)
    refine Tri.callv rfl (hcmp x y) (by repeat (first|exact Picks.nil|(apply Picks.cons; (first|exact K0|exact K1|exact K2|exact K3|exact K4|exact K5|exact K6|exact K7|exact K8|exact K9|exact K10|exact K11)))) ?_
    rintro v L' ⟨n, rfl, hn, rfl⟩
    simp only [List.cons_append, List.nil_append]
    repeat (first|refine wa ?_|refine wb ?_|refine wc ?_|refine wd ?_|refine we ?_|refine wf ?_|refine wg ?_|refine wh rfl ?_|refine wi rfl ?_|refine wj rfl ?_|refine wk rfl ?_|refine wl rfl ?_|refine wm (by decide) ?_|refine hdec _ _ _ _ ?_|refine wn ?_|refine wo ?_|refine wp (by decide) ?_|(apply Tri.ldE; (first|exact K0|exact K1|exact K2|exact K3|exact K4|exact K5|exact K6|exact K7|exact K8|exact K9|exact K10|exact K11); (exact rfl); (exact wz rfl))|(apply Tri.stE; (first|exact K0|exact K1|exact K2|exact K3|exact K4|exact K5|exact K6|exact K7|exact K8|exact K9|exact K10|exact K11); (exact rfl); (exact wz rfl))|(apply Tri.same; (first|exact K0|exact K1|exact K2|exact K3|exact K4|exact K5|exact K6|exact K7|exact K8|exact K9|exact K10|exact K11); (exact rfl); (exact wz rfl))|refine wq fun _ => ?_)
    refine Tri.cnd (fun hk => ?_) (fun hk => ?_)
    · have hk : lt x y := hn.1 (by simpa using hk)
      refine Tri.back (m' := j - (i + 1)) (by omega) ⟨i + 1, rfl, by omega, hp.up hc hx hy hk, ?_, rfl⟩ (Sub.refl _)
      rw [wr_i64 (by omega) (by omega)]; rfl
    · have hk : ¬ lt x y := fun h => by have := hn.2 h; simp at hk; omega
      refine Tri.exit (by decide) ?_
      exact h i hge hp fun _ x' y' hx' hy' => by rw [hx] at hx'; rw [hy] at hy'; cases hx'; cases hy'; exact hk
  · have hc : ¬ i < j := by simp at hc; omega
    refine Tri.exit (by decide) ?_
    exact h i hge hp fun h' => absurd h' hc

theorem down1 (B : SOk E z dec zs S) (el : ElOk E T z dec zs) {o : Option SlD} {l : List α} {a b i j : Nat} {g : FuncId} {f c : List (Nat × Nat)} {lt : α → α → Prop} (hcmp : IsCmp E T g f c lt) (hb : b ≤ l.length) (hl : l.length ≤ 1000) (hp : Prt lt a b i j l)
    {k : Nat → List AV → Tree} {Q : Post} {F : List Assn}
    (h : ∀ j', j' ≤ j → Prt lt a b i j' l → (i < j' → ∀ x y, l[j' - 1]? = some x → l[a]? = some y → lt x y) → Tri E (.sl false T o l :: F) (k 6 [.sc (.sl o), .sc (.i .i64 a), .sc (.fn g f c), .sc (.i .i64 i), .sc (.i .i64 ((j' : Int) - 1))]) Q) :
    Tri E (.sl false T o l :: F) (.loop (gpart_b86 T.z dec zs S) [.sc (.sl o), .sc (.i .i64 a), .sc (.fn g f c), .sc (.i .i64 i), .sc (.i .i64 ((j : Int) - 1))] k) Q := by
  have hdec := el.hd
  have hz := el.hz
  subst hz
  refine Tri.loop (I := fun m l' L => ∃ r : Nat, m = r - i ∧ r ≤ j ∧ Prt lt a b i r l ∧ l' = [.sc (.sl o), .sc (.i .i64 a), .sc (.fn g f c), .sc (.i .i64 i), .sc (.i .i64 ((r : Int) - 1))] ∧ L = .sl false T o l :: F)
    ⟨j, rfl, Nat.le_refl _, hp, rfl, rfl⟩ (Sub.refl _) ?_
  clear hp
  rintro m l' L ⟨j, rfl, hge, hp, rfl, rfl⟩
  have h1 := hp.ai
  have h2 := hp.ij
  have h3 := hp.jb
  repeat (first|refine wa ?_|refine wb ?_|refine wc ?_|refine wd ?_|refine we ?_|refine wf ?_|refine wg ?_|refine wh rfl ?_|refine wi rfl ?_|refine wj rfl ?_|refine wk rfl ?_|refine wl rfl ?_|refine wm (by decide) ?_|refine hdec _ _ _ _ ?_|refine wn ?_|refine wo ?_|refine wp (by decide) ?_|(apply Tri.ldE; (first|exact K0|exact K1|exact K2|exact K3|exact K4|exact K5|exact K6|exact K7|exact K8|exact K9|exact K10|exact K11); (exact rfl); (exact wz rfl))|(apply Tri.stE; (first|exact K0|exact K1|exact K2|exact K3|exact K4|exact K5|exact K6|exact K7|exact K8|exact K9|exact K10|exact K11); (exact rfl); (exact wz rfl))|(apply Tri.same; (first|exact K0|exact K1|exact K2|exact K3|exact K4|exact K5|exact K6|exact K7|exact K8|exact K9|exact K10|exact K11); (exact rfl); (exact wz rfl))|refine wq fun _ => ?_)
  refine Tri.cnd (fun hc => ?_) (fun hc => ?_)
  · have hc : i < j := by simp at hc; omega
    obtain ⟨j, rfl⟩ : ∃ j', j = j' + 1 := ⟨j - 1, by omega⟩
    rw [show ((j + 1 : Nat) : Int) - 1 = (j : Int) by omega]
    refine Tri.ixld (T := T) (by first|exact K0|exact K1|exact K2|exact K3|exact K4|exact K5|exact K6|exact K7|exact K8|exact K9|exact K10|exact K11) rfl (by omega) (by omega) fun x hx => ?_
    rw [Int.toNat_natCast] at hx
    repeat (first|refine wa ?_|refine wb ?_|refine wc ?_|refine wd ?_|refine we ?_|refine wf ?_|refine wg ?_|refine wh rfl ?_|refine wi rfl ?_|refine wj rfl ?_|refine wk rfl ?_|refine wl rfl ?_|refine wm (by decide) ?_|refine hdec _ _ _ _ ?_|refine wn ?_|refine wo ?_|refine wp (by decide) ?_|(apply Tri.ldE; (first|exact K0|exact K1|exact K2|exact K3|exact K4|exact K5|exact K6|exact K7|exact K8|exact K9|exact K10|exact K11); (exact rfl); (exact wz rfl))|(apply Tri.stE; (first|exact K0|exact K1|exact K2|exact K3|exact K4|exact K5|exact K6|exact K7|exact K8|exact K9|exact K10|exact K11); (exact rfl); (exact wz rfl))|(apply Tri.same; (first|exact K0|exact K1|exact K2|exact K3|exact K4|exact K5|exact K6|exact K7|exact K8|exact K9|exact K10|exact K11); (exact rfl); (exact wz rfl))|refine wq fun _ => ?_)
    refine Tri.ixld (T := T) (by first|exact K0|exact K1|exact K2|exact K3|exact K4|exact K5|exact K6|exact K7|exact K8|exact K9|exact K10|exact K11) rfl (by omega) (by omega) fun y hy => ?_
    rw [Int.toNat_natCast] at hy
    repeat (first|refine wa ?_|refine wb ?_|refine wc ?_|refine wd ?_|refine we ?_|refine wf ?_|refine wg ?_|refine wh rfl ?_|refine wi rfl ?_|refine wj rfl ?_|refine wk rfl ?_|refine wl rfl ?_|refine wm (by decide) ?_|refine hdec _ _ _ _ ?_|refine wn ?_|refine wo ?_|refine wp (by decide) ?_|(apply Tri.ldE; (first|exact K0|exact K1|exact K2|exact K3|exact K4|exact K5|exact K6|exact K7|exact K8|exact K9|exact K10|exact K11); (exact rfl); (exact wz rfl))|(apply Tri.stE; (first|exact K0|exact K1|exact K2|exact K3|exact K4|exact K5|exact K6|exact K7|exact K8|exact K9|exact K10|exact K11); (exact rfl); (exact wz rfl))|(apply Tri.same; (first|exact K0|exact K1|exact K2|exact K3|exact K4|exact K5|exact K6|exact K7|exact K8|exact K9|exact K10|exact K11); (exact rfl); (exact wz rfl))|refine wq fun _ => ?_)
    refine Tri.callv rfl (hcmp x y) (by repeat (first|exact Picks.nil|(apply Picks.cons; (first|exact K0|exact K1|exact K2|exact K3|exact K4|exact K5|exact K6|exact K7|exact K8|exact K9|exact K10|exact K11)))) ?_
    rintro v L' ⟨n, rfl, hn, rfl⟩
    simp only [List.cons_append, List.nil_append]
    repeat (first|refine wa ?_|refine wb ?_|refine wc ?_|refine wd ?_|refine we ?_|refine wf ?_|refine wg ?_|refine wh rfl ?_|refine wi rfl ?_|refine wj rfl ?_|refine wk rfl ?_|refine wl rfl ?_|refine wm (by decide) ?_|refine hdec _ _ _ _ ?_|refine wn ?_|refine wo ?_|refine wp (by decide) ?_|(apply Tri.ldE; (first|exact K0|exact K1|exact K2|exact K3|exact K4|exact K5|exact K6|exact K7|exact K8|exact K9|exact K10|exact K11); (exact rfl); (exact wz rfl))|(apply Tri.stE; (first|exact K0|exact K1|exact K2|exact K3|exact K4|exact K5|exact K6|exact K7|exact K8|exact K9|exact K10|exact K11); (exact rfl); (exact wz rfl))|(apply Tri.same; (first|exact K0|exact K1|exact K2|exact K3|exact K4|exact K5|exact K6|exact K7|exact K8|exact K9|exact K10|exact K11); (exact rfl); (exact wz rfl))|refine wq fun _ => ?_)
    refine Tri.cnd (fun hk => ?_) (fun hk => ?_)
    · have hk : ¬ lt x y := fun h => by have := hn.2 h; simp at hk; omega
      refine Tri.back (m' := j - i) (by omega) ⟨j, rfl, by omega, hp.down (by omega) hx hy hk, ?_, rfl⟩ (Sub.refl _)
      rw [wr_i64 (by omega) (by omega)]
    · have hk : lt x y := hn.1 (by simpa using hk)
      refine Tri.exit (by decide) ?_
      have := h (j + 1) hge hp fun _ x' y' hx' hy' => by rw [show j + 1 - 1 = j from rfl, hx] at hx'; rw [hy] at hy'; cases hx'; cases hy'; exact hk
      rwa [show ((j + 1 : Nat) : Int) - 1 = (j : Int) by omega] at this
  · have hc : ¬ i < j := by simp at hc; omega
    refine Tri.exit (by decide) ?_
    exact h j hge hp fun h' => absurd h' hc

theorem up2 (B : SOk E z dec zs S) (el : ElOk E T z dec zs) {o : Option SlD} {l : List α} {a b i j : Nat} {g : FuncId} {f c : List (Nat × Nat)} {lt : α → α → Prop} (hcmp : IsCmp E T g f c lt) (hb : b ≤ l.length) (hl : l.length ≤ 1000) (hp : Prt lt a b i j l)
    {k : Nat → List AV → Tree} {Q : Post} {F : List Assn}
    (h : ∀ i', i ≤ i' → Prt lt a b i' j l → (i' < j → ∀ x y, l[i']? = some x → l[a]? = some y → ¬ lt x y) → Tri E (.sl false T o l :: F) (k 14 [.sc (.sl o), .sc (.i .i64 a), .sc (.fn g f c), .sc (.i .i64 i'), .sc (.i .i64 ((j : Int) - 1))]) Q) :
    Tri E (.sl false T o l :: F) (.loop (gpart_b217 T.z dec zs S) [.sc (.sl o), .sc (.i .i64 a), .sc (.fn g f c), .sc (.i .i64 i), .sc (.i .i64 ((j : Int) - 1))] k) Q := by
  have hdec := el.hd
  have hz := el.hz
  subst hz
  refine Tri.loop (I := fun m l' L => ∃ r : Nat, m = j - r ∧ i ≤ r ∧ Prt lt a b r j l ∧ l' = [.sc (.sl o), .sc (.i .i64 a), .sc (.fn g f c), .sc (.i .i64 r), .sc (.i .i64 ((j : Int) - 1))] ∧ L = .sl false T o l :: F)
    ⟨i, rfl, Nat.le_refl _, hp, rfl, rfl⟩ (Sub.refl _) ?_
  clear hp
  rintro m l' L ⟨i, rfl, hge, hp, rfl, rfl⟩
  have h1 := hp.ai
  have h2 := hp.ij
  have h3 := hp.jb
  repeat (first|refine wa ?_|refine wb ?_|refine wc ?_|refine wd ?_|refine we ?_|refine wf ?_|refine wg ?_|refine wh rfl ?_|refine wi rfl ?_|refine wj rfl ?_|refine wk rfl ?_|refine wl rfl ?_|refine wm (by decide) ?_|refine hdec _ _ _ _ ?_|refine wn ?_|refine wo ?_|refine wp (by decide) ?_|(apply Tri.ldE; (first|exact K0|exact K1|exact K2|exact K3|exact K4|exact K5|exact K6|exact K7|exact K8|exact K9|exact K10|exact K11); (exact rfl); (exact wz rfl))|(apply Tri.stE; (first|exact K0|exact K1|exact K2|exact K3|exact K4|exact K5|exact K6|exact K7|exact K8|exact K9|exact K10|exact K11); (exact rfl); (exact wz rfl))|(apply Tri.same; (first|exact K0|exact K1|exact K2|exact K3|exact K4|exact K5|exact K6|exact K7|exact K8|exact K9|exact K10|exact K11); (exact rfl); (exact wz rfl))|refine wq fun _ => ?_)
  refine Tri.cnd (fun hc => ?_) (fun hc => ?_)
  · have hc : i < j := by simp at hc; omega
    refine Tri.ixld (T := T) (by first|exact K0|exact K1|exact K2|exact K3|exact K4|exact K5|exact K6|exact K7|exact K8|exact K9|exact K10|exact K11) rfl (by omega) (by omega) fun x hx => ?_
    rw [Int.toNat_natCast] at hx
    repeat (first|refine wa ?_|refine wb ?_|refine wc ?_|refine wd ?_|refine we ?_|refine wf ?_|refine wg ?_|refine wh rfl ?_|refine wi rfl ?_|refine wj rfl ?_|refine wk rfl ?_|refine wl rfl ?_|refine wm (by decide) ?_|refine hdec _ _ _ _ ?_|refine wn ?_|refine wo ?_|refine wp (by decide) ?_|(apply Tri.ldE; (first|exact K0|exact K1|exact K2|exact K3|exact K4|exact K5|exact K6|exact K7|exact K8|exact K9|exact K10|exact K11); (exact rfl); (exact wz rfl))|(apply Tri.stE; (first|exact K0|exact K1|exact K2|exact K3|exact K4|exact K5|exact K6|exact K7|exact K8|exact K9|exact K10|exact K11); (exact rfl); (exact wz rfl))|(apply Tri.same; (first|exact K0|exact K1|exact K2|exact K3|exact K4|exact K5|exact K6|exact K7|exact K8|exact K9|exact K10|exact K11); (exact rfl); (exact wz rfl))|refine wq fun _ => ?_)
    refine Tri.ixld (T := T) (by first|exact K0|exact K1|exact K2|exact K3|exact K4|exact K5|exact K6|exact K7|exact K8|exact K9|exact K10|exact K11) rfl (by omega) (by omega) fun y hy => ?_
    rw [Int.toNat_natCast] at hy
    repeat (first|refine wa ?_|refine wb ?_|refine wc ?_|refine wd ?_|refine we ?_|refine wf ?_|refine wg ?_|refine wh rfl ?_|refine wi rfl ?_|refine wj rfl ?_|refine wk rfl ?_|refine wl rfl ?_|refine wm (by decide) ?_|refine hdec _ _ _ _ ?_|refine wn ?_|refine wo ?_|refine wp (by decide) ?_|(apply Tri.ldE; (first|exact K0|exact K1|exact K2|exact K3|exact K4|exact K5|exact K6|exact K7|exact K8|exact K9|exact K10|exact K11); (exact rfl); (exact wz rfl))|(apply Tri.stE; (first|exact K0|exact K1|exact K2|exact K3|exact K4|exact K5|exact K6|exact K7|exact K8|exact K9|exact K10|exact K11); (exact rfl); (exact wz rfl))|(apply Tri.same; (first|exact K0|exact K1|exact K2|exact K3|exact K4|exact K5|exact K6|exact K7|exact K8|exact K9|exact K10|exact K11); (exact rfl); (exact wz rfl))|refine wq fun _ => ?_)
    refine Tri.callv rfl (hcmp x y) (by repeat (first|exact Picks.nil|(apply Picks.cons; (first|exact K0|exact K1|exact K2|exact K3|exact K4|exact K5|exact K6|exact K7|exact K8|exact K9|exact K10|exact K11)))) ?_
    rintro v L' ⟨n, rfl, hn, rfl⟩
    simp only [List.cons_append, List.nil_append]
    repeat (first|refine wa ?_|refine wb ?_|refine wc ?_|refine wd ?_|refine we ?_|refine wf ?_|refine wg ?_|refine wh rfl ?_|refine wi rfl ?_|refine wj rfl ?_|refine wk rfl ?_|refine wl rfl ?_|refine wm (by decide) ?_|refine hdec _ _ _ _ ?_|refine wn ?_|refine wo ?_|refine wp (by decide) ?_|(apply Tri.ldE; (first|exact K0|exact K1|exact K2|exact K3|exact K4|exact K5|exact K6|exact K7|exact K8|exact K9|exact K10|exact K11); (exact rfl); (exact wz rfl))|(apply Tri.stE; (first|exact K0|exact K1|exact K2|exact K3|exact K4|exact K5|exact K6|exact K7|exact K8|exact K9|exact K10|exact K11); (exact rfl); (exact wz rfl))|(apply Tri.same; (first|exact K0|exact K1|exact K2|exact K3|exact K4|exact K5|exact K6|exact K7|exact K8|exact K9|exact K10|exact K11); (exact rfl); (exact wz rfl))|refine wq fun _ => ?_)
    refine Tri.cnd (fun hk => ?_) (fun hk => ?_)
    · have hk : lt x y := hn.1 (by simpa using hk)
      refine Tri.back (m' := j - (i + 1)) (by omega) ⟨i + 1, rfl, by omega, hp.up hc hx hy hk, ?_, rfl⟩ (Sub.refl _)
      rw [wr_i64 (by omega) (by omega)]; rfl
    · have hk : ¬ lt x y := fun h => by have := hn.2 h; simp at hk; omega
      refine Tri.exit (by decide) ?_
      exact h i hge hp fun _ x' y' hx' hy' => by rw [hx] at hx'; rw [hy] at hy'; cases hx'; cases hy'; exact hk
  · have hc : ¬ i < j := by simp at hc; omega
    refine Tri.exit (by decide) ?_
    exact h i hge hp fun h' => absurd h' hc

theorem down2 (B : SOk E z dec zs S) (el : ElOk E T z dec zs) {o : Option SlD} {l : List α} {a b i j : Nat} {g : FuncId} {f c : List (Nat × Nat)} {lt : α → α → Prop} (hcmp : IsCmp E T g f c lt) (hb : b ≤ l.length) (hl : l.length ≤ 1000) (hp : Prt lt a b i j l)
    {k : Nat → List AV → Tree} {Q : Post} {F : List Assn}
    (h : ∀ j', j' ≤ j → Prt lt a b i j' l → (i < j' → ∀ x y, l[j' - 1]? = some x → l[a]? = some y → lt x y) → Tri E (.sl false T o l :: F) (k 18 [.sc (.sl o), .sc (.i .i64 a), .sc (.fn g f c), .sc (.i .i64 i), .sc (.i .i64 ((j' : Int) - 1))]) Q) :
    Tri E (.sl false T o l :: F) (.loop (gpart_b265 T.z dec zs S) [.sc (.sl o), .sc (.i .i64 a), .sc (.fn g f c), .sc (.i .i64 i), .sc (.i .i64 ((j : Int) - 1))] k) Q := by
  have hdec := el.hd
  have hz := el.hz
  subst hz
  refine Tri.loop (I := fun m l' L => ∃ r : Nat, m = r - i ∧ r ≤ j ∧ Prt lt a b i r l ∧ l' = [.sc (.sl o), .sc (.i .i64 a), .sc (.fn g f c), .sc (.i .i64 i), .sc (.i .i64 ((r : Int) - 1))] ∧ L = .sl false T o l :: F)
    ⟨j, rfl, Nat.le_refl _, hp, rfl, rfl⟩ (Sub.refl _) ?_
  clear hp
  rintro m l' L ⟨j, rfl, hge, hp, rfl, rfl⟩
  have h1 := hp.ai
  have h2 := hp.ij
  have h3 := hp.jb
  repeat (first|refine wa ?_|refine wb ?_|refine wc ?_|refine wd ?_|refine we ?_|refine wf ?_|refine wg ?_|refine wh rfl ?_|refine wi rfl ?_|refine wj rfl ?_|refine wk rfl ?_|refine wl rfl ?_|refine wm (by decide) ?_|refine hdec _ _ _ _ ?_|refine wn ?_|refine wo ?_|refine wp (by decide) ?_|(apply Tri.ldE; (first|exact K0|exact K1|exact K2|exact K3|exact K4|exact K5|exact K6|exact K7|exact K8|exact K9|exact K10|exact K11); (exact rfl); (exact wz rfl))|(apply Tri.stE; (first|exact K0|exact K1|exact K2|exact K3|exact K4|exact K5|exact K6|exact K7|exact K8|exact K9|exact K10|exact K11); (exact rfl); (exact wz rfl))|(apply Tri.same; (first|exact K0|exact K1|exact K2|exact K3|exact K4|exact K5|exact K6|exact K7|exact K8|exact K9|exact K10|exact K11); (exact rfl); (exact wz rfl))|refine wq fun _ => ?_)
  refine Tri.cnd (fun hc => ?_) (fun hc => ?_)
  · have hc : i < j := by simp at hc; omega
    obtain ⟨j, rfl⟩ : ∃ j', j = j' + 1 := ⟨j - 1, by omega⟩
    rw [show ((j + 1 : Nat) : Int) - 1 = (j : Int) by omega]
    refine Tri.ixld (T := T) (by first|exact K0|exact K1|exact K2|exact K3|exact K4|exact K5|exact K6|exact K7|exact K8|exact K9|exact K10|exact K11) rfl (by omega) (by omega) fun x hx => ?_
    rw [Int.toNat_natCast] at hx
    repeat (first|refine wa ?_|refine wb ?_|refine wc ?_|refine wd ?_|refine we ?_|refine wf ?_|refine wg ?_|refine wh rfl ?_|refine wi rfl ?_|refine wj rfl ?_|refine wk rfl ?_|refine wl rfl ?_|refine wm (by decide) ?_|refine hdec _ _ _ _ ?_|refine wn ?_|refine wo ?_|refine wp (by decide) ?_|(apply Tri.ldE; (first|exact K0|exact K1|exact K2|exact K3|exact K4|exact K5|exact K6|exact K7|exact K8|exact K9|exact K10|exact K11); (exact rfl); (exact wz rfl))|(apply Tri.stE; (first|exact K0|exact K1|exact K2|exact K3|exact K4|exact K5|exact K6|exact K7|exact K8|exact K9|exact K10|exact K11); (exact rfl); (exact wz rfl))|(apply Tri.same; (first|exact K0|exact K1|exact K2|exact K3|exact K4|exact K5|exact K6|exact K7|exact K8|exact K9|exact K10|exact K11); (exact rfl); (exact wz rfl))|refine wq fun _ => ?_)
    refine Tri.ixld (T := T) (by first|exact K0|exact K1|exact K2|exact K3|exact K4|exact K5|exact K6|exact K7|exact K8|exact K9|exact K10|exact K11) rfl (by omega) (by omega) fun y hy => ?_
    rw [Int.toNat_natCast] at hy
    repeat (first|refine wa ?_|refine wb ?_|refine wc ?_|refine wd ?_|refine we ?_|refine wf ?_|refine wg ?_|refine wh rfl ?_|refine wi rfl ?_|refine wj rfl ?_|refine wk rfl ?_|refine wl rfl ?_|refine wm (by decide) ?_|refine hdec _ _ _ _ ?_|refine wn ?_|refine wo ?_|refine wp (by decide) ?_|(apply Tri.ldE; (first|exact K0|exact K1|exact K2|exact K3|exact K4|exact K5|exact K6|exact K7|exact K8|exact K9|exact K10|exact K11); (exact rfl); (exact wz rfl))|(apply Tri.stE; (first|exact K0|exact K1|exact K2|exact K3|exact K4|exact K5|exact K6|exact K7|exact K8|exact K9|exact K10|exact K11); (exact rfl); (exact wz rfl))|(apply Tri.same; (first|exact K0|exact K1|exact K2|exact K3|exact K4|exact K5|exact K6|exact K7|exact K8|exact K9|exact K10|exact K11); (exact rfl); (exact wz rfl))|refine wq fun _ => ?_)
    refine Tri.callv rfl (hcmp x y) (by repeat (first|exact Picks.nil|(apply Picks.cons; (first|exact K0|exact K1|exact K2|exact K3|exact K4|exact K5|exact K6|exact K7|exact K8|exact K9|exact K10|exact K11)))) ?_
    rintro v L' ⟨n, rfl, hn, rfl⟩
    simp only [List.cons_append, List.nil_append]
    repeat (first|refine wa ?_|refine wb ?_|refine wc ?_|refine wd ?_|refine we ?_|refine wf ?_|refine wg ?_|refine wh rfl ?_|refine wi rfl ?_|refine wj rfl ?_|refine wk rfl ?_|refine wl rfl ?_|refine wm (by decide) ?_|refine hdec _ _ _ _ ?_|refine wn ?_|refine wo ?_|refine wp (by decide) ?_|(apply Tri.ldE; (first|exact K0|exact K1|exact K2|exact K3|exact K4|exact K5|exact K6|exact K7|exact K8|exact K9|exact K10|exact K11); (exact rfl); (exact wz rfl))|(apply Tri.stE; (first|exact K0|exact K1|exact K2|exact K3|exact K4|exact K5|exact K6|exact K7|exact K8|exact K9|exact K10|exact K11); (exact rfl); (exact wz rfl))|(apply Tri.same; (first|exact K0|exact K1|exact K2|exact K3|exact K4|exact K5|exact K6|exact K7|exact K8|exact K9|exact K10|exact K11); (exact rfl); (exact wz rfl))|refine wq fun _ => ?_)
    refine Tri.cnd (fun hk => ?_) (fun hk => ?_)
    · have hk : ¬ lt x y := fun h => by have := hn.2 h; simp at hk; omega
      refine Tri.back (m' := j - i) (by omega) ⟨j, rfl, by omega, hp.down (by omega) hx hy hk, ?_, rfl⟩ (Sub.refl _)
      rw [wr_i64 (by omega) (by omega)]
    · have hk : lt x y := hn.1 (by simpa using hk)
      refine Tri.exit (by decide) ?_
      have := h (j + 1) hge hp fun _ x' y' hx' hy' => by rw [show j + 1 - 1 = j from rfl, hx] at hx'; rw [hy] at hy'; cases hx'; cases hy'; exact hk
      rwa [show ((j + 1 : Nat) : Int) - 1 = (j : Int) by omega] at this
  · have hc : ¬ i < j := by simp at hc; omega
    refine Tri.exit (by decide) ?_
    exact h j hge hp fun h' => absurd h' hc

theorem part_spec (B : SOk E z dec zs S) (el : ElOk E T z dec zs) {o : Option SlD} {l : List α} {a b p : Nat} {g : FuncId} {f c : List (Nat × Nat)} {lt : α → α → Prop} (hcmp : IsCmp E T g f c lt) (hab : a < b) (hb : b ≤ l.length) (hpa : a ≤ p) (hpb : p < b) (hl : l.length ≤ 1000) :
    FSpec E S.part [.sc (.sl o), .sc (.i .i64 a), .sc (.i .i64 b), .sc (.i .i64 p), .sc (.fn g f c)] [.sl false T o l]
    (fun v L' => ∃ (l' : List α) (m : Nat) (q : Bool), v = .tu [.sc (.i .i64 m), .sc (.b q)] ∧ L' = [.sl false T o l'] ∧ Rng a b l l' ∧ Parted lt a b m l') := by
  have hdec := el.hd
  have hz := el.hz
  subst hz
  obtain ⟨fn, hf, hbk⟩ := B.part
  refine FSpec.of hf (hbk _ _ _ _ _ _ _) fun F => ?_
  unfold gpart
  refine Tri.ixld (T := T) (by first|exact K0|exact K1|exact K2|exact K3|exact K4|exact K5|exact K6|exact K7|exact K8|exact K9|exact K10|exact K11) rfl (by omega) (by omega) fun x hx => ?_
  rw [Int.toNat_natCast] at hx
  repeat (first|refine wa ?_|refine wb ?_|refine wc ?_|refine wd ?_|refine we ?_|refine wf ?_|refine wg ?_|refine wh rfl ?_|refine wi rfl ?_|refine wj rfl ?_|refine wk rfl ?_|refine wl rfl ?_|refine wm (by decide) ?_|refine hdec _ _ _ _ ?_|refine wn ?_|refine wo ?_|refine wp (by decide) ?_|(apply Tri.ldE; (first|exact K0|exact K1|exact K2|exact K3|exact K4|exact K5|exact K6|exact K7|exact K8|exact K9|exact K10|exact K11); (exact rfl); (exact wz rfl))|(apply Tri.stE; (first|exact K0|exact K1|exact K2|exact K3|exact K4|exact K5|exact K6|exact K7|exact K8|exact K9|exact K10|exact K11); (exact rfl); (exact wz rfl))|(apply Tri.same; (first|exact K0|exact K1|exact K2|exact K3|exact K4|exact K5|exact K6|exact K7|exact K8|exact K9|exact K10|exact K11); (exact rfl); (exact wz rfl))|refine wq fun _ => ?_)
  refine Tri.ixld (T := T) (by first|exact K0|exact K1|exact K2|exact K3|exact K4|exact K5|exact K6|exact K7|exact K8|exact K9|exact K10|exact K11) rfl (by omega) (by omega) fun y hy => ?_
  rw [Int.toNat_natCast] at hy
  repeat (first|refine wa ?_|refine wb ?_|refine wc ?_|refine wd ?_|refine we ?_|refine wf ?_|refine wg ?_|refine wh rfl ?_|refine wi rfl ?_|refine wj rfl ?_|refine wk rfl ?_|refine wl rfl ?_|refine wm (by decide) ?_|refine hdec _ _ _ _ ?_|refine wn ?_|refine wo ?_|refine wp (by decide) ?_|(apply Tri.ldE; (first|exact K0|exact K1|exact K2|exact K3|exact K4|exact K5|exact K6|exact K7|exact K8|exact K9|exact K10|exact K11); (exact rfl); (exact wz rfl))|(apply Tri.stE; (first|exact K0|exact K1|exact K2|exact K3|exact K4|exact K5|exact K6|exact K7|exact K8|exact K9|exact K10|exact K11); (exact rfl); (exact wz rfl))|(apply Tri.same; (first|exact K0|exact K1|exact K2|exact K3|exact K4|exact K5|exact K6|exact K7|exact K8|exact K9|exact K10|exact K11); (exact rfl); (exact wz rfl))|refine wq fun _ => ?_)
  refine Tri.ixst (T := T) x (by first|exact K0|exact K1|exact K2|exact K3|exact K4|exact K5|exact K6|exact K7|exact K8|exact K9|exact K10|exact K11) rfl (by omega) (by omega) rfl ?_
  refine Tri.ixst (T := T) y (by first|exact K0|exact K1|exact K2|exact K3|exact K4|exact K5|exact K6|exact K7|exact K8|exact K9|exact K10|exact K11) rfl (by omega) (by simp; omega) rfl ?_
  rw [Int.toNat_natCast, Int.toNat_natCast, ← sw_eq hy hx]
  have hr : Rng a b l (sw l a p) := Rng.sw (by omega) (by omega) (by omega) (by omega) hb
  have hlen := hr.len
  clear hx hy x y
  generalize sw l a p = l0 at hr hlen
  rw [show IntKind.wrap .i64 ((a : Int) + 1) = ((a + 1 : Nat) : Int) by rw [wr_i64 (by omega) (by omega)]; rfl, show IntKind.wrap .i64 ((b : Int) - 1) = (b : Int) - 1 from wr_i64 (by omega) (by omega)]
  refine up1 B el hcmp (by omega) (by omega) (Prt.start hab) fun i _ hp1 hi => ?_
  unfold gpart_k38
  repeat (first|refine wa ?_|refine wb ?_|refine wc ?_|refine wd ?_|refine we ?_|refine wf ?_|refine wg ?_|refine wh rfl ?_|refine wi rfl ?_|refine wj rfl ?_|refine wk rfl ?_|refine wl rfl ?_|refine wm (by decide) ?_|refine hdec _ _ _ _ ?_|refine wn ?_|refine wo ?_|refine wp (by decide) ?_|(apply Tri.ldE; (first|exact K0|exact K1|exact K2|exact K3|exact K4|exact K5|exact K6|exact K7|exact K8|exact K9|exact K10|exact K11); (exact rfl); (exact wz rfl))|(apply Tri.stE; (first|exact K0|exact K1|exact K2|exact K3|exact K4|exact K5|exact K6|exact K7|exact K8|exact K9|exact K10|exact K11); (exact rfl); (exact wz rfl))|(apply Tri.same; (first|exact K0|exact K1|exact K2|exact K3|exact K4|exact K5|exact K6|exact K7|exact K8|exact K9|exact K10|exact K11); (exact rfl); (exact wz rfl))|refine wq fun _ => ?_)
  refine down1 B el hcmp (by omega) (by omega) hp1 fun j _ hp2 hj => ?_
  have h1 := hp2.ai
  have h2 := hp2.ij
  have h3 := hp2.jb
  unfold gpart_k86
  repeat (first|refine wa ?_|refine wb ?_|refine wc ?_|refine wd ?_|refine we ?_|refine wf ?_|refine wg ?_|refine wh rfl ?_|refine wi rfl ?_|refine wj rfl ?_|refine wk rfl ?_|refine wl rfl ?_|refine wm (by decide) ?_|refine hdec _ _ _ _ ?_|refine wn ?_|refine wo ?_|refine wp (by decide) ?_|(apply Tri.ldE; (first|exact K0|exact K1|exact K2|exact K3|exact K4|exact K5|exact K6|exact K7|exact K8|exact K9|exact K10|exact K11); (exact rfl); (exact wz rfl))|(apply Tri.stE; (first|exact K0|exact K1|exact K2|exact K3|exact K4|exact K5|exact K6|exact K7|exact K8|exact K9|exact K10|exact K11); (exact rfl); (exact wz rfl))|(apply Tri.same; (first|exact K0|exact K1|exact K2|exact K3|exact K4|exact K5|exact K6|exact K7|exact K8|exact K9|exact K10|exact K11); (exact rfl); (exact wz rfl))|refine wq fun _ => ?_)
  refine Tri.cnd (fun hc => ?_) (fun hc => ?_)
  · have hc : ¬ i < j := by simp at hc; omega
    have hij : j = i := by omega
    subst hij
    have ej : (j : Int) - 1 = ((j - 1 : Nat) : Int) := by omega
    rw [ej]
    refine Tri.ixld (T := T) (by first|exact K0|exact K1|exact K2|exact K3|exact K4|exact K5|exact K6|exact K7|exact K8|exact K9|exact K10|exact K11) rfl (by omega) (by omega) fun y hy => ?_
    rw [Int.toNat_natCast] at hy
    repeat (first|refine wa ?_|refine wb ?_|refine wc ?_|refine wd ?_|refine we ?_|refine wf ?_|refine wg ?_|refine wh rfl ?_|refine wi rfl ?_|refine wj rfl ?_|refine wk rfl ?_|refine wl rfl ?_|refine wm (by decide) ?_|refine hdec _ _ _ _ ?_|refine wn ?_|refine wo ?_|refine wp (by decide) ?_|(apply Tri.ldE; (first|exact K0|exact K1|exact K2|exact K3|exact K4|exact K5|exact K6|exact K7|exact K8|exact K9|exact K10|exact K11); (exact rfl); (exact wz rfl))|(apply Tri.stE; (first|exact K0|exact K1|exact K2|exact K3|exact K4|exact K5|exact K6|exact K7|exact K8|exact K9|exact K10|exact K11); (exact rfl); (exact wz rfl))|(apply Tri.same; (first|exact K0|exact K1|exact K2|exact K3|exact K4|exact K5|exact K6|exact K7|exact K8|exact K9|exact K10|exact K11); (exact rfl); (exact wz rfl))|refine wq fun _ => ?_)
    refine Tri.ixld (T := T) (by first|exact K0|exact K1|exact K2|exact K3|exact K4|exact K5|exact K6|exact K7|exact K8|exact K9|exact K10|exact K11) rfl (by omega) (by omega) fun x hx => ?_
    rw [Int.toNat_natCast] at hx
    repeat (first|refine wa ?_|refine wb ?_|refine wc ?_|refine wd ?_|refine we ?_|refine wf ?_|refine wg ?_|refine wh rfl ?_|refine wi rfl ?_|refine wj rfl ?_|refine wk rfl ?_|refine wl rfl ?_|refine wm (by decide) ?_|refine hdec _ _ _ _ ?_|refine wn ?_|refine wo ?_|refine wp (by decide) ?_|(apply Tri.ldE; (first|exact K0|exact K1|exact K2|exact K3|exact K4|exact K5|exact K6|exact K7|exact K8|exact K9|exact K10|exact K11); (exact rfl); (exact wz rfl))|(apply Tri.stE; (first|exact K0|exact K1|exact K2|exact K3|exact K4|exact K5|exact K6|exact K7|exact K8|exact K9|exact K10|exact K11); (exact rfl); (exact wz rfl))|(apply Tri.same; (first|exact K0|exact K1|exact K2|exact K3|exact K4|exact K5|exact K6|exact K7|exact K8|exact K9|exact K10|exact K11); (exact rfl); (exact wz rfl))|refine wq fun _ => ?_)
    refine Tri.ixst (T := T) y (by first|exact K0|exact K1|exact K2|exact K3|exact K4|exact K5|exact K6|exact K7|exact K8|exact K9|exact K10|exact K11) rfl (by omega) (by omega) rfl ?_
    refine Tri.ixst (T := T) x (by first|exact K0|exact K1|exact K2|exact K3|exact K4|exact K5|exact K6|exact K7|exact K8|exact K9|exact K10|exact K11) rfl (by omega) (by simp; omega) rfl ?_
    rw [Int.toNat_natCast, Int.toNat_natCast, ← sw_eq hx hy]
    exact Tri.retF ⟨_, j - 1, _, rfl, rfl, hr.trans (Rng.sw (by omega) (by omega) (by omega) (by omega) (by omega)), hp2.done (by omega) hab⟩ (Sub.refl _)
  · have hc : i < j := by simp at hc; omega
    have hc : i < j := by omega
    obtain ⟨j, rfl⟩ : ∃ j', j = j' + 1 := ⟨j - 1, by omega⟩
    rw [show ((j + 1 : Nat) : Int) - 1 = (j : Int) by omega]
    obtain ⟨z, hz⟩ : ∃ z, l0[a]? = some z := ⟨_, List.getElem?_eq_getElem (by omega)⟩
    refine Tri.ixld (T := T) (by first|exact K0|exact K1|exact K2|exact K3|exact K4|exact K5|exact K6|exact K7|exact K8|exact K9|exact K10|exact K11) rfl (by omega) (by omega) fun y hy => ?_
    rw [Int.toNat_natCast] at hy
    repeat (first|refine wa ?_|refine wb ?_|refine wc ?_|refine wd ?_|refine we ?_|refine wf ?_|refine wg ?_|refine wh rfl ?_|refine wi rfl ?_|refine wj rfl ?_|refine wk rfl ?_|refine wl rfl ?_|refine wm (by decide) ?_|refine hdec _ _ _ _ ?_|refine wn ?_|refine wo ?_|refine wp (by decide) ?_|(apply Tri.ldE; (first|exact K0|exact K1|exact K2|exact K3|exact K4|exact K5|exact K6|exact K7|exact K8|exact K9|exact K10|exact K11); (exact rfl); (exact wz rfl))|(apply Tri.stE; (first|exact K0|exact K1|exact K2|exact K3|exact K4|exact K5|exact K6|exact K7|exact K8|exact K9|exact K10|exact K11); (exact rfl); (exact wz rfl))|(apply Tri.same; (first|exact K0|exact K1|exact K2|exact K3|exact K4|exact K5|exact K6|exact K7|exact K8|exact K9|exact K10|exact K11); (exact rfl); (exact wz rfl))|refine wq fun _ => ?_)
    refine Tri.ixld (T := T) (by first|exact K0|exact K1|exact K2|exact K3|exact K4|exact K5|exact K6|exact K7|exact K8|exact K9|exact K10|exact K11) rfl (by omega) (by omega) fun x hx => ?_
    rw [Int.toNat_natCast] at hx
    repeat (first|refine wa ?_|refine wb ?_|refine wc ?_|refine wd ?_|refine we ?_|refine wf ?_|refine wg ?_|refine wh rfl ?_|refine wi rfl ?_|refine wj rfl ?_|refine wk rfl ?_|refine wl rfl ?_|refine wm (by decide) ?_|refine hdec _ _ _ _ ?_|refine wn ?_|refine wo ?_|refine wp (by decide) ?_|(apply Tri.ldE; (first|exact K0|exact K1|exact K2|exact K3|exact K4|exact K5|exact K6|exact K7|exact K8|exact K9|exact K10|exact K11); (exact rfl); (exact wz rfl))|(apply Tri.stE; (first|exact K0|exact K1|exact K2|exact K3|exact K4|exact K5|exact K6|exact K7|exact K8|exact K9|exact K10|exact K11); (exact rfl); (exact wz rfl))|(apply Tri.same; (first|exact K0|exact K1|exact K2|exact K3|exact K4|exact K5|exact K6|exact K7|exact K8|exact K9|exact K10|exact K11); (exact rfl); (exact wz rfl))|refine wq fun _ => ?_)
    have k1 := hi (by omega) x z hx hz
    have k2 := hj hc y z hy hz
    have hne : i ≠ j := fun e => by subst e; rw [hx] at hy; cases hy; exact k1 k2
    refine Tri.ixst (T := T) y (by first|exact K0|exact K1|exact K2|exact K3|exact K4|exact K5|exact K6|exact K7|exact K8|exact K9|exact K10|exact K11) rfl (by omega) (by omega) rfl ?_
    refine Tri.ixst (T := T) x (by first|exact K0|exact K1|exact K2|exact K3|exact K4|exact K5|exact K6|exact K7|exact K8|exact K9|exact K10|exact K11) rfl (by omega) (by simp; omega) rfl ?_
    rw [Int.toNat_natCast, Int.toNat_natCast, ← sw_eq hx hy]
    have hp3 := hp2.swap (by omega) (by omega) hx hy hz k1 k2
    have hr3 := hr.trans (Rng.sw (l := l0) (i := i) (j := j) (a := a) (b := b) (by omega) (by omega) (by omega) (by omega) (by omega))
    rw [show IntKind.wrap .i64 ((i : Int) + 1) = ((i + 1 : Nat) : Int) by rw [wr_i64 (by omega) (by omega)]; rfl, show IntKind.wrap .i64 ((j : Int) - 1) = (j : Int) - 1 from wr_i64 (by omega) (by omega)]
    refine Tri.loop (I := fun m l' L => ∃ (i j : Nat) (l1 : List α), m = j - i ∧ Prt lt a b i j l1 ∧ Rng a b l l1 ∧ l' = [.sc (.sl o), .sc (.i .i64 a), .sc (.fn g f c), .sc (.i .i64 i), .sc (.i .i64 ((j : Int) - 1))] ∧ L = .sl false T o l1 :: F)
      ⟨i + 1, j, _, rfl, hp3, hr3, rfl, rfl⟩ (Sub.refl _) ?_
    clear hp3 hr3 k1 k2 hne hx hy hz hp1 hp2 hi hj hr hlen
    rintro m l' L ⟨i, j, l1, rfl, hp0, hr1, rfl, rfl⟩
    have hlen := hr1.len
    repeat (first|refine wa ?_|refine wb ?_|refine wc ?_|refine wd ?_|refine we ?_|refine wf ?_|refine wg ?_|refine wh rfl ?_|refine wi rfl ?_|refine wj rfl ?_|refine wk rfl ?_|refine wl rfl ?_|refine wm (by decide) ?_|refine hdec _ _ _ _ ?_|refine wn ?_|refine wo ?_|refine wp (by decide) ?_|(apply Tri.ldE; (first|exact K0|exact K1|exact K2|exact K3|exact K4|exact K5|exact K6|exact K7|exact K8|exact K9|exact K10|exact K11); (exact rfl); (exact wz rfl))|(apply Tri.stE; (first|exact K0|exact K1|exact K2|exact K3|exact K4|exact K5|exact K6|exact K7|exact K8|exact K9|exact K10|exact K11); (exact rfl); (exact wz rfl))|(apply Tri.same; (first|exact K0|exact K1|exact K2|exact K3|exact K4|exact K5|exact K6|exact K7|exact K8|exact K9|exact K10|exact K11); (exact rfl); (exact wz rfl))|refine wq fun _ => ?_)
    have q2 := hp0.ij
    generalize hi0 : i = i0 at hp0 q2 ⊢
    generalize hj0 : j = j0 at hp0 q2 ⊢
    clear hi0 hj0 hc h1 h2 h3
    refine up2 B el hcmp (by omega) (by omega) hp0 fun i q3 hp1 hi => ?_
    unfold gpart_k217
    repeat (first|refine wa ?_|refine wb ?_|refine wc ?_|refine wd ?_|refine we ?_|refine wf ?_|refine wg ?_|refine wh rfl ?_|refine wi rfl ?_|refine wj rfl ?_|refine wk rfl ?_|refine wl rfl ?_|refine wm (by decide) ?_|refine hdec _ _ _ _ ?_|refine wn ?_|refine wo ?_|refine wp (by decide) ?_|(apply Tri.ldE; (first|exact K0|exact K1|exact K2|exact K3|exact K4|exact K5|exact K6|exact K7|exact K8|exact K9|exact K10|exact K11); (exact rfl); (exact wz rfl))|(apply Tri.stE; (first|exact K0|exact K1|exact K2|exact K3|exact K4|exact K5|exact K6|exact K7|exact K8|exact K9|exact K10|exact K11); (exact rfl); (exact wz rfl))|(apply Tri.same; (first|exact K0|exact K1|exact K2|exact K3|exact K4|exact K5|exact K6|exact K7|exact K8|exact K9|exact K10|exact K11); (exact rfl); (exact wz rfl))|refine wq fun _ => ?_)
    refine down2 B el hcmp (by omega) (by omega) hp1 fun j q4 hp2 hj => ?_
    have h1 := hp2.ai
    have h2 := hp2.ij
    have h3 := hp2.jb
    unfold gpart_k265
    repeat (first|refine wa ?_|refine wb ?_|refine wc ?_|refine wd ?_|refine we ?_|refine wf ?_|refine wg ?_|refine wh rfl ?_|refine wi rfl ?_|refine wj rfl ?_|refine wk rfl ?_|refine wl rfl ?_|refine wm (by decide) ?_|refine hdec _ _ _ _ ?_|refine wn ?_|refine wo ?_|refine wp (by decide) ?_|(apply Tri.ldE; (first|exact K0|exact K1|exact K2|exact K3|exact K4|exact K5|exact K6|exact K7|exact K8|exact K9|exact K10|exact K11); (exact rfl); (exact wz rfl))|(apply Tri.stE; (first|exact K0|exact K1|exact K2|exact K3|exact K4|exact K5|exact K6|exact K7|exact K8|exact K9|exact K10|exact K11); (exact rfl); (exact wz rfl))|(apply Tri.same; (first|exact K0|exact K1|exact K2|exact K3|exact K4|exact K5|exact K6|exact K7|exact K8|exact K9|exact K10|exact K11); (exact rfl); (exact wz rfl))|refine wq fun _ => ?_)
    refine Tri.cnd (fun hc => ?_) (fun hc => ?_)
    · have hc : ¬ i < j := by simp at hc; omega
      refine Tri.exit (by decide) ?_
      unfold gpart_k210
      repeat (first|refine wa ?_|refine wb ?_|refine wc ?_|refine wd ?_|refine we ?_|refine wf ?_|refine wg ?_|refine wh rfl ?_|refine wi rfl ?_|refine wj rfl ?_|refine wk rfl ?_|refine wl rfl ?_|refine wm (by decide) ?_|refine hdec _ _ _ _ ?_|refine wn ?_|refine wo ?_|refine wp (by decide) ?_|(apply Tri.ldE; (first|exact K0|exact K1|exact K2|exact K3|exact K4|exact K5|exact K6|exact K7|exact K8|exact K9|exact K10|exact K11); (exact rfl); (exact wz rfl))|(apply Tri.stE; (first|exact K0|exact K1|exact K2|exact K3|exact K4|exact K5|exact K6|exact K7|exact K8|exact K9|exact K10|exact K11); (exact rfl); (exact wz rfl))|(apply Tri.same; (first|exact K0|exact K1|exact K2|exact K3|exact K4|exact K5|exact K6|exact K7|exact K8|exact K9|exact K10|exact K11); (exact rfl); (exact wz rfl))|refine wq fun _ => ?_)
      have hij : j = i := by omega
      subst hij
      have ej : (j : Int) - 1 = ((j - 1 : Nat) : Int) := by omega
      rw [ej]
      refine Tri.ixld (T := T) (by first|exact K0|exact K1|exact K2|exact K3|exact K4|exact K5|exact K6|exact K7|exact K8|exact K9|exact K10|exact K11) rfl (by omega) (by omega) fun y hy => ?_
      rw [Int.toNat_natCast] at hy
      repeat (first|refine wa ?_|refine wb ?_|refine wc ?_|refine wd ?_|refine we ?_|refine wf ?_|refine wg ?_|refine wh rfl ?_|refine wi rfl ?_|refine wj rfl ?_|refine wk rfl ?_|refine wl rfl ?_|refine wm (by decide) ?_|refine hdec _ _ _ _ ?_|refine wn ?_|refine wo ?_|refine wp (by decide) ?_|(apply Tri.ldE; (first|exact K0|exact K1|exact K2|exact K3|exact K4|exact K5|exact K6|exact K7|exact K8|exact K9|exact K10|exact K11); (exact rfl); (exact wz rfl))|(apply Tri.stE; (first|exact K0|exact K1|exact K2|exact K3|exact K4|exact K5|exact K6|exact K7|exact K8|exact K9|exact K10|exact K11); (exact rfl); (exact wz rfl))|(apply Tri.same; (first|exact K0|exact K1|exact K2|exact K3|exact K4|exact K5|exact K6|exact K7|exact K8|exact K9|exact K10|exact K11); (exact rfl); (exact wz rfl))|refine wq fun _ => ?_)
      refine Tri.ixld (T := T) (by first|exact K0|exact K1|exact K2|exact K3|exact K4|exact K5|exact K6|exact K7|exact K8|exact K9|exact K10|exact K11) rfl (by omega) (by omega) fun x hx => ?_
      rw [Int.toNat_natCast] at hx
      repeat (first|refine wa ?_|refine wb ?_|refine wc ?_|refine wd ?_|refine we ?_|refine wf ?_|refine wg ?_|refine wh rfl ?_|refine wi rfl ?_|refine wj rfl ?_|refine wk rfl ?_|refine wl rfl ?_|refine wm (by decide) ?_|refine hdec _ _ _ _ ?_|refine wn ?_|refine wo ?_|refine wp (by decide) ?_|(apply Tri.ldE; (first|exact K0|exact K1|exact K2|exact K3|exact K4|exact K5|exact K6|exact K7|exact K8|exact K9|exact K10|exact K11); (exact rfl); (exact wz rfl))|(apply Tri.stE; (first|exact K0|exact K1|exact K2|exact K3|exact K4|exact K5|exact K6|exact K7|exact K8|exact K9|exact K10|exact K11); (exact rfl); (exact wz rfl))|(apply Tri.same; (first|exact K0|exact K1|exact K2|exact K3|exact K4|exact K5|exact K6|exact K7|exact K8|exact K9|exact K10|exact K11); (exact rfl); (exact wz rfl))|refine wq fun _ => ?_)
      refine Tri.ixst (T := T) y (by first|exact K0|exact K1|exact K2|exact K3|exact K4|exact K5|exact K6|exact K7|exact K8|exact K9|exact K10|exact K11) rfl (by omega) (by omega) rfl ?_
      refine Tri.ixst (T := T) x (by first|exact K0|exact K1|exact K2|exact K3|exact K4|exact K5|exact K6|exact K7|exact K8|exact K9|exact K10|exact K11) rfl (by omega) (by simp; omega) rfl ?_
      rw [Int.toNat_natCast, Int.toNat_natCast, ← sw_eq hx hy]
      exact Tri.retF ⟨_, j - 1, _, rfl, rfl, hr1.trans (Rng.sw (by omega) (by omega) (by omega) (by omega) (by omega)), hp2.done (by omega) hab⟩ (Sub.refl _)
    · have hc : i < j := by simp at hc; omega
      have hc : i < j := by omega
      obtain ⟨j, rfl⟩ : ∃ j', j = j' + 1 := ⟨j - 1, by omega⟩
      rw [show ((j + 1 : Nat) : Int) - 1 = (j : Int) by omega]
      obtain ⟨z, hz⟩ : ∃ z, l1[a]? = some z := ⟨_, List.getElem?_eq_getElem (by omega)⟩
      refine Tri.ixld (T := T) (by first|exact K0|exact K1|exact K2|exact K3|exact K4|exact K5|exact K6|exact K7|exact K8|exact K9|exact K10|exact K11) rfl (by omega) (by omega) fun y hy => ?_
      rw [Int.toNat_natCast] at hy
      repeat (first|refine wa ?_|refine wb ?_|refine wc ?_|refine wd ?_|refine we ?_|refine wf ?_|refine wg ?_|refine wh rfl ?_|refine wi rfl ?_|refine wj rfl ?_|refine wk rfl ?_|refine wl rfl ?_|refine wm (by decide) ?_|refine hdec _ _ _ _ ?_|refine wn ?_|refine wo ?_|refine wp (by decide) ?_|(apply Tri.ldE; (first|exact K0|exact K1|exact K2|exact K3|exact K4|exact K5|exact K6|exact K7|exact K8|exact K9|exact K10|exact K11); (exact rfl); (exact wz rfl))|(apply Tri.stE; (first|exact K0|exact K1|exact K2|exact K3|exact K4|exact K5|exact K6|exact K7|exact K8|exact K9|exact K10|exact K11); (exact rfl); (exact wz rfl))|(apply Tri.same; (first|exact K0|exact K1|exact K2|exact K3|exact K4|exact K5|exact K6|exact K7|exact K8|exact K9|exact K10|exact K11); (exact rfl); (exact wz rfl))|refine wq fun _ => ?_)
      refine Tri.ixld (T := T) (by first|exact K0|exact K1|exact K2|exact K3|exact K4|exact K5|exact K6|exact K7|exact K8|exact K9|exact K10|exact K11) rfl (by omega) (by omega) fun x hx => ?_
      rw [Int.toNat_natCast] at hx
      repeat (first|refine wa ?_|refine wb ?_|refine wc ?_|refine wd ?_|refine we ?_|refine wf ?_|refine wg ?_|refine wh rfl ?_|refine wi rfl ?_|refine wj rfl ?_|refine wk rfl ?_|refine wl rfl ?_|refine wm (by decide) ?_|refine hdec _ _ _ _ ?_|refine wn ?_|refine wo ?_|refine wp (by decide) ?_|(apply Tri.ldE; (first|exact K0|exact K1|exact K2|exact K3|exact K4|exact K5|exact K6|exact K7|exact K8|exact K9|exact K10|exact K11); (exact rfl); (exact wz rfl))|(apply Tri.stE; (first|exact K0|exact K1|exact K2|exact K3|exact K4|exact K5|exact K6|exact K7|exact K8|exact K9|exact K10|exact K11); (exact rfl); (exact wz rfl))|(apply Tri.same; (first|exact K0|exact K1|exact K2|exact K3|exact K4|exact K5|exact K6|exact K7|exact K8|exact K9|exact K10|exact K11); (exact rfl); (exact wz rfl))|refine wq fun _ => ?_)
      have k1 := hi (by omega) x z hx hz
      have k2 := hj hc y z hy hz
      have hne : i ≠ j := fun e => by subst e; rw [hx] at hy; cases hy; exact k1 k2
      refine Tri.ixst (T := T) y (by first|exact K0|exact K1|exact K2|exact K3|exact K4|exact K5|exact K6|exact K7|exact K8|exact K9|exact K10|exact K11) rfl (by omega) (by omega) rfl ?_
      refine Tri.ixst (T := T) x (by first|exact K0|exact K1|exact K2|exact K3|exact K4|exact K5|exact K6|exact K7|exact K8|exact K9|exact K10|exact K11) rfl (by omega) (by simp; omega) rfl ?_
      rw [Int.toNat_natCast, Int.toNat_natCast, ← sw_eq hx hy]
      have hp3 := hp2.swap (by omega) (by omega) hx hy hz k1 k2
      have hr3 := hr1.trans (Rng.sw (l := l1) (i := i) (j := j) (a := a) (b := b) (by omega) (by omega) (by omega) (by omega) (by omega))
      rw [show IntKind.wrap .i64 ((i : Int) + 1) = ((i + 1 : Nat) : Int) by rw [wr_i64 (by omega) (by omega)]; rfl, show IntKind.wrap .i64 ((j : Int) - 1) = (j : Int) - 1 from wr_i64 (by omega) (by omega)]
      exact Tri.back (m' := j - (i + 1)) (by omega) ⟨i + 1, j, _, rfl, hp3, hr3, rfl, rfl⟩ (Sub.refl _)

theorem rev_spec (B : SOk E z dec zs S) (el : ElOk E T z dec zs) {o : Option SlD} {l : List α} {a b : Nat} {g : FuncId} {f c : List (Nat × Nat)} (hab : a < b) (hb : b ≤ l.length) (hl : l.length ≤ 1000) :
    FSpec E S.rev [.sc (.sl o), .sc (.i .i64 a), .sc (.i .i64 b), .sc (.fn g f c)] [.sl false T o l]
    (fun v L' => ∃ l' : List α, v = .tu [] ∧ L' = [.sl false T o l'] ∧ Rng a b l l') := by
  have hdec := el.hd
  have hz := el.hz
  subst hz
  obtain ⟨fn, hf, hbk⟩ := B.rev
  refine FSpec.of hf (hbk _ _ _ _ _ _) fun F => ?_
  unfold grev
  rw [show IntKind.wrap .i64 ((b : Int) - 1) = (b : Int) - 1 from wr_i64 (by omega) (by omega)]
  refine Tri.loop (I := fun m l' L => ∃ (i j : Nat) (l1 : List α), m = j - i ∧ a ≤ i ∧ j ≤ b ∧ Rng a b l l1 ∧
    l' = [.sc (.sl o), .sc (.i .i64 i), .sc (.i .i64 ((j : Int) - 1))] ∧ L = .sl false T o l1 :: F)
    ⟨a, b, l, rfl, by omega, by omega, Rng.refl _ _ _, rfl, rfl⟩ (Sub.refl _) ?_
  rintro m l' L ⟨i, j, l1, rfl, h1, h2, hr, rfl, rfl⟩
  have hlen := hr.len
  repeat (first|refine wa ?_|refine wb ?_|refine wc ?_|refine wd ?_|refine we ?_|refine wf ?_|refine wg ?_|refine wh rfl ?_|refine wi rfl ?_|refine wj rfl ?_|refine wk rfl ?_|refine wl rfl ?_|refine wm (by decide) ?_|refine hdec _ _ _ _ ?_|refine wn ?_|refine wo ?_|refine wp (by decide) ?_|(apply Tri.ldE; (first|exact K0|exact K1|exact K2|exact K3|exact K4|exact K5|exact K6|exact K7|exact K8|exact K9|exact K10|exact K11); (exact rfl); (exact wz rfl))|(apply Tri.stE; (first|exact K0|exact K1|exact K2|exact K3|exact K4|exact K5|exact K6|exact K7|exact K8|exact K9|exact K10|exact K11); (exact rfl); (exact wz rfl))|(apply Tri.same; (first|exact K0|exact K1|exact K2|exact K3|exact K4|exact K5|exact K6|exact K7|exact K8|exact K9|exact K10|exact K11); (exact rfl); (exact wz rfl))|refine wq fun _ => ?_)
  refine Tri.cnd (fun hc => ?_) (fun hc => ?_)
  · have hc : i + 1 < j := by simp at hc; omega
    obtain ⟨j, rfl⟩ : ∃ j', j = j' + 1 := ⟨j - 1, by omega⟩
    rw [show ((j + 1 : Nat) : Int) - 1 = (j : Int) by omega]
    refine Tri.ixld (T := T) (by first|exact K0|exact K1|exact K2|exact K3|exact K4|exact K5|exact K6|exact K7|exact K8|exact K9|exact K10|exact K11) rfl (by omega) (by omega) fun y hy => ?_
    rw [Int.toNat_natCast] at hy
    repeat (first|refine wa ?_|refine wb ?_|refine wc ?_|refine wd ?_|refine we ?_|refine wf ?_|refine wg ?_|refine wh rfl ?_|refine wi rfl ?_|refine wj rfl ?_|refine wk rfl ?_|refine wl rfl ?_|refine wm (by decide) ?_|refine hdec _ _ _ _ ?_|refine wn ?_|refine wo ?_|refine wp (by decide) ?_|(apply Tri.ldE; (first|exact K0|exact K1|exact K2|exact K3|exact K4|exact K5|exact K6|exact K7|exact K8|exact K9|exact K10|exact K11); (exact rfl); (exact wz rfl))|(apply Tri.stE; (first|exact K0|exact K1|exact K2|exact K3|exact K4|exact K5|exact K6|exact K7|exact K8|exact K9|exact K10|exact K11); (exact rfl); (exact wz rfl))|(apply Tri.same; (first|exact K0|exact K1|exact K2|exact K3|exact K4|exact K5|exact K6|exact K7|exact K8|exact K9|exact K10|exact K11); (exact rfl); (exact wz rfl))|refine wq fun _ => ?_)
    refine Tri.ixld (T := T) (by first|exact K0|exact K1|exact K2|exact K3|exact K4|exact K5|exact K6|exact K7|exact K8|exact K9|exact K10|exact K11) rfl (by omega) (by omega) fun x hx => ?_
    rw [Int.toNat_natCast] at hx
    repeat (first|refine wa ?_|refine wb ?_|refine wc ?_|refine wd ?_|refine we ?_|refine wf ?_|refine wg ?_|refine wh rfl ?_|refine wi rfl ?_|refine wj rfl ?_|refine wk rfl ?_|refine wl rfl ?_|refine wm (by decide) ?_|refine hdec _ _ _ _ ?_|refine wn ?_|refine wo ?_|refine wp (by decide) ?_|(apply Tri.ldE; (first|exact K0|exact K1|exact K2|exact K3|exact K4|exact K5|exact K6|exact K7|exact K8|exact K9|exact K10|exact K11); (exact rfl); (exact wz rfl))|(apply Tri.stE; (first|exact K0|exact K1|exact K2|exact K3|exact K4|exact K5|exact K6|exact K7|exact K8|exact K9|exact K10|exact K11); (exact rfl); (exact wz rfl))|(apply Tri.same; (first|exact K0|exact K1|exact K2|exact K3|exact K4|exact K5|exact K6|exact K7|exact K8|exact K9|exact K10|exact K11); (exact rfl); (exact wz rfl))|refine wq fun _ => ?_)
    refine Tri.ixst (T := T) y (by first|exact K0|exact K1|exact K2|exact K3|exact K4|exact K5|exact K6|exact K7|exact K8|exact K9|exact K10|exact K11) rfl (by omega) (by omega) rfl ?_
    refine Tri.ixst (T := T) x (by first|exact K0|exact K1|exact K2|exact K3|exact K4|exact K5|exact K6|exact K7|exact K8|exact K9|exact K10|exact K11) rfl (by omega) (by simp; omega) rfl ?_
    rw [Int.toNat_natCast, Int.toNat_natCast, ← sw_eq hx hy]
    refine Tri.back (m' := j - (i + 1)) (by omega) ⟨i + 1, j, _, rfl, by omega, by omega, hr.trans (Rng.sw (i := i) (j := j) (by omega) (by omega) (by omega) (by omega) (by omega)), ?_, rfl⟩ (Sub.refl _)
    rw [wr_i64 (by omega) (by omega), wr_i64 (by omega) (by omega)]; rfl
  · repeat (first|refine wa ?_|refine wb ?_|refine wc ?_|refine wd ?_|refine we ?_|refine wf ?_|refine wg ?_|refine wh rfl ?_|refine wi rfl ?_|refine wj rfl ?_|refine wk rfl ?_|refine wl rfl ?_|refine wm (by decide) ?_|refine hdec _ _ _ _ ?_|refine wn ?_|refine wo ?_|refine wp (by decide) ?_|(apply Tri.ldE; (first|exact K0|exact K1|exact K2|exact K3|exact K4|exact K5|exact K6|exact K7|exact K8|exact K9|exact K10|exact K11); (exact rfl); (exact wz rfl))|(apply Tri.stE; (first|exact K0|exact K1|exact K2|exact K3|exact K4|exact K5|exact K6|exact K7|exact K8|exact K9|exact K10|exact K11); (exact rfl); (exact wz rfl))|(apply Tri.same; (first|exact K0|exact K1|exact K2|exact K3|exact K4|exact K5|exact K6|exact K7|exact K8|exact K9|exact K10|exact K11); (exact rfl); (exact wz rfl))|refine wq fun _ => ?_)
    exact Tri.retF ⟨l1, rfl, rfl, hr⟩ (Sub.refl _)

theorem order2_spec (B : SOk E z dec zs S) (el : ElOk E T z dec zs) {o : Option SlD} {l : List α} {a b p : Nat} {n : Int} {g : FuncId} {f c : List (Nat × Nat)} {lt : α → α → Prop} (hcmp : IsCmp E T g f c lt) (ha : a < l.length) (hb : b < l.length) :
    FSpec E S.ord2 [.sc (.sl o), .sc (.i .i64 a), .sc (.i .i64 b), .sc (.p (some (p, 0))), .sc (.fn g f c)] [.sl false T o l, pt p [.i .i64 n]]
    (fun v L' => ∃ (x y : Nat) (n' : Int), (x = a ∨ x = b) ∧ (y = a ∨ y = b) ∧ v = .tu [.sc (.i .i64 x), .sc (.i .i64 y)] ∧ L' = [.sl false T o l, pt p [.i .i64 n']]) := by
  have hdec := el.hd
  have hz := el.hz
  subst hz
  obtain ⟨fn, hf, hbk⟩ := B.ord2
  refine FSpec.of hf (hbk _ _ _ _ _ _ _ _) fun F => ?_
  unfold gord2
  refine Tri.ixld (T := T) (by first|exact K0|exact K1|exact K2|exact K3|exact K4|exact K5|exact K6|exact K7|exact K8|exact K9|exact K10|exact K11) rfl (by omega) (by omega) fun y hy => ?_
  repeat (first|refine wa ?_|refine wb ?_|refine wc ?_|refine wd ?_|refine we ?_|refine wf ?_|refine wg ?_|refine wh rfl ?_|refine wi rfl ?_|refine wj rfl ?_|refine wk rfl ?_|refine wl rfl ?_|refine wm (by decide) ?_|refine hdec _ _ _ _ ?_|refine wn ?_|refine wo ?_|refine wp (by decide) ?_|(apply Tri.ldE; (first|exact K0|exact K1|exact K2|exact K3|exact K4|exact K5|exact K6|exact K7|exact K8|exact K9|exact K10|exact K11); (exact rfl); (exact wz rfl))|(apply Tri.stE; (first|exact K0|exact K1|exact K2|exact K3|exact K4|exact K5|exact K6|exact K7|exact K8|exact K9|exact K10|exact K11); (exact rfl); (exact wz rfl))|(apply Tri.same; (first|exact K0|exact K1|exact K2|exact K3|exact K4|exact K5|exact K6|exact K7|exact K8|exact K9|exact K10|exact K11); (exact rfl); (exact wz rfl))|refine wq fun _ => ?_)
  refine Tri.ixld (T := T) (by first|exact K0|exact K1|exact K2|exact K3|exact K4|exact K5|exact K6|exact K7|exact K8|exact K9|exact K10|exact K11) rfl (by omega) (by omega) fun x hx => ?_
  repeat (first|refine wa ?_|refine wb ?_|refine wc ?_|refine wd ?_|refine we ?_|refine wf ?_|refine wg ?_|refine wh rfl ?_|refine wi rfl ?_|refine wj rfl ?_|refine wk rfl ?_|refine wl rfl ?_|refine wm (by decide) ?_|refine hdec _ _ _ _ ?_|refine wn ?_|refine wo ?_|refine wp (by decide) ?_|(apply Tri.ldE; (first|exact K0|exact K1|exact K2|exact K3|exact K4|exact K5|exact K6|exact K7|exact K8|exact K9|exact K10|exact K11); (exact rfl); (exact wz rfl))|(apply Tri.stE; (first|exact K0|exact K1|exact K2|exact K3|exact K4|exact K5|exact K6|exact K7|exact K8|exact K9|exact K10|exact K11); (exact rfl); (exact wz rfl))|(apply Tri.same; (first|exact K0|exact K1|exact K2|exact K3|exact K4|exact K5|exact K6|exact K7|exact K8|exact K9|exact K10|exact K11); (exact rfl); (exact wz rfl))|refine wq fun _ => ?_)
  refine Tri.callv rfl (hcmp y x) (by repeat (first|exact Picks.nil|(apply Picks.cons; (first|exact K0|exact K1|exact K2|exact K3|exact K4|exact K5|exact K6|exact K7|exact K8|exact K9|exact K10|exact K11)))) ?_
  rintro v L' ⟨n, rfl, hn, rfl⟩
  simp only [List.cons_append, List.nil_append]
  repeat (first|refine wa ?_|refine wb ?_|refine wc ?_|refine wd ?_|refine we ?_|refine wf ?_|refine wg ?_|refine wh rfl ?_|refine wi rfl ?_|refine wj rfl ?_|refine wk rfl ?_|refine wl rfl ?_|refine wm (by decide) ?_|refine hdec _ _ _ _ ?_|refine wn ?_|refine wo ?_|refine wp (by decide) ?_|(apply Tri.ldE; (first|exact K0|exact K1|exact K2|exact K3|exact K4|exact K5|exact K6|exact K7|exact K8|exact K9|exact K10|exact K11); (exact rfl); (exact wz rfl))|(apply Tri.stE; (first|exact K0|exact K1|exact K2|exact K3|exact K4|exact K5|exact K6|exact K7|exact K8|exact K9|exact K10|exact K11); (exact rfl); (exact wz rfl))|(apply Tri.same; (first|exact K0|exact K1|exact K2|exact K3|exact K4|exact K5|exact K6|exact K7|exact K8|exact K9|exact K10|exact K11); (exact rfl); (exact wz rfl))|refine wq fun _ => ?_)
  refine Tri.cnd (fun hk => ?_) (fun hk => ?_)
  · repeat (first|refine wa ?_|refine wb ?_|refine wc ?_|refine wd ?_|refine we ?_|refine wf ?_|refine wg ?_|refine wh rfl ?_|refine wi rfl ?_|refine wj rfl ?_|refine wk rfl ?_|refine wl rfl ?_|refine wm (by decide) ?_|refine hdec _ _ _ _ ?_|refine wn ?_|refine wo ?_|refine wp (by decide) ?_|(apply Tri.ldE; (first|exact K0|exact K1|exact K2|exact K3|exact K4|exact K5|exact K6|exact K7|exact K8|exact K9|exact K10|exact K11); (exact rfl); (exact wz rfl))|(apply Tri.stE; (first|exact K0|exact K1|exact K2|exact K3|exact K4|exact K5|exact K6|exact K7|exact K8|exact K9|exact K10|exact K11); (exact rfl); (exact wz rfl))|(apply Tri.same; (first|exact K0|exact K1|exact K2|exact K3|exact K4|exact K5|exact K6|exact K7|exact K8|exact K9|exact K10|exact K11); (exact rfl); (exact wz rfl))|refine wq fun _ => ?_)
    exact Tri.retF ⟨b, a, _, .inr rfl, .inl rfl, rfl, rfl⟩ (by repeat (first|exact Sub.refl _|exact Sub.nil _|(apply Sub.cons; (first|exact K0|exact K1|exact K2|exact K3|exact K4|exact K5|exact K6|exact K7|exact K8|exact K9|exact K10|exact K11))|apply Sub.skip))
  · repeat (first|refine wa ?_|refine wb ?_|refine wc ?_|refine wd ?_|refine we ?_|refine wf ?_|refine wg ?_|refine wh rfl ?_|refine wi rfl ?_|refine wj rfl ?_|refine wk rfl ?_|refine wl rfl ?_|refine wm (by decide) ?_|refine hdec _ _ _ _ ?_|refine wn ?_|refine wo ?_|refine wp (by decide) ?_|(apply Tri.ldE; (first|exact K0|exact K1|exact K2|exact K3|exact K4|exact K5|exact K6|exact K7|exact K8|exact K9|exact K10|exact K11); (exact rfl); (exact wz rfl))|(apply Tri.stE; (first|exact K0|exact K1|exact K2|exact K3|exact K4|exact K5|exact K6|exact K7|exact K8|exact K9|exact K10|exact K11); (exact rfl); (exact wz rfl))|(apply Tri.same; (first|exact K0|exact K1|exact K2|exact K3|exact K4|exact K5|exact K6|exact K7|exact K8|exact K9|exact K10|exact K11); (exact rfl); (exact wz rfl))|refine wq fun _ => ?_)
    exact Tri.retF ⟨a, b, _, .inl rfl, .inr rfl, rfl, rfl⟩ (by repeat (first|exact Sub.refl _|exact Sub.nil _|(apply Sub.cons; (first|exact K0|exact K1|exact K2|exact K3|exact K4|exact K5|exact K6|exact K7|exact K8|exact K9|exact K10|exact K11))|apply Sub.skip))

theorem median_spec (B : SOk E z dec zs S) (el : ElOk E T z dec zs) {o : Option SlD} {l : List α} {a b d p : Nat} {n : Int} {g : FuncId} {f c : List (Nat × Nat)} {lt : α → α → Prop} (hcmp : IsCmp E T g f c lt) (ha : a < l.length) (hb : b < l.length) (hd : d < l.length) :
    FSpec E S.med [.sc (.sl o), .sc (.i .i64 a), .sc (.i .i64 b), .sc (.i .i64 d), .sc (.p (some (p, 0))), .sc (.fn g f c)] [.sl false T o l, pt p [.i .i64 n]]
    (fun v L' => ∃ (x : Nat) (n' : Int), (x = a ∨ x = b ∨ x = d) ∧ v = .sc (.i .i64 x) ∧ L' = [.sl false T o l, pt p [.i .i64 n']]) := by
  have hdec := el.hd
  have hz := el.hz
  subst hz
  obtain ⟨fn, hf, hbk⟩ := B.med
  refine FSpec.of hf (hbk _ _ _ _ _ _ _ _ _) fun F => ?_
  unfold gmed
  refine Tri.call (order2_spec B el hcmp ha hb) (by repeat (first|exact Picks.nil|(apply Picks.cons; (first|exact K0|exact K1|exact K2|exact K3|exact K4|exact K5|exact K6|exact K7|exact K8|exact K9|exact K10|exact K11)))) ?_
  rintro v L' ⟨x1, y1, n1, hx1, hy1, rfl, rfl⟩
  simp only [List.cons_append, List.nil_append]
  repeat (first|refine wa ?_|refine wb ?_|refine wc ?_|refine wd ?_|refine we ?_|refine wf ?_|refine wg ?_|refine wh rfl ?_|refine wi rfl ?_|refine wj rfl ?_|refine wk rfl ?_|refine wl rfl ?_|refine wm (by decide) ?_|refine hdec _ _ _ _ ?_|refine wn ?_|refine wo ?_|refine wp (by decide) ?_|(apply Tri.ldE; (first|exact K0|exact K1|exact K2|exact K3|exact K4|exact K5|exact K6|exact K7|exact K8|exact K9|exact K10|exact K11); (exact rfl); (exact wz rfl))|(apply Tri.stE; (first|exact K0|exact K1|exact K2|exact K3|exact K4|exact K5|exact K6|exact K7|exact K8|exact K9|exact K10|exact K11); (exact rfl); (exact wz rfl))|(apply Tri.same; (first|exact K0|exact K1|exact K2|exact K3|exact K4|exact K5|exact K6|exact K7|exact K8|exact K9|exact K10|exact K11); (exact rfl); (exact wz rfl))|refine wq fun _ => ?_)
  refine Tri.call (order2_spec B el (l := l) (a := y1) (b := d) hcmp (by omega) hd) (by repeat (first|exact Picks.nil|(apply Picks.cons; (first|exact K0|exact K1|exact K2|exact K3|exact K4|exact K5|exact K6|exact K7|exact K8|exact K9|exact K10|exact K11)))) ?_
  rintro v L' ⟨x2, y2, n2, hx2, hy2, rfl, rfl⟩
  simp only [List.cons_append, List.nil_append]
  repeat (first|refine wa ?_|refine wb ?_|refine wc ?_|refine wd ?_|refine we ?_|refine wf ?_|refine wg ?_|refine wh rfl ?_|refine wi rfl ?_|refine wj rfl ?_|refine wk rfl ?_|refine wl rfl ?_|refine wm (by decide) ?_|refine hdec _ _ _ _ ?_|refine wn ?_|refine wo ?_|refine wp (by decide) ?_|(apply Tri.ldE; (first|exact K0|exact K1|exact K2|exact K3|exact K4|exact K5|exact K6|exact K7|exact K8|exact K9|exact K10|exact K11); (exact rfl); (exact wz rfl))|(apply Tri.stE; (first|exact K0|exact K1|exact K2|exact K3|exact K4|exact K5|exact K6|exact K7|exact K8|exact K9|exact K10|exact K11); (exact rfl); (exact wz rfl))|(apply Tri.same; (first|exact K0|exact K1|exact K2|exact K3|exact K4|exact K5|exact K6|exact K7|exact K8|exact K9|exact K10|exact K11); (exact rfl); (exact wz rfl))|refine wq fun _ => ?_)
  refine Tri.call (order2_spec B el (l := l) (a := x1) (b := x2) hcmp (by omega) (by omega)) (by repeat (first|exact Picks.nil|(apply Picks.cons; (first|exact K0|exact K1|exact K2|exact K3|exact K4|exact K5|exact K6|exact K7|exact K8|exact K9|exact K10|exact K11)))) ?_
  rintro v L' ⟨x3, y3, n3, hx3, hy3, rfl, rfl⟩
  simp only [List.cons_append, List.nil_append]
  repeat (first|refine wa ?_|refine wb ?_|refine wc ?_|refine wd ?_|refine we ?_|refine wf ?_|refine wg ?_|refine wh rfl ?_|refine wi rfl ?_|refine wj rfl ?_|refine wk rfl ?_|refine wl rfl ?_|refine wm (by decide) ?_|refine hdec _ _ _ _ ?_|refine wn ?_|refine wo ?_|refine wp (by decide) ?_|(apply Tri.ldE; (first|exact K0|exact K1|exact K2|exact K3|exact K4|exact K5|exact K6|exact K7|exact K8|exact K9|exact K10|exact K11); (exact rfl); (exact wz rfl))|(apply Tri.stE; (first|exact K0|exact K1|exact K2|exact K3|exact K4|exact K5|exact K6|exact K7|exact K8|exact K9|exact K10|exact K11); (exact rfl); (exact wz rfl))|(apply Tri.same; (first|exact K0|exact K1|exact K2|exact K3|exact K4|exact K5|exact K6|exact K7|exact K8|exact K9|exact K10|exact K11); (exact rfl); (exact wz rfl))|refine wq fun _ => ?_)
  exact Tri.retF ⟨y3, n3, by omega, rfl, rfl⟩ (by repeat (first|exact Sub.refl _|exact Sub.nil _|(apply Sub.cons; (first|exact K0|exact K1|exact K2|exact K3|exact K4|exact K5|exact K6|exact K7|exact K8|exact K9|exact K10|exact K11))|apply Sub.skip))
theorem medianAdj_spec (B : SOk E z dec zs S) (el : ElOk E T z dec zs) {o : Option SlD} {l : List α} {a p : Nat} {n : Int} {g : FuncId} {f c : List (Nat × Nat)} {lt : α → α → Prop} (hcmp : IsCmp E T g f c lt) (ha : 0 < a) (hb : a + 1 < l.length) (hl : l.length ≤ 1000) :
    FSpec E S.medA [.sc (.sl o), .sc (.i .i64 a), .sc (.p (some (p, 0))), .sc (.fn g f c)] [.sl false T o l, pt p [.i .i64 n]]
    (fun v L' => ∃ (x : Nat) (n' : Int), (a - 1 ≤ x ∧ x ≤ a + 1) ∧ v = .sc (.i .i64 x) ∧ L' = [.sl false T o l, pt p [.i .i64 n']]) := by
  have hdec := el.hd
  have hz := el.hz
  subst hz
  obtain ⟨fn, hf, hbk⟩ := B.medA
  refine FSpec.of hf (hbk _ _ _ _ _ _ _) fun F => ?_
  unfold gmedA
  rw [show IntKind.wrap .i64 ((a : Int) - 1) = ((a - 1 : Nat) : Int) by rw [wr_i64 (by omega) (by omega)]; omega, show IntKind.wrap .i64 ((a : Int) + 1) = ((a + 1 : Nat) : Int) by rw [wr_i64 (by omega) (by omega)]; rfl]
  refine Tri.call (median_spec B el (l := l) hcmp (by omega) (by omega) (by omega)) (by repeat (first|exact Picks.nil|(apply Picks.cons; (first|exact K0|exact K1|exact K2|exact K3|exact K4|exact K5|exact K6|exact K7|exact K8|exact K9|exact K10|exact K11)))) ?_
  rintro v L' ⟨x, n1, hx, rfl, rfl⟩
  simp only [List.cons_append, List.nil_append]
  repeat (first|refine wa ?_|refine wb ?_|refine wc ?_|refine wd ?_|refine we ?_|refine wf ?_|refine wg ?_|refine wh rfl ?_|refine wi rfl ?_|refine wj rfl ?_|refine wk rfl ?_|refine wl rfl ?_|refine wm (by decide) ?_|refine hdec _ _ _ _ ?_|refine wn ?_|refine wo ?_|refine wp (by decide) ?_|(apply Tri.ldE; (first|exact K0|exact K1|exact K2|exact K3|exact K4|exact K5|exact K6|exact K7|exact K8|exact K9|exact K10|exact K11); (exact rfl); (exact wz rfl))|(apply Tri.stE; (first|exact K0|exact K1|exact K2|exact K3|exact K4|exact K5|exact K6|exact K7|exact K8|exact K9|exact K10|exact K11); (exact rfl); (exact wz rfl))|(apply Tri.same; (first|exact K0|exact K1|exact K2|exact K3|exact K4|exact K5|exact K6|exact K7|exact K8|exact K9|exact K10|exact K11); (exact rfl); (exact wz rfl))|refine wq fun _ => ?_)
  exact Tri.retF ⟨x, n1, by omega, rfl, rfl⟩ (by repeat (first|exact Sub.refl _|exact Sub.nil _|(apply Sub.cons; (first|exact K0|exact K1|exact K2|exact K3|exact K4|exact K5|exact K6|exact K7|exact K8|exact K9|exact K10|exact K11))|apply Sub.skip))

theorem pivot_spec (B : SOk E z dec zs S) (el : ElOk E T z dec zs) {o : Option SlD} {l : List α} {a b : Nat} {g : FuncId} {f c : List (Nat × Nat)} {lt : α → α → Prop} (hcmp : IsCmp E T g f c lt) (hab : a + 8 ≤ b) (hb : b ≤ l.length) (hl : l.length ≤ 1000) :
    FSpec E S.piv [.sc (.sl o), .sc (.i .i64 a), .sc (.i .i64 b), .sc (.fn g f c)] [.sl false T o l]
    (fun v L' => ∃ (m : Nat) (q : Int), a ≤ m ∧ m < b ∧ v = .tu [.sc (.i .i64 m), .sc (.i .i64 q)] ∧ L' = [.sl false T o l]) := by
  have hdec := el.hd
  have hz := el.hz
  subst hz
  obtain ⟨fn, hf, hbk⟩ := B.piv
  refine FSpec.of hf (hbk _ _ _ _ _ _) fun F => ?_
  unfold gpiv
  have w0 : IntKind.wrap .i64 ((b : Int) - a) = ((b - a : Nat) : Int) := by rw [wr_i64 (by omega) (by omega)]; omega
  have wd : Int.tdiv ((b - a : Nat) : Int) 4 = (((b - a) / 4 : Nat) : Int) := by rw [Int.tdiv_eq_ediv_of_nonneg (by omega)]; omega
  have wk : ∀ k : Nat, 1 ≤ k → k ≤ 3 → IntKind.wrap .i64 ((a : Int) + IntKind.wrap .i64 (IntKind.wrap .i64 (((b - a) / 4 : Nat) : Int) * (k : Int))) = ((a + (b - a) / 4 * k : Nat) : Int) := by
    intro k k1 k2
    have e0 : IntKind.wrap .i64 (((b - a) / 4 : Nat) : Int) = (((b - a) / 4 : Nat) : Int) := wr_i64 (by omega) (by omega)
    have hk : (b - a) / 4 * k ≤ 250 * 3 := Nat.mul_le_mul (by omega) k2
    have e1 : ((((b - a) / 4 : Nat) : Int)) * (k : Int) = (((b - a) / 4 * k : Nat) : Int) := by push_cast; rfl
    rw [e0, e1, wr_i64 (n := (((b - a) / 4 * k : Nat) : Int)) (by omega) (by omega), wr_i64 (by omega) (by omega)]; omega
  have w1 : IntKind.wrap .i64 ((a : Int) + IntKind.wrap .i64 (IntKind.wrap .i64 (((b - a) / 4 : Nat) : Int) * (1 : Int))) = ((a + (b - a) / 4 * 1 : Nat) : Int) := wk 1 (by omega) (by omega)
  have w2 : IntKind.wrap .i64 ((a : Int) + IntKind.wrap .i64 (IntKind.wrap .i64 (((b - a) / 4 : Nat) : Int) * (2 : Int))) = ((a + (b - a) / 4 * 2 : Nat) : Int) := wk 2 (by omega) (by omega)
  have w3 : IntKind.wrap .i64 ((a : Int) + IntKind.wrap .i64 (IntKind.wrap .i64 (((b - a) / 4 : Nat) : Int) * (3 : Int))) = ((a + (b - a) / 4 * 3 : Nat) : Int) := wk 3 (by omega) (by omega)
  rw [w0, wd]
  simp only [w1, w2, w3]
  repeat (first|refine wa ?_|refine wb ?_|refine wc ?_|refine wd ?_|refine we ?_|refine wf ?_|refine wg ?_|refine wh rfl ?_|refine wi rfl ?_|refine wj rfl ?_|refine wk rfl ?_|refine wl rfl ?_|refine wm (by decide) ?_|refine hdec _ _ _ _ ?_|(apply Tri.ldE; (first|exact K0|exact K1|exact K2|exact K3|exact K4|exact K5|exact K6|exact K7|exact K8|exact K9|exact K10|exact K11); (exact rfl); (exact wz rfl))|(apply Tri.stE; (first|exact K0|exact K1|exact K2|exact K3|exact K4|exact K5|exact K6|exact K7|exact K8|exact K9|exact K10|exact K11); (exact rfl); (exact wz rfl))|(apply Tri.same; (first|exact K0|exact K1|exact K2|exact K3|exact K4|exact K5|exact K6|exact K7|exact K8|exact K9|exact K10|exact K11); (exact rfl); (exact wz rfl))|refine wq fun _ => ?_)
  rename_i p
  simp only [List.cons_append, List.nil_append]
  refine Tri.brT rfl ?_
  refine Tri.brT rfl ?_
  refine Tri.brT rfl ?_
  refine Tri.joinQ (fun tag l' L => tag = 0 ∧ ∃ (m : Nat) (n : Int), a ≤ m ∧ m < b ∧ l' = [.sc (.p (some (p, 0))), .sc (.i .i64 m)] ∧ L = [.sl false T o l, pt p [.i .i64 n]] ++ F) ?_ ?_
  · refine Tri.cnd (fun h1 => ?_) (fun h1 => ?_)
    · refine Tri.cnd (fun h2 => ?_) (fun h2 => ?_)
      · have h2 : 50 ≤ b - a := by simp at h2; omega
        refine Tri.call (medianAdj_spec B el (l := l) hcmp (by omega) (by omega) hl) (by repeat (first|exact Picks.nil|(apply Picks.cons; (first|exact K0|exact K1|exact K2|exact K3|exact K4|exact K5|exact K6|exact K7|exact K8|exact K9|exact K10|exact K11)))) ?_
        rintro v L' ⟨x1, n1, hx1, rfl, rfl⟩
        simp only [List.cons_append, List.nil_append]
        repeat (first|refine wa ?_|refine wb ?_|refine wc ?_|refine wd ?_|refine we ?_|refine wf ?_|refine wg ?_|refine wh rfl ?_|refine wi rfl ?_|refine wj rfl ?_|refine wk rfl ?_|refine wl rfl ?_|refine wm (by decide) ?_|refine hdec _ _ _ _ ?_|(apply Tri.ldE; (first|exact K0|exact K1|exact K2|exact K3|exact K4|exact K5|exact K6|exact K7|exact K8|exact K9|exact K10|exact K11); (exact rfl); (exact wz rfl))|(apply Tri.stE; (first|exact K0|exact K1|exact K2|exact K3|exact K4|exact K5|exact K6|exact K7|exact K8|exact K9|exact K10|exact K11); (exact rfl); (exact wz rfl))|(apply Tri.same; (first|exact K0|exact K1|exact K2|exact K3|exact K4|exact K5|exact K6|exact K7|exact K8|exact K9|exact K10|exact K11); (exact rfl); (exact wz rfl))|refine wq fun _ => ?_)
        refine Tri.call (medianAdj_spec B el (l := l) hcmp (by omega) (by omega) hl) (by repeat (first|exact Picks.nil|(apply Picks.cons; (first|exact K0|exact K1|exact K2|exact K3|exact K4|exact K5|exact K6|exact K7|exact K8|exact K9|exact K10|exact K11)))) ?_
        rintro v L' ⟨x2, n2, hx2, rfl, rfl⟩
        simp only [List.cons_append, List.nil_append]
        repeat (first|refine wa ?_|refine wb ?_|refine wc ?_|refine wd ?_|refine we ?_|refine wf ?_|refine wg ?_|refine wh rfl ?_|refine wi rfl ?_|refine wj rfl ?_|refine wk rfl ?_|refine wl rfl ?_|refine wm (by decide) ?_|refine hdec _ _ _ _ ?_|(apply Tri.ldE; (first|exact K0|exact K1|exact K2|exact K3|exact K4|exact K5|exact K6|exact K7|exact K8|exact K9|exact K10|exact K11); (exact rfl); (exact wz rfl))|(apply Tri.stE; (first|exact K0|exact K1|exact K2|exact K3|exact K4|exact K5|exact K6|exact K7|exact K8|exact K9|exact K10|exact K11); (exact rfl); (exact wz rfl))|(apply Tri.same; (first|exact K0|exact K1|exact K2|exact K3|exact K4|exact K5|exact K6|exact K7|exact K8|exact K9|exact K10|exact K11); (exact rfl); (exact wz rfl))|refine wq fun _ => ?_)
        refine Tri.call (medianAdj_spec B el (l := l) hcmp (by omega) (by omega) hl) (by repeat (first|exact Picks.nil|(apply Picks.cons; (first|exact K0|exact K1|exact K2|exact K3|exact K4|exact K5|exact K6|exact K7|exact K8|exact K9|exact K10|exact K11)))) ?_
        rintro v L' ⟨x3, n3, hx3, rfl, rfl⟩
        simp only [List.cons_append, List.nil_append]
        repeat (first|refine wa ?_|refine wb ?_|refine wc ?_|refine wd ?_|refine we ?_|refine wf ?_|refine wg ?_|refine wh rfl ?_|refine wi rfl ?_|refine wj rfl ?_|refine wk rfl ?_|refine wl rfl ?_|refine wm (by decide) ?_|refine hdec _ _ _ _ ?_|(apply Tri.ldE; (first|exact K0|exact K1|exact K2|exact K3|exact K4|exact K5|exact K6|exact K7|exact K8|exact K9|exact K10|exact K11); (exact rfl); (exact wz rfl))|(apply Tri.stE; (first|exact K0|exact K1|exact K2|exact K3|exact K4|exact K5|exact K6|exact K7|exact K8|exact K9|exact K10|exact K11); (exact rfl); (exact wz rfl))|(apply Tri.same; (first|exact K0|exact K1|exact K2|exact K3|exact K4|exact K5|exact K6|exact K7|exact K8|exact K9|exact K10|exact K11); (exact rfl); (exact wz rfl))|refine wq fun _ => ?_)
        refine Tri.call (median_spec B el (l := l) hcmp (by omega) (by omega) (by omega)) (by repeat (first|exact Picks.nil|(apply Picks.cons; (first|exact K0|exact K1|exact K2|exact K3|exact K4|exact K5|exact K6|exact K7|exact K8|exact K9|exact K10|exact K11)))) ?_
        rintro v L' ⟨x, n, hx, rfl, rfl⟩
        simp only [List.cons_append, List.nil_append]
        repeat (first|refine wa ?_|refine wb ?_|refine wc ?_|refine wd ?_|refine we ?_|refine wf ?_|refine wg ?_|refine wh rfl ?_|refine wi rfl ?_|refine wj rfl ?_|refine wk rfl ?_|refine wl rfl ?_|refine wm (by decide) ?_|refine hdec _ _ _ _ ?_|(apply Tri.ldE; (first|exact K0|exact K1|exact K2|exact K3|exact K4|exact K5|exact K6|exact K7|exact K8|exact K9|exact K10|exact K11); (exact rfl); (exact wz rfl))|(apply Tri.stE; (first|exact K0|exact K1|exact K2|exact K3|exact K4|exact K5|exact K6|exact K7|exact K8|exact K9|exact K10|exact K11); (exact rfl); (exact wz rfl))|(apply Tri.same; (first|exact K0|exact K1|exact K2|exact K3|exact K4|exact K5|exact K6|exact K7|exact K8|exact K9|exact K10|exact K11); (exact rfl); (exact wz rfl))|refine wq fun _ => ?_)
        exact Tri.ret ⟨rfl, x, n, by omega, by omega, rfl, rfl⟩ (by repeat (first|exact Sub.refl _|exact Sub.nil _|(apply Sub.cons; (first|exact K0|exact K1|exact K2|exact K3|exact K4|exact K5|exact K6|exact K7|exact K8|exact K9|exact K10|exact K11))|apply Sub.skip))
      · refine Tri.call (median_spec B el (l := l) hcmp (by omega) (by omega) (by omega)) (by repeat (first|exact Picks.nil|(apply Picks.cons; (first|exact K0|exact K1|exact K2|exact K3|exact K4|exact K5|exact K6|exact K7|exact K8|exact K9|exact K10|exact K11)))) ?_
        rintro v L' ⟨x, n, hx, rfl, rfl⟩
        simp only [List.cons_append, List.nil_append]
        repeat (first|refine wa ?_|refine wb ?_|refine wc ?_|refine wd ?_|refine we ?_|refine wf ?_|refine wg ?_|refine wh rfl ?_|refine wi rfl ?_|refine wj rfl ?_|refine wk rfl ?_|refine wl rfl ?_|refine wm (by decide) ?_|refine hdec _ _ _ _ ?_|(apply Tri.ldE; (first|exact K0|exact K1|exact K2|exact K3|exact K4|exact K5|exact K6|exact K7|exact K8|exact K9|exact K10|exact K11); (exact rfl); (exact wz rfl))|(apply Tri.stE; (first|exact K0|exact K1|exact K2|exact K3|exact K4|exact K5|exact K6|exact K7|exact K8|exact K9|exact K10|exact K11); (exact rfl); (exact wz rfl))|(apply Tri.same; (first|exact K0|exact K1|exact K2|exact K3|exact K4|exact K5|exact K6|exact K7|exact K8|exact K9|exact K10|exact K11); (exact rfl); (exact wz rfl))|refine wq fun _ => ?_)
        exact Tri.ret ⟨rfl, x, n, by omega, by omega, rfl, rfl⟩ (by repeat (first|exact Sub.refl _|exact Sub.nil _|(apply Sub.cons; (first|exact K0|exact K1|exact K2|exact K3|exact K4|exact K5|exact K6|exact K7|exact K8|exact K9|exact K10|exact K11))|apply Sub.skip))
    · exact Tri.ret ⟨rfl, _, 0, by omega, by omega, rfl, rfl⟩ (by repeat (first|exact Sub.refl _|exact Sub.nil _|(apply Sub.cons; (first|exact K0|exact K1|exact K2|exact K3|exact K4|exact K5|exact K6|exact K7|exact K8|exact K9|exact K10|exact K11))|apply Sub.skip))
  rintro tag l' L ⟨rfl, m, n, hm1, hm2, rfl, rfl⟩
  unfold gpiv_k1
  simp only [List.cons_append, List.nil_append]
  repeat (first|refine wa ?_|refine wb ?_|refine wc ?_|refine wd ?_|refine we ?_|refine wf ?_|refine wg ?_|refine wh rfl ?_|refine wi rfl ?_|refine wj rfl ?_|refine wk rfl ?_|refine wl rfl ?_|refine wm (by decide) ?_|refine hdec _ _ _ _ ?_|(apply Tri.ldE; (first|exact K0|exact K1|exact K2|exact K3|exact K4|exact K5|exact K6|exact K7|exact K8|exact K9|exact K10|exact K11); (exact rfl); (exact wz rfl))|(apply Tri.stE; (first|exact K0|exact K1|exact K2|exact K3|exact K4|exact K5|exact K6|exact K7|exact K8|exact K9|exact K10|exact K11); (exact rfl); (exact wz rfl))|(apply Tri.same; (first|exact K0|exact K1|exact K2|exact K3|exact K4|exact K5|exact K6|exact K7|exact K8|exact K9|exact K10|exact K11); (exact rfl); (exact wz rfl))|refine wq fun _ => ?_)
  refine Tri.cnd (fun h1 => ?_) (fun h1 => ?_)
  · repeat (first|refine wa ?_|refine wb ?_|refine wc ?_|refine wd ?_|refine we ?_|refine wf ?_|refine wg ?_|refine wh rfl ?_|refine wi rfl ?_|refine wj rfl ?_|refine wk rfl ?_|refine wl rfl ?_|refine wm (by decide) ?_|refine hdec _ _ _ _ ?_|(apply Tri.ldE; (first|exact K0|exact K1|exact K2|exact K3|exact K4|exact K5|exact K6|exact K7|exact K8|exact K9|exact K10|exact K11); (exact rfl); (exact wz rfl))|(apply Tri.stE; (first|exact K0|exact K1|exact K2|exact K3|exact K4|exact K5|exact K6|exact K7|exact K8|exact K9|exact K10|exact K11); (exact rfl); (exact wz rfl))|(apply Tri.same; (first|exact K0|exact K1|exact K2|exact K3|exact K4|exact K5|exact K6|exact K7|exact K8|exact K9|exact K10|exact K11); (exact rfl); (exact wz rfl))|refine wq fun _ => ?_)
    exact Tri.retF ⟨m, _, hm1, hm2, rfl, rfl⟩ (by repeat (first|exact Sub.refl _|exact Sub.nil _|(apply Sub.cons; (first|exact K0|exact K1|exact K2|exact K3|exact K4|exact K5|exact K6|exact K7|exact K8|exact K9|exact K10|exact K11))|apply Sub.skip))
  · refine Tri.cnd (fun h2 => ?_) (fun h2 => ?_)
    · exact Tri.retF ⟨m, _, hm1, hm2, rfl, rfl⟩ (by repeat (first|exact Sub.refl _|exact Sub.nil _|(apply Sub.cons; (first|exact K0|exact K1|exact K2|exact K3|exact K4|exact K5|exact K6|exact K7|exact K8|exact K9|exact K10|exact K11))|apply Sub.skip))
    · exact Tri.retF ⟨m, _, hm1, hm2, rfl, rfl⟩ (by repeat (first|exact Sub.refl _|exact Sub.nil _|(apply Sub.cons; (first|exact K0|exact K1|exact K2|exact K3|exact K4|exact K5|exact K6|exact K7|exact K8|exact K9|exact K10|exact K11))|apply Sub.skip))

theorem sift_spec (B : SOk E z dec zs S) (el : ElOk E T z dec zs) {o : Option SlD} {l : List α} {lo hi fi : Nat} {g : FuncId} {f c : List (Nat × Nat)} {lt : α → α → Prop} (hcmp : IsCmp E T g f c lt) (ho : Ord lt) (hlo : lo ≤ 1000) (hb : fi + hi ≤ l.length) (hl : l.length ≤ 1000)
    (hh : Heap lt fi (lo + 1) hi l) : FSpec E S.sift [.sc (.sl o), .sc (.i .i64 lo), .sc (.i .i64 hi), .sc (.i .i64 fi), .sc (.fn g f c)] [.sl false T o l]
    (fun v L' => ∃ l' : List α, v = .tu [] ∧ L' = [.sl false T o l'] ∧ Rng fi (fi + hi) l l' ∧ Heap lt fi lo hi l') := by
  have hdec := el.hd
  have hz := el.hz
  subst hz
  obtain ⟨fn, hf, hbk⟩ := B.sift
  refine FSpec.of hf (hbk _ _ _ _ _ _ _) fun F => ?_
  unfold gsift
  refine Tri.loop (I := fun m l' L => ∃ (r : Nat) (l1 : List α), m = hi - r ∧ lo ≤ r ∧ r ≤ 1000 ∧ Rng fi (fi + hi) l l1 ∧ Sft lt fi lo hi r l1 ∧
    l' = [.sc (.sl o), .sc (.i .i64 hi), .sc (.i .i64 fi), .sc (.fn g f c), .sc (.i .i64 r)] ∧ L = .sl false T o l1 :: F)
    ⟨lo, l, rfl, by omega, hlo, Rng.refl _ _ _, Sft.start hh, rfl, rfl⟩ (Sub.refl _) ?_
  rintro m l' L ⟨r, l1, rfl, h1, h2, hr, hs, rfl, rfl⟩
  have hlen := hr.len
  have e1 : IntKind.wrap .i64 (IntKind.wrap .i64 ((2 : Int) * (r : Int)) + 1) = ((2 * r + 1 : Nat) : Int) := by rw [wr_i64 (n := (2 : Int) * (r : Int)) (by omega) (by omega), wr_i64 (by omega) (by omega)]; omega
  have e2 : IntKind.wrap .i64 (((2 * r + 1 : Nat) : Int) + 1) = ((2 * r + 2 : Nat) : Int) := by rw [wr_i64 (by omega) (by omega)]; omega
  repeat (first|refine wa ?_|refine wb ?_|refine wc ?_|refine wd ?_|refine we ?_|refine wf ?_|refine wg ?_|refine wh rfl ?_|refine wi rfl ?_|refine wj rfl ?_|refine wk rfl ?_|refine wl rfl ?_|refine wm (by decide) ?_|refine hdec _ _ _ _ ?_|refine wn ?_|refine wo ?_|refine wp (by decide) ?_|(apply Tri.ldE; (first|exact K0|exact K1|exact K2|exact K3|exact K4|exact K5|exact K6|exact K7|exact K8|exact K9|exact K10|exact K11); (exact rfl); (exact wz rfl))|(apply Tri.stE; (first|exact K0|exact K1|exact K2|exact K3|exact K4|exact K5|exact K6|exact K7|exact K8|exact K9|exact K10|exact K11); (exact rfl); (exact wz rfl))|(apply Tri.same; (first|exact K0|exact K1|exact K2|exact K3|exact K4|exact K5|exact K6|exact K7|exact K8|exact K9|exact K10|exact K11); (exact rfl); (exact wz rfl))|refine wq fun _ => ?_)
  simp only [e1, e2]
  refine Tri.cnd (fun hc => ?_) (fun hc => ?_)
  · have hc : hi ≤ 2 * r + 1 := by simp at hc; omega
    repeat (first|refine wa ?_|refine wb ?_|refine wc ?_|refine wd ?_|refine we ?_|refine wf ?_|refine wg ?_|refine wh rfl ?_|refine wi rfl ?_|refine wj rfl ?_|refine wk rfl ?_|refine wl rfl ?_|refine wm (by decide) ?_|refine hdec _ _ _ _ ?_|refine wn ?_|refine wo ?_|refine wp (by decide) ?_|(apply Tri.ldE; (first|exact K0|exact K1|exact K2|exact K3|exact K4|exact K5|exact K6|exact K7|exact K8|exact K9|exact K10|exact K11); (exact rfl); (exact wz rfl))|(apply Tri.stE; (first|exact K0|exact K1|exact K2|exact K3|exact K4|exact K5|exact K6|exact K7|exact K8|exact K9|exact K10|exact K11); (exact rfl); (exact wz rfl))|(apply Tri.same; (first|exact K0|exact K1|exact K2|exact K3|exact K4|exact K5|exact K6|exact K7|exact K8|exact K9|exact K10|exact K11); (exact rfl); (exact wz rfl))|refine wq fun _ => ?_)
    exact Tri.retF ⟨l1, rfl, rfl, hr, hs.leaf hc⟩ (Sub.refl _)
  · have hc : 2 * r + 1 < hi := by simp at hc; omega
    have tail : ∀ ch : Nat, (ch = 2 * r + 1 ∨ ch = 2 * r + 2) → ch < hi → (∀ y, l1[fi + ch]? = some y → ∀ (k : Nat) (z : α), 0 < k → k < hi → (k - 1) / 2 = r → k ≠ ch → l1[fi + k]? = some z → ¬ lt y z) →
        Tri E (.sl false T o l1 :: F) ((gsift_k41 T.z dec zs S) 0 [.sc (.sl o), .sc (.i .i64 hi), .sc (.i .i64 fi), .sc (.fn g f c), .sc (.i .i64 r), .sc (.i .i64 ch)])
          (LQ E (fun m l' L => ∃ (r : Nat) (l1 : List α), m = hi - r ∧ lo ≤ r ∧ r ≤ 1000 ∧ Rng fi (fi + hi) l l1 ∧ Sft lt fi lo hi r l1 ∧
            l' = [.sc (.sl o), .sc (.i .i64 hi), .sc (.i .i64 fi), .sc (.fn g f c), .sc (.i .i64 r)] ∧ L = .sl false T o l1 :: F) (hi - r) (gsift_k0 T.z dec zs S)
            (RQ F fun v L' => ∃ l' : List α, v = .tu [] ∧ L' = [.sl false T o l'] ∧ Rng fi (fi + hi) l l' ∧ Heap lt fi lo hi l')) := by
      intro ch hch hhi hbig
      have e3 : IntKind.wrap .i64 ((fi : Int) + (r : Int)) = ((fi + r : Nat) : Int) := by rw [wr_i64 (by omega) (by omega)]; omega
      have e4 : IntKind.wrap .i64 ((fi : Int) + (ch : Int)) = ((fi + ch : Nat) : Int) := by rw [wr_i64 (by omega) (by omega)]; omega
      unfold gsift_k41
      repeat (first|refine wa ?_|refine wb ?_|refine wc ?_|refine wd ?_|refine we ?_|refine wf ?_|refine wg ?_|refine wh rfl ?_|refine wi rfl ?_|refine wj rfl ?_|refine wk rfl ?_|refine wl rfl ?_|refine wm (by decide) ?_|refine hdec _ _ _ _ ?_|refine wn ?_|refine wo ?_|refine wp (by decide) ?_|(apply Tri.ldE; (first|exact K0|exact K1|exact K2|exact K3|exact K4|exact K5|exact K6|exact K7|exact K8|exact K9|exact K10|exact K11); (exact rfl); (exact wz rfl))|(apply Tri.stE; (first|exact K0|exact K1|exact K2|exact K3|exact K4|exact K5|exact K6|exact K7|exact K8|exact K9|exact K10|exact K11); (exact rfl); (exact wz rfl))|(apply Tri.same; (first|exact K0|exact K1|exact K2|exact K3|exact K4|exact K5|exact K6|exact K7|exact K8|exact K9|exact K10|exact K11); (exact rfl); (exact wz rfl))|refine wq fun _ => ?_)
      simp only [e3, e4]
      refine Tri.ixld (T := T) (by first|exact K0|exact K1|exact K2|exact K3|exact K4|exact K5|exact K6|exact K7|exact K8|exact K9|exact K10|exact K11) rfl (by omega) (by omega) fun x hx => ?_
      rw [Int.toNat_natCast] at hx
      repeat (first|refine wa ?_|refine wb ?_|refine wc ?_|refine wd ?_|refine we ?_|refine wf ?_|refine wg ?_|refine wh rfl ?_|refine wi rfl ?_|refine wj rfl ?_|refine wk rfl ?_|refine wl rfl ?_|refine wm (by decide) ?_|refine hdec _ _ _ _ ?_|refine wn ?_|refine wo ?_|refine wp (by decide) ?_|(apply Tri.ldE; (first|exact K0|exact K1|exact K2|exact K3|exact K4|exact K5|exact K6|exact K7|exact K8|exact K9|exact K10|exact K11); (exact rfl); (exact wz rfl))|(apply Tri.stE; (first|exact K0|exact K1|exact K2|exact K3|exact K4|exact K5|exact K6|exact K7|exact K8|exact K9|exact K10|exact K11); (exact rfl); (exact wz rfl))|(apply Tri.same; (first|exact K0|exact K1|exact K2|exact K3|exact K4|exact K5|exact K6|exact K7|exact K8|exact K9|exact K10|exact K11); (exact rfl); (exact wz rfl))|refine wq fun _ => ?_)
      refine Tri.ixld (T := T) (by first|exact K0|exact K1|exact K2|exact K3|exact K4|exact K5|exact K6|exact K7|exact K8|exact K9|exact K10|exact K11) rfl (by omega) (by omega) fun y hy => ?_
      rw [Int.toNat_natCast] at hy
      repeat (first|refine wa ?_|refine wb ?_|refine wc ?_|refine wd ?_|refine we ?_|refine wf ?_|refine wg ?_|refine wh rfl ?_|refine wi rfl ?_|refine wj rfl ?_|refine wk rfl ?_|refine wl rfl ?_|refine wm (by decide) ?_|refine hdec _ _ _ _ ?_|refine wn ?_|refine wo ?_|refine wp (by decide) ?_|(apply Tri.ldE; (first|exact K0|exact K1|exact K2|exact K3|exact K4|exact K5|exact K6|exact K7|exact K8|exact K9|exact K10|exact K11); (exact rfl); (exact wz rfl))|(apply Tri.stE; (first|exact K0|exact K1|exact K2|exact K3|exact K4|exact K5|exact K6|exact K7|exact K8|exact K9|exact K10|exact K11); (exact rfl); (exact wz rfl))|(apply Tri.same; (first|exact K0|exact K1|exact K2|exact K3|exact K4|exact K5|exact K6|exact K7|exact K8|exact K9|exact K10|exact K11); (exact rfl); (exact wz rfl))|refine wq fun _ => ?_)
      refine Tri.callv rfl (hcmp x y) (by repeat (first|exact Picks.nil|(apply Picks.cons; (first|exact K0|exact K1|exact K2|exact K3|exact K4|exact K5|exact K6|exact K7|exact K8|exact K9|exact K10|exact K11)))) ?_
      rintro v L' ⟨n, rfl, hn, rfl⟩
      simp only [List.cons_append, List.nil_append]
      repeat (first|refine wa ?_|refine wb ?_|refine wc ?_|refine wd ?_|refine we ?_|refine wf ?_|refine wg ?_|refine wh rfl ?_|refine wi rfl ?_|refine wj rfl ?_|refine wk rfl ?_|refine wl rfl ?_|refine wm (by decide) ?_|refine hdec _ _ _ _ ?_|refine wn ?_|refine wo ?_|refine wp (by decide) ?_|(apply Tri.ldE; (first|exact K0|exact K1|exact K2|exact K3|exact K4|exact K5|exact K6|exact K7|exact K8|exact K9|exact K10|exact K11); (exact rfl); (exact wz rfl))|(apply Tri.stE; (first|exact K0|exact K1|exact K2|exact K3|exact K4|exact K5|exact K6|exact K7|exact K8|exact K9|exact K10|exact K11); (exact rfl); (exact wz rfl))|(apply Tri.same; (first|exact K0|exact K1|exact K2|exact K3|exact K4|exact K5|exact K6|exact K7|exact K8|exact K9|exact K10|exact K11); (exact rfl); (exact wz rfl))|refine wq fun _ => ?_)
      refine Tri.cnd (fun hk => ?_) (fun hk => ?_)
      · have hk : ¬ lt x y := fun h => by have := hn.2 h; simp at hk; omega
        repeat (first|refine wa ?_|refine wb ?_|refine wc ?_|refine wd ?_|refine we ?_|refine wf ?_|refine wg ?_|refine wh rfl ?_|refine wi rfl ?_|refine wj rfl ?_|refine wk rfl ?_|refine wl rfl ?_|refine wm (by decide) ?_|refine hdec _ _ _ _ ?_|refine wn ?_|refine wo ?_|refine wp (by decide) ?_|(apply Tri.ldE; (first|exact K0|exact K1|exact K2|exact K3|exact K4|exact K5|exact K6|exact K7|exact K8|exact K9|exact K10|exact K11); (exact rfl); (exact wz rfl))|(apply Tri.stE; (first|exact K0|exact K1|exact K2|exact K3|exact K4|exact K5|exact K6|exact K7|exact K8|exact K9|exact K10|exact K11); (exact rfl); (exact wz rfl))|(apply Tri.same; (first|exact K0|exact K1|exact K2|exact K3|exact K4|exact K5|exact K6|exact K7|exact K8|exact K9|exact K10|exact K11); (exact rfl); (exact wz rfl))|refine wq fun _ => ?_)
        exact Tri.retF ⟨l1, rfl, rfl, hr, hs.done ho (by omega) (by omega) hx hy hk (hbig y hy)⟩ (Sub.refl _)
      · have hk : lt x y := hn.1 (by simpa using hk)
        refine Tri.ixld (T := T) (by first|exact K0|exact K1|exact K2|exact K3|exact K4|exact K5|exact K6|exact K7|exact K8|exact K9|exact K10|exact K11) rfl (by omega) (by omega) fun y' hy' => ?_
        rw [Int.toNat_natCast, hy] at hy'; cases hy'
        repeat (first|refine wa ?_|refine wb ?_|refine wc ?_|refine wd ?_|refine we ?_|refine wf ?_|refine wg ?_|refine wh rfl ?_|refine wi rfl ?_|refine wj rfl ?_|refine wk rfl ?_|refine wl rfl ?_|refine wm (by decide) ?_|refine hdec _ _ _ _ ?_|refine wn ?_|refine wo ?_|refine wp (by decide) ?_|(apply Tri.ldE; (first|exact K0|exact K1|exact K2|exact K3|exact K4|exact K5|exact K6|exact K7|exact K8|exact K9|exact K10|exact K11); (exact rfl); (exact wz rfl))|(apply Tri.stE; (first|exact K0|exact K1|exact K2|exact K3|exact K4|exact K5|exact K6|exact K7|exact K8|exact K9|exact K10|exact K11); (exact rfl); (exact wz rfl))|(apply Tri.same; (first|exact K0|exact K1|exact K2|exact K3|exact K4|exact K5|exact K6|exact K7|exact K8|exact K9|exact K10|exact K11); (exact rfl); (exact wz rfl))|refine wq fun _ => ?_)
        refine Tri.ixld (T := T) (by first|exact K0|exact K1|exact K2|exact K3|exact K4|exact K5|exact K6|exact K7|exact K8|exact K9|exact K10|exact K11) rfl (by omega) (by omega) fun x' hx' => ?_
        rw [Int.toNat_natCast, hx] at hx'; cases hx'
        repeat (first|refine wa ?_|refine wb ?_|refine wc ?_|refine wd ?_|refine we ?_|refine wf ?_|refine wg ?_|refine wh rfl ?_|refine wi rfl ?_|refine wj rfl ?_|refine wk rfl ?_|refine wl rfl ?_|refine wm (by decide) ?_|refine hdec _ _ _ _ ?_|refine wn ?_|refine wo ?_|refine wp (by decide) ?_|(apply Tri.ldE; (first|exact K0|exact K1|exact K2|exact K3|exact K4|exact K5|exact K6|exact K7|exact K8|exact K9|exact K10|exact K11); (exact rfl); (exact wz rfl))|(apply Tri.stE; (first|exact K0|exact K1|exact K2|exact K3|exact K4|exact K5|exact K6|exact K7|exact K8|exact K9|exact K10|exact K11); (exact rfl); (exact wz rfl))|(apply Tri.same; (first|exact K0|exact K1|exact K2|exact K3|exact K4|exact K5|exact K6|exact K7|exact K8|exact K9|exact K10|exact K11); (exact rfl); (exact wz rfl))|refine wq fun _ => ?_)
        refine Tri.ixst (T := T) y (by first|exact K0|exact K1|exact K2|exact K3|exact K4|exact K5|exact K6|exact K7|exact K8|exact K9|exact K10|exact K11) rfl (by omega) (by omega) rfl ?_
        refine Tri.ixst (T := T) x (by first|exact K0|exact K1|exact K2|exact K3|exact K4|exact K5|exact K6|exact K7|exact K8|exact K9|exact K10|exact K11) rfl (by omega) (by simp; omega) rfl ?_
        rw [Int.toNat_natCast, Int.toNat_natCast, ← sw_eq hx hy]
        exact Tri.back (m' := hi - ch) (by omega) ⟨ch, _, rfl, by omega, by omega, hr.trans (Rng.sw (by omega) (by omega) (by omega) (by omega) (by omega)), hs.step ho h1 (by omega) (by omega) hhi (by omega) hx hy hk (hbig y hy), rfl, rfl⟩ (Sub.refl _)
    have e5 : IntKind.wrap .i64 ((fi : Int) + ((2 * r + 1 : Nat) : Int)) = ((fi + (2 * r + 1) : Nat) : Int) := by rw [wr_i64 (by omega) (by omega)]; omega
    have e6 : IntKind.wrap .i64 (((fi + (2 * r + 1) : Nat) : Int) + 1) = ((fi + (2 * r + 2) : Nat) : Int) := by rw [wr_i64 (by omega) (by omega)]; omega
    simp only [e5, e6]
    refine Tri.cnd (fun hd => ?_) (fun hd => ?_)
    · have hd : 2 * r + 2 < hi := by simp at hd; omega
      refine Tri.ixld (T := T) (by first|exact K0|exact K1|exact K2|exact K3|exact K4|exact K5|exact K6|exact K7|exact K8|exact K9|exact K10|exact K11) rfl (by omega) (by omega) fun x hx => ?_
      rw [Int.toNat_natCast] at hx
      repeat (first|refine wa ?_|refine wb ?_|refine wc ?_|refine wd ?_|refine we ?_|refine wf ?_|refine wg ?_|refine wh rfl ?_|refine wi rfl ?_|refine wj rfl ?_|refine wk rfl ?_|refine wl rfl ?_|refine wm (by decide) ?_|refine hdec _ _ _ _ ?_|refine wn ?_|refine wo ?_|refine wp (by decide) ?_|(apply Tri.ldE; (first|exact K0|exact K1|exact K2|exact K3|exact K4|exact K5|exact K6|exact K7|exact K8|exact K9|exact K10|exact K11); (exact rfl); (exact wz rfl))|(apply Tri.stE; (first|exact K0|exact K1|exact K2|exact K3|exact K4|exact K5|exact K6|exact K7|exact K8|exact K9|exact K10|exact K11); (exact rfl); (exact wz rfl))|(apply Tri.same; (first|exact K0|exact K1|exact K2|exact K3|exact K4|exact K5|exact K6|exact K7|exact K8|exact K9|exact K10|exact K11); (exact rfl); (exact wz rfl))|refine wq fun _ => ?_)
      refine Tri.ixld (T := T) (by first|exact K0|exact K1|exact K2|exact K3|exact K4|exact K5|exact K6|exact K7|exact K8|exact K9|exact K10|exact K11) rfl (by omega) (by omega) fun y hy => ?_
      rw [Int.toNat_natCast] at hy
      repeat (first|refine wa ?_|refine wb ?_|refine wc ?_|refine wd ?_|refine we ?_|refine wf ?_|refine wg ?_|refine wh rfl ?_|refine wi rfl ?_|refine wj rfl ?_|refine wk rfl ?_|refine wl rfl ?_|refine wm (by decide) ?_|refine hdec _ _ _ _ ?_|(apply Tri.ldE; (first|exact K0|exact K1|exact K2|exact K3|exact K4|exact K5|exact K6|exact K7|exact K8|exact K9|exact K10|exact K11); (exact rfl); (exact wz rfl))|(apply Tri.stE; (first|exact K0|exact K1|exact K2|exact K3|exact K4|exact K5|exact K6|exact K7|exact K8|exact K9|exact K10|exact K11); (exact rfl); (exact wz rfl))|(apply Tri.same; (first|exact K0|exact K1|exact K2|exact K3|exact K4|exact K5|exact K6|exact K7|exact K8|exact K9|exact K10|exact K11); (exact rfl); (exact wz rfl))|refine wq fun _ => ?_)
      refine Tri.callv rfl (hcmp x y) (by repeat (first|exact Picks.nil|(apply Picks.cons; (first|exact K0|exact K1|exact K2|exact K3|exact K4|exact K5|exact K6|exact K7|exact K8|exact K9|exact K10|exact K11)))) ?_
      rintro v L' ⟨n, rfl, hn, rfl⟩
      simp only [List.cons_append, List.nil_append]
      repeat (first|refine wa ?_|refine wb ?_|refine wc ?_|refine wd ?_|refine we ?_|refine wf ?_|refine wg ?_|refine wh rfl ?_|refine wi rfl ?_|refine wj rfl ?_|refine wk rfl ?_|refine wl rfl ?_|refine wm (by decide) ?_|refine hdec _ _ _ _ ?_|(apply Tri.ldE; (first|exact K0|exact K1|exact K2|exact K3|exact K4|exact K5|exact K6|exact K7|exact K8|exact K9|exact K10|exact K11); (exact rfl); (exact wz rfl))|(apply Tri.stE; (first|exact K0|exact K1|exact K2|exact K3|exact K4|exact K5|exact K6|exact K7|exact K8|exact K9|exact K10|exact K11); (exact rfl); (exact wz rfl))|(apply Tri.same; (first|exact K0|exact K1|exact K2|exact K3|exact K4|exact K5|exact K6|exact K7|exact K8|exact K9|exact K10|exact K11); (exact rfl); (exact wz rfl))|refine wq fun _ => ?_)
      refine Tri.joinQ (fun tag l' L => tag = 0 ∧ L = .sl false T o l1 :: F ∧ ∃ ch : Nat, (ch = 2 * r + 1 ∨ ch = 2 * r + 2) ∧ (∀ y, l1[fi + ch]? = some y → ∀ (k : Nat) (z : α), 0 < k → k < hi → (k - 1) / 2 = r → k ≠ ch → l1[fi + k]? = some z → ¬ lt y z) ∧
        l' = [.sc (.sl o), .sc (.i .i64 hi), .sc (.i .i64 fi), .sc (.fn g f c), .sc (.i .i64 r), .sc (.i .i64 ch)]) ?_ ?_
      · refine Tri.cnd (fun hk => ?_) (fun hk => ?_)
        · have hk : lt x y := hn.1 (by simpa using hk)
          refine Tri.ret ⟨rfl, rfl, 2 * r + 2, .inr rfl, fun y' hy' k z k1 k2 k3 k4 hz => ?_, rfl⟩ (by repeat (first|exact Sub.refl _|exact Sub.nil _|(apply Sub.cons; (first|exact K0|exact K1|exact K2|exact K3|exact K4|exact K5|exact K6|exact K7|exact K8|exact K9|exact K10|exact K11))|apply Sub.skip))
          have : k = 2 * r + 1 := by omega
          subst this
          rw [hx] at hz; rw [hy] at hy'; cases hz; cases hy'
          exact fun h' => ho.irr _ (ho.tr hk h')
        · have hk : ¬ lt x y := fun h => by have := hn.2 h; simp at hk; omega
          refine Tri.ret ⟨rfl, rfl, 2 * r + 1, .inl rfl, fun y' hy' k z k1 k2 k3 k4 hz => ?_, rfl⟩ (by repeat (first|exact Sub.refl _|exact Sub.nil _|(apply Sub.cons; (first|exact K0|exact K1|exact K2|exact K3|exact K4|exact K5|exact K6|exact K7|exact K8|exact K9|exact K10|exact K11))|apply Sub.skip))
          have : k = 2 * r + 2 := by omega
          subst this
          rw [hx] at hy'; rw [hy] at hz; cases hz; cases hy'
          exact hk
      rintro tag l' L ⟨rfl, rfl, ch, hch, hbig, rfl⟩
      exact tail ch hch (by omega) hbig
    · have hd : hi ≤ 2 * r + 2 := by simp at hd; omega
      refine Tri.joinQ (fun tag l' L => tag = 0 ∧ L = .sl false T o l1 :: F ∧ l' = [.sc (.sl o), .sc (.i .i64 hi), .sc (.i .i64 fi), .sc (.fn g f c), .sc (.i .i64 r), .sc (.i .i64 ((2 * r + 1 : Nat) : Int))]) (Tri.ret ⟨rfl, rfl, rfl⟩ (by repeat (first|exact Sub.refl _|exact Sub.nil _|(apply Sub.cons; (first|exact K0|exact K1|exact K2|exact K3|exact K4|exact K5|exact K6|exact K7|exact K8|exact K9|exact K10|exact K11))|apply Sub.skip))) ?_
      rintro tag l' L ⟨rfl, rfl, rfl⟩
      exact tail (2 * r + 1) (.inl rfl) hc fun y hy k z k1 k2 k3 k4 hz => by omega

theorem heap_spec (B : SOk E z dec zs S) (el : ElOk E T z dec zs) {o : Option SlD} {l : List α} {a b : Nat} {g : FuncId} {f c : List (Nat × Nat)} {lt : α → α → Prop} (hcmp : IsCmp E T g f c lt) (ho : Ord lt) (hab : a < b) (hb : b ≤ l.length) (hl : l.length ≤ 1000) :
    FSpec E S.heap [.sc (.sl o), .sc (.i .i64 a), .sc (.i .i64 b), .sc (.fn g f c)] [.sl false T o l]
    (fun v L' => ∃ l' : List α, v = .tu [] ∧ L' = [.sl false T o l'] ∧ Rng a b l l' ∧ Inc lt a b l') := by
  have hdec := el.hd
  have hz := el.hz
  subst hz
  obtain ⟨fn, hf, hbk⟩ := B.heap
  refine FSpec.of hf (hbk _ _ _ _ _ _) fun F => ?_
  unfold gheap
  obtain ⟨n, rfl⟩ : ∃ n, b = a + n := ⟨b - a, by omega⟩
  have w0 : IntKind.wrap .i64 (((a + n : Nat) : Int) - a) = (n : Int) := by rw [wr_i64 (by omega) (by omega)]; omega
  have w1 : IntKind.wrap .i64 ((n : Int) - 1) = ((n - 1 : Nat) : Int) := by rw [wr_i64 (by omega) (by omega)]; omega
  have w2 : Int.tdiv ((n - 1 : Nat) : Int) 2 = (((n - 1) / 2 : Nat) : Int) := by rw [Int.tdiv_eq_ediv_of_nonneg (by omega)]; omega
  have w3 : IntKind.wrap .i64 (((n - 1) / 2 : Nat) : Int) = (((n - 1) / 2 + 1 : Nat) : Int) - 1 := by rw [wr_i64 (by omega) (by omega)]; omega
  rw [w0, w1, w2, w3]
  refine Tri.brT rfl ?_
  refine Tri.loop (I := fun m l' L => ∃ (l1 : List α), m ≤ 1000 ∧ Rng a (a + n) l l1 ∧ Heap lt a m n l1 ∧
    l' = [.sc (.sl o), .sc (.fn g f c), .sc (.i .i64 a), .sc (.i .i64 (0 : Int)), .sc (.i .i64 n), .sc (.i .i64 ((m : Int) - 1))] ∧ L = .sl false T o l1 :: F)
    (m := (n - 1) / 2 + 1) ⟨l, by omega, Rng.refl _ _ _, Heap.nil, rfl, rfl⟩ (Sub.refl _) ?_
  rintro m l' L ⟨l1, hm, hr, hh, rfl, rfl⟩
  have hlen := hr.len
  repeat (first|refine wa ?_|refine wb ?_|refine wc ?_|refine wd ?_|refine we ?_|refine wf ?_|refine wg ?_|refine wh rfl ?_|refine wi rfl ?_|refine wj rfl ?_|refine wk rfl ?_|refine wl rfl ?_|refine wm (by decide) ?_|refine hdec _ _ _ _ ?_|refine wn ?_|refine wo ?_|refine wp (by decide) ?_|(apply Tri.ldE; (first|exact K0|exact K1|exact K2|exact K3|exact K4|exact K5|exact K6|exact K7|exact K8|exact K9|exact K10|exact K11); (exact rfl); (exact wz rfl))|(apply Tri.stE; (first|exact K0|exact K1|exact K2|exact K3|exact K4|exact K5|exact K6|exact K7|exact K8|exact K9|exact K10|exact K11); (exact rfl); (exact wz rfl))|(apply Tri.same; (first|exact K0|exact K1|exact K2|exact K3|exact K4|exact K5|exact K6|exact K7|exact K8|exact K9|exact K10|exact K11); (exact rfl); (exact wz rfl))|refine wq fun _ => ?_)
  refine Tri.cnd (fun hc => ?_) (fun hc => ?_)
  · have hc : 0 < m := by simp at hc; omega
    obtain ⟨m, rfl⟩ : ∃ m', m = m' + 1 := ⟨m - 1, by omega⟩
    rw [show ((m + 1 : Nat) : Int) - 1 = (m : Int) by omega]
    refine Tri.call (sift_spec B el (l := l1) hcmp ho (by omega) (by omega) (by omega) hh) (by repeat (first|exact Picks.nil|(apply Picks.cons; (first|exact K0|exact K1|exact K2|exact K3|exact K4|exact K5|exact K6|exact K7|exact K8|exact K9|exact K10|exact K11)))) ?_
    rintro v L' ⟨l2, rfl, rfl, hr2, hh2⟩
    simp only [List.cons_append, List.nil_append]
    refine Tri.back (m' := m) (by omega) ⟨l2, by omega, hr.trans hr2, hh2, ?_, rfl⟩ (Sub.refl _)
    rw [wr_i64 (by omega) (by omega)]
  · have hc : m = 0 := by simp at hc; omega
    subst hc
    refine Tri.exit (by decide) ?_
    unfold gheap_k0
    repeat (first|refine wa ?_|refine wb ?_|refine wc ?_|refine wd ?_|refine we ?_|refine wf ?_|refine wg ?_|refine wh rfl ?_|refine wi rfl ?_|refine wj rfl ?_|refine wk rfl ?_|refine wl rfl ?_|refine wm (by decide) ?_|refine hdec _ _ _ _ ?_|refine wn ?_|refine wo ?_|refine wp (by decide) ?_|(apply Tri.ldE; (first|exact K0|exact K1|exact K2|exact K3|exact K4|exact K5|exact K6|exact K7|exact K8|exact K9|exact K10|exact K11); (exact rfl); (exact wz rfl))|(apply Tri.stE; (first|exact K0|exact K1|exact K2|exact K3|exact K4|exact K5|exact K6|exact K7|exact K8|exact K9|exact K10|exact K11); (exact rfl); (exact wz rfl))|(apply Tri.same; (first|exact K0|exact K1|exact K2|exact K3|exact K4|exact K5|exact K6|exact K7|exact K8|exact K9|exact K10|exact K11); (exact rfl); (exact wz rfl))|refine wq fun _ => ?_)
    rw [show IntKind.wrap .i64 ((n : Int) - 1) = (n : Int) - 1 from wr_i64 (by omega) (by omega)]
    refine Tri.loop (I := fun m l' L => ∃ (l1 : List α), m ≤ n ∧ Rng a (a + n) l l1 ∧ HS lt a m n l1 ∧
      l' = [.sc (.sl o), .sc (.fn g f c), .sc (.i .i64 a), .sc (.i .i64 (0 : Int)), .sc (.i .i64 ((m : Int) - 1))] ∧ L = .sl false T o l1 :: F)
      (m := n) ⟨l1, by omega, hr, HS.start hh, rfl, rfl⟩ (Sub.refl _) ?_
    clear hr hh hlen l1
    rintro m l' L ⟨l1, hm, hr, hh, rfl, rfl⟩
    have hlen := hr.len
    repeat (first|refine wa ?_|refine wb ?_|refine wc ?_|refine wd ?_|refine we ?_|refine wf ?_|refine wg ?_|refine wh rfl ?_|refine wi rfl ?_|refine wj rfl ?_|refine wk rfl ?_|refine wl rfl ?_|refine wm (by decide) ?_|refine hdec _ _ _ _ ?_|refine wn ?_|refine wo ?_|refine wp (by decide) ?_|(apply Tri.ldE; (first|exact K0|exact K1|exact K2|exact K3|exact K4|exact K5|exact K6|exact K7|exact K8|exact K9|exact K10|exact K11); (exact rfl); (exact wz rfl))|(apply Tri.stE; (first|exact K0|exact K1|exact K2|exact K3|exact K4|exact K5|exact K6|exact K7|exact K8|exact K9|exact K10|exact K11); (exact rfl); (exact wz rfl))|(apply Tri.same; (first|exact K0|exact K1|exact K2|exact K3|exact K4|exact K5|exact K6|exact K7|exact K8|exact K9|exact K10|exact K11); (exact rfl); (exact wz rfl))|refine wq fun _ => ?_)
    refine Tri.cnd (fun hd => ?_) (fun hd => ?_)
    · have hd : 0 < m := by simp at hd; omega
      obtain ⟨m, rfl⟩ : ∃ m', m = m' + 1 := ⟨m - 1, by omega⟩
      rw [show ((m + 1 : Nat) : Int) - 1 = (m : Int) by omega]
      rw [show IntKind.wrap .i64 ((a : Int) + (m : Int)) = ((a + m : Nat) : Int) by rw [wr_i64 (by omega) (by omega)]; omega]
      refine Tri.ixld (T := T) (by first|exact K0|exact K1|exact K2|exact K3|exact K4|exact K5|exact K6|exact K7|exact K8|exact K9|exact K10|exact K11) rfl (by omega) (by omega) fun y hy => ?_
      rw [Int.toNat_natCast] at hy
      repeat (first|refine wa ?_|refine wb ?_|refine wc ?_|refine wd ?_|refine we ?_|refine wf ?_|refine wg ?_|refine wh rfl ?_|refine wi rfl ?_|refine wj rfl ?_|refine wk rfl ?_|refine wl rfl ?_|refine wm (by decide) ?_|refine hdec _ _ _ _ ?_|refine wn ?_|refine wo ?_|refine wp (by decide) ?_|(apply Tri.ldE; (first|exact K0|exact K1|exact K2|exact K3|exact K4|exact K5|exact K6|exact K7|exact K8|exact K9|exact K10|exact K11); (exact rfl); (exact wz rfl))|(apply Tri.stE; (first|exact K0|exact K1|exact K2|exact K3|exact K4|exact K5|exact K6|exact K7|exact K8|exact K9|exact K10|exact K11); (exact rfl); (exact wz rfl))|(apply Tri.same; (first|exact K0|exact K1|exact K2|exact K3|exact K4|exact K5|exact K6|exact K7|exact K8|exact K9|exact K10|exact K11); (exact rfl); (exact wz rfl))|refine wq fun _ => ?_)
      refine Tri.ixld (T := T) (by first|exact K0|exact K1|exact K2|exact K3|exact K4|exact K5|exact K6|exact K7|exact K8|exact K9|exact K10|exact K11) rfl (by omega) (by omega) fun x hx => ?_
      rw [Int.toNat_natCast] at hx
      repeat (first|refine wa ?_|refine wb ?_|refine wc ?_|refine wd ?_|refine we ?_|refine wf ?_|refine wg ?_|refine wh rfl ?_|refine wi rfl ?_|refine wj rfl ?_|refine wk rfl ?_|refine wl rfl ?_|refine wm (by decide) ?_|refine hdec _ _ _ _ ?_|refine wn ?_|refine wo ?_|refine wp (by decide) ?_|(apply Tri.ldE; (first|exact K0|exact K1|exact K2|exact K3|exact K4|exact K5|exact K6|exact K7|exact K8|exact K9|exact K10|exact K11); (exact rfl); (exact wz rfl))|(apply Tri.stE; (first|exact K0|exact K1|exact K2|exact K3|exact K4|exact K5|exact K6|exact K7|exact K8|exact K9|exact K10|exact K11); (exact rfl); (exact wz rfl))|(apply Tri.same; (first|exact K0|exact K1|exact K2|exact K3|exact K4|exact K5|exact K6|exact K7|exact K8|exact K9|exact K10|exact K11); (exact rfl); (exact wz rfl))|refine wq fun _ => ?_)
      refine Tri.ixst (T := T) y (by first|exact K0|exact K1|exact K2|exact K3|exact K4|exact K5|exact K6|exact K7|exact K8|exact K9|exact K10|exact K11) rfl (by omega) (by omega) rfl ?_
      refine Tri.ixst (T := T) x (by first|exact K0|exact K1|exact K2|exact K3|exact K4|exact K5|exact K6|exact K7|exact K8|exact K9|exact K10|exact K11) rfl (by omega) (by simp; omega) rfl ?_
      rw [Int.toNat_natCast, Int.toNat_natCast, ← sw_eq hx hy]
      have hr1 := hr.trans (Rng.sw (l := l1) (a := a) (b := a + n) (i := a) (j := a + m) (by omega) (by omega) (by omega) (by omega) (by omega))
      refine Tri.call (sift_spec B el (l := sw l1 a (a + m)) (lo := 0) hcmp ho (by omega) (by rw [sw_len]; omega) (by rw [sw_len]; omega) (hh.swap (by omega))) (by repeat (first|exact Picks.nil|(apply Picks.cons; (first|exact K0|exact K1|exact K2|exact K3|exact K4|exact K5|exact K6|exact K7|exact K8|exact K9|exact K10|exact K11)))) ?_
      rintro v L' ⟨l2, rfl, rfl, hr2, hh2⟩
      simp only [List.cons_append, List.nil_append]
      refine Tri.back (m' := m) (by omega) ⟨l2, by omega, hr1.trans (hr2.wide (by omega) (by omega)), hh.step ho (by omega) (by omega) hr2 hh2, ?_, rfl⟩ (Sub.refl _)
      rw [wr_i64 (by omega) (by omega)]
    · have hd : m = 0 := by simp at hd; omega
      subst hd
      refine Tri.exit (by decide) ?_
      unfold gheap_k16
      repeat (first|refine wa ?_|refine wb ?_|refine wc ?_|refine wd ?_|refine we ?_|refine wf ?_|refine wg ?_|refine wh rfl ?_|refine wi rfl ?_|refine wj rfl ?_|refine wk rfl ?_|refine wl rfl ?_|refine wm (by decide) ?_|refine hdec _ _ _ _ ?_|refine wn ?_|refine wo ?_|refine wp (by decide) ?_|(apply Tri.ldE; (first|exact K0|exact K1|exact K2|exact K3|exact K4|exact K5|exact K6|exact K7|exact K8|exact K9|exact K10|exact K11); (exact rfl); (exact wz rfl))|(apply Tri.stE; (first|exact K0|exact K1|exact K2|exact K3|exact K4|exact K5|exact K6|exact K7|exact K8|exact K9|exact K10|exact K11); (exact rfl); (exact wz rfl))|(apply Tri.same; (first|exact K0|exact K1|exact K2|exact K3|exact K4|exact K5|exact K6|exact K7|exact K8|exact K9|exact K10|exact K11); (exact rfl); (exact wz rfl))|refine wq fun _ => ?_)
      exact Tri.retF ⟨l1, rfl, rfl, hr, hh.done⟩ (Sub.refl _)

theorem xor_spec (B : SOk E z dec zs S) (el : ElOk E T z dec zs) {p : Nat} {n : Int} : FSpec E S.xors [.sc (.p (some (p, 0)))] [pt p [.i .u64 n]] (fun v L' => ∃ n' : Int, v = .sc (.i .u64 n') ∧ L' = [pt p [.i .u64 n']]) := by
  have hdec := el.hd
  have hz := el.hz
  subst hz
  obtain ⟨fn, hf, hbk⟩ := B.xors
  refine FSpec.of hf (hbk _ _) fun F => ?_
  unfold gxors
  repeat (first|refine wa ?_|refine wb ?_|refine wc ?_|refine wd ?_|refine we ?_|refine wf ?_|refine wg ?_|refine wh rfl ?_|refine wi rfl ?_|refine wj rfl ?_|refine wk rfl ?_|refine wl rfl ?_|refine wm (by decide) ?_|refine hdec _ _ _ _ ?_|refine wn ?_|refine wo ?_|refine wp (by decide) ?_|(apply Tri.ldE; (first|exact K0|exact K1|exact K2|exact K3|exact K4|exact K5|exact K6|exact K7|exact K8|exact K9|exact K10|exact K11); (exact rfl); (exact wz rfl))|(apply Tri.stE; (first|exact K0|exact K1|exact K2|exact K3|exact K4|exact K5|exact K6|exact K7|exact K8|exact K9|exact K10|exact K11); (exact rfl); (exact wz rfl))|(apply Tri.same; (first|exact K0|exact K1|exact K2|exact K3|exact K4|exact K5|exact K6|exact K7|exact K8|exact K9|exact K10|exact K11); (exact rfl); (exact wz rfl))|refine wq fun _ => ?_)
  refine Tri.brT rfl ?_
  repeat (first|refine wa ?_|refine wb ?_|refine wc ?_|refine wd ?_|refine we ?_|refine wf ?_|refine wg ?_|refine wh rfl ?_|refine wi rfl ?_|refine wj rfl ?_|refine wk rfl ?_|refine wl rfl ?_|refine wm (by decide) ?_|refine hdec _ _ _ _ ?_|refine wn ?_|refine wo ?_|refine wp (by decide) ?_|(apply Tri.ldE; (first|exact K0|exact K1|exact K2|exact K3|exact K4|exact K5|exact K6|exact K7|exact K8|exact K9|exact K10|exact K11); (exact rfl); (exact wz rfl))|(apply Tri.stE; (first|exact K0|exact K1|exact K2|exact K3|exact K4|exact K5|exact K6|exact K7|exact K8|exact K9|exact K10|exact K11); (exact rfl); (exact wz rfl))|(apply Tri.same; (first|exact K0|exact K1|exact K2|exact K3|exact K4|exact K5|exact K6|exact K7|exact K8|exact K9|exact K10|exact K11); (exact rfl); (exact wz rfl))|refine wq fun _ => ?_)
  refine Tri.brT rfl ?_
  repeat (first|refine wa ?_|refine wb ?_|refine wc ?_|refine wd ?_|refine we ?_|refine wf ?_|refine wg ?_|refine wh rfl ?_|refine wi rfl ?_|refine wj rfl ?_|refine wk rfl ?_|refine wl rfl ?_|refine wm (by decide) ?_|refine hdec _ _ _ _ ?_|refine wn ?_|refine wo ?_|refine wp (by decide) ?_|(apply Tri.ldE; (first|exact K0|exact K1|exact K2|exact K3|exact K4|exact K5|exact K6|exact K7|exact K8|exact K9|exact K10|exact K11); (exact rfl); (exact wz rfl))|(apply Tri.stE; (first|exact K0|exact K1|exact K2|exact K3|exact K4|exact K5|exact K6|exact K7|exact K8|exact K9|exact K10|exact K11); (exact rfl); (exact wz rfl))|(apply Tri.same; (first|exact K0|exact K1|exact K2|exact K3|exact K4|exact K5|exact K6|exact K7|exact K8|exact K9|exact K10|exact K11); (exact rfl); (exact wz rfl))|refine wq fun _ => ?_)
  refine Tri.brT rfl ?_
  repeat (first|refine wa ?_|refine wb ?_|refine wc ?_|refine wd ?_|refine we ?_|refine wf ?_|refine wg ?_|refine wh rfl ?_|refine wi rfl ?_|refine wj rfl ?_|refine wk rfl ?_|refine wl rfl ?_|refine wm (by decide) ?_|refine hdec _ _ _ _ ?_|refine wn ?_|refine wo ?_|refine wp (by decide) ?_|(apply Tri.ldE; (first|exact K0|exact K1|exact K2|exact K3|exact K4|exact K5|exact K6|exact K7|exact K8|exact K9|exact K10|exact K11); (exact rfl); (exact wz rfl))|(apply Tri.stE; (first|exact K0|exact K1|exact K2|exact K3|exact K4|exact K5|exact K6|exact K7|exact K8|exact K9|exact K10|exact K11); (exact rfl); (exact wz rfl))|(apply Tri.same; (first|exact K0|exact K1|exact K2|exact K3|exact K4|exact K5|exact K6|exact K7|exact K8|exact K9|exact K10|exact K11); (exact rfl); (exact wz rfl))|refine wq fun _ => ?_)
  exact Tri.retF ⟨_, rfl, rfl⟩ (by repeat (first|exact Sub.refl _|exact Sub.nil _|(apply Sub.cons; (first|exact K0|exact K1|exact K2|exact K3|exact K4|exact K5|exact K6|exact K7|exact K8|exact K9|exact K10|exact K11))|apply Sub.skip))
theorem pow2_spec (B : SOk E z dec zs S) (el : ElOk E T z dec zs) {n : Nat} (hn : n < 1000) : FSpec E S.npow [.sc (.i .i64 n)] [] (fun v L' => v = .sc (.i .u64 ((2 ^ bl n : Nat) : Int)) ∧ L' = []) := by
  have hdec := el.hd
  have hz := el.hz
  subst hz
  obtain ⟨fn, hf, hbk⟩ := B.npow
  refine FSpec.of hf (hbk _) fun F => ?_
  unfold gnpow
  rw [wr_u64 (by omega) (by omega)]
  refine Tri.call (blen_spec B.b (by omega)) (by repeat (first|exact Picks.nil|(apply Picks.cons; (first|exact K0|exact K1|exact K2|exact K3|exact K4|exact K5|exact K6|exact K7|exact K8|exact K9|exact K10|exact K11)))) ?_
  rintro v L' ⟨rfl, rfl⟩
  simp only [List.cons_append, List.nil_append]
  repeat (first|refine wa ?_|refine wb ?_|refine wc ?_|refine wd ?_|refine we ?_|refine wf ?_|refine wg ?_|refine wh rfl ?_|refine wi rfl ?_|refine wj rfl ?_|refine wk rfl ?_|refine wl rfl ?_|refine wm (by decide) ?_|refine hdec _ _ _ _ ?_|(apply Tri.ldE; (first|exact K0|exact K1|exact K2|exact K3|exact K4|exact K5|exact K6|exact K7|exact K8|exact K9|exact K10|exact K11); (exact rfl); (exact wz rfl))|(apply Tri.stE; (first|exact K0|exact K1|exact K2|exact K3|exact K4|exact K5|exact K6|exact K7|exact K8|exact K9|exact K10|exact K11); (exact rfl); (exact wz rfl))|(apply Tri.same; (first|exact K0|exact K1|exact K2|exact K3|exact K4|exact K5|exact K6|exact K7|exact K8|exact K9|exact K10|exact K11); (exact rfl); (exact wz rfl))|refine wq fun _ => ?_)
  have hb : bl n ≤ 10 := bl_le.2 (by omega)
  have hp : 2 ^ bl n ≤ 1024 := Nat.pow_le_pow_right (n := 2) (by omega) hb
  refine Tri.brT (by simp) ?_
  rw [Int.toNat_natCast, Nat.min_eq_left (by omega), Int.one_mul, show ((2 : Int) ^ bl n) = ((2 ^ bl n : Nat) : Int) by push_cast; rfl]
  generalize 2 ^ bl n = q at hp ⊢
  rw [wr_u64 (by omega) (by omega)]
  exact Tri.retF ⟨rfl, rfl⟩ (by repeat (first|exact Sub.refl _|exact Sub.nil _|(apply Sub.cons; (first|exact K0|exact K1|exact K2|exact K3|exact K4|exact K5|exact K6|exact K7|exact K8|exact K9|exact K10|exact K11))|apply Sub.skip))

theorem mask_lt {x : Int} {q : Nat} (hq : 0 < q) (hq2 : q ≤ 2048) : ((BitVec.ofInt 64 x) &&& (BitVec.ofInt 64 ((q - 1 : Nat) : Int))).toNat < q := by
  rw [BitVec.toNat_and]
  have : (BitVec.ofInt 64 ((q - 1 : Nat) : Int)).toNat ≤ q - 1 := by
    rw [BitVec.toNat_ofInt]; omega
  have h2 := Nat.and_le_right (n := (BitVec.ofInt 64 x).toNat) (m := (BitVec.ofInt 64 ((q - 1 : Nat) : Int)).toNat)
  omega
theorem pow_bl {n : Nat} (h : 0 < n) : 2 ^ bl n ≤ 2 * n := by
  have h0 : 0 < bl n := by unfold bl; rw [if_neg (by omega)]; omega
  have h1 : ¬ bl n ≤ bl n - 1 := by omega
  rw [bl_le] at h1
  have h2 : 2 ^ bl n = 2 * 2 ^ (bl n - 1) := by
    rw [← Nat.pow_succ']; congr 1; omega
  omega

theorem break_spec (B : SOk E z dec zs S) (el : ElOk E T z dec zs) {o : Option SlD} {l : List α} {a b : Nat} {g : FuncId} {f c : List (Nat × Nat)} (hab : a < b) (hb : b ≤ l.length) (hl : l.length < 1000) :
    FSpec E S.brk [.sc (.sl o), .sc (.i .i64 a), .sc (.i .i64 b), .sc (.fn g f c)] [.sl false T o l]
    (fun v L' => ∃ l' : List α, v = .tu [] ∧ L' = [.sl false T o l'] ∧ Rng a b l l') := by
  have hdec := el.hd
  have hz := el.hz
  subst hz
  obtain ⟨fn, hf, hbk⟩ := B.brk
  refine FSpec.of hf (hbk _ _ _ _ _ _) fun F => ?_
  unfold gbrk
  obtain ⟨n, rfl⟩ : ∃ n, b = a + n := ⟨b - a, by omega⟩
  have w0 : IntKind.wrap .i64 (((a + n : Nat) : Int) - a) = (n : Int) := by rw [wr_i64 (by omega) (by omega)]; omega
  have zd : IntKind.wrap .i64 (Int.tdiv (n : Int) 4) = ((n / 4 : Nat) : Int) := by rw [Int.tdiv_eq_ediv_of_nonneg (by omega), wr_i64 (by omega) (by omega)]; omega
  have ze : IntKind.wrap .i64 (((n / 4 : Nat) : Int) * 2) = ((n / 4 * 2 : Nat) : Int) := by rw [wr_i64 (by omega) (by omega)]; omega
  have zf : IntKind.wrap .i64 ((a : Int) + ((n / 4 * 2 : Nat) : Int)) = ((a + n / 4 * 2 : Nat) : Int) := by rw [wr_i64 (by omega) (by omega)]; omega
  have zg : IntKind.wrap .i64 (((a + n / 4 * 2 : Nat) : Int) + 1) = ((a + n / 4 * 2 + 1 : Nat) : Int) := by rw [wr_i64 (by omega) (by omega)]; omega
  simp only [w0, zd, ze, zf]
  refine Tri.cnd (fun hc => ?_) (fun hc => ?_)
  · have hc : 8 ≤ n := by simp at hc; omega
    repeat (first|refine wa ?_|refine wb ?_|refine wc ?_|refine wd ?_|refine we ?_|refine wf ?_|refine wg ?_|refine wh rfl ?_|refine wi rfl ?_|refine wj rfl ?_|refine wk rfl ?_|refine wl rfl ?_|refine wm (by decide) ?_|refine hdec _ _ _ _ ?_|(apply Tri.ldE; (first|exact K0|exact K1|exact K2|exact K3|exact K4|exact K5|exact K6|exact K7|exact K8|exact K9|exact K10|exact K11); (exact rfl); (exact wz rfl))|(apply Tri.stE; (first|exact K0|exact K1|exact K2|exact K3|exact K4|exact K5|exact K6|exact K7|exact K8|exact K9|exact K10|exact K11); (exact rfl); (exact wz rfl))|(apply Tri.same; (first|exact K0|exact K1|exact K2|exact K3|exact K4|exact K5|exact K6|exact K7|exact K8|exact K9|exact K10|exact K11); (exact rfl); (exact wz rfl))|refine wq fun _ => ?_)
    rename_i p
    refine Tri.call (pow2_spec B el (by omega)) (by repeat (first|exact Picks.nil|(apply Picks.cons; (first|exact K0|exact K1|exact K2|exact K3|exact K4|exact K5|exact K6|exact K7|exact K8|exact K9|exact K10|exact K11)))) ?_
    rintro v L' ⟨rfl, rfl⟩
    simp only [List.cons_append, List.nil_append]
    repeat (first|refine wa ?_|refine wb ?_|refine wc ?_|refine wd ?_|refine we ?_|refine wf ?_|refine wg ?_|refine wh rfl ?_|refine wi rfl ?_|refine wj rfl ?_|refine wk rfl ?_|refine wl rfl ?_|refine wm (by decide) ?_|refine hdec _ _ _ _ ?_|(apply Tri.ldE; (first|exact K0|exact K1|exact K2|exact K3|exact K4|exact K5|exact K6|exact K7|exact K8|exact K9|exact K10|exact K11); (exact rfl); (exact wz rfl))|(apply Tri.stE; (first|exact K0|exact K1|exact K2|exact K3|exact K4|exact K5|exact K6|exact K7|exact K8|exact K9|exact K10|exact K11); (exact rfl); (exact wz rfl))|(apply Tri.same; (first|exact K0|exact K1|exact K2|exact K3|exact K4|exact K5|exact K6|exact K7|exact K8|exact K9|exact K10|exact K11); (exact rfl); (exact wz rfl))|refine wq fun _ => ?_)
    have hq1 := pow_bl (n := n) (by omega)
    have hq0 : 0 < 2 ^ bl n := Nat.pow_pos (by decide)
    generalize 2 ^ bl n = q at hq1 hq0 ⊢
    refine Tri.brT rfl ?_
    rw [show IntKind.wrap .i64 (((a + n / 4 * 2 : Nat) : Int) - 1) = ((a + n / 4 * 2 - 1 : Nat) : Int) by rw [wr_i64 (by omega) (by omega)]; omega]
    refine Tri.loop (I := fun m l' L => ∃ (i : Nat) (x : Int) (l1 : List α), m = a + n - i ∧ a ≤ i ∧ Rng a (a + n) l l1 ∧
      l' = [.sc (.sl o), .sc (.i .i64 a), .sc (.i .i64 n), .sc (.p (some (p, 0))), .sc (.i .u64 q), .sc (.i .i64 i)] ∧ L = pt p [.i .u64 x] :: .sl false T o l1 :: F)
      ⟨a + n / 4 * 2 - 1, _, l, rfl, by omega, Rng.refl _ _ _, rfl, rfl⟩ (by repeat (first|exact Sub.refl _|exact Sub.nil _|(apply Sub.cons; (first|exact K0|exact K1|exact K2|exact K3|exact K4|exact K5|exact K6|exact K7|exact K8|exact K9|exact K10|exact K11))|apply Sub.skip)) ?_
    rintro m l' L ⟨i, x, l1, rfl, h1, hr, rfl, rfl⟩
    have hlen := hr.len
    unfold gbrk_b3
    simp only [List.getD_cons_zero, List.getD_cons_succ]
    repeat (first|refine wa ?_|refine wb ?_|refine wc ?_|refine wd ?_|refine we ?_|refine wf ?_|refine wg ?_|refine wh rfl ?_|refine wi rfl ?_|refine wj rfl ?_|refine wk rfl ?_|refine wl rfl ?_|refine wm (by decide) ?_|refine hdec _ _ _ _ ?_|(apply Tri.ldE; (first|exact K0|exact K1|exact K2|exact K3|exact K4|exact K5|exact K6|exact K7|exact K8|exact K9|exact K10|exact K11); (exact rfl); (exact wz rfl))|(apply Tri.stE; (first|exact K0|exact K1|exact K2|exact K3|exact K4|exact K5|exact K6|exact K7|exact K8|exact K9|exact K10|exact K11); (exact rfl); (exact wz rfl))|(apply Tri.same; (first|exact K0|exact K1|exact K2|exact K3|exact K4|exact K5|exact K6|exact K7|exact K8|exact K9|exact K10|exact K11); (exact rfl); (exact wz rfl))|refine wq fun _ => ?_)
    refine Tri.brT rfl ?_
    simp only [zd, ze, zf, zg]
    refine Tri.cnd (fun hd => ?_) (fun hd => ?_)
    · have hd : i ≤ a + n / 4 * 2 + 1 := by simp at hd; omega
      refine Tri.call (xor_spec B el) (by repeat (first|exact Picks.nil|(apply Picks.cons; (first|exact K0|exact K1|exact K2|exact K3|exact K4|exact K5|exact K6|exact K7|exact K8|exact K9|exact K10|exact K11)))) ?_
      rintro v L' ⟨y, rfl, rfl⟩
      simp only [List.cons_append, List.nil_append]
      repeat (first|refine wa ?_|refine wb ?_|refine wc ?_|refine wd ?_|refine we ?_|refine wf ?_|refine wg ?_|refine wh rfl ?_|refine wi rfl ?_|refine wj rfl ?_|refine wk rfl ?_|refine wl rfl ?_|refine wm (by decide) ?_|refine hdec _ _ _ _ ?_|(apply Tri.ldE; (first|exact K0|exact K1|exact K2|exact K3|exact K4|exact K5|exact K6|exact K7|exact K8|exact K9|exact K10|exact K11); (exact rfl); (exact wz rfl))|(apply Tri.stE; (first|exact K0|exact K1|exact K2|exact K3|exact K4|exact K5|exact K6|exact K7|exact K8|exact K9|exact K10|exact K11); (exact rfl); (exact wz rfl))|(apply Tri.same; (first|exact K0|exact K1|exact K2|exact K3|exact K4|exact K5|exact K6|exact K7|exact K8|exact K9|exact K10|exact K11); (exact rfl); (exact wz rfl))|refine wq fun _ => ?_)
      rw [show IntKind.wrap .u64 ((q : Int) - 1) = ((q - 1 : Nat) : Int) by rw [wr_u64 (by omega) (by omega)]; omega]
      have hm := mask_lt (x := y) hq0 (by omega)
      generalize ((BitVec.ofInt 64 y) &&& (BitVec.ofInt 64 ((q - 1 : Nat) : Int))).toNat = r at hm ⊢
      rw [show IntKind.wrap .u64 ((r : Nat) : Int) = (r : Int) from wr_u64 (by omega) (by omega), show IntKind.wrap .i64 ((r : Nat) : Int) = (r : Int) from wr_i64 (by omega) (by omega)]
      refine Tri.joinQ (fun tag l' L => tag = 0 ∧ L = pt p [.i .u64 y] :: .sl false T o l1 :: F ∧ ∃ j : Nat, j < n ∧
        l' = [.sc (.sl o), .sc (.i .i64 a), .sc (.i .i64 n), .sc (.p (some (p, 0))), .sc (.i .u64 q), .sc (.i .i64 i), .sc (.i .i64 j)]) ?_ ?_
      · refine Tri.cnd (fun hk => ?_) (fun hk => ?_)
        · have hk : n ≤ r := by simp at hk; omega
          rw [show IntKind.wrap .i64 ((r : Int) - (n : Int)) = ((r - n : Nat) : Int) by rw [wr_i64 (by omega) (by omega)]; omega]
          exact Tri.ret ⟨rfl, rfl, r - n, by omega, rfl⟩ (by repeat (first|exact Sub.refl _|exact Sub.nil _|(apply Sub.cons; (first|exact K0|exact K1|exact K2|exact K3|exact K4|exact K5|exact K6|exact K7|exact K8|exact K9|exact K10|exact K11))|apply Sub.skip))
        · have hk : r < n := by simp at hk; omega
          exact Tri.ret ⟨rfl, rfl, r, hk, rfl⟩ (by repeat (first|exact Sub.refl _|exact Sub.nil _|(apply Sub.cons; (first|exact K0|exact K1|exact K2|exact K3|exact K4|exact K5|exact K6|exact K7|exact K8|exact K9|exact K10|exact K11))|apply Sub.skip))
      rintro tag l' L ⟨rfl, rfl, j, hj, rfl⟩
      unfold gbrk_k15
      repeat (first|refine wa ?_|refine wb ?_|refine wc ?_|refine wd ?_|refine we ?_|refine wf ?_|refine wg ?_|refine wh rfl ?_|refine wi rfl ?_|refine wj rfl ?_|refine wk rfl ?_|refine wl rfl ?_|refine wm (by decide) ?_|refine hdec _ _ _ _ ?_|refine wn ?_|refine wo ?_|refine wp (by decide) ?_|(apply Tri.ldE; (first|exact K0|exact K1|exact K2|exact K3|exact K4|exact K5|exact K6|exact K7|exact K8|exact K9|exact K10|exact K11); (exact rfl); (exact wz rfl))|(apply Tri.stE; (first|exact K0|exact K1|exact K2|exact K3|exact K4|exact K5|exact K6|exact K7|exact K8|exact K9|exact K10|exact K11); (exact rfl); (exact wz rfl))|(apply Tri.same; (first|exact K0|exact K1|exact K2|exact K3|exact K4|exact K5|exact K6|exact K7|exact K8|exact K9|exact K10|exact K11); (exact rfl); (exact wz rfl))|refine wq fun _ => ?_)
      simp only [show IntKind.wrap .i64 ((a : Int) + (j : Int)) = ((a + j : Nat) : Int) by rw [wr_i64 (by omega) (by omega)]; omega]
      refine Tri.ixld (T := T) (by first|exact K0|exact K1|exact K2|exact K3|exact K4|exact K5|exact K6|exact K7|exact K8|exact K9|exact K10|exact K11) rfl (by omega) (by omega) fun u hu => ?_
      rw [Int.toNat_natCast] at hu
      repeat (first|refine wa ?_|refine wb ?_|refine wc ?_|refine wd ?_|refine we ?_|refine wf ?_|refine wg ?_|refine wh rfl ?_|refine wi rfl ?_|refine wj rfl ?_|refine wk rfl ?_|refine wl rfl ?_|refine wm (by decide) ?_|refine hdec _ _ _ _ ?_|refine wn ?_|refine wo ?_|refine wp (by decide) ?_|(apply Tri.ldE; (first|exact K0|exact K1|exact K2|exact K3|exact K4|exact K5|exact K6|exact K7|exact K8|exact K9|exact K10|exact K11); (exact rfl); (exact wz rfl))|(apply Tri.stE; (first|exact K0|exact K1|exact K2|exact K3|exact K4|exact K5|exact K6|exact K7|exact K8|exact K9|exact K10|exact K11); (exact rfl); (exact wz rfl))|(apply Tri.same; (first|exact K0|exact K1|exact K2|exact K3|exact K4|exact K5|exact K6|exact K7|exact K8|exact K9|exact K10|exact K11); (exact rfl); (exact wz rfl))|refine wq fun _ => ?_)
      refine Tri.ixld (T := T) (by first|exact K0|exact K1|exact K2|exact K3|exact K4|exact K5|exact K6|exact K7|exact K8|exact K9|exact K10|exact K11) rfl (by omega) (by omega) fun w hw => ?_
      rw [Int.toNat_natCast] at hw
      repeat (first|refine wa ?_|refine wb ?_|refine wc ?_|refine wd ?_|refine we ?_|refine wf ?_|refine wg ?_|refine wh rfl ?_|refine wi rfl ?_|refine wj rfl ?_|refine wk rfl ?_|refine wl rfl ?_|refine wm (by decide) ?_|refine hdec _ _ _ _ ?_|refine wn ?_|refine wo ?_|refine wp (by decide) ?_|(apply Tri.ldE; (first|exact K0|exact K1|exact K2|exact K3|exact K4|exact K5|exact K6|exact K7|exact K8|exact K9|exact K10|exact K11); (exact rfl); (exact wz rfl))|(apply Tri.stE; (first|exact K0|exact K1|exact K2|exact K3|exact K4|exact K5|exact K6|exact K7|exact K8|exact K9|exact K10|exact K11); (exact rfl); (exact wz rfl))|(apply Tri.same; (first|exact K0|exact K1|exact K2|exact K3|exact K4|exact K5|exact K6|exact K7|exact K8|exact K9|exact K10|exact K11); (exact rfl); (exact wz rfl))|refine wq fun _ => ?_)
      refine Tri.ixst (T := T) u (by first|exact K0|exact K1|exact K2|exact K3|exact K4|exact K5|exact K6|exact K7|exact K8|exact K9|exact K10|exact K11) rfl (by omega) (by omega) rfl ?_
      refine Tri.ixst (T := T) w (by first|exact K0|exact K1|exact K2|exact K3|exact K4|exact K5|exact K6|exact K7|exact K8|exact K9|exact K10|exact K11) rfl (by omega) (by simp; omega) rfl ?_
      rw [Int.toNat_natCast, Int.toNat_natCast, ← sw_eq hw hu]
      refine Tri.back (m' := a + n - (i + 1)) (by omega) ⟨i + 1, y, sw l1 i (a + j), rfl, by omega, hr.trans (Rng.sw (i := i) (j := a + j) (by omega) (by omega) (by omega) (by omega) (by omega)), ?_, rfl⟩ (by repeat (first|exact Sub.refl _|exact Sub.nil _|(apply Sub.cons; (first|exact K0|exact K1|exact K2|exact K3|exact K4|exact K5|exact K6|exact K7|exact K8|exact K9|exact K10|exact K11))|apply Sub.skip))
      rw [wr_i64 (by omega) (by omega)]; rfl
    · refine Tri.exit (by decide) ?_
      unfold gbrk_k3
      repeat (first|refine wa ?_|refine wb ?_|refine wc ?_|refine wd ?_|refine we ?_|refine wf ?_|refine wg ?_|refine wh rfl ?_|refine wi rfl ?_|refine wj rfl ?_|refine wk rfl ?_|refine wl rfl ?_|refine wm (by decide) ?_|refine hdec _ _ _ _ ?_|(apply Tri.ldE; (first|exact K0|exact K1|exact K2|exact K3|exact K4|exact K5|exact K6|exact K7|exact K8|exact K9|exact K10|exact K11); (exact rfl); (exact wz rfl))|(apply Tri.stE; (first|exact K0|exact K1|exact K2|exact K3|exact K4|exact K5|exact K6|exact K7|exact K8|exact K9|exact K10|exact K11); (exact rfl); (exact wz rfl))|(apply Tri.same; (first|exact K0|exact K1|exact K2|exact K3|exact K4|exact K5|exact K6|exact K7|exact K8|exact K9|exact K10|exact K11); (exact rfl); (exact wz rfl))|refine wq fun _ => ?_)
      exact Tri.retF ⟨l1, rfl, rfl, hr⟩ (by repeat (first|exact Sub.refl _|exact Sub.nil _|(apply Sub.cons; (first|exact K0|exact K1|exact K2|exact K3|exact K4|exact K5|exact K6|exact K7|exact K8|exact K9|exact K10|exact K11))|apply Sub.skip))
  · exact Tri.retF ⟨l, rfl, rfl, Rng.refl _ _ _⟩ (Sub.refl _)

/-! the sort itself -/
/-- what stands ahead of [a, b) is not greater than what stands there -/
def Pre (lt : α → α → Prop) (a b : Nat) (l : List α) : Prop := a = 0 ∨ ∀ (k : Nat) (x y : α), a ≤ k → k < b → l[k]? = some x → l[a - 1]? = some y → ¬ lt x y
theorem Pre.rng {lt : α → α → Prop} {a b : Nat} {l l' : List α} (h : Pre lt a b l) (hr : Rng a b l l') (hab : a ≤ b) (hb : b ≤ l.length) : Pre lt a b l' := by
  rcases h with h | h
  · exact .inl h
  · rcases Nat.eq_zero_or_pos a with h0 | h0
    · exact .inl h0
    · refine .inr fun k x y h1 h2 hx hy => ?_
      rw [hr.lo (a - 1) (by omega)] at hy
      obtain ⟨j, j1, j2, hj⟩ := hr.mem hab hb hx h1 h2
      exact h j x y j1 j2 hj hy
theorem Pre.narrow {lt : α → α → Prop} {a b b' : Nat} {l : List α} (h : Pre lt a b l) (hb : b' ≤ b) : Pre lt a b' l :=
  h.imp id fun h k x y h1 h2 => h k x y h1 (by omega)
theorem Inc.snoc {lt : α → α → Prop} (ho : Ord lt) {a i : Nat} {l : List α} (h : Inc lt a i l) (hi : i < l.length) (hd : ∀ x y, l[i]? = some x → l[i - 1]? = some y → a < i → ¬ lt x y) : Inc lt a (i + 1) l := by
  intro p q x y h1 h2 h3 hx hy
  by_cases e : q = i
  · subst e
    obtain ⟨w, hw⟩ : ∃ w, l[q - 1]? = some w := ⟨_, List.getElem?_eq_getElem (by omega)⟩
    have h4 := hd y w hy hw (by omega)
    by_cases e2 : p = q - 1
    · subst e2; rw [hx] at hw; cases hw; exact h4
    · exact ho.ng h4 (h p (q - 1) x w h1 (by omega) (by omega) hx hw)
  · exact h p q x y h1 h2 (by omega) hx hy
theorem Inc.off {lt : α → α → Prop} {a b i j : Nat} {l : List α} (h : Inc lt a b l) (hi : b ≤ i) (hj : b ≤ j) (hil : i < l.length) (hjl : j < l.length) : Inc lt a b (sw l i j) := by
  intro p q x y h1 h2 h3 hx hy
  rw [sw_get hil hjl, if_neg (by omega), if_neg (by omega)] at hx hy
  exact h p q x y h1 h2 h3 hx hy
theorem Inc.le {lt : α → α → Prop} {a b b' : Nat} {l : List α} (h : Inc lt a b l) (hb : b' ≤ b) : Inc lt a b' l := fun p q x y h1 h2 h3 => h p q x y h1 h2 (by omega)

theorem pins_spec (B : SOk E z dec zs S) (el : ElOk E T z dec zs) {o : Option SlD} {l : List α} {a b : Nat} {g : FuncId} {f c : List (Nat × Nat)} {lt : α → α → Prop} (hcmp : IsCmp E T g f c lt) (ho : Ord lt) (hab : a < b) (hb : b ≤ l.length) (hl : l.length ≤ 1000) (hpre : Pre lt a b l) :
    FSpec E S.pins [.sc (.sl o), .sc (.i .i64 a), .sc (.i .i64 b), .sc (.fn g f c)] [.sl false T o l]
    (fun v L' => ∃ (l' : List α) (q : Bool), v = .sc (.b q) ∧ L' = [.sl false T o l'] ∧ Rng a b l l' ∧ (q = true → Inc lt a b l')) := by
  have hdec := el.hd
  have hz := el.hz
  subst hz
  obtain ⟨fn, hf, hbk⟩ := B.pins
  refine FSpec.of hf (hbk _ _ _ _ _ _) fun F => ?_
  unfold gpins
  rw [show IntKind.wrap .i64 ((a : Int) + 1) = ((a + 1 : Nat) : Int) by rw [wr_i64 (by omega) (by omega)]; omega]
  refine Tri.loop (I := fun m l' L => ∃ (i j : Nat) (l1 : List α), m = 5 - j ∧ j ≤ 5 ∧ a < i ∧ i ≤ b ∧ Rng a b l l1 ∧ Inc lt a i l1 ∧
    l' = [.sc (.sl o), .sc (.i .i64 a), .sc (.i .i64 b), .sc (.fn g f c), .sc (.i .i64 i), .sc (.i .i64 j)] ∧ L = .sl false T o l1 :: F)
    ⟨a + 1, 0, l, rfl, by omega, by omega, by omega, Rng.refl _ _ _, (fun p q x y h1 h2 h3 => by omega), rfl, rfl⟩ (Sub.refl _) ?_
  rintro m l' L ⟨i, j, l1, rfl, hj5, hi, hib, hr, hinc, rfl, rfl⟩
  unfold gpins_b0
  repeat (first|refine wa ?_|refine wb ?_|refine wc ?_|refine wd ?_|refine we ?_|refine wf ?_|refine wg ?_|refine wh rfl ?_|refine wi rfl ?_|refine wj rfl ?_|refine wk rfl ?_|refine wl rfl ?_|refine wm (by decide) ?_|refine hdec _ _ _ _ ?_|refine wn ?_|refine wo ?_|refine wp (by decide) ?_|(apply Tri.ldE; (first|exact K0|exact K1|exact K2|exact K3|exact K4|exact K5|exact K6|exact K7|exact K8|exact K9|exact K10|exact K11); (exact rfl); (exact wz rfl))|(apply Tri.stE; (first|exact K0|exact K1|exact K2|exact K3|exact K4|exact K5|exact K6|exact K7|exact K8|exact K9|exact K10|exact K11); (exact rfl); (exact wz rfl))|(apply Tri.same; (first|exact K0|exact K1|exact K2|exact K3|exact K4|exact K5|exact K6|exact K7|exact K8|exact K9|exact K10|exact K11); (exact rfl); (exact wz rfl))|refine wq fun _ => ?_)
  refine Tri.cnd (fun hc => ?_) (fun hc => ?_)
  · have hc : j < 5 := by simp at hc; omega
    have hlen := hr.len
    refine Tri.loop (I := fun m l' L => ∃ (i : Nat), m = b - i ∧ a < i ∧ i ≤ b ∧ Inc lt a i l1 ∧
      l' = [.sc (.sl o), .sc (.i .i64 a), .sc (.i .i64 b), .sc (.fn g f c), .sc (.i .i64 i), .sc (.i .i64 j)] ∧ L = .sl false T o l1 :: F) ⟨i, rfl, hi, hib, hinc, rfl, rfl⟩ (Sub.refl _) ?_
    clear hinc hib hi i
    rintro m l' L ⟨i, rfl, hi, hib, hinc, rfl, rfl⟩
    have ew : IntKind.wrap .i64 ((i : Int) - 1) = ((i - 1 : Nat) : Int) := by rw [wr_i64 (by omega) (by omega)]; omega
    have away : (i < b → ∀ x y, l1[i]? = some x → l1[i - 1]? = some y → lt x y) → Tri E (.sl false T o l1 :: F) (gpins_k8 T.z dec zs S 6 [.sc (.sl o), .sc (.i .i64 a), .sc (.i .i64 b), .sc (.fn g f c), .sc (.i .i64 i), .sc (.i .i64 j)])
        (LQ E (fun m l' L => ∃ (i j : Nat) (l1 : List α), m = 5 - j ∧ j ≤ 5 ∧ a < i ∧ i ≤ b ∧ Rng a b l l1 ∧ Inc lt a i l1 ∧
          l' = [.sc (.sl o), .sc (.i .i64 a), .sc (.i .i64 b), .sc (.fn g f c), .sc (.i .i64 i), .sc (.i .i64 j)] ∧ L = .sl false T o l1 :: F) (5 - j) (gpins_k0 T.z dec zs S)
          (RQ F fun v L' => ∃ (l' : List α) (q : Bool), v = .sc (.b q) ∧ L' = [.sl false T o l'] ∧ Rng a b l l' ∧ (q = true → Inc lt a b l'))) := by
      intro hlt
      unfold gpins_k8
      repeat (first|refine wa ?_|refine wb ?_|refine wc ?_|refine wd ?_|refine we ?_|refine wf ?_|refine wg ?_|refine wh rfl ?_|refine wi rfl ?_|refine wj rfl ?_|refine wk rfl ?_|refine wl rfl ?_|refine wm (by decide) ?_|refine hdec _ _ _ _ ?_|(apply Tri.ldE; (first|exact K0|exact K1|exact K2|exact K3|exact K4|exact K5|exact K6|exact K7|exact K8|exact K9|exact K10|exact K11); (exact rfl); (exact wz rfl))|(apply Tri.stE; (first|exact K0|exact K1|exact K2|exact K3|exact K4|exact K5|exact K6|exact K7|exact K8|exact K9|exact K10|exact K11); (exact rfl); (exact wz rfl))|(apply Tri.same; (first|exact K0|exact K1|exact K2|exact K3|exact K4|exact K5|exact K6|exact K7|exact K8|exact K9|exact K10|exact K11); (exact rfl); (exact wz rfl))|refine wq fun _ => ?_)
      refine Tri.cnd (fun h1 => ?_) (fun h1 => ?_)
      · have h1 : i = b := by simp at h1; omega
        subst h1
        refine Tri.exit (by decide) ?_
        unfold gpins_k0
        repeat (first|refine wa ?_|refine wb ?_|refine wc ?_|refine wd ?_|refine we ?_|refine wf ?_|refine wg ?_|refine wh rfl ?_|refine wi rfl ?_|refine wj rfl ?_|refine wk rfl ?_|refine wl rfl ?_|refine wm (by decide) ?_|refine hdec _ _ _ _ ?_|(apply Tri.ldE; (first|exact K0|exact K1|exact K2|exact K3|exact K4|exact K5|exact K6|exact K7|exact K8|exact K9|exact K10|exact K11); (exact rfl); (exact wz rfl))|(apply Tri.stE; (first|exact K0|exact K1|exact K2|exact K3|exact K4|exact K5|exact K6|exact K7|exact K8|exact K9|exact K10|exact K11); (exact rfl); (exact wz rfl))|(apply Tri.same; (first|exact K0|exact K1|exact K2|exact K3|exact K4|exact K5|exact K6|exact K7|exact K8|exact K9|exact K10|exact K11); (exact rfl); (exact wz rfl))|refine wq fun _ => ?_)
        exact Tri.retF ⟨l1, true, rfl, rfl, hr, fun _ => hinc⟩ (Sub.refl _)
      have h1 : i < b := by simp at h1; omega
      refine Tri.cnd (fun h2 => ?_) (fun h2 => ?_)
      · refine Tri.exit (by decide) ?_
        unfold gpins_k0
        repeat (first|refine wa ?_|refine wb ?_|refine wc ?_|refine wd ?_|refine we ?_|refine wf ?_|refine wg ?_|refine wh rfl ?_|refine wi rfl ?_|refine wj rfl ?_|refine wk rfl ?_|refine wl rfl ?_|refine wm (by decide) ?_|refine hdec _ _ _ _ ?_|(apply Tri.ldE; (first|exact K0|exact K1|exact K2|exact K3|exact K4|exact K5|exact K6|exact K7|exact K8|exact K9|exact K10|exact K11); (exact rfl); (exact wz rfl))|(apply Tri.stE; (first|exact K0|exact K1|exact K2|exact K3|exact K4|exact K5|exact K6|exact K7|exact K8|exact K9|exact K10|exact K11); (exact rfl); (exact wz rfl))|(apply Tri.same; (first|exact K0|exact K1|exact K2|exact K3|exact K4|exact K5|exact K6|exact K7|exact K8|exact K9|exact K10|exact K11); (exact rfl); (exact wz rfl))|refine wq fun _ => ?_)
        exact Tri.retF ⟨l1, false, rfl, rfl, hr, fun h => by cases h⟩ (Sub.refl _)
      rw [ew]
      refine Tri.ixld (T := T) (by first|exact K0|exact K1|exact K2|exact K3|exact K4|exact K5|exact K6|exact K7|exact K8|exact K9|exact K10|exact K11) rfl (by omega) (by omega) fun y hy => ?_
      rw [Int.toNat_natCast] at hy
      repeat (first|refine wa ?_|refine wb ?_|refine wc ?_|refine wd ?_|refine we ?_|refine wf ?_|refine wg ?_|refine wh rfl ?_|refine wi rfl ?_|refine wj rfl ?_|refine wk rfl ?_|refine wl rfl ?_|refine wm (by decide) ?_|refine hdec _ _ _ _ ?_|refine wn ?_|refine wo ?_|refine wp (by decide) ?_|(apply Tri.ldE; (first|exact K0|exact K1|exact K2|exact K3|exact K4|exact K5|exact K6|exact K7|exact K8|exact K9|exact K10|exact K11); (exact rfl); (exact wz rfl))|(apply Tri.stE; (first|exact K0|exact K1|exact K2|exact K3|exact K4|exact K5|exact K6|exact K7|exact K8|exact K9|exact K10|exact K11); (exact rfl); (exact wz rfl))|(apply Tri.same; (first|exact K0|exact K1|exact K2|exact K3|exact K4|exact K5|exact K6|exact K7|exact K8|exact K9|exact K10|exact K11); (exact rfl); (exact wz rfl))|refine wq fun _ => ?_)
      refine Tri.ixld (T := T) (by first|exact K0|exact K1|exact K2|exact K3|exact K4|exact K5|exact K6|exact K7|exact K8|exact K9|exact K10|exact K11) rfl (by omega) (by omega) fun x hx => ?_
      rw [Int.toNat_natCast] at hx
      repeat (first|refine wa ?_|refine wb ?_|refine wc ?_|refine wd ?_|refine we ?_|refine wf ?_|refine wg ?_|refine wh rfl ?_|refine wi rfl ?_|refine wj rfl ?_|refine wk rfl ?_|refine wl rfl ?_|refine wm (by decide) ?_|refine hdec _ _ _ _ ?_|refine wn ?_|refine wo ?_|refine wp (by decide) ?_|(apply Tri.ldE; (first|exact K0|exact K1|exact K2|exact K3|exact K4|exact K5|exact K6|exact K7|exact K8|exact K9|exact K10|exact K11); (exact rfl); (exact wz rfl))|(apply Tri.stE; (first|exact K0|exact K1|exact K2|exact K3|exact K4|exact K5|exact K6|exact K7|exact K8|exact K9|exact K10|exact K11); (exact rfl); (exact wz rfl))|(apply Tri.same; (first|exact K0|exact K1|exact K2|exact K3|exact K4|exact K5|exact K6|exact K7|exact K8|exact K9|exact K10|exact K11); (exact rfl); (exact wz rfl))|refine wq fun _ => ?_)
      have hlt := hlt h1 x y hx hy
      refine Tri.ixst (T := T) y (by first|exact K0|exact K1|exact K2|exact K3|exact K4|exact K5|exact K6|exact K7|exact K8|exact K9|exact K10|exact K11) rfl (by omega) (by omega) rfl ?_
      refine Tri.ixst (T := T) x (by first|exact K0|exact K1|exact K2|exact K3|exact K4|exact K5|exact K6|exact K7|exact K8|exact K9|exact K10|exact K11) rfl (by omega) (by simp; omega) rfl ?_
      rw [Int.toNat_natCast, Int.toNat_natCast, ← sw_eq hx hy]
      have hr1 : Rng a b l (sw l1 i (i - 1)) := hr.trans (Rng.sw (by omega) (by omega) (by omega) (by omega) (by omega))
      have hinc1 : Inc lt a (i - 1) (sw l1 i (i - 1)) := (hinc.le (by omega)).off (by omega) (by omega) (by omega) (by omega)
      clear hx hy hlt x y
      generalize sw l1 i (i - 1) = l2 at hr1 hinc1
      have hlen2 := hr1.len
      have wi : ∀ q : Nat, q ≤ 1000 → IntKind.wrap .i64 ((q : Int) - (a : Int)) = (q : Int) - a := fun q hq => wr_i64 (by omega) (by omega)
      refine Tri.joinQ (fun tag l' L => tag = 0 ∧ l' = [.sc (.sl o), .sc (.i .i64 a), .sc (.i .i64 b), .sc (.fn g f c), .sc (.i .i64 i), .sc (.i .i64 j)] ∧ ∃ l3, Rng a b l l3 ∧ Inc lt a i l3 ∧ L = .sl false T o l3 :: F) ?_ ?_
      · refine Tri.cnd (fun h3 => ?_) (fun h3 => ?_)
        · refine Tri.loop (I := fun m l' L => ∃ (q : Nat) (l3 : List α), m = q ∧ a ≤ q ∧ q ≤ i - 1 ∧ Rng a b l l3 ∧ Ins lt a (i - 1) q l3 ∧
            l' = [.sc (.sl o), .sc (.i .i64 a), .sc (.i .i64 b), .sc (.fn g f c), .sc (.i .i64 i), .sc (.i .i64 j), .sc (.i .i64 q)] ∧ L = .sl false T o l3 :: F)
            ⟨i - 1, l2, rfl, by omega, by omega, hr1, Ins.start hinc1, rfl, rfl⟩ (Sub.refl _) ?_
          rintro m l' L ⟨q, l3, hmq, hq1, hq2, hr3, hins, rfl, rfl⟩
          have hlen3 := hr3.len
          have done : (q = a ∨ ∀ x y, l3[q]? = some x → l3[q - 1]? = some y → ¬ lt x y) → Tri E (.sl false T o l3 :: F) (gpins_k97 T.z dec zs S 10 [.sc (.sl o), .sc (.i .i64 a), .sc (.i .i64 b), .sc (.fn g f c), .sc (.i .i64 i), .sc (.i .i64 j)])
              (fun tag l' L => tag = 0 ∧ l' = [.sc (.sl o), .sc (.i .i64 a), .sc (.i .i64 b), .sc (.fn g f c), .sc (.i .i64 i), .sc (.i .i64 j)] ∧ ∃ l3, Rng a b l l3 ∧ Inc lt a i l3 ∧ L = .sl false T o l3 :: F) := by
            intro hd
            unfold gpins_k97
            repeat (first|refine wa ?_|refine wb ?_|refine wc ?_|refine wd ?_|refine we ?_|refine wf ?_|refine wg ?_|refine wh rfl ?_|refine wi rfl ?_|refine wj rfl ?_|refine wk rfl ?_|refine wl rfl ?_|refine wm (by decide) ?_|refine hdec _ _ _ _ ?_|(apply Tri.ldE; (first|exact K0|exact K1|exact K2|exact K3|exact K4|exact K5|exact K6|exact K7|exact K8|exact K9|exact K10|exact K11); (exact rfl); (exact wz rfl))|(apply Tri.stE; (first|exact K0|exact K1|exact K2|exact K3|exact K4|exact K5|exact K6|exact K7|exact K8|exact K9|exact K10|exact K11); (exact rfl); (exact wz rfl))|(apply Tri.same; (first|exact K0|exact K1|exact K2|exact K3|exact K4|exact K5|exact K6|exact K7|exact K8|exact K9|exact K10|exact K11); (exact rfl); (exact wz rfl))|refine wq fun _ => ?_)
            have := hins.done ho hq1 hq2 (by omega) hd
            rw [show i - 1 + 1 = i by omega] at this
            exact Tri.ret ⟨rfl, rfl, l3, hr3, this, rfl⟩ (Sub.refl _)
          unfold gpins_b97
          repeat (first|refine wa ?_|refine wb ?_|refine wc ?_|refine wd ?_|refine we ?_|refine wf ?_|refine wg ?_|refine wh rfl ?_|refine wi rfl ?_|refine wj rfl ?_|refine wk rfl ?_|refine wl rfl ?_|refine wm (by decide) ?_|refine hdec _ _ _ _ ?_|refine wn ?_|refine wo ?_|refine wp (by decide) ?_|(apply Tri.ldE; (first|exact K0|exact K1|exact K2|exact K3|exact K4|exact K5|exact K6|exact K7|exact K8|exact K9|exact K10|exact K11); (exact rfl); (exact wz rfl))|(apply Tri.stE; (first|exact K0|exact K1|exact K2|exact K3|exact K4|exact K5|exact K6|exact K7|exact K8|exact K9|exact K10|exact K11); (exact rfl); (exact wz rfl))|(apply Tri.same; (first|exact K0|exact K1|exact K2|exact K3|exact K4|exact K5|exact K6|exact K7|exact K8|exact K9|exact K10|exact K11); (exact rfl); (exact wz rfl))|refine wq fun _ => ?_)
          refine Tri.cnd (fun h4 => ?_) (fun h4 => ?_)
          · have h4 : 1 ≤ q := by simp at h4; omega
            have eq1 : IntKind.wrap .i64 ((q : Int) - 1) = ((q - 1 : Nat) : Int) := by rw [wr_i64 (by omega) (by omega)]; omega
            rw [eq1]
            refine Tri.ixld (T := T) (by first|exact K0|exact K1|exact K2|exact K3|exact K4|exact K5|exact K6|exact K7|exact K8|exact K9|exact K10|exact K11) rfl (by omega) (by omega) fun x hx => ?_
            rw [Int.toNat_natCast] at hx
            repeat (first|refine wa ?_|refine wb ?_|refine wc ?_|refine wd ?_|refine we ?_|refine wf ?_|refine wg ?_|refine wh rfl ?_|refine wi rfl ?_|refine wj rfl ?_|refine wk rfl ?_|refine wl rfl ?_|refine wm (by decide) ?_|refine hdec _ _ _ _ ?_|refine wn ?_|refine wo ?_|refine wp (by decide) ?_|(apply Tri.ldE; (first|exact K0|exact K1|exact K2|exact K3|exact K4|exact K5|exact K6|exact K7|exact K8|exact K9|exact K10|exact K11); (exact rfl); (exact wz rfl))|(apply Tri.stE; (first|exact K0|exact K1|exact K2|exact K3|exact K4|exact K5|exact K6|exact K7|exact K8|exact K9|exact K10|exact K11); (exact rfl); (exact wz rfl))|(apply Tri.same; (first|exact K0|exact K1|exact K2|exact K3|exact K4|exact K5|exact K6|exact K7|exact K8|exact K9|exact K10|exact K11); (exact rfl); (exact wz rfl))|refine wq fun _ => ?_)
            refine Tri.ixld (T := T) (by first|exact K0|exact K1|exact K2|exact K3|exact K4|exact K5|exact K6|exact K7|exact K8|exact K9|exact K10|exact K11) rfl (by omega) (by omega) fun y hy => ?_
            rw [Int.toNat_natCast] at hy
            repeat (first|refine wa ?_|refine wb ?_|refine wc ?_|refine wd ?_|refine we ?_|refine wf ?_|refine wg ?_|refine wh rfl ?_|refine wi rfl ?_|refine wj rfl ?_|refine wk rfl ?_|refine wl rfl ?_|refine wm (by decide) ?_|refine hdec _ _ _ _ ?_|refine wn ?_|refine wo ?_|refine wp (by decide) ?_|(apply Tri.ldE; (first|exact K0|exact K1|exact K2|exact K3|exact K4|exact K5|exact K6|exact K7|exact K8|exact K9|exact K10|exact K11); (exact rfl); (exact wz rfl))|(apply Tri.stE; (first|exact K0|exact K1|exact K2|exact K3|exact K4|exact K5|exact K6|exact K7|exact K8|exact K9|exact K10|exact K11); (exact rfl); (exact wz rfl))|(apply Tri.same; (first|exact K0|exact K1|exact K2|exact K3|exact K4|exact K5|exact K6|exact K7|exact K8|exact K9|exact K10|exact K11); (exact rfl); (exact wz rfl))|refine wq fun _ => ?_)
            refine Tri.callv rfl (hcmp x y) (by repeat (first|exact Picks.nil|(apply Picks.cons; (first|exact K0|exact K1|exact K2|exact K3|exact K4|exact K5|exact K6|exact K7|exact K8|exact K9|exact K10|exact K11)))) ?_
            rintro v L' ⟨n, rfl, hn, rfl⟩
            simp only [List.cons_append, List.nil_append]
            repeat (first|refine wa ?_|refine wb ?_|refine wc ?_|refine wd ?_|refine we ?_|refine wf ?_|refine wg ?_|refine wh rfl ?_|refine wi rfl ?_|refine wj rfl ?_|refine wk rfl ?_|refine wl rfl ?_|refine wm (by decide) ?_|refine hdec _ _ _ _ ?_|refine wn ?_|refine wo ?_|refine wp (by decide) ?_|(apply Tri.ldE; (first|exact K0|exact K1|exact K2|exact K3|exact K4|exact K5|exact K6|exact K7|exact K8|exact K9|exact K10|exact K11); (exact rfl); (exact wz rfl))|(apply Tri.stE; (first|exact K0|exact K1|exact K2|exact K3|exact K4|exact K5|exact K6|exact K7|exact K8|exact K9|exact K10|exact K11); (exact rfl); (exact wz rfl))|(apply Tri.same; (first|exact K0|exact K1|exact K2|exact K3|exact K4|exact K5|exact K6|exact K7|exact K8|exact K9|exact K10|exact K11); (exact rfl); (exact wz rfl))|refine wq fun _ => ?_)
            refine Tri.cnd (fun h5 => ?_) (fun h5 => ?_)
            · have h5 : ¬ lt x y := fun h => by have := hn.2 h; simp at h5; omega
              refine Tri.exit (by decide) ?_
              refine done (.inr fun x' y' hx' hy' => ?_)
              rw [hx] at hx'; rw [hy] at hy'; cases hx'; cases hy'; exact h5
            · have h5 : lt x y := hn.1 (by simpa using h5)
              have hqa : a < q := by
                rcases Nat.lt_or_ge a q with h | h
                · exact h
                · have e : q = a := by omega
                  subst e
                  rcases hpre.rng hr3 (by omega) hb with h | h
                  · omega
                  · exact absurd h5 (h q x y (by omega) (by omega) hx hy)
              refine Tri.ixld (T := T) (by first|exact K0|exact K1|exact K2|exact K3|exact K4|exact K5|exact K6|exact K7|exact K8|exact K9|exact K10|exact K11) rfl (by omega) (by omega) fun y' hy' => ?_
              rw [Int.toNat_natCast, hy] at hy'; cases hy'
              repeat (first|refine wa ?_|refine wb ?_|refine wc ?_|refine wd ?_|refine we ?_|refine wf ?_|refine wg ?_|refine wh rfl ?_|refine wi rfl ?_|refine wj rfl ?_|refine wk rfl ?_|refine wl rfl ?_|refine wm (by decide) ?_|refine hdec _ _ _ _ ?_|refine wn ?_|refine wo ?_|refine wp (by decide) ?_|(apply Tri.ldE; (first|exact K0|exact K1|exact K2|exact K3|exact K4|exact K5|exact K6|exact K7|exact K8|exact K9|exact K10|exact K11); (exact rfl); (exact wz rfl))|(apply Tri.stE; (first|exact K0|exact K1|exact K2|exact K3|exact K4|exact K5|exact K6|exact K7|exact K8|exact K9|exact K10|exact K11); (exact rfl); (exact wz rfl))|(apply Tri.same; (first|exact K0|exact K1|exact K2|exact K3|exact K4|exact K5|exact K6|exact K7|exact K8|exact K9|exact K10|exact K11); (exact rfl); (exact wz rfl))|refine wq fun _ => ?_)
              refine Tri.ixld (T := T) (by first|exact K0|exact K1|exact K2|exact K3|exact K4|exact K5|exact K6|exact K7|exact K8|exact K9|exact K10|exact K11) rfl (by omega) (by omega) fun x' hx' => ?_
              rw [Int.toNat_natCast, hx] at hx'; cases hx'
              repeat (first|refine wa ?_|refine wb ?_|refine wc ?_|refine wd ?_|refine we ?_|refine wf ?_|refine wg ?_|refine wh rfl ?_|refine wi rfl ?_|refine wj rfl ?_|refine wk rfl ?_|refine wl rfl ?_|refine wm (by decide) ?_|refine hdec _ _ _ _ ?_|refine wn ?_|refine wo ?_|refine wp (by decide) ?_|(apply Tri.ldE; (first|exact K0|exact K1|exact K2|exact K3|exact K4|exact K5|exact K6|exact K7|exact K8|exact K9|exact K10|exact K11); (exact rfl); (exact wz rfl))|(apply Tri.stE; (first|exact K0|exact K1|exact K2|exact K3|exact K4|exact K5|exact K6|exact K7|exact K8|exact K9|exact K10|exact K11); (exact rfl); (exact wz rfl))|(apply Tri.same; (first|exact K0|exact K1|exact K2|exact K3|exact K4|exact K5|exact K6|exact K7|exact K8|exact K9|exact K10|exact K11); (exact rfl); (exact wz rfl))|refine wq fun _ => ?_)
              refine Tri.ixst (T := T) y (by first|exact K0|exact K1|exact K2|exact K3|exact K4|exact K5|exact K6|exact K7|exact K8|exact K9|exact K10|exact K11) rfl (by omega) (by omega) rfl ?_
              refine Tri.ixst (T := T) x (by first|exact K0|exact K1|exact K2|exact K3|exact K4|exact K5|exact K6|exact K7|exact K8|exact K9|exact K10|exact K11) rfl (by omega) (by simp; omega) rfl ?_
              rw [Int.toNat_natCast, Int.toNat_natCast, ← sw_eq hx hy]
              exact Tri.back (m' := q - 1) (by omega) ⟨q - 1, sw l3 q (q - 1), rfl, by omega, by omega, hr3.trans (Rng.sw (by omega) (by omega) (by omega) (by omega) (by omega)), hins.step ho hqa hq2 (by omega) hx hy h5, rfl, rfl⟩ (Sub.refl _)
          · have h4 : q = a := by simp at h4; omega
            refine Tri.exit (by decide) ?_
            exact done (.inl h4)
        · refine Tri.ret ⟨rfl, rfl, l2, hr1, fun p q x y h1 h2 h3' => ?_, rfl⟩ (Sub.refl _)
          rw [wi i (by omega)] at h3
          simp at h3; omega
      clear hinc1 hr1 hlen2 l2
      rintro tag l' L ⟨rfl, rfl, l2, hr1, hinc1, rfl⟩
      have hlen2 := hr1.len
      unfold gpins_k96
      repeat (first|refine wa ?_|refine wb ?_|refine wc ?_|refine wd ?_|refine we ?_|refine wf ?_|refine wg ?_|refine wh rfl ?_|refine wi rfl ?_|refine wj rfl ?_|refine wk rfl ?_|refine wl rfl ?_|refine wm (by decide) ?_|refine hdec _ _ _ _ ?_|(apply Tri.ldE; (first|exact K0|exact K1|exact K2|exact K3|exact K4|exact K5|exact K6|exact K7|exact K8|exact K9|exact K10|exact K11); (exact rfl); (exact wz rfl))|(apply Tri.stE; (first|exact K0|exact K1|exact K2|exact K3|exact K4|exact K5|exact K6|exact K7|exact K8|exact K9|exact K10|exact K11); (exact rfl); (exact wz rfl))|(apply Tri.same; (first|exact K0|exact K1|exact K2|exact K3|exact K4|exact K5|exact K6|exact K7|exact K8|exact K9|exact K10|exact K11); (exact rfl); (exact wz rfl))|refine wq fun _ => ?_)
      refine Tri.cnd (fun h3 => ?_) (fun h3 => ?_)
      · have h3 : 2 ≤ b - i := by rw [wr_i64 (by omega) (by omega)] at h3; simp at h3; omega
        rw [show IntKind.wrap .i64 ((i : Int) + 1) = ((i + 1 : Nat) : Int) by rw [wr_i64 (by omega) (by omega)]; omega]
        refine Tri.loop (I := fun m l' L => ∃ (q : Nat) (l3 : List α), m = b - q ∧ i < q ∧ q ≤ b ∧ Rng a b l l3 ∧ Inc lt a i l3 ∧
          l' = [.sc (.sl o), .sc (.i .i64 a), .sc (.i .i64 b), .sc (.fn g f c), .sc (.i .i64 i), .sc (.i .i64 j), .sc (.i .i64 q)] ∧ L = .sl false T o l3 :: F)
          ⟨i + 1, l2, rfl, by omega, by omega, hr1, hinc1, rfl, rfl⟩ (Sub.refl _) ?_
        rintro m l' L ⟨q, l3, rfl, hq1, hq2, hr3, hinc3, rfl, rfl⟩
        have hlen3 := hr3.len
        have done : Tri E (.sl false T o l3 :: F) (gpins_k194 T.z dec zs S 14 [.sc (.sl o), .sc (.i .i64 a), .sc (.i .i64 b), .sc (.fn g f c), .sc (.i .i64 i), .sc (.i .i64 j)])
            (LQ E (fun m l' L => ∃ (i j : Nat) (l1 : List α), m = 5 - j ∧ j ≤ 5 ∧ a < i ∧ i ≤ b ∧ Rng a b l l1 ∧ Inc lt a i l1 ∧
              l' = [.sc (.sl o), .sc (.i .i64 a), .sc (.i .i64 b), .sc (.fn g f c), .sc (.i .i64 i), .sc (.i .i64 j)] ∧ L = .sl false T o l1 :: F) (5 - j) (gpins_k0 T.z dec zs S)
              (RQ F fun v L' => ∃ (l' : List α) (q : Bool), v = .sc (.b q) ∧ L' = [.sl false T o l'] ∧ Rng a b l l' ∧ (q = true → Inc lt a b l'))) := by
          unfold gpins_k194
          repeat (first|refine wa ?_|refine wb ?_|refine wc ?_|refine wd ?_|refine we ?_|refine wf ?_|refine wg ?_|refine wh rfl ?_|refine wi rfl ?_|refine wj rfl ?_|refine wk rfl ?_|refine wl rfl ?_|refine wm (by decide) ?_|refine hdec _ _ _ _ ?_|(apply Tri.ldE; (first|exact K0|exact K1|exact K2|exact K3|exact K4|exact K5|exact K6|exact K7|exact K8|exact K9|exact K10|exact K11); (exact rfl); (exact wz rfl))|(apply Tri.stE; (first|exact K0|exact K1|exact K2|exact K3|exact K4|exact K5|exact K6|exact K7|exact K8|exact K9|exact K10|exact K11); (exact rfl); (exact wz rfl))|(apply Tri.same; (first|exact K0|exact K1|exact K2|exact K3|exact K4|exact K5|exact K6|exact K7|exact K8|exact K9|exact K10|exact K11); (exact rfl); (exact wz rfl))|refine wq fun _ => ?_)
          refine Tri.back (m' := 5 - (j + 1)) (by omega) ⟨i, j + 1, l3, rfl, by omega, hi, hib, hr3, hinc3, ?_, rfl⟩ (Sub.refl _)
          rw [wr_i64 (by omega) (by omega)]; rfl
        unfold gpins_b194
        repeat (first|refine wa ?_|refine wb ?_|refine wc ?_|refine wd ?_|refine we ?_|refine wf ?_|refine wg ?_|refine wh rfl ?_|refine wi rfl ?_|refine wj rfl ?_|refine wk rfl ?_|refine wl rfl ?_|refine wm (by decide) ?_|refine hdec _ _ _ _ ?_|refine wn ?_|refine wo ?_|refine wp (by decide) ?_|(apply Tri.ldE; (first|exact K0|exact K1|exact K2|exact K3|exact K4|exact K5|exact K6|exact K7|exact K8|exact K9|exact K10|exact K11); (exact rfl); (exact wz rfl))|(apply Tri.stE; (first|exact K0|exact K1|exact K2|exact K3|exact K4|exact K5|exact K6|exact K7|exact K8|exact K9|exact K10|exact K11); (exact rfl); (exact wz rfl))|(apply Tri.same; (first|exact K0|exact K1|exact K2|exact K3|exact K4|exact K5|exact K6|exact K7|exact K8|exact K9|exact K10|exact K11); (exact rfl); (exact wz rfl))|refine wq fun _ => ?_)
        refine Tri.cnd (fun h4 => ?_) (fun h4 => ?_)
        · have h4 : q < b := by simp at h4; omega
          have eq1 : IntKind.wrap .i64 ((q : Int) - 1) = ((q - 1 : Nat) : Int) := by rw [wr_i64 (by omega) (by omega)]; omega
          rw [eq1]
          refine Tri.ixld (T := T) (by first|exact K0|exact K1|exact K2|exact K3|exact K4|exact K5|exact K6|exact K7|exact K8|exact K9|exact K10|exact K11) rfl (by omega) (by omega) fun x hx => ?_
          rw [Int.toNat_natCast] at hx
          repeat (first|refine wa ?_|refine wb ?_|refine wc ?_|refine wd ?_|refine we ?_|refine wf ?_|refine wg ?_|refine wh rfl ?_|refine wi rfl ?_|refine wj rfl ?_|refine wk rfl ?_|refine wl rfl ?_|refine wm (by decide) ?_|refine hdec _ _ _ _ ?_|refine wn ?_|refine wo ?_|refine wp (by decide) ?_|(apply Tri.ldE; (first|exact K0|exact K1|exact K2|exact K3|exact K4|exact K5|exact K6|exact K7|exact K8|exact K9|exact K10|exact K11); (exact rfl); (exact wz rfl))|(apply Tri.stE; (first|exact K0|exact K1|exact K2|exact K3|exact K4|exact K5|exact K6|exact K7|exact K8|exact K9|exact K10|exact K11); (exact rfl); (exact wz rfl))|(apply Tri.same; (first|exact K0|exact K1|exact K2|exact K3|exact K4|exact K5|exact K6|exact K7|exact K8|exact K9|exact K10|exact K11); (exact rfl); (exact wz rfl))|refine wq fun _ => ?_)
          refine Tri.ixld (T := T) (by first|exact K0|exact K1|exact K2|exact K3|exact K4|exact K5|exact K6|exact K7|exact K8|exact K9|exact K10|exact K11) rfl (by omega) (by omega) fun y hy => ?_
          rw [Int.toNat_natCast] at hy
          repeat (first|refine wa ?_|refine wb ?_|refine wc ?_|refine wd ?_|refine we ?_|refine wf ?_|refine wg ?_|refine wh rfl ?_|refine wi rfl ?_|refine wj rfl ?_|refine wk rfl ?_|refine wl rfl ?_|refine wm (by decide) ?_|refine hdec _ _ _ _ ?_|refine wn ?_|refine wo ?_|refine wp (by decide) ?_|(apply Tri.ldE; (first|exact K0|exact K1|exact K2|exact K3|exact K4|exact K5|exact K6|exact K7|exact K8|exact K9|exact K10|exact K11); (exact rfl); (exact wz rfl))|(apply Tri.stE; (first|exact K0|exact K1|exact K2|exact K3|exact K4|exact K5|exact K6|exact K7|exact K8|exact K9|exact K10|exact K11); (exact rfl); (exact wz rfl))|(apply Tri.same; (first|exact K0|exact K1|exact K2|exact K3|exact K4|exact K5|exact K6|exact K7|exact K8|exact K9|exact K10|exact K11); (exact rfl); (exact wz rfl))|refine wq fun _ => ?_)
          refine Tri.callv rfl (hcmp x y) (by repeat (first|exact Picks.nil|(apply Picks.cons; (first|exact K0|exact K1|exact K2|exact K3|exact K4|exact K5|exact K6|exact K7|exact K8|exact K9|exact K10|exact K11)))) ?_
          rintro v L' ⟨n, rfl, hn, rfl⟩
          simp only [List.cons_append, List.nil_append]
          repeat (first|refine wa ?_|refine wb ?_|refine wc ?_|refine wd ?_|refine we ?_|refine wf ?_|refine wg ?_|refine wh rfl ?_|refine wi rfl ?_|refine wj rfl ?_|refine wk rfl ?_|refine wl rfl ?_|refine wm (by decide) ?_|refine hdec _ _ _ _ ?_|refine wn ?_|refine wo ?_|refine wp (by decide) ?_|(apply Tri.ldE; (first|exact K0|exact K1|exact K2|exact K3|exact K4|exact K5|exact K6|exact K7|exact K8|exact K9|exact K10|exact K11); (exact rfl); (exact wz rfl))|(apply Tri.stE; (first|exact K0|exact K1|exact K2|exact K3|exact K4|exact K5|exact K6|exact K7|exact K8|exact K9|exact K10|exact K11); (exact rfl); (exact wz rfl))|(apply Tri.same; (first|exact K0|exact K1|exact K2|exact K3|exact K4|exact K5|exact K6|exact K7|exact K8|exact K9|exact K10|exact K11); (exact rfl); (exact wz rfl))|refine wq fun _ => ?_)
          refine Tri.cnd (fun h5 => ?_) (fun h5 => ?_)
          · refine Tri.exit (by decide) ?_
            exact done
          · refine Tri.ixld (T := T) (by first|exact K0|exact K1|exact K2|exact K3|exact K4|exact K5|exact K6|exact K7|exact K8|exact K9|exact K10|exact K11) rfl (by omega) (by omega) fun y' hy' => ?_
            rw [Int.toNat_natCast, hy] at hy'; cases hy'
            repeat (first|refine wa ?_|refine wb ?_|refine wc ?_|refine wd ?_|refine we ?_|refine wf ?_|refine wg ?_|refine wh rfl ?_|refine wi rfl ?_|refine wj rfl ?_|refine wk rfl ?_|refine wl rfl ?_|refine wm (by decide) ?_|refine hdec _ _ _ _ ?_|refine wn ?_|refine wo ?_|refine wp (by decide) ?_|(apply Tri.ldE; (first|exact K0|exact K1|exact K2|exact K3|exact K4|exact K5|exact K6|exact K7|exact K8|exact K9|exact K10|exact K11); (exact rfl); (exact wz rfl))|(apply Tri.stE; (first|exact K0|exact K1|exact K2|exact K3|exact K4|exact K5|exact K6|exact K7|exact K8|exact K9|exact K10|exact K11); (exact rfl); (exact wz rfl))|(apply Tri.same; (first|exact K0|exact K1|exact K2|exact K3|exact K4|exact K5|exact K6|exact K7|exact K8|exact K9|exact K10|exact K11); (exact rfl); (exact wz rfl))|refine wq fun _ => ?_)
            refine Tri.ixld (T := T) (by first|exact K0|exact K1|exact K2|exact K3|exact K4|exact K5|exact K6|exact K7|exact K8|exact K9|exact K10|exact K11) rfl (by omega) (by omega) fun x' hx' => ?_
            rw [Int.toNat_natCast, hx] at hx'; cases hx'
            repeat (first|refine wa ?_|refine wb ?_|refine wc ?_|refine wd ?_|refine we ?_|refine wf ?_|refine wg ?_|refine wh rfl ?_|refine wi rfl ?_|refine wj rfl ?_|refine wk rfl ?_|refine wl rfl ?_|refine wm (by decide) ?_|refine hdec _ _ _ _ ?_|refine wn ?_|refine wo ?_|refine wp (by decide) ?_|(apply Tri.ldE; (first|exact K0|exact K1|exact K2|exact K3|exact K4|exact K5|exact K6|exact K7|exact K8|exact K9|exact K10|exact K11); (exact rfl); (exact wz rfl))|(apply Tri.stE; (first|exact K0|exact K1|exact K2|exact K3|exact K4|exact K5|exact K6|exact K7|exact K8|exact K9|exact K10|exact K11); (exact rfl); (exact wz rfl))|(apply Tri.same; (first|exact K0|exact K1|exact K2|exact K3|exact K4|exact K5|exact K6|exact K7|exact K8|exact K9|exact K10|exact K11); (exact rfl); (exact wz rfl))|refine wq fun _ => ?_)
            refine Tri.ixst (T := T) y (by first|exact K0|exact K1|exact K2|exact K3|exact K4|exact K5|exact K6|exact K7|exact K8|exact K9|exact K10|exact K11) rfl (by omega) (by omega) rfl ?_
            refine Tri.ixst (T := T) x (by first|exact K0|exact K1|exact K2|exact K3|exact K4|exact K5|exact K6|exact K7|exact K8|exact K9|exact K10|exact K11) rfl (by omega) (by simp; omega) rfl ?_
            rw [Int.toNat_natCast, Int.toNat_natCast, ← sw_eq hx hy]
            refine Tri.back (m' := b - (q + 1)) (by omega) ⟨q + 1, sw l3 q (q - 1), rfl, by omega, by omega, hr3.trans (Rng.sw (by omega) (by omega) (by omega) (by omega) (by omega)), hinc3.off (by omega) (by omega) (by omega) (by omega), ?_, rfl⟩ (Sub.refl _)
            rw [wr_i64 (by omega) (by omega)]; rfl
        · refine Tri.exit (by decide) ?_
          exact done
      · refine Tri.back (m' := 5 - (j + 1)) (by omega) ⟨i, j + 1, l2, rfl, by omega, hi, hib, hr1, hinc1, ?_, rfl⟩ (Sub.refl _)
        rw [wr_i64 (by omega) (by omega)]; rfl
    unfold gpins_b8
    repeat (first|refine wa ?_|refine wb ?_|refine wc ?_|refine wd ?_|refine we ?_|refine wf ?_|refine wg ?_|refine wh rfl ?_|refine wi rfl ?_|refine wj rfl ?_|refine wk rfl ?_|refine wl rfl ?_|refine wm (by decide) ?_|refine hdec _ _ _ _ ?_|refine wn ?_|refine wo ?_|refine wp (by decide) ?_|(apply Tri.ldE; (first|exact K0|exact K1|exact K2|exact K3|exact K4|exact K5|exact K6|exact K7|exact K8|exact K9|exact K10|exact K11); (exact rfl); (exact wz rfl))|(apply Tri.stE; (first|exact K0|exact K1|exact K2|exact K3|exact K4|exact K5|exact K6|exact K7|exact K8|exact K9|exact K10|exact K11); (exact rfl); (exact wz rfl))|(apply Tri.same; (first|exact K0|exact K1|exact K2|exact K3|exact K4|exact K5|exact K6|exact K7|exact K8|exact K9|exact K10|exact K11); (exact rfl); (exact wz rfl))|refine wq fun _ => ?_)
    refine Tri.cnd (fun h1 => ?_) (fun h1 => ?_)
    · have h1 : i < b := by simp at h1; omega
      rw [ew]
      refine Tri.ixld (T := T) (by first|exact K0|exact K1|exact K2|exact K3|exact K4|exact K5|exact K6|exact K7|exact K8|exact K9|exact K10|exact K11) rfl (by omega) (by omega) fun x hx => ?_
      rw [Int.toNat_natCast] at hx
      repeat (first|refine wa ?_|refine wb ?_|refine wc ?_|refine wd ?_|refine we ?_|refine wf ?_|refine wg ?_|refine wh rfl ?_|refine wi rfl ?_|refine wj rfl ?_|refine wk rfl ?_|refine wl rfl ?_|refine wm (by decide) ?_|refine hdec _ _ _ _ ?_|refine wn ?_|refine wo ?_|refine wp (by decide) ?_|(apply Tri.ldE; (first|exact K0|exact K1|exact K2|exact K3|exact K4|exact K5|exact K6|exact K7|exact K8|exact K9|exact K10|exact K11); (exact rfl); (exact wz rfl))|(apply Tri.stE; (first|exact K0|exact K1|exact K2|exact K3|exact K4|exact K5|exact K6|exact K7|exact K8|exact K9|exact K10|exact K11); (exact rfl); (exact wz rfl))|(apply Tri.same; (first|exact K0|exact K1|exact K2|exact K3|exact K4|exact K5|exact K6|exact K7|exact K8|exact K9|exact K10|exact K11); (exact rfl); (exact wz rfl))|refine wq fun _ => ?_)
      refine Tri.ixld (T := T) (by first|exact K0|exact K1|exact K2|exact K3|exact K4|exact K5|exact K6|exact K7|exact K8|exact K9|exact K10|exact K11) rfl (by omega) (by omega) fun y hy => ?_
      rw [Int.toNat_natCast] at hy
      repeat (first|refine wa ?_|refine wb ?_|refine wc ?_|refine wd ?_|refine we ?_|refine wf ?_|refine wg ?_|refine wh rfl ?_|refine wi rfl ?_|refine wj rfl ?_|refine wk rfl ?_|refine wl rfl ?_|refine wm (by decide) ?_|refine hdec _ _ _ _ ?_|refine wn ?_|refine wo ?_|refine wp (by decide) ?_|(apply Tri.ldE; (first|exact K0|exact K1|exact K2|exact K3|exact K4|exact K5|exact K6|exact K7|exact K8|exact K9|exact K10|exact K11); (exact rfl); (exact wz rfl))|(apply Tri.stE; (first|exact K0|exact K1|exact K2|exact K3|exact K4|exact K5|exact K6|exact K7|exact K8|exact K9|exact K10|exact K11); (exact rfl); (exact wz rfl))|(apply Tri.same; (first|exact K0|exact K1|exact K2|exact K3|exact K4|exact K5|exact K6|exact K7|exact K8|exact K9|exact K10|exact K11); (exact rfl); (exact wz rfl))|refine wq fun _ => ?_)
      refine Tri.callv rfl (hcmp x y) (by repeat (first|exact Picks.nil|(apply Picks.cons; (first|exact K0|exact K1|exact K2|exact K3|exact K4|exact K5|exact K6|exact K7|exact K8|exact K9|exact K10|exact K11)))) ?_
      rintro v L' ⟨n, rfl, hn, rfl⟩
      simp only [List.cons_append, List.nil_append]
      repeat (first|refine wa ?_|refine wb ?_|refine wc ?_|refine wd ?_|refine we ?_|refine wf ?_|refine wg ?_|refine wh rfl ?_|refine wi rfl ?_|refine wj rfl ?_|refine wk rfl ?_|refine wl rfl ?_|refine wm (by decide) ?_|refine hdec _ _ _ _ ?_|refine wn ?_|refine wo ?_|refine wp (by decide) ?_|(apply Tri.ldE; (first|exact K0|exact K1|exact K2|exact K3|exact K4|exact K5|exact K6|exact K7|exact K8|exact K9|exact K10|exact K11); (exact rfl); (exact wz rfl))|(apply Tri.stE; (first|exact K0|exact K1|exact K2|exact K3|exact K4|exact K5|exact K6|exact K7|exact K8|exact K9|exact K10|exact K11); (exact rfl); (exact wz rfl))|(apply Tri.same; (first|exact K0|exact K1|exact K2|exact K3|exact K4|exact K5|exact K6|exact K7|exact K8|exact K9|exact K10|exact K11); (exact rfl); (exact wz rfl))|refine wq fun _ => ?_)
      refine Tri.cnd (fun h2 => ?_) (fun h2 => ?_)
      · have h2 : ¬ lt x y := fun h => by have := hn.2 h; simp at h2; omega
        refine Tri.back (m' := b - (i + 1)) (by omega) ⟨i + 1, rfl, by omega, by omega, hinc.snoc ho (by omega) fun x' y' hx' hy' _ => ?_, ?_, rfl⟩ (Sub.refl _)
        · rw [hx] at hx'; rw [hy] at hy'; cases hx'; cases hy'; exact h2
        · rw [wr_i64 (by omega) (by omega)]; rfl
      · have h2 : lt x y := hn.1 (by simpa using h2)
        refine Tri.exit (by decide) ?_
        refine away fun _ x' y' hx' hy' => ?_
        rw [hx] at hx'; rw [hy] at hy'; cases hx'; cases hy'; exact h2
    · refine Tri.exit (by decide) ?_
      exact away fun h => absurd h (by simp at h1; omega)
  · refine Tri.exit (by decide) ?_
    unfold gpins_k0
    repeat (first|refine wa ?_|refine wb ?_|refine wc ?_|refine wd ?_|refine we ?_|refine wf ?_|refine wg ?_|refine wh rfl ?_|refine wi rfl ?_|refine wj rfl ?_|refine wk rfl ?_|refine wl rfl ?_|refine wm (by decide) ?_|refine hdec _ _ _ _ ?_|(apply Tri.ldE; (first|exact K0|exact K1|exact K2|exact K3|exact K4|exact K5|exact K6|exact K7|exact K8|exact K9|exact K10|exact K11); (exact rfl); (exact wz rfl))|(apply Tri.stE; (first|exact K0|exact K1|exact K2|exact K3|exact K4|exact K5|exact K6|exact K7|exact K8|exact K9|exact K10|exact K11); (exact rfl); (exact wz rfl))|(apply Tri.same; (first|exact K0|exact K1|exact K2|exact K3|exact K4|exact K5|exact K6|exact K7|exact K8|exact K9|exact K10|exact K11); (exact rfl); (exact wz rfl))|refine wq fun _ => ?_)
    exact Tri.retF ⟨l1, false, rfl, rfl, hr, fun h => by cases h⟩ (Sub.refl _)

/-- [a, b) under way to be parted: what lies ahead of i is not greater than what stands at a, what lies behind j is -/
structure Prq (lt : α → α → Prop) (a b i j : Nat) (l : List α) : Prop where
  ai : a < i
  ij : i ≤ j
  jb : j ≤ b
  lo : ∀ (k : Nat) (x y : α), a < k → k < i → l[k]? = some x → l[a]? = some y → ¬ lt y x
  hi : ∀ (k : Nat) (x y : α), j ≤ k → k < b → l[k]? = some x → l[a]? = some y → lt y x
theorem Prq.start {lt : α → α → Prop} {a b : Nat} {l : List α} (h : a < b) : Prq lt a b (a + 1) b l :=
  ⟨by omega, by omega, by omega, fun k _ _ h1 h2 => by omega, fun k _ _ h1 h2 => by omega⟩
theorem Prq.up {lt : α → α → Prop} {a b i j : Nat} {l : List α} (h : Prq lt a b i j l) (hij : i < j) {x y : α} (hx : l[i]? = some x) (hy : l[a]? = some y) (hlt : ¬ lt y x) : Prq lt a b (i + 1) j l :=
  ⟨by have := h.ai; omega, by omega, h.jb, fun k u v h1 h2 hu hv => by
    by_cases e : k = i
    · subst e; rw [hx] at hu; rw [hy] at hv; cases hu; cases hv; exact hlt
    · exact h.lo k u v h1 (by omega) hu hv, h.hi⟩
theorem Prq.down {lt : α → α → Prop} {a b i j : Nat} {l : List α} (h : Prq lt a b i (j + 1) l) (hij : i ≤ j) {x y : α} (hx : l[j]? = some x) (hy : l[a]? = some y) (hlt : lt y x) : Prq lt a b i j l :=
  ⟨h.ai, hij, by have := h.jb; omega, h.lo, fun k u v h1 h2 hu hv => by
    by_cases e : k = j
    · subst e; rw [hx] at hu; rw [hy] at hv; cases hu; cases hv; exact hlt
    · exact h.hi k u v (by omega) h2 hu hv⟩
theorem Prq.swap {lt : α → α → Prop} {a b i j : Nat} {l : List α} (h : Prq lt a b i (j + 1) l) (hij : i < j) (hb : b ≤ l.length) {x y z : α} (hx : l[i]? = some x) (hy : l[j]? = some y) (hz : l[a]? = some z)
    (h1 : lt z x) (h2 : ¬ lt z y) : Prq lt a b (i + 1) j (sw l i j) := by
  have hai := h.ai
  have hjb := h.jb
  have ea : (sw l i j)[a]? = some z := by rw [sw_get (by omega) (by omega), if_neg (by omega), if_neg (by omega), hz]
  refine ⟨by omega, by omega, by omega, fun k u v k1 k2 hu hv => ?_, fun k u v k1 k2 hu hv => ?_⟩
  · rw [ea] at hv; cases hv
    rw [sw_get (by omega) (by omega)] at hu
    by_cases e : k = i
    · rw [if_pos e, hy] at hu; cases hu; exact h2
    · rw [if_neg e, if_neg (by omega)] at hu
      exact h.lo k u z k1 (by omega) hu hz
  · rw [ea] at hv; cases hv
    rw [sw_get (by omega) (by omega), if_neg (by omega)] at hu
    by_cases e : k = j
    · rw [if_pos e, hx] at hu; cases hu; exact h1
    · rw [if_neg e] at hu
      exact h.hi k u z (by omega) k2 hu hz
theorem peq_spec (B : SOk E z dec zs S) (el : ElOk E T z dec zs) {o : Option SlD} {l : List α} {a b p : Nat} {g : FuncId} {f c : List (Nat × Nat)} {lt : α → α → Prop} (hcmp : IsCmp E T g f c lt) (hab : a < b) (hb : b ≤ l.length) (hpa : a ≤ p) (hpb : p < b) (hl : l.length ≤ 1000) :
    FSpec E S.peq [.sc (.sl o), .sc (.i .i64 a), .sc (.i .i64 b), .sc (.i .i64 p), .sc (.fn g f c)] [.sl false T o l]
    (fun v L' => ∃ (l' : List α) (m : Nat), v = .sc (.i .i64 m) ∧ L' = [.sl false T o l'] ∧ Rng a b l l' ∧ Prq lt a b m m l' ∧ l'[a]? = l[p]?) := by
  have hdec := el.hd
  have hz := el.hz
  subst hz
  obtain ⟨fn, hf, hbk⟩ := B.peq
  refine FSpec.of hf (hbk _ _ _ _ _ _ _) fun F => ?_
  unfold gpeq
  refine Tri.ixld (T := T) (by first|exact K0|exact K1|exact K2|exact K3|exact K4|exact K5|exact K6|exact K7|exact K8|exact K9|exact K10|exact K11) rfl (by omega) (by omega) fun x hx => ?_
  rw [Int.toNat_natCast] at hx
  repeat (first|refine wa ?_|refine wb ?_|refine wc ?_|refine wd ?_|refine we ?_|refine wf ?_|refine wg ?_|refine wh rfl ?_|refine wi rfl ?_|refine wj rfl ?_|refine wk rfl ?_|refine wl rfl ?_|refine wm (by decide) ?_|refine hdec _ _ _ _ ?_|refine wn ?_|refine wo ?_|refine wp (by decide) ?_|(apply Tri.ldE; (first|exact K0|exact K1|exact K2|exact K3|exact K4|exact K5|exact K6|exact K7|exact K8|exact K9|exact K10|exact K11); (exact rfl); (exact wz rfl))|(apply Tri.stE; (first|exact K0|exact K1|exact K2|exact K3|exact K4|exact K5|exact K6|exact K7|exact K8|exact K9|exact K10|exact K11); (exact rfl); (exact wz rfl))|(apply Tri.same; (first|exact K0|exact K1|exact K2|exact K3|exact K4|exact K5|exact K6|exact K7|exact K8|exact K9|exact K10|exact K11); (exact rfl); (exact wz rfl))|refine wq fun _ => ?_)
  refine Tri.ixld (T := T) (by first|exact K0|exact K1|exact K2|exact K3|exact K4|exact K5|exact K6|exact K7|exact K8|exact K9|exact K10|exact K11) rfl (by omega) (by omega) fun y hy => ?_
  rw [Int.toNat_natCast] at hy
  repeat (first|refine wa ?_|refine wb ?_|refine wc ?_|refine wd ?_|refine we ?_|refine wf ?_|refine wg ?_|refine wh rfl ?_|refine wi rfl ?_|refine wj rfl ?_|refine wk rfl ?_|refine wl rfl ?_|refine wm (by decide) ?_|refine hdec _ _ _ _ ?_|refine wn ?_|refine wo ?_|refine wp (by decide) ?_|(apply Tri.ldE; (first|exact K0|exact K1|exact K2|exact K3|exact K4|exact K5|exact K6|exact K7|exact K8|exact K9|exact K10|exact K11); (exact rfl); (exact wz rfl))|(apply Tri.stE; (first|exact K0|exact K1|exact K2|exact K3|exact K4|exact K5|exact K6|exact K7|exact K8|exact K9|exact K10|exact K11); (exact rfl); (exact wz rfl))|(apply Tri.same; (first|exact K0|exact K1|exact K2|exact K3|exact K4|exact K5|exact K6|exact K7|exact K8|exact K9|exact K10|exact K11); (exact rfl); (exact wz rfl))|refine wq fun _ => ?_)
  refine Tri.ixst (T := T) x (by first|exact K0|exact K1|exact K2|exact K3|exact K4|exact K5|exact K6|exact K7|exact K8|exact K9|exact K10|exact K11) rfl (by omega) (by omega) rfl ?_
  refine Tri.ixst (T := T) y (by first|exact K0|exact K1|exact K2|exact K3|exact K4|exact K5|exact K6|exact K7|exact K8|exact K9|exact K10|exact K11) rfl (by omega) (by simp; omega) rfl ?_
  rw [Int.toNat_natCast, Int.toNat_natCast, ← sw_eq hy hx]
  have hr : Rng a b l (sw l a p) := Rng.sw (by omega) (by omega) (by omega) (by omega) hb
  have hap : (sw l a p)[a]? = l[p]? := by rw [sw_get (by omega) (by omega), if_pos rfl]
  clear hx hy x y
  generalize sw l a p = l0 at hr hap
  rw [show IntKind.wrap .i64 ((a : Int) + 1) = ((a + 1 : Nat) : Int) by rw [wr_i64 (by omega) (by omega)]; rfl, show IntKind.wrap .i64 ((b : Int) - 1) = (b : Int) - 1 from wr_i64 (by omega) (by omega)]
  refine Tri.loop (I := fun m l' L => ∃ (i j : Nat) (l1 : List α), m = j - i ∧ Rng a b l l1 ∧ Prq lt a b i j l1 ∧ l1[a]? = l[p]? ∧
    l' = [.sc (.sl o), .sc (.i .i64 a), .sc (.fn g f c), .sc (.i .i64 i), .sc (.i .i64 ((j : Int) - 1))] ∧ L = .sl false T o l1 :: F)
    ⟨a + 1, b, l0, rfl, hr, Prq.start hab, hap, rfl, rfl⟩ (Sub.refl _) ?_
  clear hr hap l0
  rintro m l' L ⟨i0, j0, l1, rfl, hr, hp0, hap, rfl, rfl⟩
  have hlen := hr.len
  unfold gpeq_b38
  repeat (first|refine wa ?_|refine wb ?_|refine wc ?_|refine wd ?_|refine we ?_|refine wf ?_|refine wg ?_|refine wh rfl ?_|refine wi rfl ?_|refine wj rfl ?_|refine wk rfl ?_|refine wl rfl ?_|refine wm (by decide) ?_|refine hdec _ _ _ _ ?_|(apply Tri.ldE; (first|exact K0|exact K1|exact K2|exact K3|exact K4|exact K5|exact K6|exact K7|exact K8|exact K9|exact K10|exact K11); (exact rfl); (exact wz rfl))|(apply Tri.stE; (first|exact K0|exact K1|exact K2|exact K3|exact K4|exact K5|exact K6|exact K7|exact K8|exact K9|exact K10|exact K11); (exact rfl); (exact wz rfl))|(apply Tri.same; (first|exact K0|exact K1|exact K2|exact K3|exact K4|exact K5|exact K6|exact K7|exact K8|exact K9|exact K10|exact K11); (exact rfl); (exact wz rfl))|refine wq fun _ => ?_)
  refine Tri.loop (I := fun m l' L => ∃ i : Nat, m = j0 - i ∧ i0 ≤ i ∧ Prq lt a b i j0 l1 ∧ l' = [.sc (.sl o), .sc (.i .i64 a), .sc (.fn g f c), .sc (.i .i64 i), .sc (.i .i64 ((j0 : Int) - 1))] ∧ L = .sl false T o l1 :: F)
    ⟨i0, rfl, Nat.le_refl _, hp0, rfl, rfl⟩ (Sub.refl _) ?_
  rintro m l' L ⟨i, rfl, hi0, hp, rfl, rfl⟩
  have h1 := hp.ai
  have h2 := hp.ij
  have h3 := hp.jb
  have next : (i < j0 → ∀ x y, l1[i]? = some x → l1[a]? = some y → lt y x) → Tri E (.sl false T o l1 :: F) (gpeq_k45 T.z dec zs S 6 [.sc (.sl o), .sc (.i .i64 a), .sc (.fn g f c), .sc (.i .i64 i), .sc (.i .i64 ((j0 : Int) - 1))])
      (LQ E (fun m l' L => ∃ (i j : Nat) (l1 : List α), m = j - i ∧ Rng a b l l1 ∧ Prq lt a b i j l1 ∧ l1[a]? = l[p]? ∧
        l' = [.sc (.sl o), .sc (.i .i64 a), .sc (.fn g f c), .sc (.i .i64 i), .sc (.i .i64 ((j : Int) - 1))] ∧ L = .sl false T o l1 :: F) (j0 - i0) (gpeq_k38 T.z dec zs S)
        (RQ F fun v L' => ∃ (l' : List α) (m : Nat), v = .sc (.i .i64 m) ∧ L' = [.sl false T o l'] ∧ Rng a b l l' ∧ Prq lt a b m m l' ∧ l'[a]? = l[p]?)) := by
    intro hi
    unfold gpeq_k45
    repeat (first|refine wa ?_|refine wb ?_|refine wc ?_|refine wd ?_|refine we ?_|refine wf ?_|refine wg ?_|refine wh rfl ?_|refine wi rfl ?_|refine wj rfl ?_|refine wk rfl ?_|refine wl rfl ?_|refine wm (by decide) ?_|refine hdec _ _ _ _ ?_|(apply Tri.ldE; (first|exact K0|exact K1|exact K2|exact K3|exact K4|exact K5|exact K6|exact K7|exact K8|exact K9|exact K10|exact K11); (exact rfl); (exact wz rfl))|(apply Tri.stE; (first|exact K0|exact K1|exact K2|exact K3|exact K4|exact K5|exact K6|exact K7|exact K8|exact K9|exact K10|exact K11); (exact rfl); (exact wz rfl))|(apply Tri.same; (first|exact K0|exact K1|exact K2|exact K3|exact K4|exact K5|exact K6|exact K7|exact K8|exact K9|exact K10|exact K11); (exact rfl); (exact wz rfl))|refine wq fun _ => ?_)
    refine Tri.loop (I := fun m l' L => ∃ j : Nat, m = j - i ∧ j ≤ j0 ∧ Prq lt a b i j l1 ∧ l' = [.sc (.sl o), .sc (.i .i64 a), .sc (.fn g f c), .sc (.i .i64 i), .sc (.i .i64 ((j : Int) - 1))] ∧ L = .sl false T o l1 :: F)
      ⟨j0, rfl, Nat.le_refl _, hp, rfl, rfl⟩ (Sub.refl _) ?_
    rintro m l' L ⟨j, rfl, hj0, hq, rfl, rfl⟩
    have k2 := hq.ij
    have k3 := hq.jb
    have last : (i < j → ∀ x y, l1[j - 1]? = some x → l1[a]? = some y → ¬ lt y x) → Tri E (.sl false T o l1 :: F) (gpeq_k93 T.z dec zs S 10 [.sc (.sl o), .sc (.i .i64 a), .sc (.fn g f c), .sc (.i .i64 i), .sc (.i .i64 ((j : Int) - 1))])
        (LQ E (fun m l' L => ∃ (i j : Nat) (l1 : List α), m = j - i ∧ Rng a b l l1 ∧ Prq lt a b i j l1 ∧ l1[a]? = l[p]? ∧
          l' = [.sc (.sl o), .sc (.i .i64 a), .sc (.fn g f c), .sc (.i .i64 i), .sc (.i .i64 ((j : Int) - 1))] ∧ L = .sl false T o l1 :: F) (j0 - i0) (gpeq_k38 T.z dec zs S)
          (RQ F fun v L' => ∃ (l' : List α) (m : Nat), v = .sc (.i .i64 m) ∧ L' = [.sl false T o l'] ∧ Rng a b l l' ∧ Prq lt a b m m l' ∧ l'[a]? = l[p]?)) := by
      intro hj
      unfold gpeq_k93
      repeat (first|refine wa ?_|refine wb ?_|refine wc ?_|refine wd ?_|refine we ?_|refine wf ?_|refine wg ?_|refine wh rfl ?_|refine wi rfl ?_|refine wj rfl ?_|refine wk rfl ?_|refine wl rfl ?_|refine wm (by decide) ?_|refine hdec _ _ _ _ ?_|(apply Tri.ldE; (first|exact K0|exact K1|exact K2|exact K3|exact K4|exact K5|exact K6|exact K7|exact K8|exact K9|exact K10|exact K11); (exact rfl); (exact wz rfl))|(apply Tri.stE; (first|exact K0|exact K1|exact K2|exact K3|exact K4|exact K5|exact K6|exact K7|exact K8|exact K9|exact K10|exact K11); (exact rfl); (exact wz rfl))|(apply Tri.same; (first|exact K0|exact K1|exact K2|exact K3|exact K4|exact K5|exact K6|exact K7|exact K8|exact K9|exact K10|exact K11); (exact rfl); (exact wz rfl))|refine wq fun _ => ?_)
      refine Tri.cnd (fun h4 => ?_) (fun h4 => ?_)
      · have h4 : j = i := by simp at h4; omega
        subst h4
        refine Tri.exit (by decide) ?_
        unfold gpeq_k38
        repeat (first|refine wa ?_|refine wb ?_|refine wc ?_|refine wd ?_|refine we ?_|refine wf ?_|refine wg ?_|refine wh rfl ?_|refine wi rfl ?_|refine wj rfl ?_|refine wk rfl ?_|refine wl rfl ?_|refine wm (by decide) ?_|refine hdec _ _ _ _ ?_|(apply Tri.ldE; (first|exact K0|exact K1|exact K2|exact K3|exact K4|exact K5|exact K6|exact K7|exact K8|exact K9|exact K10|exact K11); (exact rfl); (exact wz rfl))|(apply Tri.stE; (first|exact K0|exact K1|exact K2|exact K3|exact K4|exact K5|exact K6|exact K7|exact K8|exact K9|exact K10|exact K11); (exact rfl); (exact wz rfl))|(apply Tri.same; (first|exact K0|exact K1|exact K2|exact K3|exact K4|exact K5|exact K6|exact K7|exact K8|exact K9|exact K10|exact K11); (exact rfl); (exact wz rfl))|refine wq fun _ => ?_)
        exact Tri.retF ⟨l1, j, rfl, rfl, hr, hq, hap⟩ (Sub.refl _)
      · have h4 : i < j := by simp at h4; omega
        obtain ⟨j, rfl⟩ : ∃ j', j = j' + 1 := ⟨j - 1, by omega⟩
        rw [show ((j + 1 : Nat) : Int) - 1 = (j : Int) by omega]
        obtain ⟨u, hu⟩ : ∃ u, l1[a]? = some u := ⟨_, List.getElem?_eq_getElem (by omega)⟩
        refine Tri.ixld (T := T) (by first|exact K0|exact K1|exact K2|exact K3|exact K4|exact K5|exact K6|exact K7|exact K8|exact K9|exact K10|exact K11) rfl (by omega) (by omega) fun y hy => ?_
        rw [Int.toNat_natCast] at hy
        repeat (first|refine wa ?_|refine wb ?_|refine wc ?_|refine wd ?_|refine we ?_|refine wf ?_|refine wg ?_|refine wh rfl ?_|refine wi rfl ?_|refine wj rfl ?_|refine wk rfl ?_|refine wl rfl ?_|refine wm (by decide) ?_|refine hdec _ _ _ _ ?_|refine wn ?_|refine wo ?_|refine wp (by decide) ?_|(apply Tri.ldE; (first|exact K0|exact K1|exact K2|exact K3|exact K4|exact K5|exact K6|exact K7|exact K8|exact K9|exact K10|exact K11); (exact rfl); (exact wz rfl))|(apply Tri.stE; (first|exact K0|exact K1|exact K2|exact K3|exact K4|exact K5|exact K6|exact K7|exact K8|exact K9|exact K10|exact K11); (exact rfl); (exact wz rfl))|(apply Tri.same; (first|exact K0|exact K1|exact K2|exact K3|exact K4|exact K5|exact K6|exact K7|exact K8|exact K9|exact K10|exact K11); (exact rfl); (exact wz rfl))|refine wq fun _ => ?_)
        refine Tri.ixld (T := T) (by first|exact K0|exact K1|exact K2|exact K3|exact K4|exact K5|exact K6|exact K7|exact K8|exact K9|exact K10|exact K11) rfl (by omega) (by omega) fun x hx => ?_
        rw [Int.toNat_natCast] at hx
        repeat (first|refine wa ?_|refine wb ?_|refine wc ?_|refine wd ?_|refine we ?_|refine wf ?_|refine wg ?_|refine wh rfl ?_|refine wi rfl ?_|refine wj rfl ?_|refine wk rfl ?_|refine wl rfl ?_|refine wm (by decide) ?_|refine hdec _ _ _ _ ?_|refine wn ?_|refine wo ?_|refine wp (by decide) ?_|(apply Tri.ldE; (first|exact K0|exact K1|exact K2|exact K3|exact K4|exact K5|exact K6|exact K7|exact K8|exact K9|exact K10|exact K11); (exact rfl); (exact wz rfl))|(apply Tri.stE; (first|exact K0|exact K1|exact K2|exact K3|exact K4|exact K5|exact K6|exact K7|exact K8|exact K9|exact K10|exact K11); (exact rfl); (exact wz rfl))|(apply Tri.same; (first|exact K0|exact K1|exact K2|exact K3|exact K4|exact K5|exact K6|exact K7|exact K8|exact K9|exact K10|exact K11); (exact rfl); (exact wz rfl))|refine wq fun _ => ?_)
        have q1 := hi (by omega) x u hx hu
        have q2 := hj h4 y u hy hu
        have hne : i ≠ j := fun e => by subst e; rw [hx] at hy; cases hy; exact q2 q1
        refine Tri.ixst (T := T) y (by first|exact K0|exact K1|exact K2|exact K3|exact K4|exact K5|exact K6|exact K7|exact K8|exact K9|exact K10|exact K11) rfl (by omega) (by omega) rfl ?_
        refine Tri.ixst (T := T) x (by first|exact K0|exact K1|exact K2|exact K3|exact K4|exact K5|exact K6|exact K7|exact K8|exact K9|exact K10|exact K11) rfl (by omega) (by simp; omega) rfl ?_
        rw [Int.toNat_natCast, Int.toNat_natCast, ← sw_eq hx hy]
        refine Tri.back (m' := j - (i + 1)) (by omega) ⟨i + 1, j, _, rfl, hr.trans (Rng.sw (i := i) (j := j) (by omega) (by omega) (by omega) (by omega) (by omega)), hq.swap (by omega) (by omega) hx hy hu q1 q2, ?_, ?_, rfl⟩ (Sub.refl _)
        · rw [sw_get (by omega) (by omega), if_neg (by omega), if_neg (by omega), hap]
        · rw [wr_i64 (by omega) (by omega), wr_i64 (by omega) (by omega)]; rfl
    unfold gpeq_b93
    repeat (first|refine wa ?_|refine wb ?_|refine wc ?_|refine wd ?_|refine we ?_|refine wf ?_|refine wg ?_|refine wh rfl ?_|refine wi rfl ?_|refine wj rfl ?_|refine wk rfl ?_|refine wl rfl ?_|refine wm (by decide) ?_|refine hdec _ _ _ _ ?_|refine wn ?_|refine wo ?_|refine wp (by decide) ?_|(apply Tri.ldE; (first|exact K0|exact K1|exact K2|exact K3|exact K4|exact K5|exact K6|exact K7|exact K8|exact K9|exact K10|exact K11); (exact rfl); (exact wz rfl))|(apply Tri.stE; (first|exact K0|exact K1|exact K2|exact K3|exact K4|exact K5|exact K6|exact K7|exact K8|exact K9|exact K10|exact K11); (exact rfl); (exact wz rfl))|(apply Tri.same; (first|exact K0|exact K1|exact K2|exact K3|exact K4|exact K5|exact K6|exact K7|exact K8|exact K9|exact K10|exact K11); (exact rfl); (exact wz rfl))|refine wq fun _ => ?_)
    refine Tri.cnd (fun h4 => ?_) (fun h4 => ?_)
    · have h4 : i < j := by simp at h4; omega
      obtain ⟨j, rfl⟩ : ∃ j', j = j' + 1 := ⟨j - 1, by omega⟩
      have ej : ((j + 1 : Nat) : Int) - 1 = (j : Int) := by omega
      rw [ej]
      rw [ej] at last
      refine Tri.ixld (T := T) (by first|exact K0|exact K1|exact K2|exact K3|exact K4|exact K5|exact K6|exact K7|exact K8|exact K9|exact K10|exact K11) rfl (by omega) (by omega) fun x hx => ?_
      rw [Int.toNat_natCast] at hx
      repeat (first|refine wa ?_|refine wb ?_|refine wc ?_|refine wd ?_|refine we ?_|refine wf ?_|refine wg ?_|refine wh rfl ?_|refine wi rfl ?_|refine wj rfl ?_|refine wk rfl ?_|refine wl rfl ?_|refine wm (by decide) ?_|refine hdec _ _ _ _ ?_|refine wn ?_|refine wo ?_|refine wp (by decide) ?_|(apply Tri.ldE; (first|exact K0|exact K1|exact K2|exact K3|exact K4|exact K5|exact K6|exact K7|exact K8|exact K9|exact K10|exact K11); (exact rfl); (exact wz rfl))|(apply Tri.stE; (first|exact K0|exact K1|exact K2|exact K3|exact K4|exact K5|exact K6|exact K7|exact K8|exact K9|exact K10|exact K11); (exact rfl); (exact wz rfl))|(apply Tri.same; (first|exact K0|exact K1|exact K2|exact K3|exact K4|exact K5|exact K6|exact K7|exact K8|exact K9|exact K10|exact K11); (exact rfl); (exact wz rfl))|refine wq fun _ => ?_)
      refine Tri.ixld (T := T) (by first|exact K0|exact K1|exact K2|exact K3|exact K4|exact K5|exact K6|exact K7|exact K8|exact K9|exact K10|exact K11) rfl (by omega) (by omega) fun y hy => ?_
      rw [Int.toNat_natCast] at hy
      repeat (first|refine wa ?_|refine wb ?_|refine wc ?_|refine wd ?_|refine we ?_|refine wf ?_|refine wg ?_|refine wh rfl ?_|refine wi rfl ?_|refine wj rfl ?_|refine wk rfl ?_|refine wl rfl ?_|refine wm (by decide) ?_|refine hdec _ _ _ _ ?_|refine wn ?_|refine wo ?_|refine wp (by decide) ?_|(apply Tri.ldE; (first|exact K0|exact K1|exact K2|exact K3|exact K4|exact K5|exact K6|exact K7|exact K8|exact K9|exact K10|exact K11); (exact rfl); (exact wz rfl))|(apply Tri.stE; (first|exact K0|exact K1|exact K2|exact K3|exact K4|exact K5|exact K6|exact K7|exact K8|exact K9|exact K10|exact K11); (exact rfl); (exact wz rfl))|(apply Tri.same; (first|exact K0|exact K1|exact K2|exact K3|exact K4|exact K5|exact K6|exact K7|exact K8|exact K9|exact K10|exact K11); (exact rfl); (exact wz rfl))|refine wq fun _ => ?_)
      refine Tri.callv rfl (hcmp x y) (by repeat (first|exact Picks.nil|(apply Picks.cons; (first|exact K0|exact K1|exact K2|exact K3|exact K4|exact K5|exact K6|exact K7|exact K8|exact K9|exact K10|exact K11)))) ?_
      rintro v L' ⟨n, rfl, hn, rfl⟩
      simp only [List.cons_append, List.nil_append]
      repeat (first|refine wa ?_|refine wb ?_|refine wc ?_|refine wd ?_|refine we ?_|refine wf ?_|refine wg ?_|refine wh rfl ?_|refine wi rfl ?_|refine wj rfl ?_|refine wk rfl ?_|refine wl rfl ?_|refine wm (by decide) ?_|refine hdec _ _ _ _ ?_|refine wn ?_|refine wo ?_|refine wp (by decide) ?_|(apply Tri.ldE; (first|exact K0|exact K1|exact K2|exact K3|exact K4|exact K5|exact K6|exact K7|exact K8|exact K9|exact K10|exact K11); (exact rfl); (exact wz rfl))|(apply Tri.stE; (first|exact K0|exact K1|exact K2|exact K3|exact K4|exact K5|exact K6|exact K7|exact K8|exact K9|exact K10|exact K11); (exact rfl); (exact wz rfl))|(apply Tri.same; (first|exact K0|exact K1|exact K2|exact K3|exact K4|exact K5|exact K6|exact K7|exact K8|exact K9|exact K10|exact K11); (exact rfl); (exact wz rfl))|refine wq fun _ => ?_)
      refine Tri.cnd (fun h5 => ?_) (fun h5 => ?_)
      · have h5 : lt x y := hn.1 (by simpa using h5)
        refine Tri.back (m' := j - i) (by omega) ⟨j, rfl, by omega, hq.down (by omega) hy hx h5, ?_, rfl⟩ (Sub.refl _)
        rw [wr_i64 (by omega) (by omega)]
      · have h5 : ¬ lt x y := fun h => by have := hn.2 h; simp at h5; omega
        refine Tri.exit (by decide) ?_
        refine last fun _ x' y' hx' hy' => ?_
        rw [show j + 1 - 1 = j from rfl, hy] at hx'; rw [hx] at hy'; cases hx'; cases hy'; exact h5
    · refine Tri.exit (by decide) ?_
      exact last fun h => absurd h (by simp at h4; omega)
  unfold gpeq_b45
  repeat (first|refine wa ?_|refine wb ?_|refine wc ?_|refine wd ?_|refine we ?_|refine wf ?_|refine wg ?_|refine wh rfl ?_|refine wi rfl ?_|refine wj rfl ?_|refine wk rfl ?_|refine wl rfl ?_|refine wm (by decide) ?_|refine hdec _ _ _ _ ?_|refine wn ?_|refine wo ?_|refine wp (by decide) ?_|(apply Tri.ldE; (first|exact K0|exact K1|exact K2|exact K3|exact K4|exact K5|exact K6|exact K7|exact K8|exact K9|exact K10|exact K11); (exact rfl); (exact wz rfl))|(apply Tri.stE; (first|exact K0|exact K1|exact K2|exact K3|exact K4|exact K5|exact K6|exact K7|exact K8|exact K9|exact K10|exact K11); (exact rfl); (exact wz rfl))|(apply Tri.same; (first|exact K0|exact K1|exact K2|exact K3|exact K4|exact K5|exact K6|exact K7|exact K8|exact K9|exact K10|exact K11); (exact rfl); (exact wz rfl))|refine wq fun _ => ?_)
  refine Tri.cnd (fun h4 => ?_) (fun h4 => ?_)
  · have h4 : i < j0 := by simp at h4; omega
    refine Tri.ixld (T := T) (by first|exact K0|exact K1|exact K2|exact K3|exact K4|exact K5|exact K6|exact K7|exact K8|exact K9|exact K10|exact K11) rfl (by omega) (by omega) fun x hx => ?_
    rw [Int.toNat_natCast] at hx
    repeat (first|refine wa ?_|refine wb ?_|refine wc ?_|refine wd ?_|refine we ?_|refine wf ?_|refine wg ?_|refine wh rfl ?_|refine wi rfl ?_|refine wj rfl ?_|refine wk rfl ?_|refine wl rfl ?_|refine wm (by decide) ?_|refine hdec _ _ _ _ ?_|refine wn ?_|refine wo ?_|refine wp (by decide) ?_|(apply Tri.ldE; (first|exact K0|exact K1|exact K2|exact K3|exact K4|exact K5|exact K6|exact K7|exact K8|exact K9|exact K10|exact K11); (exact rfl); (exact wz rfl))|(apply Tri.stE; (first|exact K0|exact K1|exact K2|exact K3|exact K4|exact K5|exact K6|exact K7|exact K8|exact K9|exact K10|exact K11); (exact rfl); (exact wz rfl))|(apply Tri.same; (first|exact K0|exact K1|exact K2|exact K3|exact K4|exact K5|exact K6|exact K7|exact K8|exact K9|exact K10|exact K11); (exact rfl); (exact wz rfl))|refine wq fun _ => ?_)
    refine Tri.ixld (T := T) (by first|exact K0|exact K1|exact K2|exact K3|exact K4|exact K5|exact K6|exact K7|exact K8|exact K9|exact K10|exact K11) rfl (by omega) (by omega) fun y hy => ?_
    rw [Int.toNat_natCast] at hy
    repeat (first|refine wa ?_|refine wb ?_|refine wc ?_|refine wd ?_|refine we ?_|refine wf ?_|refine wg ?_|refine wh rfl ?_|refine wi rfl ?_|refine wj rfl ?_|refine wk rfl ?_|refine wl rfl ?_|refine wm (by decide) ?_|refine hdec _ _ _ _ ?_|refine wn ?_|refine wo ?_|refine wp (by decide) ?_|(apply Tri.ldE; (first|exact K0|exact K1|exact K2|exact K3|exact K4|exact K5|exact K6|exact K7|exact K8|exact K9|exact K10|exact K11); (exact rfl); (exact wz rfl))|(apply Tri.stE; (first|exact K0|exact K1|exact K2|exact K3|exact K4|exact K5|exact K6|exact K7|exact K8|exact K9|exact K10|exact K11); (exact rfl); (exact wz rfl))|(apply Tri.same; (first|exact K0|exact K1|exact K2|exact K3|exact K4|exact K5|exact K6|exact K7|exact K8|exact K9|exact K10|exact K11); (exact rfl); (exact wz rfl))|refine wq fun _ => ?_)
    refine Tri.callv rfl (hcmp x y) (by repeat (first|exact Picks.nil|(apply Picks.cons; (first|exact K0|exact K1|exact K2|exact K3|exact K4|exact K5|exact K6|exact K7|exact K8|exact K9|exact K10|exact K11)))) ?_
    rintro v L' ⟨n, rfl, hn, rfl⟩
    simp only [List.cons_append, List.nil_append]
    repeat (first|refine wa ?_|refine wb ?_|refine wc ?_|refine wd ?_|refine we ?_|refine wf ?_|refine wg ?_|refine wh rfl ?_|refine wi rfl ?_|refine wj rfl ?_|refine wk rfl ?_|refine wl rfl ?_|refine wm (by decide) ?_|refine hdec _ _ _ _ ?_|refine wn ?_|refine wo ?_|refine wp (by decide) ?_|(apply Tri.ldE; (first|exact K0|exact K1|exact K2|exact K3|exact K4|exact K5|exact K6|exact K7|exact K8|exact K9|exact K10|exact K11); (exact rfl); (exact wz rfl))|(apply Tri.stE; (first|exact K0|exact K1|exact K2|exact K3|exact K4|exact K5|exact K6|exact K7|exact K8|exact K9|exact K10|exact K11); (exact rfl); (exact wz rfl))|(apply Tri.same; (first|exact K0|exact K1|exact K2|exact K3|exact K4|exact K5|exact K6|exact K7|exact K8|exact K9|exact K10|exact K11); (exact rfl); (exact wz rfl))|refine wq fun _ => ?_)
    refine Tri.cnd (fun h5 => ?_) (fun h5 => ?_)
    · have h5 : ¬ lt x y := fun h => by have := hn.2 h; simp at h5; omega
      refine Tri.back (m' := j0 - (i + 1)) (by omega) ⟨i + 1, rfl, by omega, hp.up h4 hy hx h5, ?_, rfl⟩ (Sub.refl _)
      rw [wr_i64 (by omega) (by omega)]; rfl
    · have h5 : lt x y := hn.1 (by simpa using h5)
      refine Tri.exit (by decide) ?_
      refine next fun _ x' y' hx' hy' => ?_
      rw [hy] at hx'; rw [hx] at hy'; cases hx'; cases hy'; exact h5
  · refine Tri.exit (by decide) ?_
    exact next fun h => absurd h (by simp at h4; omega)
end
end Go.Proofs.Ytloiifcocgpnbaa.Fw
