/- The library's stable sort, at the wheel's timers. -/
import Derived.Test.YtonohkjngmcbmaaSpecA
import Derived.Test.YtonohkjngmcbmaaTreeC
import Derived.Test.YtonohkjngmcbmaaFwZc
namespace Go.Proofs.Ytonohkjngmcbmaa
open Go Go.Proofs.Ytonohkjngmcbmaa.Fw
set_option linter.unusedVariables false
set_option linter.unusedSimpArgs false

def cmpI (x y : Int) : Int := if x < y then -1 else if y < x then 1 else 0
def IsCmp (g : FuncId) (f c : List (Nat × Nat)) (κ : Tm → Int) : Prop :=
  ∀ a b : Tm, FSpec E g (ptrs f ++ [.ag (tmE.e a), .ag (tmE.e b)] ++ ptrs c) [] (fun v L' => v = .sc (.i .i64 (cmpI (κ a) (κ b))) ∧ L' = [])
theorem cmpI_neg {x y : Int} : decide (cmpI x y < 0) = decide (x < y) := by
  unfold cmpI; split
  · rename_i h; simp [h]
  · rename_i h; split <;> simp [h]

theorem swapR_spec {o : Option SlD} {A X M Y B : List Tm} {a b n : Nat} {g : FuncId} {f c : List (Nat × Nat)} (ha : a = A.length) (hb : b = A.length + X.length + M.length) (hx : X.length = n) (hy : Y.length = n)
    (hl : (A ++ X ++ M ++ Y ++ B).length ≤ 1000) : FSpec E 37 [.sc (.sl o), .sc (.i .i64 a), .sc (.i .i64 b), .sc (.i .i64 n), .sc (.fn g f c)] [.sl false tmE o (A ++ X ++ M ++ Y ++ B)]
    (fun v L' => v = .tu [] ∧ L' = [.sl false tmE o (A ++ Y ++ M ++ X ++ B)]) := by
  refine FSpec.of (Try.func37 : Try.prog.funcs[37]? = some Try.f37) (t37_eq _ _ _ _ _ _ _) fun F => ?_
  simp only [List.length_append] at hl
  unfold t37
  refine Tri.loop (I := fun m l' L => ∃ (i : Nat) (X1 X2 Y1 Y2 : List Tm), m = n - i ∧ X = X1 ++ X2 ∧ Y = Y1 ++ Y2 ∧ X1.length = i ∧ Y1.length = i ∧
    l' = [.sc (.sl o), .sc (.i .i64 a), .sc (.i .i64 b), .sc (.i .i64 n), .sc (.i .i64 i)] ∧ L = .sl false tmE o (A ++ Y1 ++ X2 ++ M ++ X1 ++ Y2 ++ B) :: F)
    ⟨0, [], X, [], Y, rfl, rfl, rfl, rfl, rfl, rfl, rfl⟩ (by simpa using Sub.refl _) ?_
  rintro m l' L ⟨i, X1, X2, Y1, Y2, rfl, rfl, rfl, h1, h2, rfl, rfl⟩
  simp only [List.length_append] at hx hy hb hl
  repeat (first|refine wa ?_|refine wb ?_|refine wc ?_|refine wd ?_|refine we ?_|refine wf ?_|refine wg ?_|refine wh rfl ?_|refine wi rfl ?_|refine wj rfl ?_|refine wk rfl ?_|refine wl rfl ?_|refine wm (by decide) ?_|refine wn ?_|refine wo ?_|refine wp (by decide) ?_|(apply Tri.ldE; (first|exact K0|exact K1|exact K2|exact K3|exact K4|exact K5|exact K6|exact K7|exact K8|exact K9|exact K10|exact K11); (exact rfl); (exact wz rfl))|(apply Tri.stE; (first|exact K0|exact K1|exact K2|exact K3|exact K4|exact K5|exact K6|exact K7|exact K8|exact K9|exact K10|exact K11); (exact rfl); (exact wz rfl))|(apply Tri.same; (first|exact K0|exact K1|exact K2|exact K3|exact K4|exact K5|exact K6|exact K7|exact K8|exact K9|exact K10|exact K11); (exact rfl); (exact wz rfl))|refine wq fun _ => ?_)
  refine Tri.cnd (fun hc => ?_) (fun hc => ?_)
  · have hc : i < n := by simp at hc; omega
    cases X2 with
    | nil => simp at hx; omega
    | cons x X2 =>
      cases Y2 with
      | nil => simp at hy; omega
      | cons y Y2 =>
        simp only [List.length_cons] at hx hy hl hb
        have ew1 : IntKind.wrap .i64 ((b : Int) + i) = ((b + i : Nat) : Int) := by rw [wr_i64 (by omega) (by omega)]; omega
        have ew2 : IntKind.wrap .i64 ((a : Int) + i) = ((a + i : Nat) : Int) := by rw [wr_i64 (by omega) (by omega)]; omega
        rw [ew1, ew2]
        have e1 : A ++ Y1 ++ x :: X2 ++ M ++ X1 ++ y :: Y2 ++ B = (A ++ Y1 ++ x :: X2 ++ M ++ X1) ++ y :: (Y2 ++ B) := by simp
        have e2 : A ++ Y1 ++ x :: X2 ++ M ++ X1 ++ y :: Y2 ++ B = (A ++ Y1) ++ x :: (X2 ++ M ++ X1 ++ y :: Y2 ++ B) := by simp
        have hbi : b + i = (A ++ Y1 ++ x :: X2 ++ M ++ X1).length := by simp; omega
        have hai : a + i = (A ++ Y1).length := by simp; omega
        refine Tri.ixld (T := tmE) (by first|exact K0|exact K1|exact K2|exact K3|exact K4|exact K5|exact K6|exact K7|exact K8|exact K9|exact K10|exact K11) rfl (by omega) (by simp; omega) fun y' hy' => ?_
        rw [Int.toNat_natCast, e1, get_mid' hbi] at hy'; cases hy'
        repeat (first|refine wa ?_|refine wb ?_|refine wc ?_|refine wd ?_|refine we ?_|refine wf ?_|refine wg ?_|refine wh rfl ?_|refine wi rfl ?_|refine wj rfl ?_|refine wk rfl ?_|refine wl rfl ?_|refine wm (by decide) ?_|refine wn ?_|refine wo ?_|refine wp (by decide) ?_|(apply Tri.ldE; (first|exact K0|exact K1|exact K2|exact K3|exact K4|exact K5|exact K6|exact K7|exact K8|exact K9|exact K10|exact K11); (exact rfl); (exact wz rfl))|(apply Tri.stE; (first|exact K0|exact K1|exact K2|exact K3|exact K4|exact K5|exact K6|exact K7|exact K8|exact K9|exact K10|exact K11); (exact rfl); (exact wz rfl))|(apply Tri.same; (first|exact K0|exact K1|exact K2|exact K3|exact K4|exact K5|exact K6|exact K7|exact K8|exact K9|exact K10|exact K11); (exact rfl); (exact wz rfl))|refine wq fun _ => ?_)
        refine Tri.ixld (T := tmE) (by first|exact K0|exact K1|exact K2|exact K3|exact K4|exact K5|exact K6|exact K7|exact K8|exact K9|exact K10|exact K11) rfl (by omega) (by simp; omega) fun x' hx' => ?_
        rw [Int.toNat_natCast, e2, get_mid' hai] at hx'; cases hx'
        repeat (first|refine wa ?_|refine wb ?_|refine wc ?_|refine wd ?_|refine we ?_|refine wf ?_|refine wg ?_|refine wh rfl ?_|refine wi rfl ?_|refine wj rfl ?_|refine wk rfl ?_|refine wl rfl ?_|refine wm (by decide) ?_|refine wn ?_|refine wo ?_|refine wp (by decide) ?_|(apply Tri.ldE; (first|exact K0|exact K1|exact K2|exact K3|exact K4|exact K5|exact K6|exact K7|exact K8|exact K9|exact K10|exact K11); (exact rfl); (exact wz rfl))|(apply Tri.stE; (first|exact K0|exact K1|exact K2|exact K3|exact K4|exact K5|exact K6|exact K7|exact K8|exact K9|exact K10|exact K11); (exact rfl); (exact wz rfl))|(apply Tri.same; (first|exact K0|exact K1|exact K2|exact K3|exact K4|exact K5|exact K6|exact K7|exact K8|exact K9|exact K10|exact K11); (exact rfl); (exact wz rfl))|refine wq fun _ => ?_)
        refine Tri.ixst (T := tmE) y (by first|exact K0|exact K1|exact K2|exact K3|exact K4|exact K5|exact K6|exact K7|exact K8|exact K9|exact K10|exact K11) rfl (by omega) (by simp; omega) rfl ?_
        rw [Int.toNat_natCast, e2, set_mid' hai]
        refine Tri.ixst (T := tmE) x (by first|exact K0|exact K1|exact K2|exact K3|exact K4|exact K5|exact K6|exact K7|exact K8|exact K9|exact K10|exact K11) rfl (by omega) (by simp; omega) rfl ?_
        have e3 : (A ++ Y1) ++ y :: (X2 ++ M ++ X1 ++ y :: Y2 ++ B) = (A ++ Y1 ++ y :: X2 ++ M ++ X1) ++ y :: (Y2 ++ B) := by simp
        have hbi' : b + i = (A ++ Y1 ++ y :: X2 ++ M ++ X1).length := by simp; omega
        rw [Int.toNat_natCast, e3, set_mid' hbi']
        refine Tri.back (m' := n - (i + 1)) (by omega) ⟨i + 1, X1 ++ [x], X2, Y1 ++ [y], Y2, rfl, by simp, by simp, by simp [h1], by simp [h2], ?_, rfl⟩ (by simpa using Sub.refl _)
        rw [wr_i64 (by omega) (by omega)]; rfl
  · have hc : n ≤ i := by simp at hc; omega
    have hX2 : X2 = [] := List.length_eq_zero_iff.1 (by omega)
    have hY2 : Y2 = [] := List.length_eq_zero_iff.1 (by omega)
    subst hX2; subst hY2
    repeat (first|refine wa ?_|refine wb ?_|refine wc ?_|refine wd ?_|refine we ?_|refine wf ?_|refine wg ?_|refine wh rfl ?_|refine wi rfl ?_|refine wj rfl ?_|refine wk rfl ?_|refine wl rfl ?_|refine wm (by decide) ?_|refine wn ?_|refine wo ?_|refine wp (by decide) ?_|(apply Tri.ldE; (first|exact K0|exact K1|exact K2|exact K3|exact K4|exact K5|exact K6|exact K7|exact K8|exact K9|exact K10|exact K11); (exact rfl); (exact wz rfl))|(apply Tri.stE; (first|exact K0|exact K1|exact K2|exact K3|exact K4|exact K5|exact K6|exact K7|exact K8|exact K9|exact K10|exact K11); (exact rfl); (exact wz rfl))|(apply Tri.same; (first|exact K0|exact K1|exact K2|exact K3|exact K4|exact K5|exact K6|exact K7|exact K8|exact K9|exact K10|exact K11); (exact rfl); (exact wz rfl))|refine wq fun _ => ?_)
    exact Tri.retF ⟨rfl, rfl⟩ (by simpa using Sub.refl _)

theorem rotate_spec {o : Option SlD} {A X Y B : List Tm} {a m b : Nat} {g : FuncId} {f c : List (Nat × Nat)} (ha : a = A.length) (hm : m = A.length + X.length) (hb : b = A.length + X.length + Y.length) (hx : 0 < X.length) (hy : 0 < Y.length)
    (hl : (A ++ X ++ Y ++ B).length ≤ 1000) : FSpec E 36 [.sc (.sl o), .sc (.i .i64 a), .sc (.i .i64 m), .sc (.i .i64 b), .sc (.fn g f c)] [.sl false tmE o (A ++ X ++ Y ++ B)]
    (fun v L' => v = .tu [] ∧ L' = [.sl false tmE o (A ++ Y ++ X ++ B)]) := by
  refine FSpec.of (Try.func36 : Try.prog.funcs[36]? = some Try.f36) (t36_eq _ _ _ _ _ _ _) fun F => ?_
  simp only [List.length_append] at hl
  unfold t36
  refine Tri.loop (I := fun k l' L => ∃ (A' U V B' : List Tm), k = U.length + V.length ∧ A' ++ V ++ U ++ B' = A ++ Y ++ X ++ B ∧ 0 < U.length ∧ 0 < V.length ∧ A'.length + U.length = m ∧
    l' = [.sc (.sl o), .sc (.i .i64 m), .sc (.fn g f c), .sc (.i .i64 U.length), .sc (.i .i64 V.length)] ∧ L = .sl false tmE o (A' ++ U ++ V ++ B') :: F)
    ⟨A, X, Y, B, rfl, rfl, hx, hy, hm.symm, ?_, rfl⟩ (Sub.refl _) ?_
  · rw [wr_i64 (by omega) (by omega), wr_i64 (by omega) (by omega), show (m : Int) - a = X.length by omega, show (b : Int) - m = Y.length by omega]
  rintro k l' L ⟨A', U, V, B', rfl, hfin, hu, hv, hm', rfl, rfl⟩
  have hlen := congrArg List.length hfin
  simp only [List.length_append] at hlen
  repeat (first|refine wa ?_|refine wb ?_|refine wc ?_|refine wd ?_|refine we ?_|refine wf ?_|refine wg ?_|refine wh rfl ?_|refine wi rfl ?_|refine wj rfl ?_|refine wk rfl ?_|refine wl rfl ?_|refine wm (by decide) ?_|refine wn ?_|refine wo ?_|refine wp (by decide) ?_|(apply Tri.ldE; (first|exact K0|exact K1|exact K2|exact K3|exact K4|exact K5|exact K6|exact K7|exact K8|exact K9|exact K10|exact K11); (exact rfl); (exact wz rfl))|(apply Tri.stE; (first|exact K0|exact K1|exact K2|exact K3|exact K4|exact K5|exact K6|exact K7|exact K8|exact K9|exact K10|exact K11); (exact rfl); (exact wz rfl))|(apply Tri.same; (first|exact K0|exact K1|exact K2|exact K3|exact K4|exact K5|exact K6|exact K7|exact K8|exact K9|exact K10|exact K11); (exact rfl); (exact wz rfl))|refine wq fun _ => ?_)
  refine Tri.cnd (fun hc => ?_) (fun hc => ?_)
  · have hc : ¬ U.length = V.length := by simp at hc; omega
    refine Tri.cnd (fun hd => ?_) (fun hd => ?_)
    · have hd : V.length < U.length := by simp at hd; omega
      have hU : U = U.take V.length ++ U.drop V.length := (List.take_append_drop _ _).symm
      generalize h1 : U.take V.length = U1 at hU
      generalize h2 : U.drop V.length = U2 at hU
      have hU1 : U1.length = V.length := by rw [← h1]; simp; omega
      clear h1 h2
      subst hU
      simp only [List.length_append] at *
      rw [show IntKind.wrap .i64 ((m : Int) - ((U1.length + U2.length : Nat) : Int)) = ((A'.length : Nat) : Int) by rw [wr_i64 (by omega) (by omega)]; omega]
      rw [show A' ++ (U1 ++ U2) ++ V ++ B' = A' ++ U1 ++ U2 ++ V ++ B' by simp]
      refine Tri.call (swapR_spec (A := A') (X := U1) (M := U2) (Y := V) (B := B') rfl (by omega) hU1 rfl (by simp only [List.length_append]; omega)) (by repeat (first|exact Picks.nil|(apply Picks.cons; (first|exact K0|exact K1|exact K2|exact K3|exact K4|exact K5|exact K6|exact K7|exact K8|exact K9|exact K10|exact K11)))) ?_
      rintro v L' ⟨rfl, rfl⟩
      simp only [List.cons_append, List.nil_append]
      refine Tri.back (m' := U2.length + U1.length) (by omega) ⟨A' ++ V, U2, U1, B', rfl, by rw [← hfin]; simp, by omega, by omega, by simp; omega, ?_, rfl⟩ (by simpa using Sub.refl _)
      rw [wr_i64 (by omega) (by omega), hU1, show ((V.length + U2.length : Nat) : Int) - V.length = U2.length by omega]
    · have hd : U.length < V.length := by simp at hd; omega
      have hV : V = V.take (V.length - U.length) ++ V.drop (V.length - U.length) := (List.take_append_drop _ _).symm
      generalize h1 : V.take (V.length - U.length) = V1 at hV
      generalize h2 : V.drop (V.length - U.length) = V2 at hV
      have hV1 : V2.length = U.length := by rw [← h2]; simp; omega
      clear h1 h2
      subst hV
      simp only [List.length_append] at *
      rw [show IntKind.wrap .i64 ((m : Int) - (U.length : Nat)) = ((A'.length : Nat) : Int) by rw [wr_i64 (by omega) (by omega)]; omega]
      rw [show IntKind.wrap .i64 (IntKind.wrap .i64 ((m : Int) + ((V1.length + V2.length : Nat) : Int)) - (U.length : Nat)) = ((A'.length + U.length + V1.length : Nat) : Int) by rw [wr_i64 (n := (m : Int) + ((V1.length + V2.length : Nat) : Int)) (by omega) (by omega), wr_i64 (by omega) (by omega)]; omega]
      rw [show A' ++ U ++ (V1 ++ V2) ++ B' = A' ++ U ++ V1 ++ V2 ++ B' by simp]
      refine Tri.call (swapR_spec (A := A') (X := U) (M := V1) (Y := V2) (B := B') rfl rfl rfl hV1 (by simp only [List.length_append]; omega)) (by repeat (first|exact Picks.nil|(apply Picks.cons; (first|exact K0|exact K1|exact K2|exact K3|exact K4|exact K5|exact K6|exact K7|exact K8|exact K9|exact K10|exact K11)))) ?_
      rintro v L' ⟨rfl, rfl⟩
      simp only [List.cons_append, List.nil_append]
      refine Tri.back (m' := V2.length + V1.length) (by omega) ⟨A', V2, V1, U ++ B', rfl, by rw [← hfin]; simp, by omega, by omega, by omega, ?_, rfl⟩ (by simpa using Sub.refl _)
      rw [wr_i64 (by omega) (by omega), hV1, show ((V1.length + U.length : Nat) : Int) - U.length = V1.length by omega]
  · have hc : U.length = V.length := by simp at hc; omega
    repeat (first|refine wa ?_|refine wb ?_|refine wc ?_|refine wd ?_|refine we ?_|refine wf ?_|refine wg ?_|refine wh rfl ?_|refine wi rfl ?_|refine wj rfl ?_|refine wk rfl ?_|refine wl rfl ?_|refine wm (by decide) ?_|refine wn ?_|refine wo ?_|refine wp (by decide) ?_|(apply Tri.ldE; (first|exact K0|exact K1|exact K2|exact K3|exact K4|exact K5|exact K6|exact K7|exact K8|exact K9|exact K10|exact K11); (exact rfl); (exact wz rfl))|(apply Tri.stE; (first|exact K0|exact K1|exact K2|exact K3|exact K4|exact K5|exact K6|exact K7|exact K8|exact K9|exact K10|exact K11); (exact rfl); (exact wz rfl))|(apply Tri.same; (first|exact K0|exact K1|exact K2|exact K3|exact K4|exact K5|exact K6|exact K7|exact K8|exact K9|exact K10|exact K11); (exact rfl); (exact wz rfl))|refine wq fun _ => ?_)
    rw [show IntKind.wrap .i64 ((m : Int) - (U.length : Nat)) = ((A'.length : Nat) : Int) by rw [wr_i64 (by omega) (by omega)]; omega]
    rw [show A' ++ U ++ V ++ B' = A' ++ U ++ [] ++ V ++ B' by simp]
    refine Tri.call (swapR_spec (A := A') (X := U) (M := []) (Y := V) (B := B') rfl (by simp; omega) rfl hc.symm (by simp only [List.length_append, List.length_nil]; omega)) (by repeat (first|exact Picks.nil|(apply Picks.cons; (first|exact K0|exact K1|exact K2|exact K3|exact K4|exact K5|exact K6|exact K7|exact K8|exact K9|exact K10|exact K11)))) ?_
    rintro v L' ⟨rfl, rfl⟩
    simp only [List.cons_append, List.nil_append]
    refine Tri.retF ⟨rfl, rfl⟩ ?_
    rw [← hfin]; simpa using Sub.refl _
end Go.Proofs.Ytonohkjngmcbmaa
