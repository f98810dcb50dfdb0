/- What the document's answer comes to: See, Addr. -/
import Derived.Test.YtbgmnnfajohmaaaRD
namespace Go.Proofs.Ytbgmnnfajohmaaa
open Go Go.Proofs.Ytbgmnnfajohmaaa.Fw
set_option linter.unusedVariables false
set_option linter.unusedSimpArgs false

def befW (w : Int) (t : Vt) : Bool := decide (t.who < w)
def cutW (w : Int) : List Vt → List Vt
  | [] => []
  | y :: R => if y.who = w then R else y :: R
def insX (X : List Vt) (v : Vt) : List Vt := X.takeWhile (befW v.who) ++ v :: cutW v.who (X.dropWhile (befW v.who))
theorem tw_mid {α : Type} {p : α → Bool} : ∀ {D R : List α}, (∀ y ∈ D, p y = true) → (∀ y, R.head? = some y → p y = false) → (D ++ R).takeWhile p = D ∧ (D ++ R).dropWhile p = R
  | [], [], _, _ => ⟨rfl, rfl⟩
  | [], y :: R, _, h => by simp [List.takeWhile_cons, List.dropWhile_cons, h y rfl]
  | d :: D, R, h, h' => by
    have ih := tw_mid (D := D) (R := R) (fun y hy => h y (by simp [hy])) h'
    simp [List.takeWhile_cons, List.dropWhile_cons, h d (by simp), ih]
def seeX (r : Rx) (who ip port now : Int) : Int × Rx := if 1 ≤ who ∧ who ≤ 32 ∧ noneB ip port = false ∧ now ≤ 4611686018427387904 then (0, { r with X := insX r.X ⟨who, ip, port, now⟩ }) else (1, r)
theorem rsee_spec {p : Nat} {r : Rx} {who ip port now : Int} (hX : r.X.length ≤ 100) : FSpec E 25 [.sc (.p (some (p, 0))), .sc (.i .i64 who), .ag [.i .u32 ip, .i .u16 port], .sc (.i .u64 now)] [Rf p r]
    (fun v L' => v = .sc (.i .i64 (seeX r who ip port now).1) ∧ L' = [Rf p (seeX r who ip port now).2]) := by
  refine FSpec.of (Try.func25 : Try.prog.funcs[25]? = some Try.f25) (t25_eq _ _ _ _ _ _) fun F => ?_
  unfold t25
  refine Tri.al fun a0 => ?_
  repeat (first|refine wa ?_|refine wb ?_|refine wc ?_|refine wd ?_|refine we ?_|refine wf ?_|refine wg ?_|refine wh rfl ?_|refine wi rfl ?_|refine wj rfl ?_|refine wk rfl ?_|refine wl rfl ?_|refine wm (by decide) ?_|(apply Tri.ldE; (first|exact K0|exact K1|exact K2|exact K3|exact K4|exact K5|exact K6|exact K7|exact K8|exact K9|exact K10|exact K11); (exact rfl); (exact wz rfl))|(apply Tri.stE; (first|exact K0|exact K1|exact K2|exact K3|exact K4|exact K5|exact K6|exact K7|exact K8|exact K9|exact K10|exact K11); (exact rfl); (exact wz rfl))|(apply Tri.same; (first|exact K0|exact K1|exact K2|exact K3|exact K4|exact K5|exact K6|exact K7|exact K8|exact K9|exact K10|exact K11); (exact rfl); (exact wz rfl))|refine wq fun _ => ?_)
  refine Tri.call rnone_spec (by repeat (first|exact Picks.nil|(apply Picks.cons; (first|exact K0|exact K1|exact K2|exact K3|exact K4|exact K5|exact K6|exact K7|exact K8|exact K9|exact K10|exact K11)))) ?_
  rintro v L' ⟨rfl, rfl⟩
  simp only [List.cons_append, List.nil_append]
  repeat (first|refine wa ?_|refine wb ?_|refine wc ?_|refine wd ?_|refine we ?_|refine wf ?_|refine wg ?_|refine wh rfl ?_|refine wi rfl ?_|refine wj rfl ?_|refine wk rfl ?_|refine wl rfl ?_|refine wm (by decide) ?_|(apply Tri.ldE; (first|exact K0|exact K1|exact K2|exact K3|exact K4|exact K5|exact K6|exact K7|exact K8|exact K9|exact K10|exact K11); (exact rfl); (exact wz rfl))|(apply Tri.stE; (first|exact K0|exact K1|exact K2|exact K3|exact K4|exact K5|exact K6|exact K7|exact K8|exact K9|exact K10|exact K11); (exact rfl); (exact wz rfl))|(apply Tri.same; (first|exact K0|exact K1|exact K2|exact K3|exact K4|exact K5|exact K6|exact K7|exact K8|exact K9|exact K10|exact K11); (exact rfl); (exact wz rfl))|refine wq fun _ => ?_)
  refine Tri.cnd (fun h1 => ?_) (fun h1 => ?_)
  · have hk : seeX r who ip port now = (1, r) := by unfold seeX; simp at h1; rw [if_neg (by omega)]
    rw [hk]
    exact Tri.retF ⟨rfl, rfl⟩ (by repeat (first|exact Sub.refl _|exact Sub.nil _|(apply Sub.cons; (first|exact K0|exact K1|exact K2|exact K3|exact K4|exact K5|exact K6|exact K7|exact K8|exact K9|exact K10|exact K11))|apply Sub.skip))
  refine Tri.cnd (fun h2 => ?_) (fun h2 => ?_)
  · have hk : seeX r who ip port now = (1, r) := by unfold seeX; simp at h2; rw [if_neg (by omega)]
    rw [hk]
    exact Tri.retF ⟨rfl, rfl⟩ (by repeat (first|exact Sub.refl _|exact Sub.nil _|(apply Sub.cons; (first|exact K0|exact K1|exact K2|exact K3|exact K4|exact K5|exact K6|exact K7|exact K8|exact K9|exact K10|exact K11))|apply Sub.skip))
  refine Tri.cnd (fun h3 => ?_) (fun h3 => ?_)
  · have hk : seeX r who ip port now = (1, r) := by unfold seeX; rw [if_neg (by simp [h3])]
    rw [hk]
    exact Tri.retF ⟨rfl, rfl⟩ (by repeat (first|exact Sub.refl _|exact Sub.nil _|(apply Sub.cons; (first|exact K0|exact K1|exact K2|exact K3|exact K4|exact K5|exact K6|exact K7|exact K8|exact K9|exact K10|exact K11))|apply Sub.skip))
  refine Tri.cnd (fun h4 => ?_) (fun h4 => ?_)
  · have hk : seeX r who ip port now = (1, r) := by unfold seeX; simp at h4; rw [if_neg (by omega)]
    rw [hk]
    exact Tri.retF ⟨rfl, rfl⟩ (by repeat (first|exact Sub.refl _|exact Sub.nil _|(apply Sub.cons; (first|exact K0|exact K1|exact K2|exact K3|exact K4|exact K5|exact K6|exact K7|exact K8|exact K9|exact K10|exact K11))|apply Sub.skip))
  have hk : seeX r who ip port now = (0, { r with X := insX r.X ⟨who, ip, port, now⟩ }) := by
    simp at h1 h2 h4; unfold seeX; rw [if_pos ⟨by omega, by omega, h3, by omega⟩]
  rw [hk]
  clear h1 h2 h3 h4 hk
  refine Tri.loop (I := fun m l' L => ∃ D R : List Vt, m = R.length ∧ r.X = D ++ R ∧ (∀ y ∈ D, befW who y = true) ∧ l' = [.sc (.p (some (p, 0))), .sc (.i .i64 who), .sc (.i .u64 now), .sc (.p (some (a0, 0))), .sc (.i .i64 D.length)] ∧ L = Rf p r :: pt a0 [.i .u32 ip, .i .u16 port] :: F) ⟨[], r.X, rfl, rfl, by simp, rfl, rfl⟩ (by repeat (first|exact Sub.refl _|exact Sub.nil _|(apply Sub.cons; (first|exact K0|exact K1|exact K2|exact K3|exact K4|exact K5|exact K6|exact K7|exact K8|exact K9|exact K10|exact K11))|apply Sub.skip)) ?_
  rintro m l' L ⟨D, R, rfl, hDR, hD, rfl, rfl⟩
  have hlen : r.X.length = D.length + R.length := by rw [hDR]; simp
  unfold t25_b8
  repeat (first|refine wa ?_|refine wb ?_|refine wc ?_|refine wd ?_|refine we ?_|refine wf ?_|refine wg ?_|refine wh rfl ?_|refine wi rfl ?_|refine wj rfl ?_|refine wk rfl ?_|refine wl rfl ?_|refine wm (by decide) ?_|(apply Tri.ldE; (first|exact K0|exact K1|exact K2|exact K3|exact K4|exact K5|exact K6|exact K7|exact K8|exact K9|exact K10|exact K11); (exact rfl); (exact wz rfl))|(apply Tri.stE; (first|exact K0|exact K1|exact K2|exact K3|exact K4|exact K5|exact K6|exact K7|exact K8|exact K9|exact K10|exact K11); (exact rfl); (exact wz rfl))|(apply Tri.same; (first|exact K0|exact K1|exact K2|exact K3|exact K4|exact K5|exact K6|exact K7|exact K8|exact K9|exact K10|exact K11); (exact rfl); (exact wz rfl))|refine wq fun _ => ?_)
  refine Rf.op (by first|exact K0|exact K1|exact K2|exact K3|exact K4|exact K5|exact K6|exact K7|exact K8|exact K9|exact K10|exact K11) fun o1 o2 e1 e2 => ?_
  have tail : ∀ (j : Nat) (o5 : Option SlD), j ≤ r.X.length → D ++ [⟨who, ip, port, now⟩] ++ r.X.drop j = insX r.X ⟨who, ip, port, now⟩ → Tri E (pt p (rxC r o1 o2) :: .sl false vE o1 r.X :: .sl false boE o2 r.past :: .sl false vE o5 (D ++ [⟨who, ip, port, now⟩]) :: F) (t25_k74 0 [.sc (.p (some (p, 0))), .sc (.i .i64 j), .sc (.sl o5)])
      (RQ F fun v L' => v = .sc (.i .i64 0) ∧ L' = [Rf p { r with X := insX r.X ⟨who, ip, port, now⟩ }]) := by
    intro j o5 hj he
    unfold t25_k74
    repeat (first|refine wa ?_|refine wb ?_|refine wc ?_|refine wd ?_|refine we ?_|refine wf ?_|refine wg ?_|refine wh rfl ?_|refine wi rfl ?_|refine wj rfl ?_|refine wk rfl ?_|refine wl rfl ?_|refine wm (by decide) ?_|(apply Tri.ldE; (first|exact K0|exact K1|exact K2|exact K3|exact K4|exact K5|exact K6|exact K7|exact K8|exact K9|exact K10|exact K11); (exact rfl); (exact wz rfl))|(apply Tri.stE; (first|exact K0|exact K1|exact K2|exact K3|exact K4|exact K5|exact K6|exact K7|exact K8|exact K9|exact K10|exact K11); (exact rfl); (exact wz rfl))|(apply Tri.same; (first|exact K0|exact K1|exact K2|exact K3|exact K4|exact K5|exact K6|exact K7|exact K8|exact K9|exact K10|exact K11); (exact rfl); (exact wz rfl))|refine wq fun _ => ?_)
    refine Tri.slcLds (T := vE) (o := o1) (l := r.X) j r.X.length (by first|exact K0|exact K1|exact K2|exact K3|exact K4|exact K5|exact K6|exact K7|exact K8|exact K9|exact K10|exact K11) rfl rfl rfl hj (Nat.le_refl _) fun o4 h4 => ?_
    rw [List.take_length]
    refine Tri.app (T := vE) (o := o5) (l := D ++ [⟨who, ip, port, now⟩]) (r.X.drop j) (by first|exact K0|exact K1|exact K2|exact K3|exact K4|exact K5|exact K6|exact K7|exact K8|exact K9|exact K10|exact K11) rfl rfl (by simp; omega) (by decide) (by decide) (by simp [appBound]; omega) fun o6 => ?_
    rw [he]
    repeat (first|refine wa ?_|refine wb ?_|refine wc ?_|refine wd ?_|refine we ?_|refine wf ?_|refine wg ?_|refine wh rfl ?_|refine wi rfl ?_|refine wj rfl ?_|refine wk rfl ?_|refine wl rfl ?_|refine wm (by decide) ?_|(apply Tri.ldE; (first|exact K0|exact K1|exact K2|exact K3|exact K4|exact K5|exact K6|exact K7|exact K8|exact K9|exact K10|exact K11); (exact rfl); (exact wz rfl))|(apply Tri.stE; (first|exact K0|exact K1|exact K2|exact K3|exact K4|exact K5|exact K6|exact K7|exact K8|exact K9|exact K10|exact K11); (exact rfl); (exact wz rfl))|(apply Tri.same; (first|exact K0|exact K1|exact K2|exact K3|exact K4|exact K5|exact K6|exact K7|exact K8|exact K9|exact K10|exact K11); (exact rfl); (exact wz rfl))|refine wq fun _ => ?_)
    refine Rf.mk (r := { r with X := insX r.X ⟨who, ip, port, now⟩ }) (o1 := o6) (o2 := o2) (by first|exact K0|exact K1|exact K2|exact K3|exact K4|exact K5|exact K6|exact K7|exact K8|exact K9|exact K10|exact K11) (by first|exact K0|exact K1|exact K2|exact K3|exact K4|exact K5|exact K6|exact K7|exact K8|exact K9|exact K10|exact K11) (by first|exact K0|exact K1|exact K2|exact K3|exact K4|exact K5|exact K6|exact K7|exact K8|exact K9|exact K10|exact K11) ?_
    exact Tri.retF ⟨rfl, rfl⟩ (by repeat (first|exact Sub.refl _|exact Sub.nil _|(apply Sub.cons; (first|exact K0|exact K1|exact K2|exact K3|exact K4|exact K5|exact K6|exact K7|exact K8|exact K9|exact K10|exact K11))|apply Sub.skip))
  have fin : (∀ y, R.head? = some y → befW who y = false) → Tri E (pt p (rxC r o1 o2) :: .sl false vE o1 r.X :: .sl false boE o2 r.past :: pt a0 [.i .u32 ip, .i .u16 port] :: F) (t25_k8 2 [.sc (.p (some (p, 0))), .sc (.i .i64 who), .sc (.i .u64 now), .sc (.p (some (a0, 0))), .sc (.i .i64 D.length)])
      (RQ F fun v L' => v = .sc (.i .i64 0) ∧ L' = [Rf p { r with X := insX r.X ⟨who, ip, port, now⟩ }]) := by
    intro hR
    obtain ⟨w1, w2⟩ := tw_mid hD hR
    have hins : insX r.X ⟨who, ip, port, now⟩ = D ++ ⟨who, ip, port, now⟩ :: cutW who R := by
      unfold insX; rw [hDR]; simp only; rw [w1, w2]
    unfold t25_k8
    repeat (first|refine wa ?_|refine wb ?_|refine wc ?_|refine wd ?_|refine we ?_|refine wf ?_|refine wg ?_|refine wh rfl ?_|refine wi rfl ?_|refine wj rfl ?_|refine wk rfl ?_|refine wl rfl ?_|refine wm (by decide) ?_|(apply Tri.ldE; (first|exact K0|exact K1|exact K2|exact K3|exact K4|exact K5|exact K6|exact K7|exact K8|exact K9|exact K10|exact K11); (exact rfl); (exact wz rfl))|(apply Tri.stE; (first|exact K0|exact K1|exact K2|exact K3|exact K4|exact K5|exact K6|exact K7|exact K8|exact K9|exact K10|exact K11); (exact rfl); (exact wz rfl))|(apply Tri.same; (first|exact K0|exact K1|exact K2|exact K3|exact K4|exact K5|exact K6|exact K7|exact K8|exact K9|exact K10|exact K11); (exact rfl); (exact wz rfl))|refine wq fun _ => ?_)
    refine Tri.slcLds (T := vE) (o := o1) (l := r.X) 0 D.length (by first|exact K0|exact K1|exact K2|exact K3|exact K4|exact K5|exact K6|exact K7|exact K8|exact K9|exact K10|exact K11) rfl rfl rfl (by omega) (by omega) fun o4 h4 => ?_
    refine Tri.mkN false vE ?_
    have hDX : (r.X.take D.length).drop 0 = D := by rw [hDR]; simp
    rw [hDX]
    refine Tri.app (T := vE) (o := none) (l := []) D (by first|exact K0|exact K1|exact K2|exact K3|exact K4|exact K5|exact K6|exact K7|exact K8|exact K9|exact K10|exact K11) rfl rfl (by omega) (by decide) (by decide) (by simp [appBound]; omega) fun o5 => ?_
    repeat (first|refine wa ?_|refine wb ?_|refine wc ?_|refine wd ?_|refine we ?_|refine wf ?_|refine wg ?_|refine wh rfl ?_|refine wi rfl ?_|refine wj rfl ?_|refine wk rfl ?_|refine wl rfl ?_|refine wm (by decide) ?_|refine wn ?_|refine wo ?_|refine wp (by decide) ?_|(apply Tri.ldE; (first|exact K0|exact K1|exact K2|exact K3|exact K4|exact K5|exact K6|exact K7|exact K8|exact K9|exact K10|exact K11); (exact rfl); (exact wz rfl))|(apply Tri.stE; (first|exact K0|exact K1|exact K2|exact K3|exact K4|exact K5|exact K6|exact K7|exact K8|exact K9|exact K10|exact K11); (exact rfl); (exact wz rfl))|(apply Tri.same; (first|exact K0|exact K1|exact K2|exact K3|exact K4|exact K5|exact K6|exact K7|exact K8|exact K9|exact K10|exact K11); (exact rfl); (exact wz rfl))|refine wq fun _ => ?_)
    refine Tri.ldsD (d := ⟨_, 0, 1, 1, 4⟩) (by first|exact K0|exact K1|exact K2|exact K3|exact K4|exact K5|exact K6|exact K7|exact K8|exact K9|exact K10|exact K11) rfl (Nat.le_refl _) (Nat.le_of_ble_eq_true rfl) ?_
    refine Tri.app (T := vE) (o := o5) (l := [] ++ D) [⟨who, ip, port, now⟩] (by first|exact K0|exact K1|exact K2|exact K3|exact K4|exact K5|exact K6|exact K7|exact K8|exact K9|exact K10|exact K11) rfl rfl rfl (by decide) (by decide) (by simp [appBound]; omega) fun o6 => ?_
    rw [List.nil_append]
    repeat (first|refine wa ?_|refine wb ?_|refine wc ?_|refine wd ?_|refine we ?_|refine wf ?_|refine wg ?_|refine wh rfl ?_|refine wi rfl ?_|refine wj rfl ?_|refine wk rfl ?_|refine wl rfl ?_|refine wm (by decide) ?_|(apply Tri.ldE; (first|exact K0|exact K1|exact K2|exact K3|exact K4|exact K5|exact K6|exact K7|exact K8|exact K9|exact K10|exact K11); (exact rfl); (exact wz rfl))|(apply Tri.stE; (first|exact K0|exact K1|exact K2|exact K3|exact K4|exact K5|exact K6|exact K7|exact K8|exact K9|exact K10|exact K11); (exact rfl); (exact wz rfl))|(apply Tri.same; (first|exact K0|exact K1|exact K2|exact K3|exact K4|exact K5|exact K6|exact K7|exact K8|exact K9|exact K10|exact K11); (exact rfl); (exact wz rfl))|refine wq fun _ => ?_)
    rw [e1]
    cases R with
    | nil =>
      refine Tri.cndF (by simp at hlen; simp; omega) ?_
      refine wn ?_
      refine wo ?_
      exact (tail D.length o6 (by omega) (by rw [hins, hDR]; simp [cutW])).sub (by repeat (first|exact Sub.refl _|exact Sub.nil _|(apply Sub.cons; (first|exact K0|exact K1|exact K2|exact K3|exact K4|exact K5|exact K6|exact K7|exact K8|exact K9|exact K10|exact K11))|apply Sub.skip))
    | cons y R =>
      simp only [List.length_cons] at hlen
      have hy : r.X[D.length]? = some y := by rw [hDR]; simp
      refine Tri.cndT (by simp; omega) ?_
      repeat (first|refine wa ?_|refine wb ?_|refine wc ?_|refine wd ?_|refine we ?_|refine wf ?_|refine wg ?_|refine wh rfl ?_|refine wi rfl ?_|refine wj rfl ?_|refine wk rfl ?_|refine wl rfl ?_|refine wm (by decide) ?_|(apply Tri.ldE; (first|exact K0|exact K1|exact K2|exact K3|exact K4|exact K5|exact K6|exact K7|exact K8|exact K9|exact K10|exact K11); (exact rfl); (exact wz rfl))|(apply Tri.stE; (first|exact K0|exact K1|exact K2|exact K3|exact K4|exact K5|exact K6|exact K7|exact K8|exact K9|exact K10|exact K11); (exact rfl); (exact wz rfl))|(apply Tri.same; (first|exact K0|exact K1|exact K2|exact K3|exact K4|exact K5|exact K6|exact K7|exact K8|exact K9|exact K10|exact K11); (exact rfl); (exact wz rfl))|refine wq fun _ => ?_)
      refine Tri.ixldR (T := vE) (o := o1) (x := y) (k := 0) (n := 1) (by first|exact K0|exact K1|exact K2|exact K3|exact K4|exact K5|exact K6|exact K7|exact K8|exact K9|exact K10|exact K11) rfl (by omega) (by simpa using hy) (by decide) rfl ?_
      repeat (first|refine wa ?_|refine wb ?_|refine wc ?_|refine wd ?_|refine we ?_|refine wf ?_|refine wg ?_|refine wh rfl ?_|refine wi rfl ?_|refine wj rfl ?_|refine wk rfl ?_|refine wl rfl ?_|refine wm (by decide) ?_|(apply Tri.ldE; (first|exact K0|exact K1|exact K2|exact K3|exact K4|exact K5|exact K6|exact K7|exact K8|exact K9|exact K10|exact K11); (exact rfl); (exact wz rfl))|(apply Tri.stE; (first|exact K0|exact K1|exact K2|exact K3|exact K4|exact K5|exact K6|exact K7|exact K8|exact K9|exact K10|exact K11); (exact rfl); (exact wz rfl))|(apply Tri.same; (first|exact K0|exact K1|exact K2|exact K3|exact K4|exact K5|exact K6|exact K7|exact K8|exact K9|exact K10|exact K11); (exact rfl); (exact wz rfl))|refine wq fun _ => ?_)
      refine wn ?_
      refine Tri.cnd (fun h => ?_) (fun h => ?_)
      · have h : y.who = who := by simpa using h
        refine wo ?_
        rw [wr_i64 (by omega) (by omega), show (D.length : Int) + 1 = ((D.length + 1 : Nat) : Int) by omega]
        exact (tail (D.length + 1) o6 (by omega) (by rw [hins, hDR]; simp [cutW, h])).sub (by repeat (first|exact Sub.refl _|exact Sub.nil _|(apply Sub.cons; (first|exact K0|exact K1|exact K2|exact K3|exact K4|exact K5|exact K6|exact K7|exact K8|exact K9|exact K10|exact K11))|apply Sub.skip))
      · have h : ¬ y.who = who := by simpa using h
        refine wo ?_
        exact (tail D.length o6 (by omega) (by rw [hins, hDR]; simp [cutW, h])).sub (by repeat (first|exact Sub.refl _|exact Sub.nil _|(apply Sub.cons; (first|exact K0|exact K1|exact K2|exact K3|exact K4|exact K5|exact K6|exact K7|exact K8|exact K9|exact K10|exact K11))|apply Sub.skip))
  repeat (first|refine wa ?_|refine wb ?_|refine wc ?_|refine wd ?_|refine we ?_|refine wf ?_|refine wg ?_|refine wh rfl ?_|refine wi rfl ?_|refine wj rfl ?_|refine wk rfl ?_|refine wl rfl ?_|refine wm (by decide) ?_|(apply Tri.ldE; (first|exact K0|exact K1|exact K2|exact K3|exact K4|exact K5|exact K6|exact K7|exact K8|exact K9|exact K10|exact K11); (exact rfl); (exact wz rfl))|(apply Tri.stE; (first|exact K0|exact K1|exact K2|exact K3|exact K4|exact K5|exact K6|exact K7|exact K8|exact K9|exact K10|exact K11); (exact rfl); (exact wz rfl))|(apply Tri.same; (first|exact K0|exact K1|exact K2|exact K3|exact K4|exact K5|exact K6|exact K7|exact K8|exact K9|exact K10|exact K11); (exact rfl); (exact wz rfl))|refine wq fun _ => ?_)
  rw [e1]
  cases R with
  | nil =>
    refine Tri.cndF (by simp at hlen; simp; omega) ?_
    exact Tri.exit (by decide) ((fin (by simp)).sub (by repeat (first|exact Sub.refl _|exact Sub.nil _|(apply Sub.cons; (first|exact K0|exact K1|exact K2|exact K3|exact K4|exact K5|exact K6|exact K7|exact K8|exact K9|exact K10|exact K11))|apply Sub.skip)))
  | cons y R =>
    simp only [List.length_cons] at hlen
    have hy : r.X[D.length]? = some y := by rw [hDR]; simp
    refine Tri.cndT (by simp; omega) ?_
    repeat (first|refine wa ?_|refine wb ?_|refine wc ?_|refine wd ?_|refine we ?_|refine wf ?_|refine wg ?_|refine wh rfl ?_|refine wi rfl ?_|refine wj rfl ?_|refine wk rfl ?_|refine wl rfl ?_|refine wm (by decide) ?_|(apply Tri.ldE; (first|exact K0|exact K1|exact K2|exact K3|exact K4|exact K5|exact K6|exact K7|exact K8|exact K9|exact K10|exact K11); (exact rfl); (exact wz rfl))|(apply Tri.stE; (first|exact K0|exact K1|exact K2|exact K3|exact K4|exact K5|exact K6|exact K7|exact K8|exact K9|exact K10|exact K11); (exact rfl); (exact wz rfl))|(apply Tri.same; (first|exact K0|exact K1|exact K2|exact K3|exact K4|exact K5|exact K6|exact K7|exact K8|exact K9|exact K10|exact K11); (exact rfl); (exact wz rfl))|refine wq fun _ => ?_)
    refine Tri.ixldR (T := vE) (o := o1) (x := y) (k := 0) (n := 1) (by first|exact K0|exact K1|exact K2|exact K3|exact K4|exact K5|exact K6|exact K7|exact K8|exact K9|exact K10|exact K11) rfl (by omega) (by simpa using hy) (by decide) rfl ?_
    repeat (first|refine wa ?_|refine wb ?_|refine wc ?_|refine wd ?_|refine we ?_|refine wf ?_|refine wg ?_|refine wh rfl ?_|refine wi rfl ?_|refine wj rfl ?_|refine wk rfl ?_|refine wl rfl ?_|refine wm (by decide) ?_|(apply Tri.ldE; (first|exact K0|exact K1|exact K2|exact K3|exact K4|exact K5|exact K6|exact K7|exact K8|exact K9|exact K10|exact K11); (exact rfl); (exact wz rfl))|(apply Tri.stE; (first|exact K0|exact K1|exact K2|exact K3|exact K4|exact K5|exact K6|exact K7|exact K8|exact K9|exact K10|exact K11); (exact rfl); (exact wz rfl))|(apply Tri.same; (first|exact K0|exact K1|exact K2|exact K3|exact K4|exact K5|exact K6|exact K7|exact K8|exact K9|exact K10|exact K11); (exact rfl); (exact wz rfl))|refine wq fun _ => ?_)
    refine Tri.cnd (fun h => ?_) (fun h => ?_)
    · have h : y.who < who := by simpa using h
      refine Rf.mk (r := r) (o1 := o1) (o2 := o2) (by first|exact K0|exact K1|exact K2|exact K3|exact K4|exact K5|exact K6|exact K7|exact K8|exact K9|exact K10|exact K11) (by first|exact K0|exact K1|exact K2|exact K3|exact K4|exact K5|exact K6|exact K7|exact K8|exact K9|exact K10|exact K11) (by first|exact K0|exact K1|exact K2|exact K3|exact K4|exact K5|exact K6|exact K7|exact K8|exact K9|exact K10|exact K11) ?_
      rw [wr_i64 (by omega) (by omega)]
      exact Tri.back (m' := R.length) (by simp) ⟨D ++ [y], R, rfl, by rw [hDR]; simp, fun z hz => (List.mem_append.1 hz).elim (hD z) fun hz => by simp at hz; subst hz; simp [befW, h], by simp, rfl⟩ (by repeat (first|exact Sub.refl _|exact Sub.nil _|(apply Sub.cons; (first|exact K0|exact K1|exact K2|exact K3|exact K4|exact K5|exact K6|exact K7|exact K8|exact K9|exact K10|exact K11))|apply Sub.skip))
    · have h : ¬ y.who < who := by simpa using h
      exact Tri.exit (by decide) ((fin (by simp [befW]; omega)).sub (by repeat (first|exact Sub.refl _|exact Sub.nil _|(apply Sub.cons; (first|exact K0|exact K1|exact K2|exact K3|exact K4|exact K5|exact K6|exact K7|exact K8|exact K9|exact K10|exact K11))|apply Sub.skip)))

/-! the address -/
def liveX (hold now : Int) (t : Vt) : Bool := decide (IntKind.wrap .u64 (t.at_ + hold) > now)
def lessA (ip port ip' port' : Int) : Prop := ip < ip' ∨ ip = ip' ∧ port < port'
structure Sm (A D : List Vt) (ip port most : Int) : Prop where
  z : D = [] → ip = 0 ∧ port = 0 ∧ most = 0
  p : D ≠ [] → most = cnt ip port A ∧ 0 < cnt ip port A ∧ ∀ x ∈ D, cnt x.ip x.port A ≤ cnt ip port A ∧ (cnt x.ip x.port A = cnt ip port A → ¬ lessA x.ip x.port ip port)
theorem Sm.take {A D : List Vt} {ip port most n : Int} {x : Vt} (h : Sm A D ip port most) (hx : x ∈ A) (hn : n = cnt x.ip x.port A) (hc : n > most ∨ n = most ∧ lessA x.ip x.port ip port) : Sm A (D ++ [x]) x.ip x.port n := by
  have hp := cnt_pos hx
  refine ⟨fun h => by simp at h, fun _ => ⟨hn, hp, fun y hy => ?_⟩⟩
  unfold lessA at *
  rcases List.mem_append.1 hy with hy | hy
  · obtain ⟨h1, h2, h3⟩ := h.p (List.ne_nil_of_mem hy)
    obtain ⟨h4, h5⟩ := h3 y hy
    unfold lessA at h5
    exact ⟨by omega, fun he => by have := h5 (by omega); omega⟩
  · simp at hy; subst hy; exact ⟨Nat.le_refl _, fun _ => by omega⟩
theorem Sm.skip {A D : List Vt} {ip port most n : Int} {x : Vt} (h : Sm A D ip port most) (hx : x ∈ A) (hn : n = cnt x.ip x.port A) (hc : ¬ (n > most ∨ n = most ∧ lessA x.ip x.port ip port)) : Sm A (D ++ [x]) ip port most := by
  have hp := cnt_pos hx
  have hD : D ≠ [] := by
    intro e
    obtain ⟨_, _, h3⟩ := h.z e
    omega
  obtain ⟨h1, h2, h3⟩ := h.p hD
  refine ⟨fun h => by simp at h, fun _ => ⟨h1, h2, fun y hy => ?_⟩⟩
  rcases List.mem_append.1 hy with hy | hy
  · exact h3 y hy
  · simp at hy; subst hy; exact ⟨by omega, fun he hl => hc (.inr ⟨by omega, hl⟩)⟩
theorem Sm.best {A : List Vt} {ip port most : Int} (h : Sm A A ip port most) : Best A ip port (decide (most > 0)) := by
  by_cases e : A = []
  · obtain ⟨h1, h2, h3⟩ := h.z e
    exact .inl ⟨e, h1, h2, by simp [h3]⟩
  · obtain ⟨h1, h2, h3⟩ := h.p e
    exact .inr ⟨by simp; omega, h2, fun x hx => ⟨(h3 x hx).1, fun he hl => (h3 x hx).2 he hl⟩⟩
set_option maxRecDepth 20000 in
theorem raddr_spec {p : Nat} {r : Rx} {now : Int} (hX : r.X.length ≤ 100) : FSpec E 27 [.sc (.p (some (p, 0))), .sc (.i .u64 now)] [Rf p r]
    (fun v L' => ∃ ip port ok, v = .tu [.ag [.i .u32 ip, .i .u16 port], .sc (.b ok)] ∧ Best (r.X.filter (liveX r.hold now)) ip port ok ∧ L' = [Rf p r]) := by
  refine FSpec.of (Try.func27 : Try.prog.funcs[27]? = some Try.f27) (t27_eq _ _ _) fun F => ?_
  unfold t27
  refine Tri.al fun a0 => ?_
  refine Tri.al fun a1 => ?_
  repeat (first|refine wa ?_|refine wb ?_|refine wc ?_|refine wd ?_|refine we ?_|refine wf ?_|refine wg ?_|refine wh rfl ?_|refine wi rfl ?_|refine wj rfl ?_|refine wk rfl ?_|refine wl rfl ?_|refine wm (by decide) ?_|(apply Tri.ldE; (first|exact K0|exact K1|exact K2|exact K3|exact K4|exact K5|exact K6|exact K7|exact K8|exact K9|exact K10|exact K11); (exact rfl); (exact wz rfl))|(apply Tri.stE; (first|exact K0|exact K1|exact K2|exact K3|exact K4|exact K5|exact K6|exact K7|exact K8|exact K9|exact K10|exact K11); (exact rfl); (exact wz rfl))|(apply Tri.same; (first|exact K0|exact K1|exact K2|exact K3|exact K4|exact K5|exact K6|exact K7|exact K8|exact K9|exact K10|exact K11); (exact rfl); (exact wz rfl))|refine wq fun _ => ?_)
  refine Rf.op (by first|exact K0|exact K1|exact K2|exact K3|exact K4|exact K5|exact K6|exact K7|exact K8|exact K9|exact K10|exact K11) fun o1 o2 e1 e2 => ?_
  refine Tri.loop (I := fun m l' L => ∃ (D R : List Vt) (ip port most : Int), m = R.length ∧ r.X = D ++ R ∧ Sm (r.X.filter (liveX r.hold now)) (D.filter (liveX r.hold now)) ip port most ∧
    l' = [.sc (.p (some (p, 0))), .sc (.i .u64 now), .sc (.p (some (a0, 0))), .sc (.p (some (a1, 0))), .sc (.i .i64 most), .sc (.i .i64 D.length)] ∧
    L = pt p (rxC r o1 o2) :: .sl false vE o1 r.X :: .sl false boE o2 r.past :: pt a0 [.i .u32 0, .i .u16 0] :: pt a1 [.i .u32 ip, .i .u16 port] :: F)
    ⟨[], r.X, 0, 0, 0, rfl, rfl, ⟨fun _ => ⟨rfl, rfl, rfl⟩, fun h => absurd rfl h⟩, rfl, rfl⟩ (by repeat (first|exact Sub.refl _|exact Sub.nil _|(apply Sub.cons; (first|exact K0|exact K1|exact K2|exact K3|exact K4|exact K5|exact K6|exact K7|exact K8|exact K9|exact K10|exact K11))|apply Sub.skip)) ?_
  rintro m l' L ⟨D, R, ip, port, most, rfl, hDR, hsm, rfl, rfl⟩
  have hlen : r.X.length = D.length + R.length := by rw [hDR]; simp
  unfold t27_b2
  repeat (first|refine wa ?_|refine wb ?_|refine wc ?_|refine wd ?_|refine we ?_|refine wf ?_|refine wg ?_|refine wh rfl ?_|refine wi rfl ?_|refine wj rfl ?_|refine wk rfl ?_|refine wl rfl ?_|refine wm (by decide) ?_|(apply Tri.ldE; (first|exact K0|exact K1|exact K2|exact K3|exact K4|exact K5|exact K6|exact K7|exact K8|exact K9|exact K10|exact K11); (exact rfl); (exact wz rfl))|(apply Tri.stE; (first|exact K0|exact K1|exact K2|exact K3|exact K4|exact K5|exact K6|exact K7|exact K8|exact K9|exact K10|exact K11); (exact rfl); (exact wz rfl))|(apply Tri.same; (first|exact K0|exact K1|exact K2|exact K3|exact K4|exact K5|exact K6|exact K7|exact K8|exact K9|exact K10|exact K11); (exact rfl); (exact wz rfl))|refine wq fun _ => ?_)
  rw [e1]
  cases R with
  | nil =>
    refine Tri.cndF (by simp at hlen; simp; omega) ?_
    refine Tri.exit (by decide) ?_
    unfold t27_k2
    repeat (first|refine wa ?_|refine wb ?_|refine wc ?_|refine wd ?_|refine we ?_|refine wf ?_|refine wg ?_|refine wh rfl ?_|refine wi rfl ?_|refine wj rfl ?_|refine wk rfl ?_|refine wl rfl ?_|refine wm (by decide) ?_|(apply Tri.ldE; (first|exact K0|exact K1|exact K2|exact K3|exact K4|exact K5|exact K6|exact K7|exact K8|exact K9|exact K10|exact K11); (exact rfl); (exact wz rfl))|(apply Tri.stE; (first|exact K0|exact K1|exact K2|exact K3|exact K4|exact K5|exact K6|exact K7|exact K8|exact K9|exact K10|exact K11); (exact rfl); (exact wz rfl))|(apply Tri.same; (first|exact K0|exact K1|exact K2|exact K3|exact K4|exact K5|exact K6|exact K7|exact K8|exact K9|exact K10|exact K11); (exact rfl); (exact wz rfl))|refine wq fun _ => ?_)
    refine Rf.mk (r := r) (o1 := o1) (o2 := o2) (by first|exact K0|exact K1|exact K2|exact K3|exact K4|exact K5|exact K6|exact K7|exact K8|exact K9|exact K10|exact K11) (by first|exact K0|exact K1|exact K2|exact K3|exact K4|exact K5|exact K6|exact K7|exact K8|exact K9|exact K10|exact K11) (by first|exact K0|exact K1|exact K2|exact K3|exact K4|exact K5|exact K6|exact K7|exact K8|exact K9|exact K10|exact K11) ?_
    rw [List.append_nil] at hDR
    rw [← hDR] at hsm
    exact Tri.retF ⟨ip, port, _, rfl, hsm.best, rfl⟩ (by repeat (first|exact Sub.refl _|exact Sub.nil _|(apply Sub.cons; (first|exact K0|exact K1|exact K2|exact K3|exact K4|exact K5|exact K6|exact K7|exact K8|exact K9|exact K10|exact K11))|apply Sub.skip))
  | cons x R =>
    simp only [List.length_cons] at hlen
    have hx : r.X[D.length]? = some x := by rw [hDR]; simp
    refine Tri.cndT (by simp; omega) ?_
    repeat (first|refine wa ?_|refine wb ?_|refine wc ?_|refine wd ?_|refine we ?_|refine wf ?_|refine wg ?_|refine wh rfl ?_|refine wi rfl ?_|refine wj rfl ?_|refine wk rfl ?_|refine wl rfl ?_|refine wm (by decide) ?_|(apply Tri.ldE; (first|exact K0|exact K1|exact K2|exact K3|exact K4|exact K5|exact K6|exact K7|exact K8|exact K9|exact K10|exact K11); (exact rfl); (exact wz rfl))|(apply Tri.stE; (first|exact K0|exact K1|exact K2|exact K3|exact K4|exact K5|exact K6|exact K7|exact K8|exact K9|exact K10|exact K11); (exact rfl); (exact wz rfl))|(apply Tri.same; (first|exact K0|exact K1|exact K2|exact K3|exact K4|exact K5|exact K6|exact K7|exact K8|exact K9|exact K10|exact K11); (exact rfl); (exact wz rfl))|refine wq fun _ => ?_)
    refine Tri.ixldR (T := vE) (o := o1) (x := x) (k := 3) (n := 1) (by first|exact K0|exact K1|exact K2|exact K3|exact K4|exact K5|exact K6|exact K7|exact K8|exact K9|exact K10|exact K11) rfl (by omega) (by simpa using hx) (by decide) rfl ?_
    repeat (first|refine wa ?_|refine wb ?_|refine wc ?_|refine wd ?_|refine we ?_|refine wf ?_|refine wg ?_|refine wh rfl ?_|refine wi rfl ?_|refine wj rfl ?_|refine wk rfl ?_|refine wl rfl ?_|refine wm (by decide) ?_|(apply Tri.ldE; (first|exact K0|exact K1|exact K2|exact K3|exact K4|exact K5|exact K6|exact K7|exact K8|exact K9|exact K10|exact K11); (exact rfl); (exact wz rfl))|(apply Tri.stE; (first|exact K0|exact K1|exact K2|exact K3|exact K4|exact K5|exact K6|exact K7|exact K8|exact K9|exact K10|exact K11); (exact rfl); (exact wz rfl))|(apply Tri.same; (first|exact K0|exact K1|exact K2|exact K3|exact K4|exact K5|exact K6|exact K7|exact K8|exact K9|exact K10|exact K11); (exact rfl); (exact wz rfl))|refine wq fun _ => ?_)
    refine Tri.cnd (fun hl => ?_) (fun hl => ?_)
    · have hl : liveX r.hold now x = false := by simp at hl; simp [liveX]; omega
      rw [wr_i64 (by omega) (by omega)]
      refine Tri.back (m' := R.length) (by simp) ⟨D ++ [x], R, ip, port, most, rfl, by rw [hDR]; simp, ?_, by simp, rfl⟩ (by repeat (first|exact Sub.refl _|exact Sub.nil _|(apply Sub.cons; (first|exact K0|exact K1|exact K2|exact K3|exact K4|exact K5|exact K6|exact K7|exact K8|exact K9|exact K10|exact K11))|apply Sub.skip))
      rw [List.filter_append, List.filter_cons, if_neg (by simp [hl])]
      simpa using hsm
    have hl : liveX r.hold now x = true := by simp at hl; simp [liveX]; omega
    have hxA : x ∈ r.X.filter (liveX r.hold now) := List.mem_filter.2 ⟨by rw [hDR]; simp, hl⟩
    refine Tri.loop (I := fun m l' L => ∃ (C S : List Vt), m = S.length ∧ r.X = C ++ S ∧
      l' = [.sc (.p (some (p, 0))), .sc (.i .u64 now), .sc (.p (some (a0, 0))), .sc (.p (some (a1, 0))), .sc (.i .i64 most), .sc (.i .i64 D.length), .sc (.i .i64 (cnt x.ip x.port (C.filter (liveX r.hold now)))), .sc (.i .i64 C.length)] ∧
      L = pt p (rxC r o1 o2) :: .sl false vE o1 r.X :: .sl false boE o2 r.past :: pt a0 [.i .u32 0, .i .u16 0] :: pt a1 [.i .u32 ip, .i .u16 port] :: F)
      ⟨[], r.X, rfl, rfl, rfl, rfl⟩ (by repeat (first|exact Sub.refl _|exact Sub.nil _|(apply Sub.cons; (first|exact K0|exact K1|exact K2|exact K3|exact K4|exact K5|exact K6|exact K7|exact K8|exact K9|exact K10|exact K11))|apply Sub.skip)) ?_
    rintro m l' L ⟨C, S, rfl, hCS, rfl, rfl⟩
    have hlc : r.X.length = C.length + S.length := by rw [hCS]; simp
    have hcl : cnt x.ip x.port (C.filter (liveX r.hold now)) ≤ C.length := Nat.le_trans List.countP_le_length (List.length_filter_le _ _)
    unfold t27_b35
    repeat (first|refine wa ?_|refine wb ?_|refine wc ?_|refine wd ?_|refine we ?_|refine wf ?_|refine wg ?_|refine wh rfl ?_|refine wi rfl ?_|refine wj rfl ?_|refine wk rfl ?_|refine wl rfl ?_|refine wm (by decide) ?_|(apply Tri.ldE; (first|exact K0|exact K1|exact K2|exact K3|exact K4|exact K5|exact K6|exact K7|exact K8|exact K9|exact K10|exact K11); (exact rfl); (exact wz rfl))|(apply Tri.stE; (first|exact K0|exact K1|exact K2|exact K3|exact K4|exact K5|exact K6|exact K7|exact K8|exact K9|exact K10|exact K11); (exact rfl); (exact wz rfl))|(apply Tri.same; (first|exact K0|exact K1|exact K2|exact K3|exact K4|exact K5|exact K6|exact K7|exact K8|exact K9|exact K10|exact K11); (exact rfl); (exact wz rfl))|refine wq fun _ => ?_)
    rw [e1]
    cases S with
    | nil =>
      refine Tri.cndF (by simp at hlc; simp; omega) ?_
      refine Tri.exit (by decide) ?_
      rw [List.append_nil] at hCS
      rw [← hCS]
      rw [← hCS] at hcl
      unfold t27_k35
      repeat (first|refine wa ?_|refine wb ?_|refine wc ?_|refine wd ?_|refine we ?_|refine wf ?_|refine wg ?_|refine wh rfl ?_|refine wi rfl ?_|refine wj rfl ?_|refine wk rfl ?_|refine wl rfl ?_|refine wm (by decide) ?_|(apply Tri.ldE; (first|exact K0|exact K1|exact K2|exact K3|exact K4|exact K5|exact K6|exact K7|exact K8|exact K9|exact K10|exact K11); (exact rfl); (exact wz rfl))|(apply Tri.stE; (first|exact K0|exact K1|exact K2|exact K3|exact K4|exact K5|exact K6|exact K7|exact K8|exact K9|exact K10|exact K11); (exact rfl); (exact wz rfl))|(apply Tri.same; (first|exact K0|exact K1|exact K2|exact K3|exact K4|exact K5|exact K6|exact K7|exact K8|exact K9|exact K10|exact K11); (exact rfl); (exact wz rfl))|refine wq fun _ => ?_)
      refine Tri.ixldR (T := vE) (o := o1) (x := x) (k := 1) (n := 2) (by first|exact K0|exact K1|exact K2|exact K3|exact K4|exact K5|exact K6|exact K7|exact K8|exact K9|exact K10|exact K11) rfl (by omega) (by simpa using hx) (by decide) rfl ?_
      repeat (first|refine wa ?_|refine wb ?_|refine wc ?_|refine wd ?_|refine we ?_|refine wf ?_|refine wg ?_|refine wh rfl ?_|refine wi rfl ?_|refine wj rfl ?_|refine wk rfl ?_|refine wl rfl ?_|refine wm (by decide) ?_|(apply Tri.ldE; (first|exact K0|exact K1|exact K2|exact K3|exact K4|exact K5|exact K6|exact K7|exact K8|exact K9|exact K10|exact K11); (exact rfl); (exact wz rfl))|(apply Tri.stE; (first|exact K0|exact K1|exact K2|exact K3|exact K4|exact K5|exact K6|exact K7|exact K8|exact K9|exact K10|exact K11); (exact rfl); (exact wz rfl))|(apply Tri.same; (first|exact K0|exact K1|exact K2|exact K3|exact K4|exact K5|exact K6|exact K7|exact K8|exact K9|exact K10|exact K11); (exact rfl); (exact wz rfl))|refine wq fun _ => ?_)
      refine Tri.call (rordA_spec (a := x.ip) (b := x.port) (c := ip) (d := port)) (by repeat (first|exact Picks.nil|(apply Picks.cons; (first|exact K0|exact K1|exact K2|exact K3|exact K4|exact K5|exact K6|exact K7|exact K8|exact K9|exact K10|exact K11)))) ?_
      rintro v L' ⟨rfl, rfl⟩
      simp only [List.cons_append, List.nil_append]
      repeat (first|refine wa ?_|refine wb ?_|refine wc ?_|refine wd ?_|refine we ?_|refine wf ?_|refine wg ?_|refine wh rfl ?_|refine wi rfl ?_|refine wj rfl ?_|refine wk rfl ?_|refine wl rfl ?_|refine wm (by decide) ?_|(apply Tri.ldE; (first|exact K0|exact K1|exact K2|exact K3|exact K4|exact K5|exact K6|exact K7|exact K8|exact K9|exact K10|exact K11); (exact rfl); (exact wz rfl))|(apply Tri.stE; (first|exact K0|exact K1|exact K2|exact K3|exact K4|exact K5|exact K6|exact K7|exact K8|exact K9|exact K10|exact K11); (exact rfl); (exact wz rfl))|(apply Tri.same; (first|exact K0|exact K1|exact K2|exact K3|exact K4|exact K5|exact K6|exact K7|exact K8|exact K9|exact K10|exact K11); (exact rfl); (exact wz rfl))|refine wq fun _ => ?_)
      have hdf : (D ++ [x]).filter (liveX r.hold now) = D.filter (liveX r.hold now) ++ [x] := by rw [List.filter_append, List.filter_cons, if_pos hl]; rfl
      generalize hn : ((cnt x.ip x.port (r.X.filter (liveX r.hold now)) : Nat) : Int) = n at *
      have hwr : IntKind.wrap .i64 ((D.length : Int) + 1) = ((D ++ [x]).length : Int) := by rw [wr_i64 (by omega) (by omega)]; simp
      rw [hwr]
      refine Tri.cnd (fun h1 => ?_) (fun h1 => ?_)
      · have h1 : n > most := by simpa using h1
        repeat (first|refine wa ?_|refine wb ?_|refine wc ?_|refine wd ?_|refine we ?_|refine wf ?_|refine wg ?_|refine wh rfl ?_|refine wi rfl ?_|refine wj rfl ?_|refine wk rfl ?_|refine wl rfl ?_|refine wm (by decide) ?_|(apply Tri.ldE; (first|exact K0|exact K1|exact K2|exact K3|exact K4|exact K5|exact K6|exact K7|exact K8|exact K9|exact K10|exact K11); (exact rfl); (exact wz rfl))|(apply Tri.stE; (first|exact K0|exact K1|exact K2|exact K3|exact K4|exact K5|exact K6|exact K7|exact K8|exact K9|exact K10|exact K11); (exact rfl); (exact wz rfl))|(apply Tri.same; (first|exact K0|exact K1|exact K2|exact K3|exact K4|exact K5|exact K6|exact K7|exact K8|exact K9|exact K10|exact K11); (exact rfl); (exact wz rfl))|refine wq fun _ => ?_)
        refine Tri.ixldR (T := vE) (o := o1) (x := x) (k := 1) (n := 2) (by first|exact K0|exact K1|exact K2|exact K3|exact K4|exact K5|exact K6|exact K7|exact K8|exact K9|exact K10|exact K11) rfl (by omega) (by simpa using hx) (by decide) rfl ?_
        repeat (first|refine wa ?_|refine wb ?_|refine wc ?_|refine wd ?_|refine we ?_|refine wf ?_|refine wg ?_|refine wh rfl ?_|refine wi rfl ?_|refine wj rfl ?_|refine wk rfl ?_|refine wl rfl ?_|refine wm (by decide) ?_|(apply Tri.ldE; (first|exact K0|exact K1|exact K2|exact K3|exact K4|exact K5|exact K6|exact K7|exact K8|exact K9|exact K10|exact K11); (exact rfl); (exact wz rfl))|(apply Tri.stE; (first|exact K0|exact K1|exact K2|exact K3|exact K4|exact K5|exact K6|exact K7|exact K8|exact K9|exact K10|exact K11); (exact rfl); (exact wz rfl))|(apply Tri.same; (first|exact K0|exact K1|exact K2|exact K3|exact K4|exact K5|exact K6|exact K7|exact K8|exact K9|exact K10|exact K11); (exact rfl); (exact wz rfl))|refine wq fun _ => ?_)
        exact Tri.back (m' := R.length) (by simp) ⟨D ++ [x], R, x.ip, x.port, n, rfl, by rw [hDR]; simp, by rw [hdf]; exact hsm.take hxA hn.symm (.inl h1), rfl, rfl⟩ (by repeat (first|exact Sub.refl _|exact Sub.nil _|(apply Sub.cons; (first|exact K0|exact K1|exact K2|exact K3|exact K4|exact K5|exact K6|exact K7|exact K8|exact K9|exact K10|exact K11))|apply Sub.skip))
      have h1 : ¬ n > most := by simpa using h1
      refine Tri.cnd (fun h2 => ?_) (fun h2 => ?_)
      · have h2 : n = most := by simpa using h2
        refine Tri.cnd (fun h3 => ?_) (fun h3 => ?_)
        · have h3 : lessA x.ip x.port ip port := or2_neg.1 (of_decide_eq_true h3)
          repeat (first|refine wa ?_|refine wb ?_|refine wc ?_|refine wd ?_|refine we ?_|refine wf ?_|refine wg ?_|refine wh rfl ?_|refine wi rfl ?_|refine wj rfl ?_|refine wk rfl ?_|refine wl rfl ?_|refine wm (by decide) ?_|(apply Tri.ldE; (first|exact K0|exact K1|exact K2|exact K3|exact K4|exact K5|exact K6|exact K7|exact K8|exact K9|exact K10|exact K11); (exact rfl); (exact wz rfl))|(apply Tri.stE; (first|exact K0|exact K1|exact K2|exact K3|exact K4|exact K5|exact K6|exact K7|exact K8|exact K9|exact K10|exact K11); (exact rfl); (exact wz rfl))|(apply Tri.same; (first|exact K0|exact K1|exact K2|exact K3|exact K4|exact K5|exact K6|exact K7|exact K8|exact K9|exact K10|exact K11); (exact rfl); (exact wz rfl))|refine wq fun _ => ?_)
          refine Tri.ixldR (T := vE) (o := o1) (x := x) (k := 1) (n := 2) (by first|exact K0|exact K1|exact K2|exact K3|exact K4|exact K5|exact K6|exact K7|exact K8|exact K9|exact K10|exact K11) rfl (by omega) (by simpa using hx) (by decide) rfl ?_
          repeat (first|refine wa ?_|refine wb ?_|refine wc ?_|refine wd ?_|refine we ?_|refine wf ?_|refine wg ?_|refine wh rfl ?_|refine wi rfl ?_|refine wj rfl ?_|refine wk rfl ?_|refine wl rfl ?_|refine wm (by decide) ?_|(apply Tri.ldE; (first|exact K0|exact K1|exact K2|exact K3|exact K4|exact K5|exact K6|exact K7|exact K8|exact K9|exact K10|exact K11); (exact rfl); (exact wz rfl))|(apply Tri.stE; (first|exact K0|exact K1|exact K2|exact K3|exact K4|exact K5|exact K6|exact K7|exact K8|exact K9|exact K10|exact K11); (exact rfl); (exact wz rfl))|(apply Tri.same; (first|exact K0|exact K1|exact K2|exact K3|exact K4|exact K5|exact K6|exact K7|exact K8|exact K9|exact K10|exact K11); (exact rfl); (exact wz rfl))|refine wq fun _ => ?_)
          exact Tri.back (m' := R.length) (by simp) ⟨D ++ [x], R, x.ip, x.port, n, rfl, by rw [hDR]; simp, by rw [hdf]; exact hsm.take hxA hn.symm (.inr ⟨h2, h3⟩), rfl, rfl⟩ (by repeat (first|exact Sub.refl _|exact Sub.nil _|(apply Sub.cons; (first|exact K0|exact K1|exact K2|exact K3|exact K4|exact K5|exact K6|exact K7|exact K8|exact K9|exact K10|exact K11))|apply Sub.skip))
        · have h3 : ¬ lessA x.ip x.port ip port := fun h => of_decide_eq_false h3 (or2_neg.2 h)
          exact Tri.back (m' := R.length) (by simp) ⟨D ++ [x], R, ip, port, most, rfl, by rw [hDR]; simp, by rw [hdf]; exact hsm.skip hxA hn.symm (fun h => h.elim h1 fun h => h3 h.2), rfl, rfl⟩ (by repeat (first|exact Sub.refl _|exact Sub.nil _|(apply Sub.cons; (first|exact K0|exact K1|exact K2|exact K3|exact K4|exact K5|exact K6|exact K7|exact K8|exact K9|exact K10|exact K11))|apply Sub.skip))
      · have h2 : ¬ n = most := by simpa using h2
        exact Tri.back (m' := R.length) (by simp) ⟨D ++ [x], R, ip, port, most, rfl, by rw [hDR]; simp, by rw [hdf]; exact hsm.skip hxA hn.symm (fun h => h.elim h1 fun h => h2 h.1), rfl, rfl⟩ (by repeat (first|exact Sub.refl _|exact Sub.nil _|(apply Sub.cons; (first|exact K0|exact K1|exact K2|exact K3|exact K4|exact K5|exact K6|exact K7|exact K8|exact K9|exact K10|exact K11))|apply Sub.skip))
    | cons y S =>
      simp only [List.length_cons] at hlc
      have hy : r.X[C.length]? = some y := by rw [hCS]; simp
      have hwr : IntKind.wrap .i64 ((C.length : Int) + 1) = ((C ++ [y]).length : Int) := by rw [wr_i64 (by omega) (by omega)]; simp
      refine Tri.cndT (by simp; omega) ?_
      repeat (first|refine wa ?_|refine wb ?_|refine wc ?_|refine wd ?_|refine we ?_|refine wf ?_|refine wg ?_|refine wh rfl ?_|refine wi rfl ?_|refine wj rfl ?_|refine wk rfl ?_|refine wl rfl ?_|refine wm (by decide) ?_|(apply Tri.ldE; (first|exact K0|exact K1|exact K2|exact K3|exact K4|exact K5|exact K6|exact K7|exact K8|exact K9|exact K10|exact K11); (exact rfl); (exact wz rfl))|(apply Tri.stE; (first|exact K0|exact K1|exact K2|exact K3|exact K4|exact K5|exact K6|exact K7|exact K8|exact K9|exact K10|exact K11); (exact rfl); (exact wz rfl))|(apply Tri.same; (first|exact K0|exact K1|exact K2|exact K3|exact K4|exact K5|exact K6|exact K7|exact K8|exact K9|exact K10|exact K11); (exact rfl); (exact wz rfl))|refine wq fun _ => ?_)
      refine Tri.ixldR (T := vE) (o := o1) (x := y) (k := 1) (n := 2) (by first|exact K0|exact K1|exact K2|exact K3|exact K4|exact K5|exact K6|exact K7|exact K8|exact K9|exact K10|exact K11) rfl (by omega) (by simpa using hy) (by decide) rfl ?_
      repeat (first|refine wa ?_|refine wb ?_|refine wc ?_|refine wd ?_|refine we ?_|refine wf ?_|refine wg ?_|refine wh rfl ?_|refine wi rfl ?_|refine wj rfl ?_|refine wk rfl ?_|refine wl rfl ?_|refine wm (by decide) ?_|(apply Tri.ldE; (first|exact K0|exact K1|exact K2|exact K3|exact K4|exact K5|exact K6|exact K7|exact K8|exact K9|exact K10|exact K11); (exact rfl); (exact wz rfl))|(apply Tri.stE; (first|exact K0|exact K1|exact K2|exact K3|exact K4|exact K5|exact K6|exact K7|exact K8|exact K9|exact K10|exact K11); (exact rfl); (exact wz rfl))|(apply Tri.same; (first|exact K0|exact K1|exact K2|exact K3|exact K4|exact K5|exact K6|exact K7|exact K8|exact K9|exact K10|exact K11); (exact rfl); (exact wz rfl))|refine wq fun _ => ?_)
      refine Tri.ixldR (T := vE) (o := o1) (x := x) (k := 1) (n := 2) (by first|exact K0|exact K1|exact K2|exact K3|exact K4|exact K5|exact K6|exact K7|exact K8|exact K9|exact K10|exact K11) rfl (by omega) (by simpa using hx) (by decide) rfl ?_
      repeat (first|refine wa ?_|refine wb ?_|refine wc ?_|refine wd ?_|refine we ?_|refine wf ?_|refine wg ?_|refine wh rfl ?_|refine wi rfl ?_|refine wj rfl ?_|refine wk rfl ?_|refine wl rfl ?_|refine wm (by decide) ?_|(apply Tri.ldE; (first|exact K0|exact K1|exact K2|exact K3|exact K4|exact K5|exact K6|exact K7|exact K8|exact K9|exact K10|exact K11); (exact rfl); (exact wz rfl))|(apply Tri.stE; (first|exact K0|exact K1|exact K2|exact K3|exact K4|exact K5|exact K6|exact K7|exact K8|exact K9|exact K10|exact K11); (exact rfl); (exact wz rfl))|(apply Tri.same; (first|exact K0|exact K1|exact K2|exact K3|exact K4|exact K5|exact K6|exact K7|exact K8|exact K9|exact K10|exact K11); (exact rfl); (exact wz rfl))|refine wq fun _ => ?_)
      rw [hwr]
      refine Tri.cnd (fun h1 => ?_) (fun h1 => ?_)
      · have h1 : isA x.ip x.port y = true := by simp at h1; simp [isA, h1]
        repeat (first|refine wa ?_|refine wb ?_|refine wc ?_|refine wd ?_|refine we ?_|refine wf ?_|refine wg ?_|refine wh rfl ?_|refine wi rfl ?_|refine wj rfl ?_|refine wk rfl ?_|refine wl rfl ?_|refine wm (by decide) ?_|(apply Tri.ldE; (first|exact K0|exact K1|exact K2|exact K3|exact K4|exact K5|exact K6|exact K7|exact K8|exact K9|exact K10|exact K11); (exact rfl); (exact wz rfl))|(apply Tri.stE; (first|exact K0|exact K1|exact K2|exact K3|exact K4|exact K5|exact K6|exact K7|exact K8|exact K9|exact K10|exact K11); (exact rfl); (exact wz rfl))|(apply Tri.same; (first|exact K0|exact K1|exact K2|exact K3|exact K4|exact K5|exact K6|exact K7|exact K8|exact K9|exact K10|exact K11); (exact rfl); (exact wz rfl))|refine wq fun _ => ?_)
        refine Tri.ixldR (T := vE) (o := o1) (x := y) (k := 3) (n := 1) (by first|exact K0|exact K1|exact K2|exact K3|exact K4|exact K5|exact K6|exact K7|exact K8|exact K9|exact K10|exact K11) rfl (by omega) (by simpa using hy) (by decide) rfl ?_
        repeat (first|refine wa ?_|refine wb ?_|refine wc ?_|refine wd ?_|refine we ?_|refine wf ?_|refine wg ?_|refine wh rfl ?_|refine wi rfl ?_|refine wj rfl ?_|refine wk rfl ?_|refine wl rfl ?_|refine wm (by decide) ?_|(apply Tri.ldE; (first|exact K0|exact K1|exact K2|exact K3|exact K4|exact K5|exact K6|exact K7|exact K8|exact K9|exact K10|exact K11); (exact rfl); (exact wz rfl))|(apply Tri.stE; (first|exact K0|exact K1|exact K2|exact K3|exact K4|exact K5|exact K6|exact K7|exact K8|exact K9|exact K10|exact K11); (exact rfl); (exact wz rfl))|(apply Tri.same; (first|exact K0|exact K1|exact K2|exact K3|exact K4|exact K5|exact K6|exact K7|exact K8|exact K9|exact K10|exact K11); (exact rfl); (exact wz rfl))|refine wq fun _ => ?_)
        refine Tri.cnd (fun h2 => ?_) (fun h2 => ?_)
        · have h2 : liveX r.hold now y = true := by simpa [liveX] using h2
          rw [wr_i64 (by omega) (by omega)]
          have hc : cnt x.ip x.port ((C ++ [y]).filter (liveX r.hold now)) = cnt x.ip x.port (C.filter (liveX r.hold now)) + 1 := by
            rw [List.filter_append, List.filter_cons, if_pos h2]
            have := cnt_snoc x.ip x.port (C.filter (liveX r.hold now)) y
            rw [if_pos h1] at this; exact this
          exact Tri.back (m' := S.length) (by simp) ⟨C ++ [y], S, rfl, by rw [hCS]; simp, by rw [hc]; simp, rfl⟩ (by repeat (first|exact Sub.refl _|exact Sub.nil _|(apply Sub.cons; (first|exact K0|exact K1|exact K2|exact K3|exact K4|exact K5|exact K6|exact K7|exact K8|exact K9|exact K10|exact K11))|apply Sub.skip))
        · have h2 : liveX r.hold now y = false := by simpa [liveX] using h2
          have hc : (C ++ [y]).filter (liveX r.hold now) = C.filter (liveX r.hold now) := by rw [List.filter_append, List.filter_cons, if_neg (by simp [h2])]; simp
          exact Tri.back (m' := S.length) (by simp) ⟨C ++ [y], S, rfl, by rw [hCS]; simp, by rw [hc], rfl⟩ (by repeat (first|exact Sub.refl _|exact Sub.nil _|(apply Sub.cons; (first|exact K0|exact K1|exact K2|exact K3|exact K4|exact K5|exact K6|exact K7|exact K8|exact K9|exact K10|exact K11))|apply Sub.skip))
      · have h1 : isA x.ip x.port y = false := by
          rw [Bool.eq_false_iff]; intro h; rw [isA_iff] at h; simp [h.1, h.2] at h1
        have hc : cnt x.ip x.port ((C ++ [y]).filter (liveX r.hold now)) = cnt x.ip x.port (C.filter (liveX r.hold now)) := by
          rw [List.filter_append, List.filter_cons]
          split
          · have := cnt_snoc x.ip x.port (C.filter (liveX r.hold now)) y
            rw [if_neg (by simp [h1])] at this; exact this
          · simp
        exact Tri.back (m' := S.length) (by simp) ⟨C ++ [y], S, rfl, by rw [hCS]; simp, by rw [hc], rfl⟩ (by repeat (first|exact Sub.refl _|exact Sub.nil _|(apply Sub.cons; (first|exact K0|exact K1|exact K2|exact K3|exact K4|exact K5|exact K6|exact K7|exact K8|exact K9|exact K10|exact K11))|apply Sub.skip))
end Go.Proofs.Ytbgmnnfajohmaaa
