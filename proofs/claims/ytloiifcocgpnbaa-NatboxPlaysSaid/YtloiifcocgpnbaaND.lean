/- What the box's functions come to: bind, Out, In, Binds. -/
import Derived.Test.YtloiifcocgpnbaaNB
namespace Go.Proofs.Ytloiifcocgpnbaa
open Go Go.Proofs.Ytloiifcocgpnbaa.Fw
set_option linter.unusedVariables false
set_option linter.unusedSimpArgs false
section
variable {α : Type} {T : Enc α}
theorem Tri.stR {d : SlD} {l : List α} {k off : Nat} {j z : Nat} {v : Sc} {t : Tree} {L R : List Assn} {Q : Post} {x : α} (y : α) (p : Pick L (.sl false T (some d) l) R) (hz : T.z = z) (hx : l[j]? = some x) (ho : off = d.off + j * z + k) (hk : k < z) (hy : T.e y = (T.e x).set k v)
    (h : Tri E (.sl false T (some d) (l.set j y) :: R) t Q) : Tri E L (.st d.id off [v] t) Q := by
  obtain ⟨hj, _⟩ := List.getElem?_eq_some_iff.1 hx
  refine Tri.slOp p fun c q => ?_
  subst hz; subst ho
  have := q.bound hj
  refine Tri.st Pick.here (by simp only [List.length_singleton]; omega) ?_
  exact Tri.mkS Pick.here (q.set1 hx hk hy) h
end
/-- the place of the first -/
def idxB (q : Bd → Bool) : List Bd → Option Nat
  | [] => none
  | x :: l => if q x then some 0 else (idxB q l).map (· + 1)
theorem idxB_none {q : Bd → Bool} : ∀ {l : List Bd}, (∀ x ∈ l, q x = false) → idxB q l = none
  | [], _ => rfl
  | x :: l, h => by rw [idxB, h x (by simp), idxB_none fun y hy => h y (by simp [hy])]; rfl
theorem idxB_mid {q : Bd → Bool} : ∀ {D R : List Bd} {x : Bd}, (∀ y ∈ D, q y = false) → q x = true → idxB q (D ++ x :: R) = some D.length
  | [], R, x, _, h => by rw [List.nil_append, idxB, h]; rfl
  | d :: D, R, x, h, h' => by
    rw [List.cons_append, idxB, h d (by simp), idxB_mid (D := D) (fun y hy => h y (by simp [hy])) h']; rfl
def isK (inn key : Ad) (x : Bd) : Bool := decide (x.inn = inn) && decide (x.key = key)
def evictB (b : Bx) : List Bd := match b.l with
  | [] => []
  | x :: r => if (b.l.length : Int) ≥ b.room then b.l.filter fun y => !(y.port == (minB r x).port) else b.l
def bindB (b : Bx) (inn key : Ad) : List Bd × Nat := match idxB (isK inn key) b.l with
  | some i => (b.l, i)
  | none => (evictB b ++ [⟨inn, key, freeB (evictB b), [], 0⟩], (evictB b).length)
theorem ad_eq {a b : Ad} : ((a.ip == b.ip) && ((a.port == b.port) && true)) = decide (a = b) := by
  obtain ⟨a1, a2⟩ := a; obtain ⟨b1, b2⟩ := b
  rw [Bool.eq_iff_iff]
  simp
theorem pred54 {a0 a1 : Nat} {inn key : Ad} : IsPred E bmE 54 [] [(a0, 0), (a1, 0)] (.sep (pt a0 (adE.e inn)) (pt a1 (adE.e key))) (fun t => isK inn key t.d) := by
  intro t
  refine FSpec.of (Try.func54 : Try.prog.funcs[54]? = some Try.f54) (t54_eq _ _ _ _ _ _ _ _ _ _ _) fun F => ?_
  unfold t54
  refine Tri.sep (A := pt a0 (adE.e inn)) (B := pt a1 (adE.e key)) (by first|exact K0|exact K1|exact K2|exact K3|exact K4|exact K5|exact K6|exact K7|exact K8) ?_
  repeat (first|refine wa ?_|refine wb ?_|refine wc ?_|refine wd ?_|refine we ?_|refine wf ?_|refine wg ?_|refine wh rfl ?_|refine wi rfl ?_|refine wj rfl ?_|refine wk rfl ?_|refine wl rfl ?_|refine wm (by decide) ?_|refine wn ?_|refine wo ?_|refine wp (by decide) ?_|(apply Tri.ldE; (first|exact K0|exact K1|exact K2|exact K3|exact K4|exact K5|exact K6|exact K7|exact K8); (exact rfl); (exact wz rfl))|(apply Tri.stE; (first|exact K0|exact K1|exact K2|exact K3|exact K4|exact K5|exact K6|exact K7|exact K8); (exact rfl); (exact wz rfl))|(apply Tri.same; (first|exact K0|exact K1|exact K2|exact K3|exact K4|exact K5|exact K6|exact K7|exact K8); (exact rfl); (exact wz rfl))|refine wq fun _ => ?_)
  refine Tri.cnd (fun h => ?_) (fun h => ?_)
  · repeat (first|refine wa ?_|refine wb ?_|refine wc ?_|refine wd ?_|refine we ?_|refine wf ?_|refine wg ?_|refine wh rfl ?_|refine wi rfl ?_|refine wj rfl ?_|refine wk rfl ?_|refine wl rfl ?_|refine wm (by decide) ?_|refine wn ?_|refine wo ?_|refine wp (by decide) ?_|(apply Tri.ldE; (first|exact K0|exact K1|exact K2|exact K3|exact K4|exact K5|exact K6|exact K7|exact K8); (exact rfl); (exact wz rfl))|(apply Tri.stE; (first|exact K0|exact K1|exact K2|exact K3|exact K4|exact K5|exact K6|exact K7|exact K8); (exact rfl); (exact wz rfl))|(apply Tri.same; (first|exact K0|exact K1|exact K2|exact K3|exact K4|exact K5|exact K6|exact K7|exact K8); (exact rfl); (exact wz rfl))|refine wq fun _ => ?_)
    refine Tri.mkSep (A := pt a0 (adE.e inn)) (B := pt a1 (adE.e key)) (by first|exact K0|exact K1|exact K2|exact K3|exact K4|exact K5|exact K6|exact K7|exact K8) (by first|exact K0|exact K1|exact K2|exact K3|exact K4|exact K5|exact K6|exact K7|exact K8) ?_
    refine Tri.retF ⟨?_, rfl⟩ (by repeat (first|exact Sub.refl _|exact Sub.nil _|(apply Sub.cons; (first|exact K0|exact K1|exact K2|exact K3|exact K4|exact K5|exact K6|exact K7|exact K8))|apply Sub.skip))
    rw [ad_eq (a := t.d.inn) (b := inn)] at h
    rw [ad_eq (a := t.d.key) (b := key)]
    show _ = AV.sc (Sc.b (decide (t.d.inn = inn) && decide (t.d.key = key)))
    rw [h]; rfl
  · refine Tri.mkSep (A := pt a0 (adE.e inn)) (B := pt a1 (adE.e key)) (by first|exact K0|exact K1|exact K2|exact K3|exact K4|exact K5|exact K6|exact K7|exact K8) (by first|exact K0|exact K1|exact K2|exact K3|exact K4|exact K5|exact K6|exact K7|exact K8) ?_
    refine Tri.retF ⟨?_, rfl⟩ (by repeat (first|exact Sub.refl _|exact Sub.nil _|(apply Sub.cons; (first|exact K0|exact K1|exact K2|exact K3|exact K4|exact K5|exact K6|exact K7|exact K8))|apply Sub.skip))
    rw [ad_eq (a := t.d.inn) (b := inn)] at h
    show _ = AV.sc (Sc.b (decide (t.d.inn = inn) && decide (t.d.key = key)))
    rw [h]; rfl
theorem pred59 {a : Nat} {y : Bm} : IsPred E bmE 59 [] [(a, 0)] (pt a (bmE.e y)) (fun t => t.d.port == y.d.port) := by
  intro t
  refine FSpec.of (Try.func59 : Try.prog.funcs[59]? = some Try.f59) (t59_eq _ _ _ _ _ _ _ _ _) fun F => ?_
  unfold t59
  repeat (first|refine wa ?_|refine wb ?_|refine wc ?_|refine wd ?_|refine we ?_|refine wf ?_|refine wg ?_|refine wh rfl ?_|refine wi rfl ?_|refine wj rfl ?_|refine wk rfl ?_|refine wl rfl ?_|refine wm (by decide) ?_|refine wn ?_|refine wo ?_|refine wp (by decide) ?_|(apply Tri.ldE; (first|exact K0|exact K1|exact K2|exact K3|exact K4|exact K5|exact K6|exact K7|exact K8); (exact rfl); (exact wz rfl))|(apply Tri.stE; (first|exact K0|exact K1|exact K2|exact K3|exact K4|exact K5|exact K6|exact K7|exact K8); (exact rfl); (exact wz rfl))|(apply Tri.same; (first|exact K0|exact K1|exact K2|exact K3|exact K4|exact K5|exact K6|exact K7|exact K8); (exact rfl); (exact wz rfl))|refine wq fun _ => ?_)
  exact Tri.retF ⟨rfl, rfl⟩ (by repeat (first|exact Sub.refl _|exact Sub.nil _|(apply Sub.cons; (first|exact K0|exact K1|exact K2|exact K3|exact K4|exact K5|exact K6|exact K7|exact K8))|apply Sub.skip))
theorem pred38 {a : Nat} {port : Int} : IsPred E bmE 38 [] [(a, 0)] (pt a [.i .u16 port]) (fun t => t.d.port == port) := by
  intro t
  refine FSpec.of (Try.func38 : Try.prog.funcs[38]? = some Try.f38) (t38_eq _ _ _ _ _ _ _ _ _) fun F => ?_
  unfold t38
  repeat (first|refine wa ?_|refine wb ?_|refine wc ?_|refine wd ?_|refine we ?_|refine wf ?_|refine wg ?_|refine wh rfl ?_|refine wi rfl ?_|refine wj rfl ?_|refine wk rfl ?_|refine wl rfl ?_|refine wm (by decide) ?_|refine wn ?_|refine wo ?_|refine wp (by decide) ?_|(apply Tri.ldE; (first|exact K0|exact K1|exact K2|exact K3|exact K4|exact K5|exact K6|exact K7|exact K8); (exact rfl); (exact wz rfl))|(apply Tri.stE; (first|exact K0|exact K1|exact K2|exact K3|exact K4|exact K5|exact K6|exact K7|exact K8); (exact rfl); (exact wz rfl))|(apply Tri.same; (first|exact K0|exact K1|exact K2|exact K3|exact K4|exact K5|exact K6|exact K7|exact K8); (exact rfl); (exact wz rfl))|refine wq fun _ => ?_)
  exact Tri.retF ⟨rfl, rfl⟩ (by repeat (first|exact Sub.refl _|exact Sub.nil _|(apply Sub.cons; (first|exact K0|exact K1|exact K2|exact K3|exact K4|exact K5|exact K6|exact K7|exact K8))|apply Sub.skip))
theorem evict_len (b : Bx) : (evictB b).length ≤ b.l.length := by
  unfold evictB
  split
  · exact Nat.zero_le _
  · split
    · exact List.length_filter_le _ _
    · exact Nat.le_refl _
theorem bind_spec {p : Nat} {b : Bx} {inn key : Ad} (hb : b.l.length ≤ 100) (hr : 1 ≤ b.room) : FSpec E 34 [.sc (.p (some (p, 0))), .ag (adE.e inn), .ag (adE.e key)] [Bo p b]
    (fun v L' => ∃ (d : SlD) (l : List Bm), v = .sc (.p (some (d.id, d.off + (bindB b inn key).2 * 7))) ∧ l.map Bm.d = (bindB b inn key).1 ∧ L' = [pt p (bxC b (some d)), .sl false bmE (some d) l, Mets l]) := by
  refine FSpec.of (Try.func34 : Try.prog.funcs[34]? = some Try.f34) (t34_eq _ _ _ _ _ _) fun F => ?_
  unfold t34
  refine Tri.al fun a0 => ?_
  refine Tri.al fun a1 => ?_
  refine Bo.op (by first|exact K0|exact K1|exact K2|exact K3|exact K4|exact K5|exact K6|exact K7|exact K8) fun o l hl hn e1 => ?_
  repeat (first|refine wa ?_|refine wb ?_|refine wc ?_|refine wd ?_|refine we ?_|refine wf ?_|refine wg ?_|refine wh rfl ?_|refine wi rfl ?_|refine wj rfl ?_|refine wk rfl ?_|refine wl rfl ?_|refine wm (by decide) ?_|(apply Tri.ldE; (first|exact K0|exact K1|exact K2|exact K3|exact K4|exact K5|exact K6|exact K7|exact K8); (exact rfl); (exact wz rfl))|(apply Tri.stE; (first|exact K0|exact K1|exact K2|exact K3|exact K4|exact K5|exact K6|exact K7|exact K8); (exact rfl); (exact wz rfl))|(apply Tri.same; (first|exact K0|exact K1|exact K2|exact K3|exact K4|exact K5|exact K6|exact K7|exact K8); (exact rfl); (exact wz rfl))|refine wq fun _ => ?_)
  refine Tri.mkSep (A := pt a0 (adE.e inn)) (B := pt a1 (adE.e key)) (by first|exact K0|exact K1|exact K2|exact K3|exact K4|exact K5|exact K6|exact K7|exact K8) (by first|exact K0|exact K1|exact K2|exact K3|exact K4|exact K5|exact K6|exact K7|exact K8) ?_
  refine Tri.call (idxF_spec bdOk bmOk (o := o) (l := l) (pred54 (a0 := a0) (a1 := a1) (inn := inn) (key := key)) (by omega)) (by repeat (first|exact Picks.nil|(apply Picks.cons; (first|exact K0|exact K1|exact K2|exact K3|exact K4|exact K5|exact K6|exact K7|exact K8)))) ?_
  rintro v L' ⟨rfl, ⟨rfl, hno⟩ | ⟨D, x, R, hl2, hD, hx, rfl⟩⟩
  · have hidx : idxB (isK inn key) b.l = none := idxB_none fun x hx => by
      rw [← hl] at hx
      obtain ⟨y, hy, rfl⟩ := List.mem_map.1 hx
      exact hno y hy
    have hbind : bindB b inn key = (evictB b ++ [⟨inn, key, freeB (evictB b), [], 0⟩], (evictB b).length) := by unfold bindB; rw [hidx]
    rw [hbind]
    simp only [List.cons_append, List.nil_append]
    refine Tri.sep (A := pt a0 (adE.e inn)) (B := pt a1 (adE.e key)) (by first|exact K0|exact K1|exact K2|exact K3|exact K4|exact K5|exact K6|exact K7|exact K8) ?_
    repeat (first|refine wa ?_|refine wb ?_|refine wc ?_|refine wd ?_|refine we ?_|refine wf ?_|refine wg ?_|refine wh rfl ?_|refine wi rfl ?_|refine wj rfl ?_|refine wk rfl ?_|refine wl rfl ?_|refine wm (by decide) ?_|(apply Tri.ldE; (first|exact K0|exact K1|exact K2|exact K3|exact K4|exact K5|exact K6|exact K7|exact K8); (exact rfl); (exact wz rfl))|(apply Tri.stE; (first|exact K0|exact K1|exact K2|exact K3|exact K4|exact K5|exact K6|exact K7|exact K8); (exact rfl); (exact wz rfl))|(apply Tri.same; (first|exact K0|exact K1|exact K2|exact K3|exact K4|exact K5|exact K6|exact K7|exact K8); (exact rfl); (exact wz rfl))|refine wq fun _ => ?_)
    have rest : ∀ (o : Option SlD) (l : List Bm), l.map Bm.d = evictB b → Tri E (pt p (bxC b o) :: .sl false bmE o l :: Mets l :: pt a0 (adE.e inn) :: pt a1 (adE.e key) :: F) (t34_k27 0 [.sc (.p (some (p, 0))), .sc (.p (some (a0, 0))), .sc (.p (some (a1, 0)))])
        (RQ F fun v L' => ∃ (d : SlD) (l : List Bm), v = .sc (.p (some (d.id, d.off + (evictB b).length * 7))) ∧ l.map Bm.d = evictB b ++ [⟨inn, key, freeB (evictB b), [], 0⟩] ∧ L' = [pt p (bxC b (some d)), .sl false bmE (some d) l, Mets l]) := by
      intro o l hl
      have hln : l.length = (evictB b).length := by rw [← hl]; simp
      have hev := evict_len b
      unfold t34_k27
      repeat (first|refine wa ?_|refine wb ?_|refine wc ?_|refine wd ?_|refine we ?_|refine wf ?_|refine wg ?_|refine wh rfl ?_|refine wi rfl ?_|refine wj rfl ?_|refine wk rfl ?_|refine wl rfl ?_|refine wm (by decide) ?_|(apply Tri.ldE; (first|exact K0|exact K1|exact K2|exact K3|exact K4|exact K5|exact K6|exact K7|exact K8); (exact rfl); (exact wz rfl))|(apply Tri.stE; (first|exact K0|exact K1|exact K2|exact K3|exact K4|exact K5|exact K6|exact K7|exact K8); (exact rfl); (exact wz rfl))|(apply Tri.same; (first|exact K0|exact K1|exact K2|exact K3|exact K4|exact K5|exact K6|exact K7|exact K8); (exact rfl); (exact wz rfl))|refine wq fun _ => ?_)
      refine Tri.call (free_spec (p := p) (b := { b with l := evictB b }) (o := o) (l := l) hl (by simp only; omega)) (by repeat (first|exact Picks.nil|(apply Picks.cons; (first|exact K0|exact K1|exact K2|exact K3|exact K4|exact K5|exact K6|exact K7|exact K8)))) ?_
      rintro v L' ⟨rfl, rfl⟩
      simp only [List.cons_append, List.nil_append]
      repeat (first|refine wa ?_|refine wb ?_|refine wc ?_|refine wd ?_|refine we ?_|refine wf ?_|refine wg ?_|refine wh rfl ?_|refine wi rfl ?_|refine wj rfl ?_|refine wk rfl ?_|refine wl rfl ?_|refine wm (by decide) ?_|(apply Tri.ldE; (first|exact K0|exact K1|exact K2|exact K3|exact K4|exact K5|exact K6|exact K7|exact K8); (exact rfl); (exact wz rfl))|(apply Tri.stE; (first|exact K0|exact K1|exact K2|exact K3|exact K4|exact K5|exact K6|exact K7|exact K8); (exact rfl); (exact wz rfl))|(apply Tri.same; (first|exact K0|exact K1|exact K2|exact K3|exact K4|exact K5|exact K6|exact K7|exact K8); (exact rfl); (exact wz rfl))|refine wq fun _ => ?_)
      refine Tri.ldsD (d := ⟨_, 0, 1, 1, 7⟩) (by first|exact K0|exact K1|exact K2|exact K3|exact K4|exact K5|exact K6|exact K7|exact K8) rfl (Nat.le_refl _) (Nat.le_of_ble_eq_true rfl) ?_
      refine Tri.app (T := bmE) (o := o) (l := l) [⟨⟨inn, key, freeB (evictB b), [], 0⟩, none⟩] (by first|exact K0|exact K1|exact K2|exact K3|exact K4|exact K5|exact K6|exact K7|exact K8) rfl rfl rfl (by decide) (by decide) (by simp [appBound]; omega) fun o2 => ?_
      refine Tri.slLen (l := l ++ [⟨⟨inn, key, freeB (evictB b), [], 0⟩, none⟩]) (o := o2) (ro := false) (T := bmE) (by first|exact K0|exact K1|exact K2|exact K3|exact K4|exact K5|exact K6|exact K7|exact K8) fun _ e2 => ?_
      repeat (first|refine wa ?_|refine wb ?_|refine wc ?_|refine wd ?_|refine we ?_|refine wf ?_|refine wg ?_|refine wh rfl ?_|refine wi rfl ?_|refine wj rfl ?_|refine wk rfl ?_|refine wl rfl ?_|refine wm (by decide) ?_|(apply Tri.ldE; (first|exact K0|exact K1|exact K2|exact K3|exact K4|exact K5|exact K6|exact K7|exact K8); (exact rfl); (exact wz rfl))|(apply Tri.stE; (first|exact K0|exact K1|exact K2|exact K3|exact K4|exact K5|exact K6|exact K7|exact K8); (exact rfl); (exact wz rfl))|(apply Tri.same; (first|exact K0|exact K1|exact K2|exact K3|exact K4|exact K5|exact K6|exact K7|exact K8); (exact rfl); (exact wz rfl))|refine wq fun _ => ?_)
      rw [e2, show IntKind.wrap .i64 (((l ++ [(⟨⟨inn, key, freeB (evictB b), [], 0⟩, none⟩ : Bm)]).length : Int) - 1) = (l.length : Int) by rw [wr_i64 (by simp <;> omega) (by simp <;> omega)]; simp]
      refine Tri.mkN false adE ?_
      refine Tri.metsIn ⟨⟨inn, key, freeB (evictB b), [], 0⟩, none⟩ (by first|exact K0|exact K1|exact K2|exact K3|exact K4|exact K5|exact K6|exact K7|exact K8) (by first|exact K0|exact K1|exact K2|exact K3|exact K4|exact K5|exact K6|exact K7|exact K8) ?_
      refine Tri.metsTo (l' := l ++ [⟨⟨inn, key, freeB (evictB b), [], 0⟩, none⟩]) (X := []) (by first|exact K0|exact K1|exact K2|exact K3|exact K4|exact K5|exact K6|exact K7|exact K8) (by rw [List.append_nil]; exact List.perm_append_comm (l₁ := [_])) ?_
      refine Tri.ixE (T := bmE) (o := o2) (by first|exact K0|exact K1|exact K2|exact K3|exact K4|exact K5|exact K6|exact K7|exact K8) rfl (by omega) (by simp <;> omega) fun d hd => ?_
      subst hd
      refine Tri.retF ⟨d, _, ?_, ?_, rfl⟩ (by repeat (first|exact Sub.refl _|exact Sub.nil _|(apply Sub.cons; (first|exact K0|exact K1|exact K2|exact K3|exact K4|exact K5|exact K6|exact K7|exact K8))|apply Sub.skip))
      · rw [Int.toNat_natCast, hln]
      · simp [hl]
    refine wn ?_
    rw [e1]
    refine Tri.cnd (fun h => ?_) (fun h => ?_)
    · have h : (b.l.length : Int) ≥ b.room := by simpa using h
      obtain ⟨x0, l0, rfl⟩ : ∃ x0 l0, l = x0 :: l0 := by
        cases l with
        | nil => simp at hn; omega
        | cons x l => exact ⟨x, l, rfl⟩
      have hbl : b.l = x0.d :: l0.map Bm.d := by rw [← hl]; rfl
      simp only [List.length_cons] at hn
      repeat (first|refine wa ?_|refine wb ?_|refine wc ?_|refine wd ?_|refine we ?_|refine wf ?_|refine wg ?_|refine wh rfl ?_|refine wi rfl ?_|refine wj rfl ?_|refine wk rfl ?_|refine wl rfl ?_|refine wm (by decide) ?_|(apply Tri.ldE; (first|exact K0|exact K1|exact K2|exact K3|exact K4|exact K5|exact K6|exact K7|exact K8); (exact rfl); (exact wz rfl))|(apply Tri.stE; (first|exact K0|exact K1|exact K2|exact K3|exact K4|exact K5|exact K6|exact K7|exact K8); (exact rfl); (exact wz rfl))|(apply Tri.same; (first|exact K0|exact K1|exact K2|exact K3|exact K4|exact K5|exact K6|exact K7|exact K8); (exact rfl); (exact wz rfl))|refine wq fun _ => ?_)
      refine Tri.call (min_spec (o := o) (x0 := x0) (l := l0) (by omega)) (by repeat (first|exact Picks.nil|(apply Picks.cons; (first|exact K0|exact K1|exact K2|exact K3|exact K4|exact K5|exact K6|exact K7|exact K8)))) ?_
      rintro v L' ⟨rfl, rfl⟩
      simp only [List.cons_append, List.nil_append]
      repeat (first|refine wa ?_|refine wb ?_|refine wc ?_|refine wd ?_|refine we ?_|refine wf ?_|refine wg ?_|refine wh rfl ?_|refine wi rfl ?_|refine wj rfl ?_|refine wk rfl ?_|refine wl rfl ?_|refine wm (by decide) ?_|(apply Tri.ldE; (first|exact K0|exact K1|exact K2|exact K3|exact K4|exact K5|exact K6|exact K7|exact K8); (exact rfl); (exact wz rfl))|(apply Tri.stE; (first|exact K0|exact K1|exact K2|exact K3|exact K4|exact K5|exact K6|exact K7|exact K8); (exact rfl); (exact wz rfl))|(apply Tri.same; (first|exact K0|exact K1|exact K2|exact K3|exact K4|exact K5|exact K6|exact K7|exact K8); (exact rfl); (exact wz rfl))|refine wq fun _ => ?_)
      refine Tri.call (delF_spec bdOk bmOk (o := o) (l := x0 :: l0) (pred59 (y := minM l0 x0)) (by simp; omega)) (by repeat (first|exact Picks.nil|(apply Picks.cons; (first|exact K0|exact K1|exact K2|exact K3|exact K4|exact K5|exact K6|exact K7|exact K8)))) ?_
      rintro v L' ⟨o2, rfl, rfl⟩
      simp only [List.cons_append, List.nil_append]
      repeat (first|refine wa ?_|refine wb ?_|refine wc ?_|refine wd ?_|refine we ?_|refine wf ?_|refine wg ?_|refine wh rfl ?_|refine wi rfl ?_|refine wj rfl ?_|refine wk rfl ?_|refine wl rfl ?_|refine wm (by decide) ?_|(apply Tri.ldE; (first|exact K0|exact K1|exact K2|exact K3|exact K4|exact K5|exact K6|exact K7|exact K8); (exact rfl); (exact wz rfl))|(apply Tri.stE; (first|exact K0|exact K1|exact K2|exact K3|exact K4|exact K5|exact K6|exact K7|exact K8); (exact rfl); (exact wz rfl))|(apply Tri.same; (first|exact K0|exact K1|exact K2|exact K3|exact K4|exact K5|exact K6|exact K7|exact K8); (exact rfl); (exact wz rfl))|refine wq fun _ => ?_)
      refine Tri.metsTo (by first|exact K0|exact K1|exact K2|exact K3|exact K4|exact K5|exact K6|exact K7|exact K8) (filter_perm fun x => !(x.d.port == (minM l0 x0).d.port)) ?_
      refine wo ?_
      refine (rest o2 ((x0 :: l0).filter fun x => !(x.d.port == (minM l0 x0).d.port)) ?_).sub (by repeat (first|exact Sub.refl _|exact Sub.nil _|(apply Sub.cons; (first|exact K0|exact K1|exact K2|exact K3|exact K4|exact K5|exact K6|exact K7|exact K8))|apply Sub.skip))
      rw [filter_d (fun x => !(x.port == (minM l0 x0).d.port)), hl, minM_d]
      unfold evictB
      split
      · rename_i e; rw [hbl] at e; cases e
      · rename_i y r e
        rw [if_pos h]
        rw [hbl] at e; cases e
        rfl
    · have h : ¬ (b.l.length : Int) ≥ b.room := by simpa using h
      refine wo ?_
      refine (rest o l ?_).sub (by repeat (first|exact Sub.refl _|exact Sub.nil _|(apply Sub.cons; (first|exact K0|exact K1|exact K2|exact K3|exact K4|exact K5|exact K6|exact K7|exact K8))|apply Sub.skip))
      rw [hl]
      unfold evictB
      split
      · rename_i e; rw [e]
      · rename_i y r e
        rw [if_neg h]
  · have hidx : idxB (isK inn key) b.l = some D.length := by
      have h1 : ∀ y ∈ D.map Bm.d, isK inn key y = false := fun y hy => by
        obtain ⟨z, hz, rfl⟩ := List.mem_map.1 hy
        exact hD z hz
      have h2 := idxB_mid (R := R.map Bm.d) h1 hx
      rw [← hl, hl2, List.map_append, List.map_cons, h2, List.length_map]
    have hbind : bindB b inn key = (b.l, D.length) := by unfold bindB; rw [hidx]
    rw [hbind]
    simp only [List.cons_append, List.nil_append]
    repeat (first|refine wa ?_|refine wb ?_|refine wc ?_|refine wd ?_|refine we ?_|refine wf ?_|refine wg ?_|refine wh rfl ?_|refine wi rfl ?_|refine wj rfl ?_|refine wk rfl ?_|refine wl rfl ?_|refine wm (by decide) ?_|(apply Tri.ldE; (first|exact K0|exact K1|exact K2|exact K3|exact K4|exact K5|exact K6|exact K7|exact K8); (exact rfl); (exact wz rfl))|(apply Tri.stE; (first|exact K0|exact K1|exact K2|exact K3|exact K4|exact K5|exact K6|exact K7|exact K8); (exact rfl); (exact wz rfl))|(apply Tri.same; (first|exact K0|exact K1|exact K2|exact K3|exact K4|exact K5|exact K6|exact K7|exact K8); (exact rfl); (exact wz rfl))|refine wq fun _ => ?_)
    refine Tri.ixE (T := bmE) (o := o) (by first|exact K0|exact K1|exact K2|exact K3|exact K4|exact K5|exact K6|exact K7|exact K8) rfl (by omega) (by rw [hl2]; simp; omega) fun d hd => ?_
    subst hd
    exact Tri.retF ⟨d, l, by rw [Int.toNat_natCast], hl, rfl⟩ (by repeat (first|exact Sub.refl _|exact Sub.nil _|(apply Sub.cons; (first|exact K0|exact K1|exact K2|exact K3|exact K4|exact K5|exact K6|exact K7|exact K8))|apply Sub.skip))
end Go.Proofs.Ytloiifcocgpnbaa
namespace Go.Proofs.Ytloiifcocgpnbaa
open Go Go.Proofs.Ytloiifcocgpnbaa.Fw
set_option linter.unusedVariables false
set_option linter.unusedSimpArgs false
def metB (m : List Ad) (dst : Ad) : List Ad := if dst ∈ m then m else m.drop (m.length + 1 - 16) ++ [dst]
theorem metB_len {m : List Ad} (dst : Ad) (h : m.length ≤ 16) : (metB m dst).length ≤ 16 := by
  unfold metB; split
  · exact h
  · simp; omega
/-- a binding is used -/
def useB (now hold : Int) (dst : Ad) (x : Bd) : Bd := { x with til := IntKind.wrap .u64 (now + hold), m := metB x.m dst }
def bound1 (b : Bx) (now : Int) (src dst : Ad) : List Bd × Nat := bindB (sweepB b now) src (keyB b.map dst)
def outB (b : Bx) (now : Int) (src dst : Ad) : (Ad × Int) × Bx :=
  if noneB src || noneB dst || decide (now > 4611686018427387904) then ((⟨0, 0⟩, 1), b)
  else match (bound1 b now src dst).1[(bound1 b now src dst).2]? with
    | some x => ((⟨b.ip, x.port⟩, 0), { b with l := (bound1 b now src dst).1.set (bound1 b now src dst).2 (useB now b.hold dst x) })
    | none => ((⟨0, 0⟩, 1), b)
def Small (b : Bx) : Prop := ∀ x ∈ b.l, x.m.length ≤ 16
theorem bindB_get (b : Bx) (inn key : Ad) : ∃ x, (bindB b inn key).1[(bindB b inn key).2]? = some x := by
  unfold bindB
  split
  · rename_i i hi
    have : ∀ (q : Bd → Bool) (l : List Bd) (i : Nat), idxB q l = some i → i < l.length := by
      intro q l
      induction l with
      | nil => intro i h; cases h
      | cons x l ih =>
        intro i h
        rw [idxB] at h
        split at h
        · cases h; simp
        · cases hj : idxB q l with
          | none => rw [hj] at h; cases h
          | some j => rw [hj] at h; cases h; have := ih j hj; simp; omega
    exact ⟨_, List.getElem?_eq_getElem (this _ _ _ hi)⟩
  · exact ⟨⟨inn, key, freeB (evictB b), [], 0⟩, by simp⟩
theorem evict_sub (b : Bx) : ∀ x ∈ evictB b, x ∈ b.l := by
  unfold evictB
  intro x hx
  split at hx
  · cases hx
  · split at hx
    · exact (List.mem_filter.1 hx).1
    · exact hx
theorem bindB_small {b : Bx} (h : Small b) (inn key : Ad) : ∀ x ∈ (bindB b inn key).1, x.m.length ≤ 16 := by
  unfold bindB
  split
  · exact h
  · intro x hx
    rcases List.mem_append.1 hx with hx | hx
    · exact h x (evict_sub b x hx)
    · simp at hx; subst hx; simp
theorem sweepB_small {b : Bx} (h : Small b) (now : Int) : Small (sweepB b now) := fun x hx => h x ((List.mem_filter.1 hx).1)
theorem sweepB_len (b : Bx) (now : Int) : (sweepB b now).l.length ≤ b.l.length := List.length_filter_le _ _
theorem bindB_len (b : Bx) (inn key : Ad) : (bindB b inn key).1.length ≤ b.l.length + 1 := by
  unfold bindB
  split
  · simp
  · have := evict_len b; simp; omega
theorem split_at {l : List Bm} {i : Nat} {x : Bm} (h : l[i]? = some x) : ∃ A B, l = A ++ x :: B ∧ A.length = i := by
  obtain ⟨hi, rfl⟩ := List.getElem?_eq_some_iff.1 h
  exact ⟨l.take i, l.drop (i + 1), by rw [← List.drop_eq_getElem_cons hi, List.take_append_drop], by simp; omega⟩
theorem set_split {A B : List Bm} {x y : Bm} : (A ++ x :: B).set A.length y = A ++ y :: B := by simp
set_option maxRecDepth 20000 in
set_option maxHeartbeats 4000000 in
theorem out_spec {p : Nat} {b : Bx} {now : Int} {src dst : Ad} (hb : b.l.length ≤ 90) (hr : 1 ≤ b.room) (hm : Small b) : FSpec E 12 [.sc (.p (some (p, 0))), .sc (.i .u64 now), .ag (adE.e src), .ag (adE.e dst)] [Bo p b]
    (fun v L' => v = .tu [.ag (adE.e (outB b now src dst).1.1), .sc (.i .i64 (outB b now src dst).1.2)] ∧ L' = [Bo p (outB b now src dst).2]) := by
  refine FSpec.of (Try.func12 : Try.prog.funcs[12]? = some Try.f12) (t12_eq _ _ _ _ _ _ _) fun F => ?_
  unfold t12
  refine Tri.al fun a0 => ?_
  refine Tri.al fun a1 => ?_
  refine Tri.al fun a2 => ?_
  repeat (first|refine wa ?_|refine wb ?_|refine wc ?_|refine wd ?_|refine we ?_|refine wf ?_|refine wg ?_|refine wh rfl ?_|refine wi rfl ?_|refine wj rfl ?_|refine wk rfl ?_|refine wl rfl ?_|refine wm (by decide) ?_|(apply Tri.ldE; (first|exact K0|exact K1|exact K2|exact K3|exact K4|exact K5|exact K6|exact K7|exact K8); (exact rfl); (exact wz rfl))|(apply Tri.stE; (first|exact K0|exact K1|exact K2|exact K3|exact K4|exact K5|exact K6|exact K7|exact K8); (exact rfl); (exact wz rfl))|(apply Tri.same; (first|exact K0|exact K1|exact K2|exact K3|exact K4|exact K5|exact K6|exact K7|exact K8); (exact rfl); (exact wz rfl))|refine wq fun _ => ?_)
  refine Tri.call (none_spec (a := src)) (by repeat (first|exact Picks.nil|(apply Picks.cons; (first|exact K0|exact K1|exact K2|exact K3|exact K4|exact K5|exact K6|exact K7|exact K8)))) ?_
  rintro v L' ⟨rfl, rfl⟩
  simp only [List.cons_append, List.nil_append]
  repeat (first|refine wa ?_|refine wb ?_|refine wc ?_|refine wd ?_|refine we ?_|refine wf ?_|refine wg ?_|refine wh rfl ?_|refine wi rfl ?_|refine wj rfl ?_|refine wk rfl ?_|refine wl rfl ?_|refine wm (by decide) ?_|(apply Tri.ldE; (first|exact K0|exact K1|exact K2|exact K3|exact K4|exact K5|exact K6|exact K7|exact K8); (exact rfl); (exact wz rfl))|(apply Tri.stE; (first|exact K0|exact K1|exact K2|exact K3|exact K4|exact K5|exact K6|exact K7|exact K8); (exact rfl); (exact wz rfl))|(apply Tri.same; (first|exact K0|exact K1|exact K2|exact K3|exact K4|exact K5|exact K6|exact K7|exact K8); (exact rfl); (exact wz rfl))|refine wq fun _ => ?_)
  refine Tri.cnd (fun h1 => ?_) (fun h1 => ?_)
  · have hk : outB b now src dst = ((⟨0, 0⟩, 1), b) := by unfold outB; rw [if_pos (by simp [h1])]
    repeat (first|refine wa ?_|refine wb ?_|refine wc ?_|refine wd ?_|refine we ?_|refine wf ?_|refine wg ?_|refine wh rfl ?_|refine wi rfl ?_|refine wj rfl ?_|refine wk rfl ?_|refine wl rfl ?_|refine wm (by decide) ?_|(apply Tri.ldE; (first|exact K0|exact K1|exact K2|exact K3|exact K4|exact K5|exact K6|exact K7|exact K8); (exact rfl); (exact wz rfl))|(apply Tri.stE; (first|exact K0|exact K1|exact K2|exact K3|exact K4|exact K5|exact K6|exact K7|exact K8); (exact rfl); (exact wz rfl))|(apply Tri.same; (first|exact K0|exact K1|exact K2|exact K3|exact K4|exact K5|exact K6|exact K7|exact K8); (exact rfl); (exact wz rfl))|refine wq fun _ => ?_)
    rw [hk]
    exact Tri.retF ⟨rfl, rfl⟩ (by repeat (first|exact Sub.refl _|exact Sub.nil _|(apply Sub.cons; (first|exact K0|exact K1|exact K2|exact K3|exact K4|exact K5|exact K6|exact K7|exact K8))|apply Sub.skip))
  repeat (first|refine wa ?_|refine wb ?_|refine wc ?_|refine wd ?_|refine we ?_|refine wf ?_|refine wg ?_|refine wh rfl ?_|refine wi rfl ?_|refine wj rfl ?_|refine wk rfl ?_|refine wl rfl ?_|refine wm (by decide) ?_|(apply Tri.ldE; (first|exact K0|exact K1|exact K2|exact K3|exact K4|exact K5|exact K6|exact K7|exact K8); (exact rfl); (exact wz rfl))|(apply Tri.stE; (first|exact K0|exact K1|exact K2|exact K3|exact K4|exact K5|exact K6|exact K7|exact K8); (exact rfl); (exact wz rfl))|(apply Tri.same; (first|exact K0|exact K1|exact K2|exact K3|exact K4|exact K5|exact K6|exact K7|exact K8); (exact rfl); (exact wz rfl))|refine wq fun _ => ?_)
  refine Tri.call (none_spec (a := dst)) (by repeat (first|exact Picks.nil|(apply Picks.cons; (first|exact K0|exact K1|exact K2|exact K3|exact K4|exact K5|exact K6|exact K7|exact K8)))) ?_
  rintro v L' ⟨rfl, rfl⟩
  simp only [List.cons_append, List.nil_append]
  repeat (first|refine wa ?_|refine wb ?_|refine wc ?_|refine wd ?_|refine we ?_|refine wf ?_|refine wg ?_|refine wh rfl ?_|refine wi rfl ?_|refine wj rfl ?_|refine wk rfl ?_|refine wl rfl ?_|refine wm (by decide) ?_|(apply Tri.ldE; (first|exact K0|exact K1|exact K2|exact K3|exact K4|exact K5|exact K6|exact K7|exact K8); (exact rfl); (exact wz rfl))|(apply Tri.stE; (first|exact K0|exact K1|exact K2|exact K3|exact K4|exact K5|exact K6|exact K7|exact K8); (exact rfl); (exact wz rfl))|(apply Tri.same; (first|exact K0|exact K1|exact K2|exact K3|exact K4|exact K5|exact K6|exact K7|exact K8); (exact rfl); (exact wz rfl))|refine wq fun _ => ?_)
  refine Tri.cnd (fun h2 => ?_) (fun h2 => ?_)
  · have hk : outB b now src dst = ((⟨0, 0⟩, 1), b) := by unfold outB; rw [if_pos (by simp [h2])]
    repeat (first|refine wa ?_|refine wb ?_|refine wc ?_|refine wd ?_|refine we ?_|refine wf ?_|refine wg ?_|refine wh rfl ?_|refine wi rfl ?_|refine wj rfl ?_|refine wk rfl ?_|refine wl rfl ?_|refine wm (by decide) ?_|(apply Tri.ldE; (first|exact K0|exact K1|exact K2|exact K3|exact K4|exact K5|exact K6|exact K7|exact K8); (exact rfl); (exact wz rfl))|(apply Tri.stE; (first|exact K0|exact K1|exact K2|exact K3|exact K4|exact K5|exact K6|exact K7|exact K8); (exact rfl); (exact wz rfl))|(apply Tri.same; (first|exact K0|exact K1|exact K2|exact K3|exact K4|exact K5|exact K6|exact K7|exact K8); (exact rfl); (exact wz rfl))|refine wq fun _ => ?_)
    rw [hk]
    exact Tri.retF ⟨rfl, rfl⟩ (by repeat (first|exact Sub.refl _|exact Sub.nil _|(apply Sub.cons; (first|exact K0|exact K1|exact K2|exact K3|exact K4|exact K5|exact K6|exact K7|exact K8))|apply Sub.skip))
  refine Tri.cnd (fun h3 => ?_) (fun h3 => ?_)
  · have hk : outB b now src dst = ((⟨0, 0⟩, 1), b) := by unfold outB; rw [if_pos (by simp at h3; simp [h3])]
    repeat (first|refine wa ?_|refine wb ?_|refine wc ?_|refine wd ?_|refine we ?_|refine wf ?_|refine wg ?_|refine wh rfl ?_|refine wi rfl ?_|refine wj rfl ?_|refine wk rfl ?_|refine wl rfl ?_|refine wm (by decide) ?_|(apply Tri.ldE; (first|exact K0|exact K1|exact K2|exact K3|exact K4|exact K5|exact K6|exact K7|exact K8); (exact rfl); (exact wz rfl))|(apply Tri.stE; (first|exact K0|exact K1|exact K2|exact K3|exact K4|exact K5|exact K6|exact K7|exact K8); (exact rfl); (exact wz rfl))|(apply Tri.same; (first|exact K0|exact K1|exact K2|exact K3|exact K4|exact K5|exact K6|exact K7|exact K8); (exact rfl); (exact wz rfl))|refine wq fun _ => ?_)
    rw [hk]
    exact Tri.retF ⟨rfl, rfl⟩ (by repeat (first|exact Sub.refl _|exact Sub.nil _|(apply Sub.cons; (first|exact K0|exact K1|exact K2|exact K3|exact K4|exact K5|exact K6|exact K7|exact K8))|apply Sub.skip))
  obtain ⟨x, hx⟩ := bindB_get (sweepB b now) src (keyB b.map dst)
  have hk : outB b now src dst = ((⟨b.ip, x.port⟩, 0), { b with l := (bound1 b now src dst).1.set (bound1 b now src dst).2 (useB now b.hold dst x) }) := by
    unfold outB
    rw [if_neg (by simp at h3; simp [h1, h2]; omega)]
    unfold bound1
    rw [hx]
  rw [hk]
  unfold bound1
  have hlen := bindB_len (sweepB b now) src (keyB b.map dst)
  have hsm := bindB_small (sweepB_small hm now) src (keyB b.map dst)
  have hsl := sweepB_len b now
  refine Tri.call (sweep_spec (p := p) (b := b) (now := now) (by omega)) (by repeat (first|exact Picks.nil|(apply Picks.cons; (first|exact K0|exact K1|exact K2|exact K3|exact K4|exact K5|exact K6|exact K7|exact K8)))) ?_
  rintro v L' ⟨rfl, rfl⟩
  simp only [List.cons_append, List.nil_append]
  repeat (first|refine wa ?_|refine wb ?_|refine wc ?_|refine wd ?_|refine we ?_|refine wf ?_|refine wg ?_|refine wh rfl ?_|refine wi rfl ?_|refine wj rfl ?_|refine wk rfl ?_|refine wl rfl ?_|refine wm (by decide) ?_|(apply Tri.ldE; (first|exact K0|exact K1|exact K2|exact K3|exact K4|exact K5|exact K6|exact K7|exact K8); (exact rfl); (exact wz rfl))|(apply Tri.stE; (first|exact K0|exact K1|exact K2|exact K3|exact K4|exact K5|exact K6|exact K7|exact K8); (exact rfl); (exact wz rfl))|(apply Tri.same; (first|exact K0|exact K1|exact K2|exact K3|exact K4|exact K5|exact K6|exact K7|exact K8); (exact rfl); (exact wz rfl))|refine wq fun _ => ?_)
  refine Bo.op (by first|exact K0|exact K1|exact K2|exact K3|exact K4|exact K5|exact K6|exact K7|exact K8) fun o l hl hn e1 => ?_
  repeat (first|refine wa ?_|refine wb ?_|refine wc ?_|refine wd ?_|refine we ?_|refine wf ?_|refine wg ?_|refine wh rfl ?_|refine wi rfl ?_|refine wj rfl ?_|refine wk rfl ?_|refine wl rfl ?_|refine wm (by decide) ?_|(apply Tri.ldE; (first|exact K0|exact K1|exact K2|exact K3|exact K4|exact K5|exact K6|exact K7|exact K8); (exact rfl); (exact wz rfl))|(apply Tri.stE; (first|exact K0|exact K1|exact K2|exact K3|exact K4|exact K5|exact K6|exact K7|exact K8); (exact rfl); (exact wz rfl))|(apply Tri.same; (first|exact K0|exact K1|exact K2|exact K3|exact K4|exact K5|exact K6|exact K7|exact K8); (exact rfl); (exact wz rfl))|refine wq fun _ => ?_)
  refine Tri.call (key_spec (m := b.map) (f := b.fil) (a := dst)) (by repeat (first|exact Picks.nil|(apply Picks.cons; (first|exact K0|exact K1|exact K2|exact K3|exact K4|exact K5|exact K6|exact K7|exact K8)))) ?_
  rintro v L' ⟨rfl, rfl⟩
  simp only [List.cons_append, List.nil_append]
  repeat (first|refine wa ?_|refine wb ?_|refine wc ?_|refine wd ?_|refine we ?_|refine wf ?_|refine wg ?_|refine wh rfl ?_|refine wi rfl ?_|refine wj rfl ?_|refine wk rfl ?_|refine wl rfl ?_|refine wm (by decide) ?_|(apply Tri.ldE; (first|exact K0|exact K1|exact K2|exact K3|exact K4|exact K5|exact K6|exact K7|exact K8); (exact rfl); (exact wz rfl))|(apply Tri.stE; (first|exact K0|exact K1|exact K2|exact K3|exact K4|exact K5|exact K6|exact K7|exact K8); (exact rfl); (exact wz rfl))|(apply Tri.same; (first|exact K0|exact K1|exact K2|exact K3|exact K4|exact K5|exact K6|exact K7|exact K8); (exact rfl); (exact wz rfl))|refine wq fun _ => ?_)
  refine Bo.mk hl (by first|exact K0|exact K1|exact K2|exact K3|exact K4|exact K5|exact K6|exact K7|exact K8) (by first|exact K0|exact K1|exact K2|exact K3|exact K4|exact K5|exact K6|exact K7|exact K8) (by first|exact K0|exact K1|exact K2|exact K3|exact K4|exact K5|exact K6|exact K7|exact K8) ?_
  clear hl hn e1
  refine Tri.call (bind_spec (p := p) (b := sweepB b now) (inn := src) (key := keyB b.map dst) (by omega) hr) (by repeat (first|exact Picks.nil|(apply Picks.cons; (first|exact K0|exact K1|exact K2|exact K3|exact K4|exact K5|exact K6|exact K7|exact K8)))) ?_
  rintro v L' ⟨d, l, rfl, hl, rfl⟩
  generalize bindB (sweepB b now) src (keyB b.map dst) = r at *
  obtain ⟨r1, i⟩ := r
  simp only at hx hl hlen hsm ⊢
  subst hl
  rw [List.getElem?_map] at hx
  obtain ⟨y, hy, rfl⟩ := Option.map_eq_some_iff.1 hx
  obtain ⟨A, B, rfl, rfl⟩ := split_at hy
  have hym : y.d.m.length ≤ 16 := hsm y.d (by simp)
  simp only [List.cons_append, List.nil_append]
  repeat (first|refine wa ?_|refine wb ?_|refine wc ?_|refine wd ?_|refine we ?_|refine wf ?_|refine wg ?_|refine wh rfl ?_|refine wi rfl ?_|refine wj rfl ?_|refine wk rfl ?_|refine wl rfl ?_|refine wm (by decide) ?_|(apply Tri.ldE; (first|exact K0|exact K1|exact K2|exact K3|exact K4|exact K5|exact K6|exact K7|exact K8); (exact rfl); (exact wz rfl))|(apply Tri.stE; (first|exact K0|exact K1|exact K2|exact K3|exact K4|exact K5|exact K6|exact K7|exact K8); (exact rfl); (exact wz rfl))|(apply Tri.same; (first|exact K0|exact K1|exact K2|exact K3|exact K4|exact K5|exact K6|exact K7|exact K8); (exact rfl); (exact wz rfl))|refine wq fun _ => ?_)
  refine Tri.stR (T := bmE) (x := y) (k := 6) (j := A.length) ⟨{ y.d with til := IntKind.wrap .u64 (now + b.hold) }, y.met⟩ (by first|exact K0|exact K1|exact K2|exact K3|exact K4|exact K5|exact K6|exact K7|exact K8) rfl hy rfl (by decide) rfl ?_
  rw [set_split]
  repeat (first|refine wa ?_|refine wb ?_|refine wc ?_|refine wd ?_|refine we ?_|refine wf ?_|refine wg ?_|refine wh rfl ?_|refine wi rfl ?_|refine wj rfl ?_|refine wk rfl ?_|refine wl rfl ?_|refine wm (by decide) ?_|(apply Tri.ldE; (first|exact K0|exact K1|exact K2|exact K3|exact K4|exact K5|exact K6|exact K7|exact K8); (exact rfl); (exact wz rfl))|(apply Tri.stE; (first|exact K0|exact K1|exact K2|exact K3|exact K4|exact K5|exact K6|exact K7|exact K8); (exact rfl); (exact wz rfl))|(apply Tri.same; (first|exact K0|exact K1|exact K2|exact K3|exact K4|exact K5|exact K6|exact K7|exact K8); (exact rfl); (exact wz rfl))|refine wq fun _ => ?_)
  have hy1 : (A ++ (⟨{ y.d with til := IntKind.wrap .u64 (now + b.hold) }, y.met⟩ : Bm) :: B)[A.length]? = some ⟨{ y.d with til := IntKind.wrap .u64 (now + b.hold) }, y.met⟩ := by simp
  refine Tri.ldR (T := bmE) (k := 5) (j := A.length) (by first|exact K0|exact K1|exact K2|exact K3|exact K4|exact K5|exact K6|exact K7|exact K8) rfl hy1 rfl (by decide) rfl ?_
  repeat (first|refine wa ?_|refine wb ?_|refine wc ?_|refine wd ?_|refine we ?_|refine wf ?_|refine wg ?_|refine wh rfl ?_|refine wi rfl ?_|refine wj rfl ?_|refine wk rfl ?_|refine wl rfl ?_|refine wm (by decide) ?_|(apply Tri.ldE; (first|exact K0|exact K1|exact K2|exact K3|exact K4|exact K5|exact K6|exact K7|exact K8); (exact rfl); (exact wz rfl))|(apply Tri.stE; (first|exact K0|exact K1|exact K2|exact K3|exact K4|exact K5|exact K6|exact K7|exact K8); (exact rfl); (exact wz rfl))|(apply Tri.same; (first|exact K0|exact K1|exact K2|exact K3|exact K4|exact K5|exact K6|exact K7|exact K8); (exact rfl); (exact wz rfl))|refine wq fun _ => ?_)
  refine Tri.metsOut (x := y) (l' := A ++ B) (by first|exact K0|exact K1|exact K2|exact K3|exact K4|exact K5|exact K6|exact K7|exact K8) List.perm_middle ?_
  refine Tri.call (contains_spec (o := y.met) (l := y.d.m) (a := dst) (by omega)) (by repeat (first|exact Picks.nil|(apply Picks.cons; (first|exact K0|exact K1|exact K2|exact K3|exact K4|exact K5|exact K6|exact K7|exact K8)))) ?_
  rintro v L' ⟨rfl, rfl⟩
  simp only [List.cons_append, List.nil_append]
  repeat (first|refine wa ?_|refine wb ?_|refine wc ?_|refine wd ?_|refine we ?_|refine wf ?_|refine wg ?_|refine wh rfl ?_|refine wi rfl ?_|refine wj rfl ?_|refine wk rfl ?_|refine wl rfl ?_|refine wm (by decide) ?_|(apply Tri.ldE; (first|exact K0|exact K1|exact K2|exact K3|exact K4|exact K5|exact K6|exact K7|exact K8); (exact rfl); (exact wz rfl))|(apply Tri.stE; (first|exact K0|exact K1|exact K2|exact K3|exact K4|exact K5|exact K6|exact K7|exact K8); (exact rfl); (exact wz rfl))|(apply Tri.same; (first|exact K0|exact K1|exact K2|exact K3|exact K4|exact K5|exact K6|exact K7|exact K8); (exact rfl); (exact wz rfl))|refine wq fun _ => ?_)
  have hperm : ∀ z : Bm, (z :: (A ++ B)).Perm ((A ++ z :: B) ++ []) := fun z => by rw [List.append_nil]; exact List.perm_middle.symm
  refine Tri.cnd (fun h4 => ?_) (fun h4 => ?_)
  · have h4 : dst ∉ y.d.m := by simpa using h4
    repeat (first|refine wa ?_|refine wb ?_|refine wc ?_|refine wd ?_|refine we ?_|refine wf ?_|refine wg ?_|refine wh rfl ?_|refine wi rfl ?_|refine wj rfl ?_|refine wk rfl ?_|refine wl rfl ?_|refine wm (by decide) ?_|(apply Tri.ldE; (first|exact K0|exact K1|exact K2|exact K3|exact K4|exact K5|exact K6|exact K7|exact K8); (exact rfl); (exact wz rfl))|(apply Tri.stE; (first|exact K0|exact K1|exact K2|exact K3|exact K4|exact K5|exact K6|exact K7|exact K8); (exact rfl); (exact wz rfl))|(apply Tri.same; (first|exact K0|exact K1|exact K2|exact K3|exact K4|exact K5|exact K6|exact K7|exact K8); (exact rfl); (exact wz rfl))|refine wq fun _ => ?_)
    refine Tri.ldR (T := bmE) (k := 5) (j := A.length) (by first|exact K0|exact K1|exact K2|exact K3|exact K4|exact K5|exact K6|exact K7|exact K8) rfl hy1 rfl (by decide) rfl ?_
    repeat (first|refine wa ?_|refine wb ?_|refine wc ?_|refine wd ?_|refine we ?_|refine wf ?_|refine wg ?_|refine wh rfl ?_|refine wi rfl ?_|refine wj rfl ?_|refine wk rfl ?_|refine wl rfl ?_|refine wm (by decide) ?_|(apply Tri.ldE; (first|exact K0|exact K1|exact K2|exact K3|exact K4|exact K5|exact K6|exact K7|exact K8); (exact rfl); (exact wz rfl))|(apply Tri.stE; (first|exact K0|exact K1|exact K2|exact K3|exact K4|exact K5|exact K6|exact K7|exact K8); (exact rfl); (exact wz rfl))|(apply Tri.same; (first|exact K0|exact K1|exact K2|exact K3|exact K4|exact K5|exact K6|exact K7|exact K8); (exact rfl); (exact wz rfl))|refine wq fun _ => ?_)
    refine Tri.ldR (T := bmE) (k := 5) (j := A.length) (by first|exact K0|exact K1|exact K2|exact K3|exact K4|exact K5|exact K6|exact K7|exact K8) rfl hy1 rfl (by decide) rfl ?_
    repeat (first|refine wa ?_|refine wb ?_|refine wc ?_|refine wd ?_|refine we ?_|refine wf ?_|refine wg ?_|refine wh rfl ?_|refine wi rfl ?_|refine wj rfl ?_|refine wk rfl ?_|refine wl rfl ?_|refine wm (by decide) ?_|(apply Tri.ldE; (first|exact K0|exact K1|exact K2|exact K3|exact K4|exact K5|exact K6|exact K7|exact K8); (exact rfl); (exact wz rfl))|(apply Tri.stE; (first|exact K0|exact K1|exact K2|exact K3|exact K4|exact K5|exact K6|exact K7|exact K8); (exact rfl); (exact wz rfl))|(apply Tri.same; (first|exact K0|exact K1|exact K2|exact K3|exact K4|exact K5|exact K6|exact K7|exact K8); (exact rfl); (exact wz rfl))|refine wq fun _ => ?_)
    refine Tri.slLen (l := y.d.m) (o := y.met) (ro := false) (T := adE) (by first|exact K0|exact K1|exact K2|exact K3|exact K4|exact K5|exact K6|exact K7|exact K8) fun _ e2 => ?_
    rw [e2, show maxI (IntKind.wrap .i64 (IntKind.wrap .i64 ((y.d.m.length : Int) + 1) - 16)) 0 = ((y.d.m.length + 1 - 16 : Nat) : Int) by
      rw [wr_i64 (n := (y.d.m.length : Int) + 1) (by omega) (by omega), wr_i64 (by omega) (by omega)]; unfold maxI; split <;> omega]
    refine Tri.slc (T := adE) (ro := false) (o := y.met) (l := y.d.m) (y.d.m.length + 1 - 16) y.d.m.length (by first|exact K0|exact K1|exact K2|exact K3|exact K4|exact K5|exact K6|exact K7|exact K8) rfl rfl rfl (by omega) (by omega) fun o3 => ?_
    rw [List.take_length]
    repeat (first|refine wa ?_|refine wb ?_|refine wc ?_|refine wd ?_|refine we ?_|refine wf ?_|refine wg ?_|refine wh rfl ?_|refine wi rfl ?_|refine wj rfl ?_|refine wk rfl ?_|refine wl rfl ?_|refine wm (by decide) ?_|(apply Tri.ldE; (first|exact K0|exact K1|exact K2|exact K3|exact K4|exact K5|exact K6|exact K7|exact K8); (exact rfl); (exact wz rfl))|(apply Tri.stE; (first|exact K0|exact K1|exact K2|exact K3|exact K4|exact K5|exact K6|exact K7|exact K8); (exact rfl); (exact wz rfl))|(apply Tri.same; (first|exact K0|exact K1|exact K2|exact K3|exact K4|exact K5|exact K6|exact K7|exact K8); (exact rfl); (exact wz rfl))|refine wq fun _ => ?_)
    refine Tri.call (cloneA_spec (o := o3) (l := y.d.m.drop (y.d.m.length + 1 - 16)) (by simp; omega)) (by repeat (first|exact Picks.nil|(apply Picks.cons; (first|exact K0|exact K1|exact K2|exact K3|exact K4|exact K5|exact K6|exact K7|exact K8)))) ?_
    rintro v L' ⟨o4, rfl, rfl⟩
    simp only [List.cons_append, List.nil_append]
    repeat (first|refine wa ?_|refine wb ?_|refine wc ?_|refine wd ?_|refine we ?_|refine wf ?_|refine wg ?_|refine wh rfl ?_|refine wi rfl ?_|refine wj rfl ?_|refine wk rfl ?_|refine wl rfl ?_|refine wm (by decide) ?_|(apply Tri.ldE; (first|exact K0|exact K1|exact K2|exact K3|exact K4|exact K5|exact K6|exact K7|exact K8); (exact rfl); (exact wz rfl))|(apply Tri.stE; (first|exact K0|exact K1|exact K2|exact K3|exact K4|exact K5|exact K6|exact K7|exact K8); (exact rfl); (exact wz rfl))|(apply Tri.same; (first|exact K0|exact K1|exact K2|exact K3|exact K4|exact K5|exact K6|exact K7|exact K8); (exact rfl); (exact wz rfl))|refine wq fun _ => ?_)
    refine Tri.ldsD (d := ⟨_, 0, 1, 1, 2⟩) (by first|exact K0|exact K1|exact K2|exact K3|exact K4|exact K5|exact K6|exact K7|exact K8) rfl (Nat.le_refl _) (Nat.le_of_ble_eq_true rfl) ?_
    refine Tri.app (T := adE) (o := o4) (l := y.d.m.drop (y.d.m.length + 1 - 16)) [dst] (by first|exact K0|exact K1|exact K2|exact K3|exact K4|exact K5|exact K6|exact K7|exact K8) rfl rfl rfl (by decide) (by decide) (by simp [appBound]; omega) fun o5 => ?_
    repeat (first|refine wa ?_|refine wb ?_|refine wc ?_|refine wd ?_|refine we ?_|refine wf ?_|refine wg ?_|refine wh rfl ?_|refine wi rfl ?_|refine wj rfl ?_|refine wk rfl ?_|refine wl rfl ?_|refine wm (by decide) ?_|(apply Tri.ldE; (first|exact K0|exact K1|exact K2|exact K3|exact K4|exact K5|exact K6|exact K7|exact K8); (exact rfl); (exact wz rfl))|(apply Tri.stE; (first|exact K0|exact K1|exact K2|exact K3|exact K4|exact K5|exact K6|exact K7|exact K8); (exact rfl); (exact wz rfl))|(apply Tri.same; (first|exact K0|exact K1|exact K2|exact K3|exact K4|exact K5|exact K6|exact K7|exact K8); (exact rfl); (exact wz rfl))|refine wq fun _ => ?_)
    have hmet : metB y.d.m dst = y.d.m.drop (y.d.m.length + 1 - 16) ++ [dst] := by unfold metB; rw [if_neg h4]
    rw [← hmet]
    refine Tri.stR (T := bmE) (k := 5) (j := A.length) ⟨useB now b.hold dst y.d, o5⟩ (by first|exact K0|exact K1|exact K2|exact K3|exact K4|exact K5|exact K6|exact K7|exact K8) rfl hy1 rfl (by decide) rfl ?_
    rw [set_split]
    have hy2 : (A ++ (⟨useB now b.hold dst y.d, o5⟩ : Bm) :: B)[A.length]? = some ⟨useB now b.hold dst y.d, o5⟩ := by simp
    repeat (first|refine wa ?_|refine wb ?_|refine wc ?_|refine wd ?_|refine we ?_|refine wf ?_|refine wg ?_|refine wh rfl ?_|refine wi rfl ?_|refine wj rfl ?_|refine wk rfl ?_|refine wl rfl ?_|refine wm (by decide) ?_|(apply Tri.ldE; (first|exact K0|exact K1|exact K2|exact K3|exact K4|exact K5|exact K6|exact K7|exact K8); (exact rfl); (exact wz rfl))|(apply Tri.stE; (first|exact K0|exact K1|exact K2|exact K3|exact K4|exact K5|exact K6|exact K7|exact K8); (exact rfl); (exact wz rfl))|(apply Tri.same; (first|exact K0|exact K1|exact K2|exact K3|exact K4|exact K5|exact K6|exact K7|exact K8); (exact rfl); (exact wz rfl))|refine wq fun _ => ?_)
    refine Tri.ldR (T := bmE) (k := 4) (j := A.length) (by first|exact K0|exact K1|exact K2|exact K3|exact K4|exact K5|exact K6|exact K7|exact K8) rfl hy2 rfl (by decide) rfl ?_
    repeat (first|refine wa ?_|refine wb ?_|refine wc ?_|refine wd ?_|refine we ?_|refine wf ?_|refine wg ?_|refine wh rfl ?_|refine wi rfl ?_|refine wj rfl ?_|refine wk rfl ?_|refine wl rfl ?_|refine wm (by decide) ?_|(apply Tri.ldE; (first|exact K0|exact K1|exact K2|exact K3|exact K4|exact K5|exact K6|exact K7|exact K8); (exact rfl); (exact wz rfl))|(apply Tri.stE; (first|exact K0|exact K1|exact K2|exact K3|exact K4|exact K5|exact K6|exact K7|exact K8); (exact rfl); (exact wz rfl))|(apply Tri.same; (first|exact K0|exact K1|exact K2|exact K3|exact K4|exact K5|exact K6|exact K7|exact K8); (exact rfl); (exact wz rfl))|refine wq fun _ => ?_)
    refine Tri.metsIn (l := A ++ B) ⟨useB now b.hold dst y.d, o5⟩ (by first|exact K0|exact K1|exact K2|exact K3|exact K4|exact K5|exact K6|exact K7|exact K8) (by first|exact K0|exact K1|exact K2|exact K3|exact K4|exact K5|exact K6|exact K7|exact K8) ?_
    refine Tri.metsTo (l' := A ++ ⟨useB now b.hold dst y.d, o5⟩ :: B) (X := []) (by first|exact K0|exact K1|exact K2|exact K3|exact K4|exact K5|exact K6|exact K7|exact K8) (hperm _) ?_
    refine Bo.mk (b := { b with l := ((A ++ y :: B).map Bm.d).set A.length (useB now b.hold dst y.d) }) (o := some d) (l := A ++ ⟨useB now b.hold dst y.d, o5⟩ :: B) (by simp) (by first|exact K0|exact K1|exact K2|exact K3|exact K4|exact K5|exact K6|exact K7|exact K8) (by first|exact K0|exact K1|exact K2|exact K3|exact K4|exact K5|exact K6|exact K7|exact K8) (by first|exact K0|exact K1|exact K2|exact K3|exact K4|exact K5|exact K6|exact K7|exact K8) ?_
    exact Tri.retF ⟨rfl, rfl⟩ (by repeat (first|exact Sub.refl _|exact Sub.nil _|(apply Sub.cons; (first|exact K0|exact K1|exact K2|exact K3|exact K4|exact K5|exact K6|exact K7|exact K8))|apply Sub.skip))
  · have h4 : dst ∈ y.d.m := by simpa using h4
    have hmet : metB y.d.m dst = y.d.m := by unfold metB; rw [if_pos h4]
    repeat (first|refine wa ?_|refine wb ?_|refine wc ?_|refine wd ?_|refine we ?_|refine wf ?_|refine wg ?_|refine wh rfl ?_|refine wi rfl ?_|refine wj rfl ?_|refine wk rfl ?_|refine wl rfl ?_|refine wm (by decide) ?_|(apply Tri.ldE; (first|exact K0|exact K1|exact K2|exact K3|exact K4|exact K5|exact K6|exact K7|exact K8); (exact rfl); (exact wz rfl))|(apply Tri.stE; (first|exact K0|exact K1|exact K2|exact K3|exact K4|exact K5|exact K6|exact K7|exact K8); (exact rfl); (exact wz rfl))|(apply Tri.same; (first|exact K0|exact K1|exact K2|exact K3|exact K4|exact K5|exact K6|exact K7|exact K8); (exact rfl); (exact wz rfl))|refine wq fun _ => ?_)
    refine Tri.ldR (T := bmE) (k := 4) (j := A.length) (by first|exact K0|exact K1|exact K2|exact K3|exact K4|exact K5|exact K6|exact K7|exact K8) rfl hy1 rfl (by decide) rfl ?_
    repeat (first|refine wa ?_|refine wb ?_|refine wc ?_|refine wd ?_|refine we ?_|refine wf ?_|refine wg ?_|refine wh rfl ?_|refine wi rfl ?_|refine wj rfl ?_|refine wk rfl ?_|refine wl rfl ?_|refine wm (by decide) ?_|(apply Tri.ldE; (first|exact K0|exact K1|exact K2|exact K3|exact K4|exact K5|exact K6|exact K7|exact K8); (exact rfl); (exact wz rfl))|(apply Tri.stE; (first|exact K0|exact K1|exact K2|exact K3|exact K4|exact K5|exact K6|exact K7|exact K8); (exact rfl); (exact wz rfl))|(apply Tri.same; (first|exact K0|exact K1|exact K2|exact K3|exact K4|exact K5|exact K6|exact K7|exact K8); (exact rfl); (exact wz rfl))|refine wq fun _ => ?_)
    refine Tri.metsIn (l := A ++ B) ⟨{ y.d with til := IntKind.wrap .u64 (now + b.hold) }, y.met⟩ (by first|exact K0|exact K1|exact K2|exact K3|exact K4|exact K5|exact K6|exact K7|exact K8) (by first|exact K0|exact K1|exact K2|exact K3|exact K4|exact K5|exact K6|exact K7|exact K8) ?_
    refine Tri.metsTo (l' := A ++ ⟨{ y.d with til := IntKind.wrap .u64 (now + b.hold) }, y.met⟩ :: B) (X := []) (by first|exact K0|exact K1|exact K2|exact K3|exact K4|exact K5|exact K6|exact K7|exact K8) (hperm _) ?_
    refine Bo.mk (b := { b with l := ((A ++ y :: B).map Bm.d).set A.length (useB now b.hold dst y.d) }) (o := some d) (l := A ++ ⟨{ y.d with til := IntKind.wrap .u64 (now + b.hold) }, y.met⟩ :: B) (by simp [useB, hmet]) (by first|exact K0|exact K1|exact K2|exact K3|exact K4|exact K5|exact K6|exact K7|exact K8) (by first|exact K0|exact K1|exact K2|exact K3|exact K4|exact K5|exact K6|exact K7|exact K8) (by first|exact K0|exact K1|exact K2|exact K3|exact K4|exact K5|exact K6|exact K7|exact K8) ?_
    exact Tri.retF ⟨rfl, rfl⟩ (by repeat (first|exact Sub.refl _|exact Sub.nil _|(apply Sub.cons; (first|exact K0|exact K1|exact K2|exact K3|exact K4|exact K5|exact K6|exact K7|exact K8))|apply Sub.skip))
end Go.Proofs.Ytloiifcocgpnbaa
namespace Go.Proofs.Ytloiifcocgpnbaa
open Go Go.Proofs.Ytloiifcocgpnbaa.Fw
set_option linter.unusedVariables false
set_option linter.unusedSimpArgs false
def isP (port : Int) (x : Bd) : Bool := x.port == port
def inB (b : Bx) (now port : Int) (src : Ad) : (Ad × Int) × Bx :=
  if noneB src || decide (now > 4611686018427387904) then ((⟨0, 0⟩, 1), b)
  else match idxB (isP port) (sweepB b now).l with
    | none => ((⟨0, 0⟩, 5), sweepB b now)
    | some i => match (sweepB b now).l[i]? with
      | none => ((⟨0, 0⟩, 5), sweepB b now)
      | some x => if passB b.fil x.m src then ((x.inn, 0), { b with l := (sweepB b now).l.set i { x with til := IntKind.wrap .u64 (now + b.hold) } }) else ((⟨0, 0⟩, 5), sweepB b now)
set_option maxRecDepth 20000 in
set_option maxHeartbeats 4000000 in
theorem in_spec {p : Nat} {b : Bx} {now port : Int} {src : Ad} (hb : b.l.length ≤ 90) (hm : Small b) : FSpec E 15 [.sc (.p (some (p, 0))), .sc (.i .u64 now), .sc (.i .u16 port), .ag (adE.e src)] [Bo p b]
    (fun v L' => v = .tu [.ag (adE.e (inB b now port src).1.1), .sc (.i .i64 (inB b now port src).1.2)] ∧ L' = [Bo p (inB b now port src).2]) := by
  refine FSpec.of (Try.func15 : Try.prog.funcs[15]? = some Try.f15) (t15_eq _ _ _ _ _ _) fun F => ?_
  unfold t15
  refine Tri.al fun a0 => ?_
  refine Tri.al fun a1 => ?_
  refine Tri.al fun a2 => ?_
  repeat (first|refine wa ?_|refine wb ?_|refine wc ?_|refine wd ?_|refine we ?_|refine wf ?_|refine wg ?_|refine wh rfl ?_|refine wi rfl ?_|refine wj rfl ?_|refine wk rfl ?_|refine wl rfl ?_|refine wm (by decide) ?_|(apply Tri.ldE; (first|exact K0|exact K1|exact K2|exact K3|exact K4|exact K5|exact K6|exact K7|exact K8); (exact rfl); (exact wz rfl))|(apply Tri.stE; (first|exact K0|exact K1|exact K2|exact K3|exact K4|exact K5|exact K6|exact K7|exact K8); (exact rfl); (exact wz rfl))|(apply Tri.same; (first|exact K0|exact K1|exact K2|exact K3|exact K4|exact K5|exact K6|exact K7|exact K8); (exact rfl); (exact wz rfl))|refine wq fun _ => ?_)
  refine Tri.call (none_spec (a := src)) (by repeat (first|exact Picks.nil|(apply Picks.cons; (first|exact K0|exact K1|exact K2|exact K3|exact K4|exact K5|exact K6|exact K7|exact K8)))) ?_
  rintro v L' ⟨rfl, rfl⟩
  simp only [List.cons_append, List.nil_append]
  repeat (first|refine wa ?_|refine wb ?_|refine wc ?_|refine wd ?_|refine we ?_|refine wf ?_|refine wg ?_|refine wh rfl ?_|refine wi rfl ?_|refine wj rfl ?_|refine wk rfl ?_|refine wl rfl ?_|refine wm (by decide) ?_|(apply Tri.ldE; (first|exact K0|exact K1|exact K2|exact K3|exact K4|exact K5|exact K6|exact K7|exact K8); (exact rfl); (exact wz rfl))|(apply Tri.stE; (first|exact K0|exact K1|exact K2|exact K3|exact K4|exact K5|exact K6|exact K7|exact K8); (exact rfl); (exact wz rfl))|(apply Tri.same; (first|exact K0|exact K1|exact K2|exact K3|exact K4|exact K5|exact K6|exact K7|exact K8); (exact rfl); (exact wz rfl))|refine wq fun _ => ?_)
  refine Tri.cnd (fun h1 => ?_) (fun h1 => ?_)
  · have hk : inB b now port src = ((⟨0, 0⟩, 1), b) := by unfold inB; rw [if_pos (by simp [h1])]
    repeat (first|refine wa ?_|refine wb ?_|refine wc ?_|refine wd ?_|refine we ?_|refine wf ?_|refine wg ?_|refine wh rfl ?_|refine wi rfl ?_|refine wj rfl ?_|refine wk rfl ?_|refine wl rfl ?_|refine wm (by decide) ?_|(apply Tri.ldE; (first|exact K0|exact K1|exact K2|exact K3|exact K4|exact K5|exact K6|exact K7|exact K8); (exact rfl); (exact wz rfl))|(apply Tri.stE; (first|exact K0|exact K1|exact K2|exact K3|exact K4|exact K5|exact K6|exact K7|exact K8); (exact rfl); (exact wz rfl))|(apply Tri.same; (first|exact K0|exact K1|exact K2|exact K3|exact K4|exact K5|exact K6|exact K7|exact K8); (exact rfl); (exact wz rfl))|refine wq fun _ => ?_)
    rw [hk]
    exact Tri.retF ⟨rfl, rfl⟩ (by repeat (first|exact Sub.refl _|exact Sub.nil _|(apply Sub.cons; (first|exact K0|exact K1|exact K2|exact K3|exact K4|exact K5|exact K6|exact K7|exact K8))|apply Sub.skip))
  refine Tri.cnd (fun h3 => ?_) (fun h3 => ?_)
  · have hk : inB b now port src = ((⟨0, 0⟩, 1), b) := by unfold inB; rw [if_pos (by simp at h3; simp [h3])]
    repeat (first|refine wa ?_|refine wb ?_|refine wc ?_|refine wd ?_|refine we ?_|refine wf ?_|refine wg ?_|refine wh rfl ?_|refine wi rfl ?_|refine wj rfl ?_|refine wk rfl ?_|refine wl rfl ?_|refine wm (by decide) ?_|(apply Tri.ldE; (first|exact K0|exact K1|exact K2|exact K3|exact K4|exact K5|exact K6|exact K7|exact K8); (exact rfl); (exact wz rfl))|(apply Tri.stE; (first|exact K0|exact K1|exact K2|exact K3|exact K4|exact K5|exact K6|exact K7|exact K8); (exact rfl); (exact wz rfl))|(apply Tri.same; (first|exact K0|exact K1|exact K2|exact K3|exact K4|exact K5|exact K6|exact K7|exact K8); (exact rfl); (exact wz rfl))|refine wq fun _ => ?_)
    rw [hk]
    exact Tri.retF ⟨rfl, rfl⟩ (by repeat (first|exact Sub.refl _|exact Sub.nil _|(apply Sub.cons; (first|exact K0|exact K1|exact K2|exact K3|exact K4|exact K5|exact K6|exact K7|exact K8))|apply Sub.skip))
  have hk0 : inB b now port src = (match idxB (isP port) (sweepB b now).l with
    | none => ((⟨0, 0⟩, 5), sweepB b now)
    | some i => match (sweepB b now).l[i]? with
      | none => ((⟨0, 0⟩, 5), sweepB b now)
      | some x => if passB b.fil x.m src then ((x.inn, 0), { b with l := (sweepB b now).l.set i { x with til := IntKind.wrap .u64 (now + b.hold) } }) else ((⟨0, 0⟩, 5), sweepB b now)) := by
    unfold inB
    rw [if_neg (by simp at h3; simp [h1]; omega)]
  have hsl := sweepB_len b now
  have hsm := sweepB_small hm now
  refine Tri.call (sweep_spec (p := p) (b := b) (now := now) (by omega)) (by repeat (first|exact Picks.nil|(apply Picks.cons; (first|exact K0|exact K1|exact K2|exact K3|exact K4|exact K5|exact K6|exact K7|exact K8)))) ?_
  rintro v L' ⟨rfl, rfl⟩
  simp only [List.cons_append, List.nil_append]
  repeat (first|refine wa ?_|refine wb ?_|refine wc ?_|refine wd ?_|refine we ?_|refine wf ?_|refine wg ?_|refine wh rfl ?_|refine wi rfl ?_|refine wj rfl ?_|refine wk rfl ?_|refine wl rfl ?_|refine wm (by decide) ?_|(apply Tri.ldE; (first|exact K0|exact K1|exact K2|exact K3|exact K4|exact K5|exact K6|exact K7|exact K8); (exact rfl); (exact wz rfl))|(apply Tri.stE; (first|exact K0|exact K1|exact K2|exact K3|exact K4|exact K5|exact K6|exact K7|exact K8); (exact rfl); (exact wz rfl))|(apply Tri.same; (first|exact K0|exact K1|exact K2|exact K3|exact K4|exact K5|exact K6|exact K7|exact K8); (exact rfl); (exact wz rfl))|refine wq fun _ => ?_)
  refine Bo.op (by first|exact K0|exact K1|exact K2|exact K3|exact K4|exact K5|exact K6|exact K7|exact K8) fun o l hl hn e1 => ?_
  repeat (first|refine wa ?_|refine wb ?_|refine wc ?_|refine wd ?_|refine we ?_|refine wf ?_|refine wg ?_|refine wh rfl ?_|refine wi rfl ?_|refine wj rfl ?_|refine wk rfl ?_|refine wl rfl ?_|refine wm (by decide) ?_|(apply Tri.ldE; (first|exact K0|exact K1|exact K2|exact K3|exact K4|exact K5|exact K6|exact K7|exact K8); (exact rfl); (exact wz rfl))|(apply Tri.stE; (first|exact K0|exact K1|exact K2|exact K3|exact K4|exact K5|exact K6|exact K7|exact K8); (exact rfl); (exact wz rfl))|(apply Tri.same; (first|exact K0|exact K1|exact K2|exact K3|exact K4|exact K5|exact K6|exact K7|exact K8); (exact rfl); (exact wz rfl))|refine wq fun _ => ?_)
  refine Tri.call (idxF_spec bdOk bmOk (o := o) (l := l) (pred38 (a := a0) (port := port)) (by omega)) (by repeat (first|exact Picks.nil|(apply Picks.cons; (first|exact K0|exact K1|exact K2|exact K3|exact K4|exact K5|exact K6|exact K7|exact K8)))) ?_
  rintro v L' ⟨rfl, ⟨rfl, hno⟩ | ⟨A, y, B, hl2, hD, hy, rfl⟩⟩
  · have hidx : idxB (isP port) (sweepB b now).l = none := idxB_none fun x hx => by
      rw [← hl] at hx
      obtain ⟨y, hy, rfl⟩ := List.mem_map.1 hx
      exact hno y hy
    have hk : inB b now port src = ((⟨0, 0⟩, 5), sweepB b now) := by rw [hk0, hidx]
    simp only [List.cons_append, List.nil_append]
    repeat (first|refine wa ?_|refine wb ?_|refine wc ?_|refine wd ?_|refine we ?_|refine wf ?_|refine wg ?_|refine wh rfl ?_|refine wi rfl ?_|refine wj rfl ?_|refine wk rfl ?_|refine wl rfl ?_|refine wm (by decide) ?_|(apply Tri.ldE; (first|exact K0|exact K1|exact K2|exact K3|exact K4|exact K5|exact K6|exact K7|exact K8); (exact rfl); (exact wz rfl))|(apply Tri.stE; (first|exact K0|exact K1|exact K2|exact K3|exact K4|exact K5|exact K6|exact K7|exact K8); (exact rfl); (exact wz rfl))|(apply Tri.same; (first|exact K0|exact K1|exact K2|exact K3|exact K4|exact K5|exact K6|exact K7|exact K8); (exact rfl); (exact wz rfl))|refine wq fun _ => ?_)
    refine Bo.mk hl (by first|exact K0|exact K1|exact K2|exact K3|exact K4|exact K5|exact K6|exact K7|exact K8) (by first|exact K0|exact K1|exact K2|exact K3|exact K4|exact K5|exact K6|exact K7|exact K8) (by first|exact K0|exact K1|exact K2|exact K3|exact K4|exact K5|exact K6|exact K7|exact K8) ?_
    rw [hk]
    exact Tri.retF ⟨rfl, rfl⟩ (by repeat (first|exact Sub.refl _|exact Sub.nil _|(apply Sub.cons; (first|exact K0|exact K1|exact K2|exact K3|exact K4|exact K5|exact K6|exact K7|exact K8))|apply Sub.skip))
  · subst hl2
    have h1' : ∀ y ∈ A.map Bm.d, isP port y = false := fun y hy => by
      obtain ⟨z, hz, rfl⟩ := List.mem_map.1 hy
      exact hD z hz
    have hidx : idxB (isP port) (sweepB b now).l = some A.length := by
      have h2 := idxB_mid (R := B.map Bm.d) h1' hy
      rw [← hl, List.map_append, List.map_cons, h2, List.length_map]
    have hget : (sweepB b now).l[A.length]? = some y.d := by rw [← hl]; simp
    rw [hidx] at hk0
    dsimp only at hk0
    rw [hget] at hk0
    dsimp only at hk0
    have hym : y.d.m.length ≤ 16 := hsm y.d (by rw [← hl]; simp)
    have hy0 : (A ++ y :: B)[A.length]? = some y := by simp
    simp only [List.cons_append, List.nil_append]
    repeat (first|refine wa ?_|refine wb ?_|refine wc ?_|refine wd ?_|refine we ?_|refine wf ?_|refine wg ?_|refine wh rfl ?_|refine wi rfl ?_|refine wj rfl ?_|refine wk rfl ?_|refine wl rfl ?_|refine wm (by decide) ?_|(apply Tri.ldE; (first|exact K0|exact K1|exact K2|exact K3|exact K4|exact K5|exact K6|exact K7|exact K8); (exact rfl); (exact wz rfl))|(apply Tri.stE; (first|exact K0|exact K1|exact K2|exact K3|exact K4|exact K5|exact K6|exact K7|exact K8); (exact rfl); (exact wz rfl))|(apply Tri.same; (first|exact K0|exact K1|exact K2|exact K3|exact K4|exact K5|exact K6|exact K7|exact K8); (exact rfl); (exact wz rfl))|refine wq fun _ => ?_)
    refine Tri.ixldR (T := bmE) (o := o) (x := y) (k := 5) (n := 1) (by first|exact K0|exact K1|exact K2|exact K3|exact K4|exact K5|exact K6|exact K7|exact K8) rfl (by omega) (by rw [Int.toNat_natCast]; exact hy0) (by decide) rfl ?_
    repeat (first|refine wa ?_|refine wb ?_|refine wc ?_|refine wd ?_|refine we ?_|refine wf ?_|refine wg ?_|refine wh rfl ?_|refine wi rfl ?_|refine wj rfl ?_|refine wk rfl ?_|refine wl rfl ?_|refine wm (by decide) ?_|(apply Tri.ldE; (first|exact K0|exact K1|exact K2|exact K3|exact K4|exact K5|exact K6|exact K7|exact K8); (exact rfl); (exact wz rfl))|(apply Tri.stE; (first|exact K0|exact K1|exact K2|exact K3|exact K4|exact K5|exact K6|exact K7|exact K8); (exact rfl); (exact wz rfl))|(apply Tri.same; (first|exact K0|exact K1|exact K2|exact K3|exact K4|exact K5|exact K6|exact K7|exact K8); (exact rfl); (exact wz rfl))|refine wq fun _ => ?_)
    refine Tri.metsOut (x := y) (l' := A ++ B) (by first|exact K0|exact K1|exact K2|exact K3|exact K4|exact K5|exact K6|exact K7|exact K8) List.perm_middle ?_
    refine Tri.call (passes_spec (mp := b.map) (f := b.fil) (o := y.met) (l := y.d.m) (a := src) (by omega)) (by repeat (first|exact Picks.nil|(apply Picks.cons; (first|exact K0|exact K1|exact K2|exact K3|exact K4|exact K5|exact K6|exact K7|exact K8)))) ?_
    rintro v L' ⟨rfl, rfl⟩
    simp only [List.cons_append, List.nil_append]
    repeat (first|refine wa ?_|refine wb ?_|refine wc ?_|refine wd ?_|refine we ?_|refine wf ?_|refine wg ?_|refine wh rfl ?_|refine wi rfl ?_|refine wj rfl ?_|refine wk rfl ?_|refine wl rfl ?_|refine wm (by decide) ?_|(apply Tri.ldE; (first|exact K0|exact K1|exact K2|exact K3|exact K4|exact K5|exact K6|exact K7|exact K8); (exact rfl); (exact wz rfl))|(apply Tri.stE; (first|exact K0|exact K1|exact K2|exact K3|exact K4|exact K5|exact K6|exact K7|exact K8); (exact rfl); (exact wz rfl))|(apply Tri.same; (first|exact K0|exact K1|exact K2|exact K3|exact K4|exact K5|exact K6|exact K7|exact K8); (exact rfl); (exact wz rfl))|refine wq fun _ => ?_)
    have hperm : ∀ z : Bm, (z :: (A ++ B)).Perm ((A ++ z :: B) ++ []) := fun z => by rw [List.append_nil]; exact List.perm_middle.symm
    refine Tri.cnd (fun h4 => ?_) (fun h4 => ?_)
    · have hk : inB b now port src = ((⟨0, 0⟩, 5), sweepB b now) := by rw [hk0, if_neg (by simpa using h4)]
      repeat (first|refine wa ?_|refine wb ?_|refine wc ?_|refine wd ?_|refine we ?_|refine wf ?_|refine wg ?_|refine wh rfl ?_|refine wi rfl ?_|refine wj rfl ?_|refine wk rfl ?_|refine wl rfl ?_|refine wm (by decide) ?_|(apply Tri.ldE; (first|exact K0|exact K1|exact K2|exact K3|exact K4|exact K5|exact K6|exact K7|exact K8); (exact rfl); (exact wz rfl))|(apply Tri.stE; (first|exact K0|exact K1|exact K2|exact K3|exact K4|exact K5|exact K6|exact K7|exact K8); (exact rfl); (exact wz rfl))|(apply Tri.same; (first|exact K0|exact K1|exact K2|exact K3|exact K4|exact K5|exact K6|exact K7|exact K8); (exact rfl); (exact wz rfl))|refine wq fun _ => ?_)
      refine Tri.metsIn (l := A ++ B) y (by first|exact K0|exact K1|exact K2|exact K3|exact K4|exact K5|exact K6|exact K7|exact K8) (by first|exact K0|exact K1|exact K2|exact K3|exact K4|exact K5|exact K6|exact K7|exact K8) ?_
      refine Tri.metsTo (l' := A ++ y :: B) (X := []) (by first|exact K0|exact K1|exact K2|exact K3|exact K4|exact K5|exact K6|exact K7|exact K8) (hperm _) ?_
      refine Bo.mk hl (by first|exact K0|exact K1|exact K2|exact K3|exact K4|exact K5|exact K6|exact K7|exact K8) (by first|exact K0|exact K1|exact K2|exact K3|exact K4|exact K5|exact K6|exact K7|exact K8) (by first|exact K0|exact K1|exact K2|exact K3|exact K4|exact K5|exact K6|exact K7|exact K8) ?_
      rw [hk]
      exact Tri.retF ⟨rfl, rfl⟩ (by repeat (first|exact Sub.refl _|exact Sub.nil _|(apply Sub.cons; (first|exact K0|exact K1|exact K2|exact K3|exact K4|exact K5|exact K6|exact K7|exact K8))|apply Sub.skip))
    · have hk : inB b now port src = ((y.d.inn, 0), { b with l := (sweepB b now).l.set A.length { y.d with til := IntKind.wrap .u64 (now + b.hold) } }) := by rw [hk0, if_pos (by simpa using h4)]
      repeat (first|refine wa ?_|refine wb ?_|refine wc ?_|refine wd ?_|refine we ?_|refine wf ?_|refine wg ?_|refine wh rfl ?_|refine wi rfl ?_|refine wj rfl ?_|refine wk rfl ?_|refine wl rfl ?_|refine wm (by decide) ?_|(apply Tri.ldE; (first|exact K0|exact K1|exact K2|exact K3|exact K4|exact K5|exact K6|exact K7|exact K8); (exact rfl); (exact wz rfl))|(apply Tri.stE; (first|exact K0|exact K1|exact K2|exact K3|exact K4|exact K5|exact K6|exact K7|exact K8); (exact rfl); (exact wz rfl))|(apply Tri.same; (first|exact K0|exact K1|exact K2|exact K3|exact K4|exact K5|exact K6|exact K7|exact K8); (exact rfl); (exact wz rfl))|refine wq fun _ => ?_)
      refine Tri.ixst1 (T := bmE) (o := o) (x := y) (k := 6) ⟨{ y.d with til := IntKind.wrap .u64 (now + b.hold) }, y.met⟩ (by first|exact K0|exact K1|exact K2|exact K3|exact K4|exact K5|exact K6|exact K7|exact K8) rfl (by decide) (by omega) (by rw [Int.toNat_natCast]; exact hy0) rfl ?_
      rw [Int.toNat_natCast, set_split]
      repeat (first|refine wa ?_|refine wb ?_|refine wc ?_|refine wd ?_|refine we ?_|refine wf ?_|refine wg ?_|refine wh rfl ?_|refine wi rfl ?_|refine wj rfl ?_|refine wk rfl ?_|refine wl rfl ?_|refine wm (by decide) ?_|(apply Tri.ldE; (first|exact K0|exact K1|exact K2|exact K3|exact K4|exact K5|exact K6|exact K7|exact K8); (exact rfl); (exact wz rfl))|(apply Tri.stE; (first|exact K0|exact K1|exact K2|exact K3|exact K4|exact K5|exact K6|exact K7|exact K8); (exact rfl); (exact wz rfl))|(apply Tri.same; (first|exact K0|exact K1|exact K2|exact K3|exact K4|exact K5|exact K6|exact K7|exact K8); (exact rfl); (exact wz rfl))|refine wq fun _ => ?_)
      have hy1 : (A ++ (⟨{ y.d with til := IntKind.wrap .u64 (now + b.hold) }, y.met⟩ : Bm) :: B)[A.length]? = some ⟨{ y.d with til := IntKind.wrap .u64 (now + b.hold) }, y.met⟩ := by simp
      refine Tri.ixldR (T := bmE) (o := o) (k := 0) (n := 2) (by first|exact K0|exact K1|exact K2|exact K3|exact K4|exact K5|exact K6|exact K7|exact K8) rfl (by omega) (by rw [Int.toNat_natCast]; exact hy1) (by decide) rfl ?_
      repeat (first|refine wa ?_|refine wb ?_|refine wc ?_|refine wd ?_|refine we ?_|refine wf ?_|refine wg ?_|refine wh rfl ?_|refine wi rfl ?_|refine wj rfl ?_|refine wk rfl ?_|refine wl rfl ?_|refine wm (by decide) ?_|(apply Tri.ldE; (first|exact K0|exact K1|exact K2|exact K3|exact K4|exact K5|exact K6|exact K7|exact K8); (exact rfl); (exact wz rfl))|(apply Tri.stE; (first|exact K0|exact K1|exact K2|exact K3|exact K4|exact K5|exact K6|exact K7|exact K8); (exact rfl); (exact wz rfl))|(apply Tri.same; (first|exact K0|exact K1|exact K2|exact K3|exact K4|exact K5|exact K6|exact K7|exact K8); (exact rfl); (exact wz rfl))|refine wq fun _ => ?_)
      refine Tri.metsIn (l := A ++ B) ⟨{ y.d with til := IntKind.wrap .u64 (now + b.hold) }, y.met⟩ (by first|exact K0|exact K1|exact K2|exact K3|exact K4|exact K5|exact K6|exact K7|exact K8) (by first|exact K0|exact K1|exact K2|exact K3|exact K4|exact K5|exact K6|exact K7|exact K8) ?_
      refine Tri.metsTo (l' := A ++ ⟨{ y.d with til := IntKind.wrap .u64 (now + b.hold) }, y.met⟩ :: B) (X := []) (by first|exact K0|exact K1|exact K2|exact K3|exact K4|exact K5|exact K6|exact K7|exact K8) (hperm _) ?_
      refine Bo.mk (b := { b with l := (sweepB b now).l.set A.length { y.d with til := IntKind.wrap .u64 (now + b.hold) } }) (o := o) (l := A ++ ⟨{ y.d with til := IntKind.wrap .u64 (now + b.hold) }, y.met⟩ :: B) (by simp only; rw [← hl]; simp) (by first|exact K0|exact K1|exact K2|exact K3|exact K4|exact K5|exact K6|exact K7|exact K8) (by first|exact K0|exact K1|exact K2|exact K3|exact K4|exact K5|exact K6|exact K7|exact K8) (by first|exact K0|exact K1|exact K2|exact K3|exact K4|exact K5|exact K6|exact K7|exact K8) ?_
      rw [hk]
      exact Tri.retF ⟨rfl, rfl⟩ (by repeat (first|exact Sub.refl _|exact Sub.nil _|(apply Sub.cons; (first|exact K0|exact K1|exact K2|exact K3|exact K4|exact K5|exact K6|exact K7|exact K8))|apply Sub.skip))
theorem bSort : SortOk E bmE 41 999 := sort_full bsOk bmOk
theorem binds_spec {p : Nat} {b : Bx} (hb : b.l.length ≤ 90) (hm : Small b) : FSpec E 16 [.sc (.p (some (p, 0)))] [Bo p b]
    (fun v L' => ∃ (o : Option SlD) (l : List Bm), v = .sc (.sl o) ∧ (l.map Bm.d).Perm b.l ∧ (l.map Bm.d).Pairwise (fun a b => a.port ≤ b.port) ∧ L' = [Bo p b, .sl false bmE o l, Mets l]) := by
  refine FSpec.of (Try.func16 : Try.prog.funcs[16]? = some Try.f16) (t16_eq _ _) fun F => ?_
  unfold t16
  repeat (first|refine wa ?_|refine wb ?_|refine wc ?_|refine wd ?_|refine we ?_|refine wf ?_|refine wg ?_|refine wh rfl ?_|refine wi rfl ?_|refine wj rfl ?_|refine wk rfl ?_|refine wl rfl ?_|refine wm (by decide) ?_|(apply Tri.ldE; (first|exact K0|exact K1|exact K2|exact K3|exact K4|exact K5|exact K6|exact K7|exact K8); (exact rfl); (exact wz rfl))|(apply Tri.stE; (first|exact K0|exact K1|exact K2|exact K3|exact K4|exact K5|exact K6|exact K7|exact K8); (exact rfl); (exact wz rfl))|(apply Tri.same; (first|exact K0|exact K1|exact K2|exact K3|exact K4|exact K5|exact K6|exact K7|exact K8); (exact rfl); (exact wz rfl))|refine wq fun _ => ?_)
  refine Bo.op (by first|exact K0|exact K1|exact K2|exact K3|exact K4|exact K5|exact K6|exact K7|exact K8) fun o l hl hn e1 => ?_
  repeat (first|refine wa ?_|refine wb ?_|refine wc ?_|refine wd ?_|refine we ?_|refine wf ?_|refine wg ?_|refine wh rfl ?_|refine wi rfl ?_|refine wj rfl ?_|refine wk rfl ?_|refine wl rfl ?_|refine wm (by decide) ?_|(apply Tri.ldE; (first|exact K0|exact K1|exact K2|exact K3|exact K4|exact K5|exact K6|exact K7|exact K8); (exact rfl); (exact wz rfl))|(apply Tri.stE; (first|exact K0|exact K1|exact K2|exact K3|exact K4|exact K5|exact K6|exact K7|exact K8); (exact rfl); (exact wz rfl))|(apply Tri.same; (first|exact K0|exact K1|exact K2|exact K3|exact K4|exact K5|exact K6|exact K7|exact K8); (exact rfl); (exact wz rfl))|refine wq fun _ => ?_)
  refine Tri.call (cloneB_spec (o := o) (l := l) (by omega)) (by repeat (first|exact Picks.nil|(apply Picks.cons; (first|exact K0|exact K1|exact K2|exact K3|exact K4|exact K5|exact K6|exact K7|exact K8)))) ?_
  rintro v L' ⟨o2, rfl, rfl⟩
  simp only [List.cons_append, List.nil_append]
  repeat (first|refine wa ?_|refine wb ?_|refine wc ?_|refine wd ?_|refine we ?_|refine wf ?_|refine wg ?_|refine wh rfl ?_|refine wi rfl ?_|refine wj rfl ?_|refine wk rfl ?_|refine wl rfl ?_|refine wm (by decide) ?_|(apply Tri.ldE; (first|exact K0|exact K1|exact K2|exact K3|exact K4|exact K5|exact K6|exact K7|exact K8); (exact rfl); (exact wz rfl))|(apply Tri.stE; (first|exact K0|exact K1|exact K2|exact K3|exact K4|exact K5|exact K6|exact K7|exact K8); (exact rfl); (exact wz rfl))|(apply Tri.same; (first|exact K0|exact K1|exact K2|exact K3|exact K4|exact K5|exact K6|exact K7|exact K8); (exact rfl); (exact wz rfl))|refine wq fun _ => ?_)
  refine Tri.slLen (l := l) (o := o2) (ro := false) (T := bmE) (by first|exact K0|exact K1|exact K2|exact K3|exact K4|exact K5|exact K6|exact K7|exact K8) fun _ e2 => ?_
  rw [e2]
  refine Tri.mkEmp ?_
  refine Tri.loop (I := fun m l' L => ∃ (D R N : List Bm), m = R.length ∧ l = D ++ R ∧ N.map Bm.d = D.map Bm.d ∧
    l' = [.sc (.sl o2), .sc (.i .i64 l.length), .sc (.i .i64 D.length)] ∧ L = Mets N :: pt p (bxC b o) :: .sl false bmE o l :: Mets l :: .sl false bmE o2 (N ++ R) :: F) ⟨[], l, [], rfl, rfl, rfl, rfl, rfl⟩ (by repeat (first|exact Sub.refl _|exact Sub.nil _|(apply Sub.cons; (first|exact K0|exact K1|exact K2|exact K3|exact K4|exact K5|exact K6|exact K7|exact K8))|apply Sub.skip)) ?_
  rintro m l' L ⟨D, R, N, rfl, hDR, hN, rfl, rfl⟩
  have hlc : l.length = D.length + R.length := by rw [hDR]; simp
  have hNl : N.length = D.length := by have := congrArg List.length hN; simpa using this
  unfold t16_b7
  repeat (first|refine wa ?_|refine wb ?_|refine wc ?_|refine wd ?_|refine we ?_|refine wf ?_|refine wg ?_|refine wh rfl ?_|refine wi rfl ?_|refine wj rfl ?_|refine wk rfl ?_|refine wl rfl ?_|refine wm (by decide) ?_|(apply Tri.ldE; (first|exact K0|exact K1|exact K2|exact K3|exact K4|exact K5|exact K6|exact K7|exact K8); (exact rfl); (exact wz rfl))|(apply Tri.stE; (first|exact K0|exact K1|exact K2|exact K3|exact K4|exact K5|exact K6|exact K7|exact K8); (exact rfl); (exact wz rfl))|(apply Tri.same; (first|exact K0|exact K1|exact K2|exact K3|exact K4|exact K5|exact K6|exact K7|exact K8); (exact rfl); (exact wz rfl))|refine wq fun _ => ?_)
  cases R with
  | nil =>
    refine Tri.cndF (by simp at hlc; simp; omega) ?_
    refine Tri.exit (by decide) ?_
    unfold t16_k7
    repeat (first|refine wa ?_|refine wb ?_|refine wc ?_|refine wd ?_|refine we ?_|refine wf ?_|refine wg ?_|refine wh rfl ?_|refine wi rfl ?_|refine wj rfl ?_|refine wk rfl ?_|refine wl rfl ?_|refine wm (by decide) ?_|(apply Tri.ldE; (first|exact K0|exact K1|exact K2|exact K3|exact K4|exact K5|exact K6|exact K7|exact K8); (exact rfl); (exact wz rfl))|(apply Tri.stE; (first|exact K0|exact K1|exact K2|exact K3|exact K4|exact K5|exact K6|exact K7|exact K8); (exact rfl); (exact wz rfl))|(apply Tri.same; (first|exact K0|exact K1|exact K2|exact K3|exact K4|exact K5|exact K6|exact K7|exact K8); (exact rfl); (exact wz rfl))|refine wq fun _ => ?_)
    have hDl : D = l := by rw [hDR]; simp
    subst hDl
    rw [List.append_nil]
    refine Tri.call (bSort (o := o2) (l := N) cmpP plt_ord (by omega)) (by repeat (first|exact Picks.nil|(apply Picks.cons; (first|exact K0|exact K1|exact K2|exact K3|exact K4|exact K5|exact K6|exact K7|exact K8)))) ?_
    rintro v L' ⟨W, rfl, rfl, hW, hinc⟩
    simp only [List.cons_append, List.nil_append]
    repeat (first|refine wa ?_|refine wb ?_|refine wc ?_|refine wd ?_|refine we ?_|refine wf ?_|refine wg ?_|refine wh rfl ?_|refine wi rfl ?_|refine wj rfl ?_|refine wk rfl ?_|refine wl rfl ?_|refine wm (by decide) ?_|(apply Tri.ldE; (first|exact K0|exact K1|exact K2|exact K3|exact K4|exact K5|exact K6|exact K7|exact K8); (exact rfl); (exact wz rfl))|(apply Tri.stE; (first|exact K0|exact K1|exact K2|exact K3|exact K4|exact K5|exact K6|exact K7|exact K8); (exact rfl); (exact wz rfl))|(apply Tri.same; (first|exact K0|exact K1|exact K2|exact K3|exact K4|exact K5|exact K6|exact K7|exact K8); (exact rfl); (exact wz rfl))|refine wq fun _ => ?_)
    refine Bo.mk hl (by first|exact K0|exact K1|exact K2|exact K3|exact K4|exact K5|exact K6|exact K7|exact K8) (by first|exact K0|exact K1|exact K2|exact K3|exact K4) (by first|exact K0|exact K1|exact K2|exact K3|exact K4) ?_
    refine Tri.metsTo (l := N) (l' := W) (X := []) (by first|exact K0|exact K1|exact K2|exact K3|exact K4|exact K5|exact K6|exact K7|exact K8) (by rw [List.append_nil]; exact hW.symm) ?_
    refine Tri.retF ⟨o2, W, rfl, ?_, ?_, rfl⟩ (by repeat (first|exact Sub.refl _|exact Sub.nil _|(apply Sub.cons; (first|exact K0|exact K1|exact K2|exact K3|exact K4|exact K5|exact K6|exact K7|exact K8))|apply Sub.skip))
    · rw [← hl, ← hN]; exact hW.map Bm.d
    · refine List.pairwise_map.2 (List.pairwise_iff_getElem.2 fun i j hi hj hij => ?_)
      have := hinc i j _ _ (Nat.zero_le _) hij (by rw [← hW.length_eq]; exact hj) (List.getElem?_eq_getElem hi) (List.getElem?_eq_getElem hj)
      unfold plt at this; omega
  | cons x R =>
    simp only [List.length_cons] at hlc
    have hx : (N ++ x :: R)[D.length]? = some x := by rw [← hNl]; simp
    have hxm : x.d.m.length ≤ 16 := hm x.d (by rw [← hl, hDR]; simp)
    refine Tri.cndT (by simp; omega) ?_
    refine Tri.ixldR (T := bmE) (o := o2) (x := x) (k := 5) (n := 1) (by first|exact K0|exact K1|exact K2|exact K3|exact K4|exact K5|exact K6|exact K7|exact K8) rfl (by omega) (by rw [Int.toNat_natCast]; exact hx) (by decide) rfl ?_
    repeat (first|refine wa ?_|refine wb ?_|refine wc ?_|refine wd ?_|refine we ?_|refine wf ?_|refine wg ?_|refine wh rfl ?_|refine wi rfl ?_|refine wj rfl ?_|refine wk rfl ?_|refine wl rfl ?_|refine wm (by decide) ?_|(apply Tri.ldE; (first|exact K0|exact K1|exact K2|exact K3|exact K4|exact K5|exact K6|exact K7|exact K8); (exact rfl); (exact wz rfl))|(apply Tri.stE; (first|exact K0|exact K1|exact K2|exact K3|exact K4|exact K5|exact K6|exact K7|exact K8); (exact rfl); (exact wz rfl))|(apply Tri.same; (first|exact K0|exact K1|exact K2|exact K3|exact K4|exact K5|exact K6|exact K7|exact K8); (exact rfl); (exact wz rfl))|refine wq fun _ => ?_)
    refine Tri.metsOut (l := l) (x := x) (l' := D ++ R) (by first|exact K0|exact K1|exact K2|exact K3|exact K4|exact K5|exact K6|exact K7|exact K8) (by rw [hDR]; exact List.perm_middle) ?_
    refine Tri.call (cloneA_spec (o := x.met) (l := x.d.m) (by omega)) (by repeat (first|exact Picks.nil|(apply Picks.cons; (first|exact K0|exact K1|exact K2|exact K3|exact K4|exact K5|exact K6|exact K7|exact K8)))) ?_
    rintro v L' ⟨o3, rfl, rfl⟩
    simp only [List.cons_append, List.nil_append]
    repeat (first|refine wa ?_|refine wb ?_|refine wc ?_|refine wd ?_|refine we ?_|refine wf ?_|refine wg ?_|refine wh rfl ?_|refine wi rfl ?_|refine wj rfl ?_|refine wk rfl ?_|refine wl rfl ?_|refine wm (by decide) ?_|(apply Tri.ldE; (first|exact K0|exact K1|exact K2|exact K3|exact K4|exact K5|exact K6|exact K7|exact K8); (exact rfl); (exact wz rfl))|(apply Tri.stE; (first|exact K0|exact K1|exact K2|exact K3|exact K4|exact K5|exact K6|exact K7|exact K8); (exact rfl); (exact wz rfl))|(apply Tri.same; (first|exact K0|exact K1|exact K2|exact K3|exact K4|exact K5|exact K6|exact K7|exact K8); (exact rfl); (exact wz rfl))|refine wq fun _ => ?_)
    refine Tri.ixst1 (T := bmE) (o := o2) (x := x) (k := 5) ⟨x.d, o3⟩ (by first|exact K0|exact K1|exact K2|exact K3|exact K4|exact K5|exact K6|exact K7|exact K8) rfl (by decide) (by omega) (by rw [Int.toNat_natCast]; exact hx) rfl ?_
    rw [Int.toNat_natCast, ← hNl, set_split, hNl, wr_i64 (by omega) (by omega)]
    refine Tri.metsIn (l := D ++ R) x (by first|exact K0|exact K1|exact K2|exact K3|exact K4|exact K5|exact K6|exact K7|exact K8) (by first|exact K0|exact K1|exact K2|exact K3|exact K4) ?_
    refine Tri.metsTo (l := x :: (D ++ R)) (l' := l) (X := []) (by first|exact K0|exact K1|exact K2|exact K3|exact K4|exact K5|exact K6|exact K7|exact K8) (by rw [List.append_nil, hDR]; exact List.perm_middle.symm) ?_
    refine Tri.metsIn (l := N) ⟨x.d, o3⟩ (by first|exact K0|exact K1|exact K2|exact K3|exact K4|exact K5|exact K6|exact K7|exact K8) (by first|exact K0|exact K1|exact K2|exact K3|exact K4) ?_
    refine Tri.metsTo (l := ⟨x.d, o3⟩ :: N) (l' := N ++ [⟨x.d, o3⟩]) (X := []) (by first|exact K0|exact K1|exact K2|exact K3|exact K4|exact K5|exact K6|exact K7|exact K8) (by rw [List.append_nil]; exact List.perm_append_comm (l₁ := [_])) ?_
    exact Tri.back (m' := R.length) (by simp) ⟨D ++ [x], R, N ++ [⟨x.d, o3⟩], rfl, by rw [hDR]; simp, by simp [hN], by simp, rfl⟩ (by simpa using (by repeat (first|exact Sub.refl _|exact Sub.nil _|(apply Sub.cons; (first|exact K0|exact K1|exact K2|exact K3|exact K4|exact K5|exact K6|exact K7|exact K8))|apply Sub.skip)))
end Go.Proofs.Ytloiifcocgpnbaa
