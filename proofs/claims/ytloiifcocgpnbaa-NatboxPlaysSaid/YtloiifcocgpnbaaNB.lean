/- What the box's functions come to: bindings, their slices; the small functions; the least binding, the free port. -/
import Derived.Test.YtloiifcocgpnbaaNA
import Derived.Test.YtloiifcocgpnbaaFwZo
namespace Go.Proofs.Ytloiifcocgpnbaa
open Go Go.Proofs.Ytloiifcocgpnbaa.Fw
set_option linter.unusedVariables false
set_option linter.unusedSimpArgs false

structure Ad where
  ip : Int
  port : Int
  deriving DecidableEq
def adE : Enc Ad where
  z := 2
  e t := [.i .u32 t.ip, .i .u16 t.port]
  len _ := rfl
structure Bd where
  inn : Ad
  key : Ad
  port : Int
  m : List Ad
  til : Int
  deriving DecidableEq
/-- a binding, where its slice lies -/
structure Bm where
  d : Bd
  met : Option SlD
def bmE : Enc Bm where
  z := 7
  e t := [.i .u32 t.d.inn.ip, .i .u16 t.d.inn.port, .i .u32 t.d.key.ip, .i .u16 t.d.key.port, .i .u16 t.d.port, .sl t.met, .i .u64 t.d.til]
  len _ := rfl
theorem bmOk : ElOk E bmE 7 bD bZ := ⟨rfl, rfl, decOk fun a => ⟨_, _, rfl, ⟨_, rfl⟩, _, _, rfl, ⟨_, rfl⟩, _, _, rfl, ⟨_, rfl⟩, _, _, rfl, ⟨_, rfl⟩, _, _, rfl, ⟨_, rfl⟩, _, _, rfl, ⟨_, rfl⟩, _, _, rfl, ⟨_, rfl⟩, rfl⟩⟩
/-- the slices of some bindings -/
def Mets : List Bm → Assn
  | [] => .emp
  | x :: l => .sep (.sl false adE x.met x.d.m) (Mets l)
def slM (x : Bm) : Assn := .sl false adE x.met x.d.m
theorem Star.mets {H : AH} : ∀ {l : List Bm} {L : List Assn}, Star H (Mets l :: L) ↔ Star H (l.map slM ++ L)
  | [], L => Star.emp
  | x :: l, L => by
    have h1 : Star H (Mets (x :: l) :: L) ↔ Star H (slM x :: Mets l :: L) := Star.sep
    have h2 : Star H (slM x :: Mets l :: L) ↔ Star H (Mets l :: slM x :: L) := ⟨fun h => h.perm (List.Perm.swap _ _ _), fun h => h.perm (List.Perm.swap _ _ _)⟩
    have h3 : Star H (l.map slM ++ slM x :: L) ↔ Star H ((x :: l).map slM ++ L) := ⟨fun h => h.perm List.perm_middle, fun h => h.perm List.perm_middle.symm⟩
    exact h1.trans (h2.trans ((Star.mets (l := l)).trans h3))
section
variable {L R R' : List Assn} {Q : Post} {t : Tree} {l l' : List Bm}
theorem Tri.metsTo {X : List Bm} (pk : Pick L (Mets l) R) (p : l.Perm (l' ++ X)) (h : Tri E (Mets l' :: R) t Q) : Tri E L t Q := .mk fun H hs => by
  have h1 := Star.mets.1 (hs.perm pk.h)
  have h2 : Star H (l'.map slM ++ (X.map slM ++ R)) := h1.perm (by rw [← List.append_assoc, ← List.map_append]; exact (p.map slM).append_right R)
  have h3 : Star H ((l'.map slM ++ R) ++ X.map slM) := h2.perm (by rw [List.append_assoc]; exact List.perm_append_comm.append_left _)
  exact h.go H (Star.mets.2 (h3.drop ⟨_, List.Perm.refl _⟩))
theorem Tri.metsOut {x : Bm} (pk : Pick L (Mets l) R) (p : l.Perm (x :: l')) (h : Tri E (.sl false adE x.met x.d.m :: Mets l' :: R) t Q) : Tri E L t Q :=
  Tri.metsTo (l' := x :: l') (X := []) pk (by simpa using p) (Tri.sep (A := .sl false adE x.met x.d.m) (B := Mets l') Pick.here h)
theorem Tri.metsIn (x : Bm) (pk : Pick L (.sl false adE x.met x.d.m) R) (pk' : Pick R (Mets l) R') (h : Tri E (Mets (x :: l) :: R') t Q) : Tri E L t Q :=
  Tri.mkSep (A := .sl false adE x.met x.d.m) (B := Mets l) pk pk' h
theorem Tri.metsApp (pk : Pick L (Mets l) R) (pk' : Pick R (Mets l') R') (h : Tri E (Mets (l ++ l') :: R') t Q) : Tri E L t Q := .mk fun H hs => by
  have h1 := Star.mets.1 ((hs.perm pk.h).perm (List.Perm.cons _ pk'.h))
  have h2 : Star H (Mets l' :: (l.map slM ++ R')) := h1.perm List.perm_middle
  have h3 := Star.mets.1 h2
  refine h.go H (Star.mets.2 ?_)
  rw [List.map_append]
  rw [← List.append_assoc] at h3
  exact h3.perm (List.perm_append_comm.append_right _)
end

/-! the box -/
structure Bx where
  map : Int
  fil : Int
  ip : Int
  hold : Int
  room : Int
  l : List Bd
def bxC (b : Bx) (o : Option SlD) : List Sc := [.i .i64 b.map, .i .i64 b.fil, .i .u32 b.ip, .i .u64 b.hold, .i .i64 b.room, .sl o]
def Bo (p : Nat) (b : Bx) : Assn := .ex fun o => .ex fun l : List Bm => .sep (.pu (l.map Bm.d = b.l)) (.sep (pt p (bxC b o)) (.sep (.sl false bmE o l) (Mets l)))
section
variable {p : Nat} {b : Bx} {L R R' R'' : List Assn} {Q : Post} {t : Tree}
theorem Bo.op (pk : Pick L (Bo p b) R) (h : ∀ (o : Option SlD) (l : List Bm), l.map Bm.d = b.l → l.length = b.l.length → slLen o = (b.l.length : Int) → Tri E (pt p (bxC b o) :: .sl false bmE o l :: Mets l :: R) t Q) : Tri E L t Q := by
  refine Tri.ex (A := fun o => .ex fun l : List Bm => .sep (.pu (l.map Bm.d = b.l)) (.sep (pt p (bxC b o)) (.sep (.sl false bmE o l) (Mets l)))) pk fun o => ?_
  refine Tri.ex (A := fun l : List Bm => .sep (.pu (l.map Bm.d = b.l)) (.sep (pt p (bxC b o)) (.sep (.sl false bmE o l) (Mets l)))) (by first|exact K0|exact K1|exact K2|exact K3|exact K4|exact K5|exact K6|exact K7|exact K8) fun l => ?_
  refine Tri.sep (A := .pu (l.map Bm.d = b.l)) (B := .sep (pt p (bxC b o)) (.sep (.sl false bmE o l) (Mets l))) (by first|exact K0|exact K1|exact K2|exact K3|exact K4|exact K5|exact K6|exact K7|exact K8) ?_
  refine Tri.pu (p := l.map Bm.d = b.l) (by first|exact K0|exact K1|exact K2|exact K3|exact K4|exact K5|exact K6|exact K7|exact K8) fun hl => ?_
  refine Tri.sep (A := pt p (bxC b o)) (B := .sep (.sl false bmE o l) (Mets l)) (by first|exact K0|exact K1|exact K2|exact K3|exact K4|exact K5|exact K6|exact K7|exact K8) ?_
  refine Tri.sep (A := .sl false bmE o l) (B := Mets l) (by first|exact K0|exact K1|exact K2|exact K3|exact K4|exact K5|exact K6|exact K7|exact K8) ?_
  refine Tri.slLen (l := l) (o := o) (ro := false) (T := bmE) (by first|exact K0|exact K1|exact K2|exact K3|exact K4|exact K5|exact K6|exact K7|exact K8) fun _ e1 => ?_
  have hlen : l.length = b.l.length := by rw [← hl]; simp
  exact (h o l hl hlen (by rw [e1, hlen])).sub (by repeat (first|exact Sub.refl _|exact Sub.nil _|(apply Sub.cons; (first|exact K0|exact K1|exact K2|exact K3|exact K4|exact K5|exact K6|exact K7|exact K8))|apply Sub.skip))
theorem Bo.mk {o : Option SlD} {l : List Bm} (hl : l.map Bm.d = b.l) (pk : Pick L (pt p (bxC b o)) R) (pk' : Pick R (.sl false bmE o l) R') (pk'' : Pick R' (Mets l) R'') (h : Tri E (Bo p b :: R'') t Q) : Tri E L t Q := .mk fun H hs => h.go H (by
  have h1 : Star H (pt p (bxC b o) :: .sl false bmE o l :: Mets l :: R'') := hs.perm (pk.h.trans (.cons _ (pk'.h.trans (.cons _ pk''.h))))
  have h2 : Star H (.sl false bmE o l :: Mets l :: pt p (bxC b o) :: R'') := h1.perm ((List.perm_append_comm (l₁ := [pt p (bxC b o)]) (l₂ := [.sl false bmE o l, Mets l])).append_right R'')
  have h3 : Star H (.sep (.sl false bmE o l) (Mets l) :: pt p (bxC b o) :: R'') := Star.sep.2 h2
  have h4 : Star H (.sep (pt p (bxC b o)) (.sep (.sl false bmE o l) (Mets l)) :: R'') := Star.sep.2 (h3.perm (List.Perm.swap _ _ _))
  have h5 : Star H (.sep (.pu (l.map Bm.d = b.l)) (.sep (pt p (bxC b o)) (.sep (.sl false bmE o l) (Mets l))) :: R'') := Star.sep.2 (Star.pu.2 ⟨hl, h4⟩)
  exact Star.ex.2 ⟨o, Star.ex.2 ⟨l, h5⟩⟩)
end
def kindB (n : Int) : Bool := decide (0 ≤ n) && decide (n < 3)
theorem kind_spec {n : Int} : FSpec E 53 [.sc (.i .i64 n)] [] (fun v L' => v = .sc (.b (kindB n)) ∧ L' = []) := by
  refine FSpec.of (Try.func53 : Try.prog.funcs[53]? = some Try.f53) (t53_eq _) fun F => ?_
  unfold t53
  refine Tri.cnd (fun h => ?_) (fun h => ?_)
  · exact Tri.retF ⟨by simp at h; simp [kindB, h], rfl⟩ (by repeat (first|exact Sub.refl _|exact Sub.nil _|(apply Sub.cons; (first|exact K0|exact K1|exact K2|exact K3|exact K4|exact K5|exact K6|exact K7|exact K8))|apply Sub.skip))
  · exact Tri.retF ⟨by simp at h; simp [kindB, Int.not_le.2 h], rfl⟩ (by repeat (first|exact Sub.refl _|exact Sub.nil _|(apply Sub.cons; (first|exact K0|exact K1|exact K2|exact K3|exact K4|exact K5|exact K6|exact K7|exact K8))|apply Sub.skip))
theorem right_spec {m f : Int} : FSpec E 32 [.ag [.i .i64 m, .i .i64 f]] [] (fun v L' => v = .sc (.b (kindB m && kindB f)) ∧ L' = []) := by
  refine FSpec.of (Try.func32 : Try.prog.funcs[32]? = some Try.f32) (t32_eq _ _) fun F => ?_
  unfold t32
  repeat (first|refine wa ?_|refine wb ?_|refine wc ?_|refine wd ?_|refine we ?_|refine wf ?_|refine wg ?_|refine wh rfl ?_|refine wi rfl ?_|refine wj rfl ?_|refine wk rfl ?_|refine wl rfl ?_|refine wm (by decide) ?_|refine wn ?_|refine wo ?_|refine wp (by decide) ?_|(apply Tri.ldE; (first|exact K0|exact K1|exact K2|exact K3|exact K4|exact K5|exact K6|exact K7|exact K8); (exact rfl); (exact wz rfl))|(apply Tri.stE; (first|exact K0|exact K1|exact K2|exact K3|exact K4|exact K5|exact K6|exact K7|exact K8); (exact rfl); (exact wz rfl))|(apply Tri.same; (first|exact K0|exact K1|exact K2|exact K3|exact K4|exact K5|exact K6|exact K7|exact K8); (exact rfl); (exact wz rfl))|refine wq fun _ => ?_)
  refine Tri.call kind_spec (by repeat (first|exact Picks.nil|(apply Picks.cons; (first|exact K0|exact K1|exact K2|exact K3|exact K4|exact K5|exact K6|exact K7|exact K8)))) ?_
  rintro v L' ⟨rfl, rfl⟩
  simp only [List.cons_append, List.nil_append]
  repeat (first|refine wa ?_|refine wb ?_|refine wc ?_|refine wd ?_|refine we ?_|refine wf ?_|refine wg ?_|refine wh rfl ?_|refine wi rfl ?_|refine wj rfl ?_|refine wk rfl ?_|refine wl rfl ?_|refine wm (by decide) ?_|refine wn ?_|refine wo ?_|refine wp (by decide) ?_|(apply Tri.ldE; (first|exact K0|exact K1|exact K2|exact K3|exact K4|exact K5|exact K6|exact K7|exact K8); (exact rfl); (exact wz rfl))|(apply Tri.stE; (first|exact K0|exact K1|exact K2|exact K3|exact K4|exact K5|exact K6|exact K7|exact K8); (exact rfl); (exact wz rfl))|(apply Tri.same; (first|exact K0|exact K1|exact K2|exact K3|exact K4|exact K5|exact K6|exact K7|exact K8); (exact rfl); (exact wz rfl))|refine wq fun _ => ?_)
  refine Tri.cnd (fun h => ?_) (fun h => ?_)
  · repeat (first|refine wa ?_|refine wb ?_|refine wc ?_|refine wd ?_|refine we ?_|refine wf ?_|refine wg ?_|refine wh rfl ?_|refine wi rfl ?_|refine wj rfl ?_|refine wk rfl ?_|refine wl rfl ?_|refine wm (by decide) ?_|refine wn ?_|refine wo ?_|refine wp (by decide) ?_|(apply Tri.ldE; (first|exact K0|exact K1|exact K2|exact K3|exact K4|exact K5|exact K6|exact K7|exact K8); (exact rfl); (exact wz rfl))|(apply Tri.stE; (first|exact K0|exact K1|exact K2|exact K3|exact K4|exact K5|exact K6|exact K7|exact K8); (exact rfl); (exact wz rfl))|(apply Tri.same; (first|exact K0|exact K1|exact K2|exact K3|exact K4|exact K5|exact K6|exact K7|exact K8); (exact rfl); (exact wz rfl))|refine wq fun _ => ?_)
    refine Tri.call kind_spec (by repeat (first|exact Picks.nil|(apply Picks.cons; (first|exact K0|exact K1|exact K2|exact K3|exact K4|exact K5|exact K6|exact K7|exact K8)))) ?_
    rintro v L' ⟨rfl, rfl⟩
    simp only [List.cons_append, List.nil_append]
    repeat (first|refine wa ?_|refine wb ?_|refine wc ?_|refine wd ?_|refine we ?_|refine wf ?_|refine wg ?_|refine wh rfl ?_|refine wi rfl ?_|refine wj rfl ?_|refine wk rfl ?_|refine wl rfl ?_|refine wm (by decide) ?_|refine wn ?_|refine wo ?_|refine wp (by decide) ?_|(apply Tri.ldE; (first|exact K0|exact K1|exact K2|exact K3|exact K4|exact K5|exact K6|exact K7|exact K8); (exact rfl); (exact wz rfl))|(apply Tri.stE; (first|exact K0|exact K1|exact K2|exact K3|exact K4|exact K5|exact K6|exact K7|exact K8); (exact rfl); (exact wz rfl))|(apply Tri.same; (first|exact K0|exact K1|exact K2|exact K3|exact K4|exact K5|exact K6|exact K7|exact K8); (exact rfl); (exact wz rfl))|refine wq fun _ => ?_)
    exact Tri.retF ⟨by simp [h], rfl⟩ (by repeat (first|exact Sub.refl _|exact Sub.nil _|(apply Sub.cons; (first|exact K0|exact K1|exact K2|exact K3|exact K4|exact K5|exact K6|exact K7|exact K8))|apply Sub.skip))
  · exact Tri.retF ⟨by simp [h], rfl⟩ (by repeat (first|exact Sub.refl _|exact Sub.nil _|(apply Sub.cons; (first|exact K0|exact K1|exact K2|exact K3|exact K4|exact K5|exact K6|exact K7|exact K8))|apply Sub.skip))
def noneB (a : Ad) : Bool := a.ip == 0 || a.port == 0
theorem none_spec {a : Ad} : FSpec E 33 [.ag (adE.e a)] [] (fun v L' => v = .sc (.b (noneB a)) ∧ L' = []) := by
  refine FSpec.of (Try.func33 : Try.prog.funcs[33]? = some Try.f33) (t33_eq _ _) fun F => ?_
  unfold t33
  repeat (first|refine wa ?_|refine wb ?_|refine wc ?_|refine wd ?_|refine we ?_|refine wf ?_|refine wg ?_|refine wh rfl ?_|refine wi rfl ?_|refine wj rfl ?_|refine wk rfl ?_|refine wl rfl ?_|refine wm (by decide) ?_|refine wn ?_|refine wo ?_|refine wp (by decide) ?_|(apply Tri.ldE; (first|exact K0|exact K1|exact K2|exact K3|exact K4|exact K5|exact K6|exact K7|exact K8); (exact rfl); (exact wz rfl))|(apply Tri.stE; (first|exact K0|exact K1|exact K2|exact K3|exact K4|exact K5|exact K6|exact K7|exact K8); (exact rfl); (exact wz rfl))|(apply Tri.same; (first|exact K0|exact K1|exact K2|exact K3|exact K4|exact K5|exact K6|exact K7|exact K8); (exact rfl); (exact wz rfl))|refine wq fun _ => ?_)
  refine Tri.cnd (fun h => ?_) (fun h => ?_)
  · exact Tri.retF ⟨by simp [noneB, h], rfl⟩ (by repeat (first|exact Sub.refl _|exact Sub.nil _|(apply Sub.cons; (first|exact K0|exact K1|exact K2|exact K3|exact K4|exact K5|exact K6|exact K7|exact K8))|apply Sub.skip))
  · repeat (first|refine wa ?_|refine wb ?_|refine wc ?_|refine wd ?_|refine we ?_|refine wf ?_|refine wg ?_|refine wh rfl ?_|refine wi rfl ?_|refine wj rfl ?_|refine wk rfl ?_|refine wl rfl ?_|refine wm (by decide) ?_|refine wn ?_|refine wo ?_|refine wp (by decide) ?_|(apply Tri.ldE; (first|exact K0|exact K1|exact K2|exact K3|exact K4|exact K5|exact K6|exact K7|exact K8); (exact rfl); (exact wz rfl))|(apply Tri.stE; (first|exact K0|exact K1|exact K2|exact K3|exact K4|exact K5|exact K6|exact K7|exact K8); (exact rfl); (exact wz rfl))|(apply Tri.same; (first|exact K0|exact K1|exact K2|exact K3|exact K4|exact K5|exact K6|exact K7|exact K8); (exact rfl); (exact wz rfl))|refine wq fun _ => ?_)
    exact Tri.retF ⟨by simp [noneB, h], rfl⟩ (by repeat (first|exact Sub.refl _|exact Sub.nil _|(apply Sub.cons; (first|exact K0|exact K1|exact K2|exact K3|exact K4|exact K5|exact K6|exact K7|exact K8))|apply Sub.skip))
def keyB (map : Int) (a : Ad) : Ad := if map = 2 then a else if map = 1 then ⟨a.ip, 0⟩ else ⟨0, 0⟩
theorem key_spec {m f : Int} {a : Ad} : FSpec E 18 [.ag [.i .i64 m, .i .i64 f], .ag (adE.e a)] [] (fun v L' => v = .ag (adE.e (keyB m a)) ∧ L' = []) := by
  refine FSpec.of (Try.func18 : Try.prog.funcs[18]? = some Try.f18) (t18_eq _ _ _ _) fun F => ?_
  unfold t18
  repeat (first|refine wa ?_|refine wb ?_|refine wc ?_|refine wd ?_|refine we ?_|refine wf ?_|refine wg ?_|refine wh rfl ?_|refine wi rfl ?_|refine wj rfl ?_|refine wk rfl ?_|refine wl rfl ?_|refine wm (by decide) ?_|refine wn ?_|refine wo ?_|refine wp (by decide) ?_|(apply Tri.ldE; (first|exact K0|exact K1|exact K2|exact K3|exact K4|exact K5|exact K6|exact K7|exact K8); (exact rfl); (exact wz rfl))|(apply Tri.stE; (first|exact K0|exact K1|exact K2|exact K3|exact K4|exact K5|exact K6|exact K7|exact K8); (exact rfl); (exact wz rfl))|(apply Tri.same; (first|exact K0|exact K1|exact K2|exact K3|exact K4|exact K5|exact K6|exact K7|exact K8); (exact rfl); (exact wz rfl))|refine wq fun _ => ?_)
  refine Tri.cnd (fun h => ?_) (fun h => ?_)
  · repeat (first|refine wa ?_|refine wb ?_|refine wc ?_|refine wd ?_|refine we ?_|refine wf ?_|refine wg ?_|refine wh rfl ?_|refine wi rfl ?_|refine wj rfl ?_|refine wk rfl ?_|refine wl rfl ?_|refine wm (by decide) ?_|refine wn ?_|refine wo ?_|refine wp (by decide) ?_|(apply Tri.ldE; (first|exact K0|exact K1|exact K2|exact K3|exact K4|exact K5|exact K6|exact K7|exact K8); (exact rfl); (exact wz rfl))|(apply Tri.stE; (first|exact K0|exact K1|exact K2|exact K3|exact K4|exact K5|exact K6|exact K7|exact K8); (exact rfl); (exact wz rfl))|(apply Tri.same; (first|exact K0|exact K1|exact K2|exact K3|exact K4|exact K5|exact K6|exact K7|exact K8); (exact rfl); (exact wz rfl))|refine wq fun _ => ?_)
    exact Tri.retF ⟨by simp at h; simp [keyB, h]; rfl, rfl⟩ (by repeat (first|exact Sub.refl _|exact Sub.nil _|(apply Sub.cons; (first|exact K0|exact K1|exact K2|exact K3|exact K4|exact K5|exact K6|exact K7|exact K8))|apply Sub.skip))
  refine Tri.cnd (fun h2 => ?_) (fun h2 => ?_)
  · repeat (first|refine wa ?_|refine wb ?_|refine wc ?_|refine wd ?_|refine we ?_|refine wf ?_|refine wg ?_|refine wh rfl ?_|refine wi rfl ?_|refine wj rfl ?_|refine wk rfl ?_|refine wl rfl ?_|refine wm (by decide) ?_|refine wn ?_|refine wo ?_|refine wp (by decide) ?_|(apply Tri.ldE; (first|exact K0|exact K1|exact K2|exact K3|exact K4|exact K5|exact K6|exact K7|exact K8); (exact rfl); (exact wz rfl))|(apply Tri.stE; (first|exact K0|exact K1|exact K2|exact K3|exact K4|exact K5|exact K6|exact K7|exact K8); (exact rfl); (exact wz rfl))|(apply Tri.same; (first|exact K0|exact K1|exact K2|exact K3|exact K4|exact K5|exact K6|exact K7|exact K8); (exact rfl); (exact wz rfl))|refine wq fun _ => ?_)
    exact Tri.retF ⟨by simp at h h2; simp [keyB, h2]; rfl, rfl⟩ (by repeat (first|exact Sub.refl _|exact Sub.nil _|(apply Sub.cons; (first|exact K0|exact K1|exact K2|exact K3|exact K4|exact K5|exact K6|exact K7|exact K8))|apply Sub.skip))
  · repeat (first|refine wa ?_|refine wb ?_|refine wc ?_|refine wd ?_|refine we ?_|refine wf ?_|refine wg ?_|refine wh rfl ?_|refine wi rfl ?_|refine wj rfl ?_|refine wk rfl ?_|refine wl rfl ?_|refine wm (by decide) ?_|refine wn ?_|refine wo ?_|refine wp (by decide) ?_|(apply Tri.ldE; (first|exact K0|exact K1|exact K2|exact K3|exact K4|exact K5|exact K6|exact K7|exact K8); (exact rfl); (exact wz rfl))|(apply Tri.stE; (first|exact K0|exact K1|exact K2|exact K3|exact K4|exact K5|exact K6|exact K7|exact K8); (exact rfl); (exact wz rfl))|(apply Tri.same; (first|exact K0|exact K1|exact K2|exact K3|exact K4|exact K5|exact K6|exact K7|exact K8); (exact rfl); (exact wz rfl))|refine wq fun _ => ?_)
    exact Tri.retF ⟨by simp at h h2; simp [keyB, h, h2]; rfl, rfl⟩ (by repeat (first|exact Sub.refl _|exact Sub.nil _|(apply Sub.cons; (first|exact K0|exact K1|exact K2|exact K3|exact K4|exact K5|exact K6|exact K7|exact K8))|apply Sub.skip))
def okN (m f ip hold room : Int) : Bool := kindB m && kindB f && !(ip == 0) && !(hold == 0) && decide (hold ≤ 1000000) && decide (1 ≤ room) && decide (room ≤ 64)
theorem new_ok {m f ip hold room : Int} (h : okN m f ip hold room = true) : FSpec E 11 [.ag [.i .i64 m, .i .i64 f], .sc (.i .u32 ip), .sc (.i .u64 hold), .sc (.i .i64 room)] []
    (fun v L' => ∃ p, v = .tu [.sc (.p (some (p, 0))), .sc (.i .i64 0)] ∧ L' = [Bo p ⟨m, f, ip, hold, room, []⟩]) := by
  refine FSpec.of (Try.func11 : Try.prog.funcs[11]? = some Try.f11) (t11_eq _ _ _ _ _) fun F => ?_
  simp [okN] at h
  obtain ⟨⟨⟨⟨⟨⟨h1, h2⟩, h3⟩, h4⟩, h5⟩, h6⟩, h7⟩ := h
  unfold t11
  repeat (first|refine wa ?_|refine wb ?_|refine wc ?_|refine wd ?_|refine we ?_|refine wf ?_|refine wg ?_|refine wh rfl ?_|refine wi rfl ?_|refine wj rfl ?_|refine wk rfl ?_|refine wl rfl ?_|refine wm (by decide) ?_|refine wn ?_|refine wo ?_|refine wp (by decide) ?_|(apply Tri.ldE; (first|exact K0|exact K1|exact K2|exact K3|exact K4|exact K5|exact K6|exact K7|exact K8); (exact rfl); (exact wz rfl))|(apply Tri.stE; (first|exact K0|exact K1|exact K2|exact K3|exact K4|exact K5|exact K6|exact K7|exact K8); (exact rfl); (exact wz rfl))|(apply Tri.same; (first|exact K0|exact K1|exact K2|exact K3|exact K4|exact K5|exact K6|exact K7|exact K8); (exact rfl); (exact wz rfl))|refine wq fun _ => ?_)
  refine Tri.call right_spec (by repeat (first|exact Picks.nil|(apply Picks.cons; (first|exact K0|exact K1|exact K2|exact K3|exact K4|exact K5|exact K6|exact K7|exact K8)))) ?_
  rintro v L' ⟨rfl, rfl⟩
  simp only [List.cons_append, List.nil_append]
  repeat (first|refine wa ?_|refine wb ?_|refine wc ?_|refine wd ?_|refine we ?_|refine wf ?_|refine wg ?_|refine wh rfl ?_|refine wi rfl ?_|refine wj rfl ?_|refine wk rfl ?_|refine wl rfl ?_|refine wm (by decide) ?_|refine wn ?_|refine wo ?_|refine wp (by decide) ?_|(apply Tri.ldE; (first|exact K0|exact K1|exact K2|exact K3|exact K4|exact K5|exact K6|exact K7|exact K8); (exact rfl); (exact wz rfl))|(apply Tri.stE; (first|exact K0|exact K1|exact K2|exact K3|exact K4|exact K5|exact K6|exact K7|exact K8); (exact rfl); (exact wz rfl))|(apply Tri.same; (first|exact K0|exact K1|exact K2|exact K3|exact K4|exact K5|exact K6|exact K7|exact K8); (exact rfl); (exact wz rfl))|refine wq fun _ => ?_)
  refine Tri.cndF (by simp [h1, h2]) ?_
  refine Tri.cndF (by simp [h3]) ?_
  refine Tri.cndF (by simp [h4]) ?_
  refine Tri.cndF (by simp; omega) ?_
  refine Tri.cndF (by simp; omega) ?_
  refine Tri.cndF (by simp; omega) ?_
  repeat (first|refine wa ?_|refine wb ?_|refine wc ?_|refine wd ?_|refine we ?_|refine wf ?_|refine wg ?_|refine wh rfl ?_|refine wi rfl ?_|refine wj rfl ?_|refine wk rfl ?_|refine wl rfl ?_|refine wm (by decide) ?_|refine wn ?_|refine wo ?_|refine wp (by decide) ?_|(apply Tri.ldE; (first|exact K0|exact K1|exact K2|exact K3|exact K4|exact K5|exact K6|exact K7|exact K8); (exact rfl); (exact wz rfl))|(apply Tri.stE; (first|exact K0|exact K1|exact K2|exact K3|exact K4|exact K5|exact K6|exact K7|exact K8); (exact rfl); (exact wz rfl))|(apply Tri.same; (first|exact K0|exact K1|exact K2|exact K3|exact K4|exact K5|exact K6|exact K7|exact K8); (exact rfl); (exact wz rfl))|refine wq fun _ => ?_)
  refine Tri.mkEmp ?_
  refine Tri.mkN false bmE ?_
  refine Bo.mk (b := ⟨m, f, ip, hold, room, []⟩) (o := none) (l := []) rfl (by first|exact K0|exact K1|exact K2|exact K3|exact K4|exact K5|exact K6|exact K7|exact K8) (by first|exact K0|exact K1|exact K2|exact K3|exact K4|exact K5|exact K6|exact K7|exact K8) (by first|exact K0|exact K1|exact K2|exact K3|exact K4|exact K5|exact K6|exact K7|exact K8) ?_
  exact Tri.retF ⟨_, rfl, rfl⟩ (by repeat (first|exact Sub.refl _|exact Sub.nil _|(apply Sub.cons; (first|exact K0|exact K1|exact K2|exact K3|exact K4|exact K5|exact K6|exact K7|exact K8))|apply Sub.skip))
theorem new_no {m f ip hold room : Int} (h : okN m f ip hold room = false) : FSpec E 11 [.ag [.i .i64 m, .i .i64 f], .sc (.i .u32 ip), .sc (.i .u64 hold), .sc (.i .i64 room)] []
    (fun v L' => v = .tu [.sc (.p none), .sc (.i .i64 1)] ∧ L' = []) := by
  refine FSpec.of (Try.func11 : Try.prog.funcs[11]? = some Try.f11) (t11_eq _ _ _ _ _) fun F => ?_
  unfold t11
  repeat (first|refine wa ?_|refine wb ?_|refine wc ?_|refine wd ?_|refine we ?_|refine wf ?_|refine wg ?_|refine wh rfl ?_|refine wi rfl ?_|refine wj rfl ?_|refine wk rfl ?_|refine wl rfl ?_|refine wm (by decide) ?_|refine wn ?_|refine wo ?_|refine wp (by decide) ?_|(apply Tri.ldE; (first|exact K0|exact K1|exact K2|exact K3|exact K4|exact K5|exact K6|exact K7|exact K8); (exact rfl); (exact wz rfl))|(apply Tri.stE; (first|exact K0|exact K1|exact K2|exact K3|exact K4|exact K5|exact K6|exact K7|exact K8); (exact rfl); (exact wz rfl))|(apply Tri.same; (first|exact K0|exact K1|exact K2|exact K3|exact K4|exact K5|exact K6|exact K7|exact K8); (exact rfl); (exact wz rfl))|refine wq fun _ => ?_)
  refine Tri.call right_spec (by repeat (first|exact Picks.nil|(apply Picks.cons; (first|exact K0|exact K1|exact K2|exact K3|exact K4|exact K5|exact K6|exact K7|exact K8)))) ?_
  rintro v L' ⟨rfl, rfl⟩
  simp only [List.cons_append, List.nil_append]
  repeat (first|refine wa ?_|refine wb ?_|refine wc ?_|refine wd ?_|refine we ?_|refine wf ?_|refine wg ?_|refine wh rfl ?_|refine wi rfl ?_|refine wj rfl ?_|refine wk rfl ?_|refine wl rfl ?_|refine wm (by decide) ?_|refine wn ?_|refine wo ?_|refine wp (by decide) ?_|(apply Tri.ldE; (first|exact K0|exact K1|exact K2|exact K3|exact K4|exact K5|exact K6|exact K7|exact K8); (exact rfl); (exact wz rfl))|(apply Tri.stE; (first|exact K0|exact K1|exact K2|exact K3|exact K4|exact K5|exact K6|exact K7|exact K8); (exact rfl); (exact wz rfl))|(apply Tri.same; (first|exact K0|exact K1|exact K2|exact K3|exact K4|exact K5|exact K6|exact K7|exact K8); (exact rfl); (exact wz rfl))|refine wq fun _ => ?_)
  refine Tri.cnd (fun h1 => ?_) (fun h1 => ?_)
  · exact Tri.retF ⟨rfl, rfl⟩ (by repeat (first|exact Sub.refl _|exact Sub.nil _|(apply Sub.cons; (first|exact K0|exact K1|exact K2|exact K3|exact K4|exact K5|exact K6|exact K7|exact K8))|apply Sub.skip))
  refine Tri.cnd (fun h2 => ?_) (fun h2 => ?_)
  · exact Tri.retF ⟨rfl, rfl⟩ (by repeat (first|exact Sub.refl _|exact Sub.nil _|(apply Sub.cons; (first|exact K0|exact K1|exact K2|exact K3|exact K4|exact K5|exact K6|exact K7|exact K8))|apply Sub.skip))
  refine Tri.cnd (fun h3 => ?_) (fun h3 => ?_)
  · exact Tri.retF ⟨rfl, rfl⟩ (by repeat (first|exact Sub.refl _|exact Sub.nil _|(apply Sub.cons; (first|exact K0|exact K1|exact K2|exact K3|exact K4|exact K5|exact K6|exact K7|exact K8))|apply Sub.skip))
  refine Tri.cnd (fun h4 => ?_) (fun h4 => ?_)
  · exact Tri.retF ⟨rfl, rfl⟩ (by repeat (first|exact Sub.refl _|exact Sub.nil _|(apply Sub.cons; (first|exact K0|exact K1|exact K2|exact K3|exact K4|exact K5|exact K6|exact K7|exact K8))|apply Sub.skip))
  refine Tri.cnd (fun h5 => ?_) (fun h5 => ?_)
  · exact Tri.retF ⟨rfl, rfl⟩ (by repeat (first|exact Sub.refl _|exact Sub.nil _|(apply Sub.cons; (first|exact K0|exact K1|exact K2|exact K3|exact K4|exact K5|exact K6|exact K7|exact K8))|apply Sub.skip))
  refine Tri.cnd (fun h6 => ?_) (fun h6 => ?_)
  · exact Tri.retF ⟨rfl, rfl⟩ (by repeat (first|exact Sub.refl _|exact Sub.nil _|(apply Sub.cons; (first|exact K0|exact K1|exact K2|exact K3|exact K4|exact K5|exact K6|exact K7|exact K8))|apply Sub.skip))
  · simp at h1 h2 h3 h4 h5 h6
    simp [okN, h1, h2, h3, h4, h5] at h
    omega
theorem ip_spec {p : Nat} {b : Bx} : FSpec E 20 [.sc (.p (some (p, 0)))] [Bo p b] (fun v L' => v = .sc (.i .u32 b.ip) ∧ L' = [Bo p b]) := by
  refine FSpec.of (Try.func20 : Try.prog.funcs[20]? = some Try.f20) (t20_eq _ _) fun F => ?_
  unfold t20
  refine Bo.op (by first|exact K0|exact K1|exact K2|exact K3|exact K4|exact K5|exact K6|exact K7|exact K8) fun o l hl hn e1 => ?_
  repeat (first|refine wa ?_|refine wb ?_|refine wc ?_|refine wd ?_|refine we ?_|refine wf ?_|refine wg ?_|refine wh rfl ?_|refine wi rfl ?_|refine wj rfl ?_|refine wk rfl ?_|refine wl rfl ?_|refine wm (by decide) ?_|refine wn ?_|refine wo ?_|refine wp (by decide) ?_|(apply Tri.ldE; (first|exact K0|exact K1|exact K2|exact K3|exact K4|exact K5|exact K6|exact K7|exact K8); (exact rfl); (exact wz rfl))|(apply Tri.stE; (first|exact K0|exact K1|exact K2|exact K3|exact K4|exact K5|exact K6|exact K7|exact K8); (exact rfl); (exact wz rfl))|(apply Tri.same; (first|exact K0|exact K1|exact K2|exact K3|exact K4|exact K5|exact K6|exact K7|exact K8); (exact rfl); (exact wz rfl))|refine wq fun _ => ?_)
  refine Bo.mk hl (by first|exact K0|exact K1|exact K2|exact K3|exact K4|exact K5|exact K6|exact K7|exact K8) (by first|exact K0|exact K1|exact K2|exact K3|exact K4|exact K5|exact K6|exact K7|exact K8) (by first|exact K0|exact K1|exact K2|exact K3|exact K4|exact K5|exact K6|exact K7|exact K8) ?_
  exact Tri.retF ⟨rfl, rfl⟩ (by repeat (first|exact Sub.refl _|exact Sub.nil _|(apply Sub.cons; (first|exact K0|exact K1|exact K2|exact K3|exact K4|exact K5|exact K6|exact K7|exact K8))|apply Sub.skip))
def rebB (b : Bx) (ip : Int) : Int × Bx := if ip = 0 then (1, b) else (0, { b with ip := ip, l := [] })
theorem reb_spec {p : Nat} {b : Bx} {ip : Int} : FSpec E 19 [.sc (.p (some (p, 0))), .sc (.i .u32 ip)] [Bo p b] (fun v L' => v = .sc (.i .i64 (rebB b ip).1) ∧ L' = [Bo p (rebB b ip).2]) := by
  refine FSpec.of (Try.func19 : Try.prog.funcs[19]? = some Try.f19) (t19_eq _ _ _) fun F => ?_
  unfold t19 rebB
  refine Tri.cnd (fun h => ?_) (fun h => ?_)
  · rw [if_pos (by simpa using h)]
    exact Tri.retF ⟨rfl, rfl⟩ (by repeat (first|exact Sub.refl _|exact Sub.nil _|(apply Sub.cons; (first|exact K0|exact K1|exact K2|exact K3|exact K4|exact K5|exact K6|exact K7|exact K8))|apply Sub.skip))
  · rw [if_neg (by simpa using h)]
    refine Bo.op (by first|exact K0|exact K1|exact K2|exact K3|exact K4|exact K5|exact K6|exact K7|exact K8) fun o l hl hn e1 => ?_
    repeat (first|refine wa ?_|refine wb ?_|refine wc ?_|refine wd ?_|refine we ?_|refine wf ?_|refine wg ?_|refine wh rfl ?_|refine wi rfl ?_|refine wj rfl ?_|refine wk rfl ?_|refine wl rfl ?_|refine wm (by decide) ?_|refine wn ?_|refine wo ?_|refine wp (by decide) ?_|(apply Tri.ldE; (first|exact K0|exact K1|exact K2|exact K3|exact K4|exact K5|exact K6|exact K7|exact K8); (exact rfl); (exact wz rfl))|(apply Tri.stE; (first|exact K0|exact K1|exact K2|exact K3|exact K4|exact K5|exact K6|exact K7|exact K8); (exact rfl); (exact wz rfl))|(apply Tri.same; (first|exact K0|exact K1|exact K2|exact K3|exact K4|exact K5|exact K6|exact K7|exact K8); (exact rfl); (exact wz rfl))|refine wq fun _ => ?_)
    refine Tri.mkEmp ?_
    refine Tri.mkN false bmE ?_
    refine Bo.mk (b := { b with ip := ip, l := [] }) (o := none) (l := []) rfl (by first|exact K0|exact K1|exact K2|exact K3|exact K4|exact K5|exact K6|exact K7|exact K8) (by first|exact K0|exact K1|exact K2|exact K3|exact K4|exact K5|exact K6|exact K7|exact K8) (by first|exact K0|exact K1|exact K2|exact K3|exact K4|exact K5|exact K6|exact K7|exact K8) ?_
    exact Tri.retF ⟨rfl, rfl⟩ (by repeat (first|exact Sub.refl _|exact Sub.nil _|(apply Sub.cons; (first|exact K0|exact K1|exact K2|exact K3|exact K4|exact K5|exact K6|exact K7|exact K8))|apply Sub.skip))
/-- what is let go of is no more -/
def liveB (now : Int) (x : Bd) : Bool := !decide (now ≥ x.til)
def sweepB (b : Bx) (now : Int) : Bx := { b with l := b.l.filter (liveB now) }
theorem pred45 {a : Nat} {now : Int} : IsPred E bmE 45 [] [(a, 0)] (pt a [.i .u64 now]) (fun t => decide (now ≥ t.d.til)) := by
  intro t
  refine FSpec.of (Try.func45 : Try.prog.funcs[45]? = some Try.f45) (t45_eq _ _ _ _ _ _ _ _ _) fun F => ?_
  unfold t45
  repeat (first|refine wa ?_|refine wb ?_|refine wc ?_|refine wd ?_|refine we ?_|refine wf ?_|refine wg ?_|refine wh rfl ?_|refine wi rfl ?_|refine wj rfl ?_|refine wk rfl ?_|refine wl rfl ?_|refine wm (by decide) ?_|refine wn ?_|refine wo ?_|refine wp (by decide) ?_|(apply Tri.ldE; (first|exact K0|exact K1|exact K2|exact K3|exact K4|exact K5|exact K6|exact K7|exact K8); (exact rfl); (exact wz rfl))|(apply Tri.stE; (first|exact K0|exact K1|exact K2|exact K3|exact K4|exact K5|exact K6|exact K7|exact K8); (exact rfl); (exact wz rfl))|(apply Tri.same; (first|exact K0|exact K1|exact K2|exact K3|exact K4|exact K5|exact K6|exact K7|exact K8); (exact rfl); (exact wz rfl))|refine wq fun _ => ?_)
  exact Tri.retF ⟨rfl, rfl⟩ (by repeat (first|exact Sub.refl _|exact Sub.nil _|(apply Sub.cons; (first|exact K0|exact K1|exact K2|exact K3|exact K4|exact K5|exact K6|exact K7|exact K8))|apply Sub.skip))
theorem filter_perm {l : List Bm} (q : Bm → Bool) : l.Perm (l.filter q ++ l.filter fun x => !q x) := (List.filter_append_perm q l).symm
theorem filter_d {l : List Bm} (q : Bd → Bool) : (l.filter fun x => q x.d).map Bm.d = (l.map Bm.d).filter q := by
  rw [List.filter_map]; rfl
theorem sweep_spec {p : Nat} {b : Bx} {now : Int} (hb : b.l.length ≤ 1000) : FSpec E 17 [.sc (.p (some (p, 0))), .sc (.i .u64 now)] [Bo p b]
    (fun v L' => v = .sc (.i .i64 ((b.l.length : Int) - (sweepB b now).l.length)) ∧ L' = [Bo p (sweepB b now)]) := by
  refine FSpec.of (Try.func17 : Try.prog.funcs[17]? = some Try.f17) (t17_eq _ _ _) fun F => ?_
  unfold t17
  refine Tri.al fun a => ?_
  repeat (first|refine wa ?_|refine wb ?_|refine wc ?_|refine wd ?_|refine we ?_|refine wf ?_|refine wg ?_|refine wh rfl ?_|refine wi rfl ?_|refine wj rfl ?_|refine wk rfl ?_|refine wl rfl ?_|refine wm (by decide) ?_|refine wn ?_|refine wo ?_|refine wp (by decide) ?_|(apply Tri.ldE; (first|exact K0|exact K1|exact K2|exact K3|exact K4|exact K5|exact K6|exact K7|exact K8); (exact rfl); (exact wz rfl))|(apply Tri.stE; (first|exact K0|exact K1|exact K2|exact K3|exact K4|exact K5|exact K6|exact K7|exact K8); (exact rfl); (exact wz rfl))|(apply Tri.same; (first|exact K0|exact K1|exact K2|exact K3|exact K4|exact K5|exact K6|exact K7|exact K8); (exact rfl); (exact wz rfl))|refine wq fun _ => ?_)
  refine Bo.op (by first|exact K0|exact K1|exact K2|exact K3|exact K4|exact K5|exact K6|exact K7|exact K8) fun o l hl hn e1 => ?_
  repeat (first|refine wa ?_|refine wb ?_|refine wc ?_|refine wd ?_|refine we ?_|refine wf ?_|refine wg ?_|refine wh rfl ?_|refine wi rfl ?_|refine wj rfl ?_|refine wk rfl ?_|refine wl rfl ?_|refine wm (by decide) ?_|refine wn ?_|refine wo ?_|refine wp (by decide) ?_|(apply Tri.ldE; (first|exact K0|exact K1|exact K2|exact K3|exact K4|exact K5|exact K6|exact K7|exact K8); (exact rfl); (exact wz rfl))|(apply Tri.stE; (first|exact K0|exact K1|exact K2|exact K3|exact K4|exact K5|exact K6|exact K7|exact K8); (exact rfl); (exact wz rfl))|(apply Tri.same; (first|exact K0|exact K1|exact K2|exact K3|exact K4|exact K5|exact K6|exact K7|exact K8); (exact rfl); (exact wz rfl))|refine wq fun _ => ?_)
  refine Tri.call (delF_spec bdOk bmOk (o := o) (l := l) (pred45 (a := a) (now := now)) (by omega)) (by repeat (first|exact Picks.nil|(apply Picks.cons; (first|exact K0|exact K1|exact K2|exact K3|exact K4|exact K5|exact K6|exact K7|exact K8)))) ?_
  rintro v L' ⟨o2, rfl, rfl⟩
  simp only [List.cons_append, List.nil_append]
  repeat (first|refine wa ?_|refine wb ?_|refine wc ?_|refine wd ?_|refine we ?_|refine wf ?_|refine wg ?_|refine wh rfl ?_|refine wi rfl ?_|refine wj rfl ?_|refine wk rfl ?_|refine wl rfl ?_|refine wm (by decide) ?_|refine wn ?_|refine wo ?_|refine wp (by decide) ?_|(apply Tri.ldE; (first|exact K0|exact K1|exact K2|exact K3|exact K4|exact K5|exact K6|exact K7|exact K8); (exact rfl); (exact wz rfl))|(apply Tri.stE; (first|exact K0|exact K1|exact K2|exact K3|exact K4|exact K5|exact K6|exact K7|exact K8); (exact rfl); (exact wz rfl))|(apply Tri.same; (first|exact K0|exact K1|exact K2|exact K3|exact K4|exact K5|exact K6|exact K7|exact K8); (exact rfl); (exact wz rfl))|refine wq fun _ => ?_)
  refine Tri.metsTo (by first|exact K0|exact K1|exact K2|exact K3|exact K4|exact K5|exact K6|exact K7|exact K8) (filter_perm fun x => !decide (now ≥ x.d.til)) ?_
  have hl2 : (l.filter fun x => !decide (now ≥ x.d.til)).map Bm.d = (sweepB b now).l := by rw [filter_d (fun x => !decide (now ≥ x.til)), hl]; rfl
  refine Tri.slLen (l := l.filter fun x => !decide (now ≥ x.d.til)) (o := o2) (ro := false) (T := bmE) (by first|exact K0|exact K1|exact K2|exact K3|exact K4|exact K5|exact K6|exact K7|exact K8) fun _ e2 => ?_
  have hn2 : (l.filter fun x => !decide (now ≥ x.d.til)).length = (sweepB b now).l.length := by rw [← hl2]; simp
  have hle : (sweepB b now).l.length ≤ b.l.length := List.length_filter_le _ _
  rw [e1, e2, hn2, wr_i64 (by omega) (by omega)]
  refine Bo.mk (b := sweepB b now) (o := o2) hl2 (by first|exact K0|exact K1|exact K2|exact K3|exact K4|exact K5|exact K6|exact K7|exact K8) (by first|exact K0|exact K1|exact K2|exact K3|exact K4|exact K5|exact K6|exact K7|exact K8) (by first|exact K0|exact K1|exact K2|exact K3|exact K4|exact K5|exact K6|exact K7|exact K8) ?_
  exact Tri.retF ⟨rfl, rfl⟩ (by repeat (first|exact Sub.refl _|exact Sub.nil _|(apply Sub.cons; (first|exact K0|exact K1|exact K2|exact K3|exact K4|exact K5|exact K6|exact K7|exact K8))|apply Sub.skip))
end Go.Proofs.Ytloiifcocgpnbaa
namespace Go.Proofs.Ytloiifcocgpnbaa
open Go Go.Proofs.Ytloiifcocgpnbaa.Fw
set_option linter.unusedVariables false
set_option linter.unusedSimpArgs false
/-! addresses -/
theorem index_spec {o : Option SlD} {l : List Ad} {a : Ad} (hl : l.length ≤ 1000) : FSpec E 61 [.sc (.sl o), .ag (adE.e a)] [.sl false adE o l] (fun v L' => ∃ n : Int, v = .sc (.i .i64 n) ∧ (decide (n ≥ 0) = decide (a ∈ l)) ∧ L' = [.sl false adE o l]) := by
  refine FSpec.of (Try.func61 : Try.prog.funcs[61]? = some Try.f61) (t61_eq _ _ _) fun F => ?_
  unfold t61
  refine Tri.al fun a0 => ?_
  refine Tri.slLen (l := l) (o := o) (ro := false) (T := adE) (by first|exact K0|exact K1|exact K2|exact K3|exact K4|exact K5|exact K6|exact K7|exact K8) fun e1 e2 => ?_
  rw [e2]
  refine Tri.loop (I := fun m l' L => ∃ (D R : List Ad), m = R.length ∧ l = D ++ R ∧ a ∉ D ∧
    l' = [.sc (.sl o), .sc (.p (some (a0, 0))), .sc (.i .i64 l.length), .sc (.i .i64 D.length)] ∧ L = .sl false adE o l :: pt a0 (adE.e a) :: F) ⟨[], l, rfl, rfl, by simp, rfl, rfl⟩ (by repeat (first|exact Sub.refl _|exact Sub.nil _|(apply Sub.cons; (first|exact K0|exact K1|exact K2|exact K3|exact K4|exact K5|exact K6|exact K7|exact K8))|apply Sub.skip)) ?_
  rintro m l' L ⟨D, R, rfl, hDR, hD, rfl, rfl⟩
  have hln : l.length = D.length + R.length := by rw [hDR]; simp
  unfold t61_b1
  repeat (first|refine wa ?_|refine wb ?_|refine wc ?_|refine wd ?_|refine we ?_|refine wf ?_|refine wg ?_|refine wh rfl ?_|refine wi rfl ?_|refine wj rfl ?_|refine wk rfl ?_|refine wl rfl ?_|refine wm (by decide) ?_|(apply Tri.ldE; (first|exact K0|exact K1|exact K2|exact K3|exact K4|exact K5|exact K6|exact K7|exact K8); (exact rfl); (exact wz rfl))|(apply Tri.stE; (first|exact K0|exact K1|exact K2|exact K3|exact K4|exact K5|exact K6|exact K7|exact K8); (exact rfl); (exact wz rfl))|(apply Tri.same; (first|exact K0|exact K1|exact K2|exact K3|exact K4|exact K5|exact K6|exact K7|exact K8); (exact rfl); (exact wz rfl))|refine wq fun _ => ?_)
  cases R with
  | nil =>
    refine Tri.cndF (by simp at hln; simp; omega) ?_
    refine Tri.exit (by decide) ?_
    unfold t61_k1
    repeat (first|refine wa ?_|refine wb ?_|refine wc ?_|refine wd ?_|refine we ?_|refine wf ?_|refine wg ?_|refine wh rfl ?_|refine wi rfl ?_|refine wj rfl ?_|refine wk rfl ?_|refine wl rfl ?_|refine wm (by decide) ?_|(apply Tri.ldE; (first|exact K0|exact K1|exact K2|exact K3|exact K4|exact K5|exact K6|exact K7|exact K8); (exact rfl); (exact wz rfl))|(apply Tri.stE; (first|exact K0|exact K1|exact K2|exact K3|exact K4|exact K5|exact K6|exact K7|exact K8); (exact rfl); (exact wz rfl))|(apply Tri.same; (first|exact K0|exact K1|exact K2|exact K3|exact K4|exact K5|exact K6|exact K7|exact K8); (exact rfl); (exact wz rfl))|refine wq fun _ => ?_)
    refine Tri.retF ⟨_, rfl, ?_, rfl⟩ (by repeat (first|exact Sub.refl _|exact Sub.nil _|(apply Sub.cons; (first|exact K0|exact K1|exact K2|exact K3|exact K4|exact K5|exact K6|exact K7|exact K8))|apply Sub.skip))
    rw [hDR, List.append_nil, decide_eq_false hD]; rfl
  | cons x R =>
    simp only [List.length_cons] at hln
    have hx : l[D.length]? = some x := by rw [hDR]; simp
    refine Tri.cndT (by simp; omega) ?_
    repeat (first|refine wa ?_|refine wb ?_|refine wc ?_|refine wd ?_|refine we ?_|refine wf ?_|refine wg ?_|refine wh rfl ?_|refine wi rfl ?_|refine wj rfl ?_|refine wk rfl ?_|refine wl rfl ?_|refine wm (by decide) ?_|(apply Tri.ldE; (first|exact K0|exact K1|exact K2|exact K3|exact K4|exact K5|exact K6|exact K7|exact K8); (exact rfl); (exact wz rfl))|(apply Tri.stE; (first|exact K0|exact K1|exact K2|exact K3|exact K4|exact K5|exact K6|exact K7|exact K8); (exact rfl); (exact wz rfl))|(apply Tri.same; (first|exact K0|exact K1|exact K2|exact K3|exact K4|exact K5|exact K6|exact K7|exact K8); (exact rfl); (exact wz rfl))|refine wq fun _ => ?_)
    refine Tri.ixldR (T := adE) (o := o) (x := x) (k := 0) (n := 2) (by first|exact K0|exact K1|exact K2|exact K3|exact K4|exact K5|exact K6|exact K7|exact K8) rfl (by omega) (by simpa using hx) (by decide) rfl ?_
    repeat (first|refine wa ?_|refine wb ?_|refine wc ?_|refine wd ?_|refine we ?_|refine wf ?_|refine wg ?_|refine wh rfl ?_|refine wi rfl ?_|refine wj rfl ?_|refine wk rfl ?_|refine wl rfl ?_|refine wm (by decide) ?_|(apply Tri.ldE; (first|exact K0|exact K1|exact K2|exact K3|exact K4|exact K5|exact K6|exact K7|exact K8); (exact rfl); (exact wz rfl))|(apply Tri.stE; (first|exact K0|exact K1|exact K2|exact K3|exact K4|exact K5|exact K6|exact K7|exact K8); (exact rfl); (exact wz rfl))|(apply Tri.same; (first|exact K0|exact K1|exact K2|exact K3|exact K4|exact K5|exact K6|exact K7|exact K8); (exact rfl); (exact wz rfl))|refine wq fun _ => ?_)
    refine Tri.cnd (fun h => ?_) (fun h => ?_)
    · have h : a = x := by
        obtain ⟨a1, a2⟩ := a; obtain ⟨x1, x2⟩ := x
        simp at h; simp [h]
      subst h
      refine Tri.exit (by decide) ?_
      unfold t61_k1
      repeat (first|refine wa ?_|refine wb ?_|refine wc ?_|refine wd ?_|refine we ?_|refine wf ?_|refine wg ?_|refine wh rfl ?_|refine wi rfl ?_|refine wj rfl ?_|refine wk rfl ?_|refine wl rfl ?_|refine wm (by decide) ?_|(apply Tri.ldE; (first|exact K0|exact K1|exact K2|exact K3|exact K4|exact K5|exact K6|exact K7|exact K8); (exact rfl); (exact wz rfl))|(apply Tri.stE; (first|exact K0|exact K1|exact K2|exact K3|exact K4|exact K5|exact K6|exact K7|exact K8); (exact rfl); (exact wz rfl))|(apply Tri.same; (first|exact K0|exact K1|exact K2|exact K3|exact K4|exact K5|exact K6|exact K7|exact K8); (exact rfl); (exact wz rfl))|refine wq fun _ => ?_)
      refine Tri.retF ⟨_, rfl, ?_, rfl⟩ (by repeat (first|exact Sub.refl _|exact Sub.nil _|(apply Sub.cons; (first|exact K0|exact K1|exact K2|exact K3|exact K4|exact K5|exact K6|exact K7|exact K8))|apply Sub.skip))
      rw [decide_eq_true (show (D.length : Int) ≥ 0 by omega), decide_eq_true (show a ∈ l by rw [hDR]; simp)]
    · have h : a ≠ x := by rintro rfl; simp at h
      rw [wr_i64 (by omega) (by omega)]
      exact Tri.back (m' := R.length) (by simp) ⟨D ++ [x], R, rfl, by rw [hDR]; simp, by simp [hD, h], by simp, rfl⟩ (by repeat (first|exact Sub.refl _|exact Sub.nil _|(apply Sub.cons; (first|exact K0|exact K1|exact K2|exact K3|exact K4|exact K5|exact K6|exact K7|exact K8))|apply Sub.skip))
theorem contains_spec {o : Option SlD} {l : List Ad} {a : Ad} (hl : l.length ≤ 1000) : FSpec E 35 [.sc (.sl o), .ag (adE.e a)] [.sl false adE o l] (fun v L' => v = .sc (.b (decide (a ∈ l))) ∧ L' = [.sl false adE o l]) := by
  refine FSpec.of (Try.func35 : Try.prog.funcs[35]? = some Try.f35) (t35_eq _ _ _) fun F => ?_
  unfold t35
  repeat (first|refine wa ?_|refine wb ?_|refine wc ?_|refine wd ?_|refine we ?_|refine wf ?_|refine wg ?_|refine wh rfl ?_|refine wi rfl ?_|refine wj rfl ?_|refine wk rfl ?_|refine wl rfl ?_|refine wm (by decide) ?_|refine wn ?_|refine wo ?_|refine wp (by decide) ?_|(apply Tri.ldE; (first|exact K0|exact K1|exact K2|exact K3|exact K4|exact K5|exact K6|exact K7|exact K8); (exact rfl); (exact wz rfl))|(apply Tri.stE; (first|exact K0|exact K1|exact K2|exact K3|exact K4|exact K5|exact K6|exact K7|exact K8); (exact rfl); (exact wz rfl))|(apply Tri.same; (first|exact K0|exact K1|exact K2|exact K3|exact K4|exact K5|exact K6|exact K7|exact K8); (exact rfl); (exact wz rfl))|refine wq fun _ => ?_)
  refine Tri.call (index_spec (o := o) (l := l) (a := a) hl) (by repeat (first|exact Picks.nil|(apply Picks.cons; (first|exact K0|exact K1|exact K2|exact K3|exact K4|exact K5|exact K6|exact K7|exact K8)))) ?_
  rintro v L' ⟨n, rfl, hn, rfl⟩
  simp only [List.cons_append, List.nil_append]
  repeat (first|refine wa ?_|refine wb ?_|refine wc ?_|refine wd ?_|refine we ?_|refine wf ?_|refine wg ?_|refine wh rfl ?_|refine wi rfl ?_|refine wj rfl ?_|refine wk rfl ?_|refine wl rfl ?_|refine wm (by decide) ?_|refine wn ?_|refine wo ?_|refine wp (by decide) ?_|(apply Tri.ldE; (first|exact K0|exact K1|exact K2|exact K3|exact K4|exact K5|exact K6|exact K7|exact K8); (exact rfl); (exact wz rfl))|(apply Tri.stE; (first|exact K0|exact K1|exact K2|exact K3|exact K4|exact K5|exact K6|exact K7|exact K8); (exact rfl); (exact wz rfl))|(apply Tri.same; (first|exact K0|exact K1|exact K2|exact K3|exact K4|exact K5|exact K6|exact K7|exact K8); (exact rfl); (exact wz rfl))|refine wq fun _ => ?_)
  rw [hn]
  exact Tri.retF ⟨rfl, rfl⟩ (by repeat (first|exact Sub.refl _|exact Sub.nil _|(apply Sub.cons; (first|exact K0|exact K1|exact K2|exact K3|exact K4|exact K5|exact K6|exact K7|exact K8))|apply Sub.skip))
theorem pred63 {a1 : Nat} {a : Ad} : IsPred E adE 63 [] [(a1, 0)] (pt a1 (adE.e a)) (fun t => t.ip == a.ip) := by
  intro t
  refine FSpec.of (Try.func63 : Try.prog.funcs[63]? = some Try.f63) (t63_eq _ _ _ _) fun F => ?_
  unfold t63
  repeat (first|refine wa ?_|refine wb ?_|refine wc ?_|refine wd ?_|refine we ?_|refine wf ?_|refine wg ?_|refine wh rfl ?_|refine wi rfl ?_|refine wj rfl ?_|refine wk rfl ?_|refine wl rfl ?_|refine wm (by decide) ?_|refine wn ?_|refine wo ?_|refine wp (by decide) ?_|(apply Tri.ldE; (first|exact K0|exact K1|exact K2|exact K3|exact K4|exact K5|exact K6|exact K7|exact K8); (exact rfl); (exact wz rfl))|(apply Tri.stE; (first|exact K0|exact K1|exact K2|exact K3|exact K4|exact K5|exact K6|exact K7|exact K8); (exact rfl); (exact wz rfl))|(apply Tri.same; (first|exact K0|exact K1|exact K2|exact K3|exact K4|exact K5|exact K6|exact K7|exact K8); (exact rfl); (exact wz rfl))|refine wq fun _ => ?_)
  exact Tri.retF ⟨rfl, rfl⟩ (by repeat (first|exact Sub.refl _|exact Sub.nil _|(apply Sub.cons; (first|exact K0|exact K1|exact K2|exact K3|exact K4|exact K5|exact K6|exact K7|exact K8))|apply Sub.skip))
theorem any69 {o : Option SlD} {l : List Ad} {a1 : Nat} {a : Ad} (hl : l.length ≤ 1000) : FSpec E 69 [.sc (.sl o), .sc (.fn 63 [] [(a1, 0)])] [.sl false adE o l, pt a1 (adE.e a)]
    (fun v L' => ∃ n : Int, v = .sc (.i .i64 n) ∧ (decide (n ≥ 0) = l.any fun t => t.ip == a.ip) ∧ L' = [.sl false adE o l, pt a1 (adE.e a)]) := by
  refine FSpec.of (Try.func69 : Try.prog.funcs[69]? = some Try.f69) (t69_eq _ _ _ _) fun F => ?_
  unfold t69
  refine Tri.slLen (l := l) (o := o) (ro := false) (T := adE) (by first|exact K0|exact K1|exact K2|exact K3|exact K4|exact K5|exact K6|exact K7|exact K8) fun e1 e2 => ?_
  rw [e2]
  refine Tri.loop (I := fun m l' L => ∃ (D R : List Ad), m = R.length ∧ l = D ++ R ∧ (∀ t ∈ D, (t.ip == a.ip) = false) ∧
    l' = [.sc (.sl o), .sc (.fn 63 [] [(a1, 0)]), .sc (.i .i64 l.length), .sc (.i .i64 D.length)] ∧ L = .sl false adE o l :: pt a1 (adE.e a) :: F) ⟨[], l, rfl, rfl, by simp, rfl, rfl⟩ (by repeat (first|exact Sub.refl _|exact Sub.nil _|(apply Sub.cons; (first|exact K0|exact K1|exact K2|exact K3|exact K4|exact K5|exact K6|exact K7|exact K8))|apply Sub.skip)) ?_
  rintro m l' L ⟨D, R, rfl, hDR, hD, rfl, rfl⟩
  have hln : l.length = D.length + R.length := by rw [hDR]; simp
  unfold t69_b0
  repeat (first|refine wa ?_|refine wb ?_|refine wc ?_|refine wd ?_|refine we ?_|refine wf ?_|refine wg ?_|refine wh rfl ?_|refine wi rfl ?_|refine wj rfl ?_|refine wk rfl ?_|refine wl rfl ?_|refine wm (by decide) ?_|(apply Tri.ldE; (first|exact K0|exact K1|exact K2|exact K3|exact K4|exact K5|exact K6|exact K7|exact K8); (exact rfl); (exact wz rfl))|(apply Tri.stE; (first|exact K0|exact K1|exact K2|exact K3|exact K4|exact K5|exact K6|exact K7|exact K8); (exact rfl); (exact wz rfl))|(apply Tri.same; (first|exact K0|exact K1|exact K2|exact K3|exact K4|exact K5|exact K6|exact K7|exact K8); (exact rfl); (exact wz rfl))|refine wq fun _ => ?_)
  cases R with
  | nil =>
    refine Tri.cndF (by simp at hln; simp; omega) ?_
    refine Tri.exit (by decide) ?_
    unfold t69_k0
    repeat (first|refine wa ?_|refine wb ?_|refine wc ?_|refine wd ?_|refine we ?_|refine wf ?_|refine wg ?_|refine wh rfl ?_|refine wi rfl ?_|refine wj rfl ?_|refine wk rfl ?_|refine wl rfl ?_|refine wm (by decide) ?_|(apply Tri.ldE; (first|exact K0|exact K1|exact K2|exact K3|exact K4|exact K5|exact K6|exact K7|exact K8); (exact rfl); (exact wz rfl))|(apply Tri.stE; (first|exact K0|exact K1|exact K2|exact K3|exact K4|exact K5|exact K6|exact K7|exact K8); (exact rfl); (exact wz rfl))|(apply Tri.same; (first|exact K0|exact K1|exact K2|exact K3|exact K4|exact K5|exact K6|exact K7|exact K8); (exact rfl); (exact wz rfl))|refine wq fun _ => ?_)
    refine Tri.retF ⟨_, rfl, ?_, rfl⟩ (by repeat (first|exact Sub.refl _|exact Sub.nil _|(apply Sub.cons; (first|exact K0|exact K1|exact K2|exact K3|exact K4|exact K5|exact K6|exact K7|exact K8))|apply Sub.skip))
    rw [hDR, List.append_nil, List.any_eq_false.2 fun t ht => by simp [hD t ht]]; rfl
  | cons x R =>
    simp only [List.length_cons] at hln
    have hx : l[D.length]? = some x := by rw [hDR]; simp
    refine Tri.cndT (by simp; omega) ?_
    refine Tri.ixldR (T := adE) (o := o) (x := x) (k := 0) (n := 2) (by first|exact K0|exact K1|exact K2|exact K3|exact K4|exact K5|exact K6|exact K7|exact K8) rfl (by omega) (by simpa using hx) (by decide) rfl ?_
    repeat (first|refine wa ?_|refine wb ?_|refine wc ?_|refine wd ?_|refine we ?_|refine wf ?_|refine wg ?_|refine wh rfl ?_|refine wi rfl ?_|refine wj rfl ?_|refine wk rfl ?_|refine wl rfl ?_|refine wm (by decide) ?_|(apply Tri.ldE; (first|exact K0|exact K1|exact K2|exact K3|exact K4|exact K5|exact K6|exact K7|exact K8); (exact rfl); (exact wz rfl))|(apply Tri.stE; (first|exact K0|exact K1|exact K2|exact K3|exact K4|exact K5|exact K6|exact K7|exact K8); (exact rfl); (exact wz rfl))|(apply Tri.same; (first|exact K0|exact K1|exact K2|exact K3|exact K4|exact K5|exact K6|exact K7|exact K8); (exact rfl); (exact wz rfl))|refine wq fun _ => ?_)
    refine Tri.callv rfl (pred63 (a1 := a1) (a := a) x) (by repeat (first|exact Picks.nil|(apply Picks.cons; (first|exact K0|exact K1|exact K2|exact K3|exact K4|exact K5|exact K6|exact K7|exact K8)))) ?_
    rintro v L' ⟨rfl, rfl⟩
    simp only [List.cons_append, List.nil_append]
    repeat (first|refine wa ?_|refine wb ?_|refine wc ?_|refine wd ?_|refine we ?_|refine wf ?_|refine wg ?_|refine wh rfl ?_|refine wi rfl ?_|refine wj rfl ?_|refine wk rfl ?_|refine wl rfl ?_|refine wm (by decide) ?_|(apply Tri.ldE; (first|exact K0|exact K1|exact K2|exact K3|exact K4|exact K5|exact K6|exact K7|exact K8); (exact rfl); (exact wz rfl))|(apply Tri.stE; (first|exact K0|exact K1|exact K2|exact K3|exact K4|exact K5|exact K6|exact K7|exact K8); (exact rfl); (exact wz rfl))|(apply Tri.same; (first|exact K0|exact K1|exact K2|exact K3|exact K4|exact K5|exact K6|exact K7|exact K8); (exact rfl); (exact wz rfl))|refine wq fun _ => ?_)
    refine Tri.cnd (fun h => ?_) (fun h => ?_)
    · refine Tri.exit (by decide) ?_
      unfold t69_k0
      repeat (first|refine wa ?_|refine wb ?_|refine wc ?_|refine wd ?_|refine we ?_|refine wf ?_|refine wg ?_|refine wh rfl ?_|refine wi rfl ?_|refine wj rfl ?_|refine wk rfl ?_|refine wl rfl ?_|refine wm (by decide) ?_|(apply Tri.ldE; (first|exact K0|exact K1|exact K2|exact K3|exact K4|exact K5|exact K6|exact K7|exact K8); (exact rfl); (exact wz rfl))|(apply Tri.stE; (first|exact K0|exact K1|exact K2|exact K3|exact K4|exact K5|exact K6|exact K7|exact K8); (exact rfl); (exact wz rfl))|(apply Tri.same; (first|exact K0|exact K1|exact K2|exact K3|exact K4|exact K5|exact K6|exact K7|exact K8); (exact rfl); (exact wz rfl))|refine wq fun _ => ?_)
      refine Tri.retF ⟨_, rfl, ?_, rfl⟩ (by repeat (first|exact Sub.refl _|exact Sub.nil _|(apply Sub.cons; (first|exact K0|exact K1|exact K2|exact K3|exact K4|exact K5|exact K6|exact K7|exact K8))|apply Sub.skip))
      rw [List.any_eq_true.2 ⟨x, by rw [hDR]; simp, h⟩, decide_eq_true (by omega)]
    · rw [wr_i64 (by omega) (by omega)]
      exact Tri.back (m' := R.length) (by simp) ⟨D ++ [x], R, rfl, by rw [hDR]; simp, fun z hz => (List.mem_append.1 hz).elim (hD z) fun hz => by simp at hz; subst hz; exact h, by simp, rfl⟩ (by repeat (first|exact Sub.refl _|exact Sub.nil _|(apply Sub.cons; (first|exact K0|exact K1|exact K2|exact K3|exact K4|exact K5|exact K6|exact K7|exact K8))|apply Sub.skip))
def passB (fil : Int) (m : List Ad) (a : Ad) : Bool := if fil = 0 then true else if fil = 1 then m.any (fun t => t.ip == a.ip) else if fil = 2 then decide (a ∈ m) else false
theorem passes_spec {mp f : Int} {o : Option SlD} {l : List Ad} {a : Ad} (hl : l.length ≤ 1000) : FSpec E 39 [.ag [.i .i64 mp, .i .i64 f], .sc (.sl o), .ag (adE.e a)] [.sl false adE o l] (fun v L' => v = .sc (.b (passB f l a)) ∧ L' = [.sl false adE o l]) := by
  refine FSpec.of (Try.func39 : Try.prog.funcs[39]? = some Try.f39) (t39_eq _ _ _ _ _) fun F => ?_
  unfold t39 passB
  refine Tri.al fun a0 => ?_
  refine Tri.al fun a1 => ?_
  repeat (first|refine wa ?_|refine wb ?_|refine wc ?_|refine wd ?_|refine we ?_|refine wf ?_|refine wg ?_|refine wh rfl ?_|refine wi rfl ?_|refine wj rfl ?_|refine wk rfl ?_|refine wl rfl ?_|refine wm (by decide) ?_|(apply Tri.ldE; (first|exact K0|exact K1|exact K2|exact K3|exact K4|exact K5|exact K6|exact K7|exact K8); (exact rfl); (exact wz rfl))|(apply Tri.stE; (first|exact K0|exact K1|exact K2|exact K3|exact K4|exact K5|exact K6|exact K7|exact K8); (exact rfl); (exact wz rfl))|(apply Tri.same; (first|exact K0|exact K1|exact K2|exact K3|exact K4|exact K5|exact K6|exact K7|exact K8); (exact rfl); (exact wz rfl))|refine wq fun _ => ?_)
  refine Tri.cnd (fun h0 => ?_) (fun h0 => ?_)
  · rw [if_pos (by simpa using h0)]
    exact Tri.retF ⟨rfl, rfl⟩ (by repeat (first|exact Sub.refl _|exact Sub.nil _|(apply Sub.cons; (first|exact K0|exact K1|exact K2|exact K3|exact K4|exact K5|exact K6|exact K7|exact K8))|apply Sub.skip))
  rw [if_neg (by simpa using h0)]
  refine Tri.cnd (fun h1 => ?_) (fun h1 => ?_)
  · rw [if_pos (by simpa using h1)]
    have h62 : FSpec E 62 [.sc (.sl o), .sc (.fn 63 [] [(a1, 0)])] [.sl false adE o l, pt a1 (adE.e a)] (fun v L' => v = .sc (.b (l.any fun t => t.ip == a.ip)) ∧ L' = [.sl false adE o l, pt a1 (adE.e a)]) := by
      refine FSpec.of (Try.func62 : Try.prog.funcs[62]? = some Try.f62) (t62_eq _ _ _ _) fun F => ?_
      unfold t62
      refine Tri.call (any69 (o := o) (l := l) (a1 := a1) (a := a) hl) (by repeat (first|exact Picks.nil|(apply Picks.cons; (first|exact K0|exact K1|exact K2|exact K3|exact K4|exact K5|exact K6|exact K7|exact K8)))) ?_
      rintro v L' ⟨n, rfl, hn, rfl⟩
      simp only [List.cons_append, List.nil_append]
      repeat (first|refine wa ?_|refine wb ?_|refine wc ?_|refine wd ?_|refine we ?_|refine wf ?_|refine wg ?_|refine wh rfl ?_|refine wi rfl ?_|refine wj rfl ?_|refine wk rfl ?_|refine wl rfl ?_|refine wm (by decide) ?_|(apply Tri.ldE; (first|exact K0|exact K1|exact K2|exact K3|exact K4|exact K5|exact K6|exact K7|exact K8); (exact rfl); (exact wz rfl))|(apply Tri.stE; (first|exact K0|exact K1|exact K2|exact K3|exact K4|exact K5|exact K6|exact K7|exact K8); (exact rfl); (exact wz rfl))|(apply Tri.same; (first|exact K0|exact K1|exact K2|exact K3|exact K4|exact K5|exact K6|exact K7|exact K8); (exact rfl); (exact wz rfl))|refine wq fun _ => ?_)
      rw [hn]
      exact Tri.retF ⟨rfl, rfl⟩ (by repeat (first|exact Sub.refl _|exact Sub.nil _|(apply Sub.cons; (first|exact K0|exact K1|exact K2|exact K3|exact K4|exact K5|exact K6|exact K7|exact K8))|apply Sub.skip))
    refine Tri.call h62 (by repeat (first|exact Picks.nil|(apply Picks.cons; (first|exact K0|exact K1|exact K2|exact K3|exact K4|exact K5|exact K6|exact K7|exact K8)))) ?_
    rintro v L' ⟨rfl, rfl⟩
    simp only [List.cons_append, List.nil_append]
    repeat (first|refine wa ?_|refine wb ?_|refine wc ?_|refine wd ?_|refine we ?_|refine wf ?_|refine wg ?_|refine wh rfl ?_|refine wi rfl ?_|refine wj rfl ?_|refine wk rfl ?_|refine wl rfl ?_|refine wm (by decide) ?_|(apply Tri.ldE; (first|exact K0|exact K1|exact K2|exact K3|exact K4|exact K5|exact K6|exact K7|exact K8); (exact rfl); (exact wz rfl))|(apply Tri.stE; (first|exact K0|exact K1|exact K2|exact K3|exact K4|exact K5|exact K6|exact K7|exact K8); (exact rfl); (exact wz rfl))|(apply Tri.same; (first|exact K0|exact K1|exact K2|exact K3|exact K4|exact K5|exact K6|exact K7|exact K8); (exact rfl); (exact wz rfl))|refine wq fun _ => ?_)
    exact Tri.retF ⟨rfl, rfl⟩ (by repeat (first|exact Sub.refl _|exact Sub.nil _|(apply Sub.cons; (first|exact K0|exact K1|exact K2|exact K3|exact K4|exact K5|exact K6|exact K7|exact K8))|apply Sub.skip))
  rw [if_neg (by simpa using h1)]
  refine Tri.cnd (fun h2 => ?_) (fun h2 => ?_)
  · rw [if_pos (by simpa using h2)]
    repeat (first|refine wa ?_|refine wb ?_|refine wc ?_|refine wd ?_|refine we ?_|refine wf ?_|refine wg ?_|refine wh rfl ?_|refine wi rfl ?_|refine wj rfl ?_|refine wk rfl ?_|refine wl rfl ?_|refine wm (by decide) ?_|(apply Tri.ldE; (first|exact K0|exact K1|exact K2|exact K3|exact K4|exact K5|exact K6|exact K7|exact K8); (exact rfl); (exact wz rfl))|(apply Tri.stE; (first|exact K0|exact K1|exact K2|exact K3|exact K4|exact K5|exact K6|exact K7|exact K8); (exact rfl); (exact wz rfl))|(apply Tri.same; (first|exact K0|exact K1|exact K2|exact K3|exact K4|exact K5|exact K6|exact K7|exact K8); (exact rfl); (exact wz rfl))|refine wq fun _ => ?_)
    refine Tri.call (contains_spec (o := o) (l := l) (a := a) hl) (by repeat (first|exact Picks.nil|(apply Picks.cons; (first|exact K0|exact K1|exact K2|exact K3|exact K4|exact K5|exact K6|exact K7|exact K8)))) ?_
    rintro v L' ⟨rfl, rfl⟩
    simp only [List.cons_append, List.nil_append]
    repeat (first|refine wa ?_|refine wb ?_|refine wc ?_|refine wd ?_|refine we ?_|refine wf ?_|refine wg ?_|refine wh rfl ?_|refine wi rfl ?_|refine wj rfl ?_|refine wk rfl ?_|refine wl rfl ?_|refine wm (by decide) ?_|(apply Tri.ldE; (first|exact K0|exact K1|exact K2|exact K3|exact K4|exact K5|exact K6|exact K7|exact K8); (exact rfl); (exact wz rfl))|(apply Tri.stE; (first|exact K0|exact K1|exact K2|exact K3|exact K4|exact K5|exact K6|exact K7|exact K8); (exact rfl); (exact wz rfl))|(apply Tri.same; (first|exact K0|exact K1|exact K2|exact K3|exact K4|exact K5|exact K6|exact K7|exact K8); (exact rfl); (exact wz rfl))|refine wq fun _ => ?_)
    exact Tri.retF ⟨rfl, rfl⟩ (by repeat (first|exact Sub.refl _|exact Sub.nil _|(apply Sub.cons; (first|exact K0|exact K1|exact K2|exact K3|exact K4|exact K5|exact K6|exact K7|exact K8))|apply Sub.skip))
  · rw [if_neg (by simpa using h2)]
    exact Tri.retF ⟨rfl, rfl⟩ (by repeat (first|exact Sub.refl _|exact Sub.nil _|(apply Sub.cons; (first|exact K0|exact K1|exact K2|exact K3|exact K4|exact K5|exact K6|exact K7|exact K8))|apply Sub.skip))
theorem cloneA_spec {o : Option SlD} {l : List Ad} (hl : l.length ≤ 1000) : FSpec E 36 [.sc (.sl o)] [.sl false adE o l]
    (fun v L' => ∃ o', v = .sc (.sl o') ∧ L' = [.sl false adE o l, .sl false adE o' l]) := by
  refine FSpec.of (Try.func36 : Try.prog.funcs[36]? = some Try.f36) (t36_eq _) fun F => ?_
  exact clone_tri F rfl (by decide) (by decide) (by unfold appBound; omega)
theorem cloneB_spec {o : Option SlD} {l : List Bm} (hl : l.length ≤ 1000) : FSpec E 40 [.sc (.sl o)] [.sl false bmE o l]
    (fun v L' => ∃ o', v = .sc (.sl o') ∧ L' = [.sl false bmE o l, .sl false bmE o' l]) := by
  refine FSpec.of (Try.func40 : Try.prog.funcs[40]? = some Try.f40) (t40_eq _) fun F => ?_
  exact clone_tri F rfl (by decide) (by decide) (by unfold appBound; omega)

/-! comparing -/
theorem nan66 {a : Int} : FSpec E 66 [.sc (.i .u16 a)] [] (fun v L' => v = .sc (.b false) ∧ L' = []) := by
  refine FSpec.of (Try.func66 : Try.prog.funcs[66]? = some Try.f66) (t66_eq _) fun F => ?_
  exact Tri.retF ⟨by simp, rfl⟩ (Sub.refl _)
theorem nan68 {a : Int} : FSpec E 68 [.sc (.i .u64 a)] [] (fun v L' => v = .sc (.b false) ∧ L' = []) := by
  refine FSpec.of (Try.func68 : Try.prog.funcs[68]? = some Try.f68) (t68_eq _) fun F => ?_
  exact Tri.retF ⟨by simp, rfl⟩ (Sub.refl _)
theorem cmp43 {a b : Int} : FSpec E 43 [.sc (.i .u16 a), .sc (.i .u16 b)] [] (fun v L' => v = .sc (.i .i64 (cmpI a b)) ∧ L' = []) := by
  refine FSpec.of (Try.func43 : Try.prog.funcs[43]? = some Try.f43) (t43_eq _ _) fun F => ?_
  unfold t43
  refine Tri.call nan66 (by repeat (first|exact Picks.nil|(apply Picks.cons; (first|exact K0|exact K1|exact K2|exact K3|exact K4|exact K5|exact K6|exact K7|exact K8)))) ?_
  rintro v L' ⟨rfl, rfl⟩
  simp only [List.cons_append, List.nil_append]
  repeat (first|refine wa ?_|refine wb ?_|refine wc ?_|refine wd ?_|refine we ?_|refine wf ?_|refine wg ?_|refine wh rfl ?_|refine wi rfl ?_|refine wj rfl ?_|refine wk rfl ?_|refine wl rfl ?_|refine wm (by decide) ?_|(apply Tri.ldE; (first|exact K0|exact K1|exact K2|exact K3|exact K4|exact K5|exact K6|exact K7|exact K8); (exact rfl); (exact wz rfl))|(apply Tri.stE; (first|exact K0|exact K1|exact K2|exact K3|exact K4|exact K5|exact K6|exact K7|exact K8); (exact rfl); (exact wz rfl))|(apply Tri.same; (first|exact K0|exact K1|exact K2|exact K3|exact K4|exact K5|exact K6|exact K7|exact K8); (exact rfl); (exact wz rfl))|refine wq fun _ => ?_)
  refine Tri.call nan66 (by repeat (first|exact Picks.nil|(apply Picks.cons; (first|exact K0|exact K1|exact K2|exact K3|exact K4|exact K5|exact K6|exact K7|exact K8)))) ?_
  rintro v L' ⟨rfl, rfl⟩
  simp only [List.cons_append, List.nil_append]
  repeat (first|refine wa ?_|refine wb ?_|refine wc ?_|refine wd ?_|refine we ?_|refine wf ?_|refine wg ?_|refine wh rfl ?_|refine wi rfl ?_|refine wj rfl ?_|refine wk rfl ?_|refine wl rfl ?_|refine wm (by decide) ?_|(apply Tri.ldE; (first|exact K0|exact K1|exact K2|exact K3|exact K4|exact K5|exact K6|exact K7|exact K8); (exact rfl); (exact wz rfl))|(apply Tri.stE; (first|exact K0|exact K1|exact K2|exact K3|exact K4|exact K5|exact K6|exact K7|exact K8); (exact rfl); (exact wz rfl))|(apply Tri.same; (first|exact K0|exact K1|exact K2|exact K3|exact K4|exact K5|exact K6|exact K7|exact K8); (exact rfl); (exact wz rfl))|refine wq fun _ => ?_)
  refine Tri.cndF rfl ?_
  refine Tri.cndF rfl ?_
  refine Tri.cnd (fun h1 => ?_) (fun h1 => ?_)
  · exact Tri.retF ⟨by simp at h1; simp [cmpI, h1], rfl⟩ (Sub.refl _)
  refine Tri.cnd (fun h2 => ?_) (fun h2 => ?_)
  · exact Tri.retF ⟨by simp at h1 h2; simp [cmpI, h2, Int.not_lt.2 h1], rfl⟩ (Sub.refl _)
  · exact Tri.retF ⟨by simp at h1 h2; simp [cmpI, Int.not_lt.2 h1, Int.not_lt.2 h2], rfl⟩ (Sub.refl _)
theorem cmp58 {a b : Int} : FSpec E 58 [.sc (.i .u64 a), .sc (.i .u64 b)] [] (fun v L' => v = .sc (.i .i64 (cmpI a b)) ∧ L' = []) := by
  refine FSpec.of (Try.func58 : Try.prog.funcs[58]? = some Try.f58) (t58_eq _ _) fun F => ?_
  unfold t58
  refine Tri.call nan68 (by repeat (first|exact Picks.nil|(apply Picks.cons; (first|exact K0|exact K1|exact K2|exact K3|exact K4|exact K5|exact K6|exact K7|exact K8)))) ?_
  rintro v L' ⟨rfl, rfl⟩
  simp only [List.cons_append, List.nil_append]
  repeat (first|refine wa ?_|refine wb ?_|refine wc ?_|refine wd ?_|refine we ?_|refine wf ?_|refine wg ?_|refine wh rfl ?_|refine wi rfl ?_|refine wj rfl ?_|refine wk rfl ?_|refine wl rfl ?_|refine wm (by decide) ?_|(apply Tri.ldE; (first|exact K0|exact K1|exact K2|exact K3|exact K4|exact K5|exact K6|exact K7|exact K8); (exact rfl); (exact wz rfl))|(apply Tri.stE; (first|exact K0|exact K1|exact K2|exact K3|exact K4|exact K5|exact K6|exact K7|exact K8); (exact rfl); (exact wz rfl))|(apply Tri.same; (first|exact K0|exact K1|exact K2|exact K3|exact K4|exact K5|exact K6|exact K7|exact K8); (exact rfl); (exact wz rfl))|refine wq fun _ => ?_)
  refine Tri.call nan68 (by repeat (first|exact Picks.nil|(apply Picks.cons; (first|exact K0|exact K1|exact K2|exact K3|exact K4|exact K5|exact K6|exact K7|exact K8)))) ?_
  rintro v L' ⟨rfl, rfl⟩
  simp only [List.cons_append, List.nil_append]
  repeat (first|refine wa ?_|refine wb ?_|refine wc ?_|refine wd ?_|refine we ?_|refine wf ?_|refine wg ?_|refine wh rfl ?_|refine wi rfl ?_|refine wj rfl ?_|refine wk rfl ?_|refine wl rfl ?_|refine wm (by decide) ?_|(apply Tri.ldE; (first|exact K0|exact K1|exact K2|exact K3|exact K4|exact K5|exact K6|exact K7|exact K8); (exact rfl); (exact wz rfl))|(apply Tri.stE; (first|exact K0|exact K1|exact K2|exact K3|exact K4|exact K5|exact K6|exact K7|exact K8); (exact rfl); (exact wz rfl))|(apply Tri.same; (first|exact K0|exact K1|exact K2|exact K3|exact K4|exact K5|exact K6|exact K7|exact K8); (exact rfl); (exact wz rfl))|refine wq fun _ => ?_)
  refine Tri.cndF rfl ?_
  refine Tri.cndF rfl ?_
  refine Tri.cnd (fun h1 => ?_) (fun h1 => ?_)
  · exact Tri.retF ⟨by simp at h1; simp [cmpI, h1], rfl⟩ (Sub.refl _)
  refine Tri.cnd (fun h2 => ?_) (fun h2 => ?_)
  · exact Tri.retF ⟨by simp at h1 h2; simp [cmpI, h2, Int.not_lt.2 h1], rfl⟩ (Sub.refl _)
  · exact Tri.retF ⟨by simp at h1 h2; simp [cmpI, Int.not_lt.2 h1, Int.not_lt.2 h2], rfl⟩ (Sub.refl _)
theorem or2_neg {a b c d : Int} : orI [cmpI a b, cmpI c d] < 0 ↔ a < b ∨ a = b ∧ c < d := by
  unfold orI cmpI
  by_cases h1 : a < b
  · simp [h1]
  · by_cases h2 : b < a
    · simp [h1, h2]; omega
    · have : a = b := by omega
      subst this
      by_cases h3 : c < d
      · simp [h3]
      · by_cases h4 : d < c
        · simp [h3, h4]
        · simp [h3, h4]
/-- by ports -/
def plt (a b : Bm) : Prop := a.d.port < b.d.port
theorem plt_ord : Ord plt := ⟨fun a => by unfold plt; omega, fun {a b c} h h' => by unfold plt at *; omega, fun {a b c} h h' => by unfold plt at *; omega⟩
theorem cmpP : IsCmp E bmE 42 [] [] plt := by
  intro a b
  refine FSpec.of (Try.func42 : Try.prog.funcs[42]? = some Try.f42) (t42_eq _ _ _ _ _ _ _ _ _ _ _ _ _ _) fun F => ?_
  unfold t42
  repeat (first|refine wa ?_|refine wb ?_|refine wc ?_|refine wd ?_|refine we ?_|refine wf ?_|refine wg ?_|refine wh rfl ?_|refine wi rfl ?_|refine wj rfl ?_|refine wk rfl ?_|refine wl rfl ?_|refine wm (by decide) ?_|refine wn ?_|refine wo ?_|refine wp (by decide) ?_|(apply Tri.ldE; (first|exact K0|exact K1|exact K2|exact K3|exact K4|exact K5|exact K6|exact K7|exact K8); (exact rfl); (exact wz rfl))|(apply Tri.stE; (first|exact K0|exact K1|exact K2|exact K3|exact K4|exact K5|exact K6|exact K7|exact K8); (exact rfl); (exact wz rfl))|(apply Tri.same; (first|exact K0|exact K1|exact K2|exact K3|exact K4|exact K5|exact K6|exact K7|exact K8); (exact rfl); (exact wz rfl))|refine wq fun _ => ?_)
  refine Tri.call cmp43 (by repeat (first|exact Picks.nil|(apply Picks.cons; (first|exact K0|exact K1|exact K2|exact K3|exact K4|exact K5|exact K6|exact K7|exact K8)))) ?_
  rintro v L' ⟨rfl, rfl⟩
  simp only [List.cons_append, List.nil_append]
  repeat (first|refine wa ?_|refine wb ?_|refine wc ?_|refine wd ?_|refine we ?_|refine wf ?_|refine wg ?_|refine wh rfl ?_|refine wi rfl ?_|refine wj rfl ?_|refine wk rfl ?_|refine wl rfl ?_|refine wm (by decide) ?_|(apply Tri.ldE; (first|exact K0|exact K1|exact K2|exact K3|exact K4|exact K5|exact K6|exact K7|exact K8); (exact rfl); (exact wz rfl))|(apply Tri.stE; (first|exact K0|exact K1|exact K2|exact K3|exact K4|exact K5|exact K6|exact K7|exact K8); (exact rfl); (exact wz rfl))|(apply Tri.same; (first|exact K0|exact K1|exact K2|exact K3|exact K4|exact K5|exact K6|exact K7|exact K8); (exact rfl); (exact wz rfl))|refine wq fun _ => ?_)
  exact Tri.retF ⟨_, rfl, cmpI_neg, rfl⟩ (by repeat (first|exact Sub.refl _|exact Sub.nil _|(apply Sub.cons; (first|exact K0|exact K1|exact K2|exact K3|exact K4|exact K5|exact K6|exact K7|exact K8))|apply Sub.skip))
/-- by ends, then by ports -/
def ult (a b : Bd) : Bool := decide (a.til < b.til) || (a.til == b.til && decide (a.port < b.port))
theorem ult_iff {a b : Bd} : ult a b = true ↔ a.til < b.til ∨ a.til = b.til ∧ a.port < b.port := by simp [ult]
theorem cmpU : IsCmp E bmE 56 [] [] (fun a b => ult a.d b.d = true) := by
  intro a b
  refine FSpec.of (Try.func56 : Try.prog.funcs[56]? = some Try.f56) (t56_eq _ _ _ _ _ _ _ _ _ _ _ _ _ _) fun F => ?_
  unfold t56
  repeat (first|refine wa ?_|refine wb ?_|refine wc ?_|refine wd ?_|refine we ?_|refine wf ?_|refine wg ?_|refine wh rfl ?_|refine wi rfl ?_|refine wj rfl ?_|refine wk rfl ?_|refine wl rfl ?_|refine wm (by decide) ?_|refine wn ?_|refine wo ?_|refine wp (by decide) ?_|(apply Tri.ldE; (first|exact K0|exact K1|exact K2|exact K3|exact K4|exact K5|exact K6|exact K7|exact K8); (exact rfl); (exact wz rfl))|(apply Tri.stE; (first|exact K0|exact K1|exact K2|exact K3|exact K4|exact K5|exact K6|exact K7|exact K8); (exact rfl); (exact wz rfl))|(apply Tri.same; (first|exact K0|exact K1|exact K2|exact K3|exact K4|exact K5|exact K6|exact K7|exact K8); (exact rfl); (exact wz rfl))|refine wq fun _ => ?_)
  refine Tri.call cmp58 (by repeat (first|exact Picks.nil|(apply Picks.cons; (first|exact K0|exact K1|exact K2|exact K3|exact K4|exact K5|exact K6|exact K7|exact K8)))) ?_
  rintro v L' ⟨rfl, rfl⟩
  simp only [List.cons_append, List.nil_append]
  repeat (first|refine wa ?_|refine wb ?_|refine wc ?_|refine wd ?_|refine we ?_|refine wf ?_|refine wg ?_|refine wh rfl ?_|refine wi rfl ?_|refine wj rfl ?_|refine wk rfl ?_|refine wl rfl ?_|refine wm (by decide) ?_|refine wn ?_|refine wo ?_|refine wp (by decide) ?_|(apply Tri.ldE; (first|exact K0|exact K1|exact K2|exact K3|exact K4|exact K5|exact K6|exact K7|exact K8); (exact rfl); (exact wz rfl))|(apply Tri.stE; (first|exact K0|exact K1|exact K2|exact K3|exact K4|exact K5|exact K6|exact K7|exact K8); (exact rfl); (exact wz rfl))|(apply Tri.same; (first|exact K0|exact K1|exact K2|exact K3|exact K4|exact K5|exact K6|exact K7|exact K8); (exact rfl); (exact wz rfl))|refine wq fun _ => ?_)
  refine Tri.call cmp43 (by repeat (first|exact Picks.nil|(apply Picks.cons; (first|exact K0|exact K1|exact K2|exact K3|exact K4|exact K5|exact K6|exact K7|exact K8)))) ?_
  rintro v L' ⟨rfl, rfl⟩
  simp only [List.cons_append, List.nil_append]
  repeat (first|refine wa ?_|refine wb ?_|refine wc ?_|refine wd ?_|refine we ?_|refine wf ?_|refine wg ?_|refine wh rfl ?_|refine wi rfl ?_|refine wj rfl ?_|refine wk rfl ?_|refine wl rfl ?_|refine wm (by decide) ?_|refine wn ?_|refine wo ?_|refine wp (by decide) ?_|(apply Tri.ldE; (first|exact K0|exact K1|exact K2|exact K3|exact K4|exact K5|exact K6|exact K7|exact K8); (exact rfl); (exact wz rfl))|(apply Tri.stE; (first|exact K0|exact K1|exact K2|exact K3|exact K4|exact K5|exact K6|exact K7|exact K8); (exact rfl); (exact wz rfl))|(apply Tri.same; (first|exact K0|exact K1|exact K2|exact K3|exact K4|exact K5|exact K6|exact K7|exact K8); (exact rfl); (exact wz rfl))|refine wq fun _ => ?_)
  refine Tri.mkS (T := i64E) (ro := false) (d := ⟨_, 0, 2, 2, 1⟩) (l := [_, _]) (by first|exact K0|exact K1|exact K2|exact K3|exact K4|exact K5|exact K6|exact K7|exact K8) (SlOk.mk' rfl (Nat.le_refl _) (Nat.le_refl _) rfl) ?_
  refine Tri.call (or_spec bOk (l := [_, _]) (Nat.le_of_ble_eq_true rfl)) (by repeat (first|exact Picks.nil|(apply Picks.cons; (first|exact K0|exact K1|exact K2|exact K3|exact K4|exact K5|exact K6|exact K7|exact K8)))) ?_
  rintro v L' ⟨rfl, rfl⟩
  simp only [List.cons_append, List.nil_append]
  repeat (first|refine wa ?_|refine wb ?_|refine wc ?_|refine wd ?_|refine we ?_|refine wf ?_|refine wg ?_|refine wh rfl ?_|refine wi rfl ?_|refine wj rfl ?_|refine wk rfl ?_|refine wl rfl ?_|refine wm (by decide) ?_|refine wn ?_|refine wo ?_|refine wp (by decide) ?_|(apply Tri.ldE; (first|exact K0|exact K1|exact K2|exact K3|exact K4|exact K5|exact K6|exact K7|exact K8); (exact rfl); (exact wz rfl))|(apply Tri.stE; (first|exact K0|exact K1|exact K2|exact K3|exact K4|exact K5|exact K6|exact K7|exact K8); (exact rfl); (exact wz rfl))|(apply Tri.same; (first|exact K0|exact K1|exact K2|exact K3|exact K4|exact K5|exact K6|exact K7|exact K8); (exact rfl); (exact wz rfl))|refine wq fun _ => ?_)
  exact Tri.retF ⟨_, rfl, or2_neg.trans ult_iff.symm, rfl⟩ (by repeat (first|exact Sub.refl _|exact Sub.nil _|(apply Sub.cons; (first|exact K0|exact K1|exact K2|exact K3|exact K4|exact K5|exact K6|exact K7|exact K8))|apply Sub.skip))
/-- the least -/
def minB : List Bd → Bd → Bd
  | [], m => m
  | x :: l, m => minB l (if ult x m then x else m)
def minM : List Bm → Bm → Bm
  | [], m => m
  | x :: l, m => minM l (if ult x.d m.d then x else m)
theorem minM_d : ∀ (l : List Bm) (m : Bm), (minM l m).d = minB (l.map Bm.d) m.d
  | [], m => rfl
  | x :: l, m => by
    rw [minM, List.map_cons, minB, minM_d l]
    congr 1
    split <;> rfl
theorem min_spec {o : Option SlD} {x0 : Bm} {l : List Bm} (hl : l.length ≤ 900) : FSpec E 55 [.sc (.sl o), .sc (.fn 56 [] [])] [.sl false bmE o (x0 :: l)]
    (fun v L' => v = .ag (bmE.e (minM l x0)) ∧ L' = [.sl false bmE o (x0 :: l)]) := by
  refine FSpec.of (Try.func55 : Try.prog.funcs[55]? = some Try.f55) (t55_eq _ _ _ _) fun F => ?_
  unfold t55
  refine Tri.al fun a0 => ?_
  refine Tri.slLen (l := x0 :: l) (o := o) (ro := false) (T := bmE) (by first|exact K0|exact K1|exact K2|exact K3|exact K4|exact K5|exact K6|exact K7|exact K8) fun e1 e2 => ?_
  rw [e2]
  refine wn ?_
  refine Tri.cndF (by simp; omega) ?_
  refine wo ?_
  unfold t55_k1
  repeat (first|refine wa ?_|refine wb ?_|refine wc ?_|refine wd ?_|refine we ?_|refine wf ?_|refine wg ?_|refine wh rfl ?_|refine wi rfl ?_|refine wj rfl ?_|refine wk rfl ?_|refine wl rfl ?_|refine wm (by decide) ?_|(apply Tri.ldE; (first|exact K0|exact K1|exact K2|exact K3|exact K4|exact K5|exact K6|exact K7|exact K8); (exact rfl); (exact wz rfl))|(apply Tri.stE; (first|exact K0|exact K1|exact K2|exact K3|exact K4|exact K5|exact K6|exact K7|exact K8); (exact rfl); (exact wz rfl))|(apply Tri.same; (first|exact K0|exact K1|exact K2|exact K3|exact K4|exact K5|exact K6|exact K7|exact K8); (exact rfl); (exact wz rfl))|refine wq fun _ => ?_)
  refine Tri.ixldR (T := bmE) (o := o) (x := x0) (k := 0) (n := 7) (by first|exact K0|exact K1|exact K2|exact K3|exact K4|exact K5|exact K6|exact K7|exact K8) rfl (by omega) rfl (by decide) rfl ?_
  repeat (first|refine wa ?_|refine wb ?_|refine wc ?_|refine wd ?_|refine we ?_|refine wf ?_|refine wg ?_|refine wh rfl ?_|refine wi rfl ?_|refine wj rfl ?_|refine wk rfl ?_|refine wl rfl ?_|refine wm (by decide) ?_|(apply Tri.ldE; (first|exact K0|exact K1|exact K2|exact K3|exact K4|exact K5|exact K6|exact K7|exact K8); (exact rfl); (exact wz rfl))|(apply Tri.stE; (first|exact K0|exact K1|exact K2|exact K3|exact K4|exact K5|exact K6|exact K7|exact K8); (exact rfl); (exact wz rfl))|(apply Tri.same; (first|exact K0|exact K1|exact K2|exact K3|exact K4|exact K5|exact K6|exact K7|exact K8); (exact rfl); (exact wz rfl))|refine wq fun _ => ?_)
  rename_i a1
  refine Tri.loop (I := fun m l' L => ∃ (D R : List Bm) (y z : Bm), m = R.length ∧ l = D ++ R ∧ minM R y = minM l x0 ∧
    l' = [.sc (.sl o), .sc (.fn 56 [] []), .sc (.p (some (a0, 0))), .sc (.p (some (a1, 0))), .sc (.i .i64 (D.length + 1 : Nat))] ∧ L = pt a1 (bmE.e y) :: pt a0 [.i .u32 0, .i .u16 0, .i .u32 0, .i .u16 0, .i .u16 0, .sl none, .i .u64 0] :: .sl false bmE o (x0 :: l) :: F)
    ⟨[], l, x0, x0, rfl, rfl, rfl, rfl, rfl⟩ (by repeat (first|exact Sub.refl _|exact Sub.nil _|(apply Sub.cons; (first|exact K0|exact K1|exact K2|exact K3|exact K4|exact K5|exact K6|exact K7|exact K8))|apply Sub.skip)) ?_
  rintro m l' L ⟨D, R, y, z, rfl, hDR, hm, rfl, rfl⟩
  have hln : l.length = D.length + R.length := by rw [hDR]; simp
  unfold t55_b28
  repeat (first|refine wa ?_|refine wb ?_|refine wc ?_|refine wd ?_|refine we ?_|refine wf ?_|refine wg ?_|refine wh rfl ?_|refine wi rfl ?_|refine wj rfl ?_|refine wk rfl ?_|refine wl rfl ?_|refine wm (by decide) ?_|(apply Tri.ldE; (first|exact K0|exact K1|exact K2|exact K3|exact K4|exact K5|exact K6|exact K7|exact K8); (exact rfl); (exact wz rfl))|(apply Tri.stE; (first|exact K0|exact K1|exact K2|exact K3|exact K4|exact K5|exact K6|exact K7|exact K8); (exact rfl); (exact wz rfl))|(apply Tri.same; (first|exact K0|exact K1|exact K2|exact K3|exact K4|exact K5|exact K6|exact K7|exact K8); (exact rfl); (exact wz rfl))|refine wq fun _ => ?_)
  rw [e2]
  cases R with
  | nil =>
    refine Tri.cndF (by simp at hln; simp; omega) ?_
    refine Tri.exit (by decide) ?_
    unfold t55_k28
    repeat (first|refine wa ?_|refine wb ?_|refine wc ?_|refine wd ?_|refine we ?_|refine wf ?_|refine wg ?_|refine wh rfl ?_|refine wi rfl ?_|refine wj rfl ?_|refine wk rfl ?_|refine wl rfl ?_|refine wm (by decide) ?_|(apply Tri.ldE; (first|exact K0|exact K1|exact K2|exact K3|exact K4|exact K5|exact K6|exact K7|exact K8); (exact rfl); (exact wz rfl))|(apply Tri.stE; (first|exact K0|exact K1|exact K2|exact K3|exact K4|exact K5|exact K6|exact K7|exact K8); (exact rfl); (exact wz rfl))|(apply Tri.same; (first|exact K0|exact K1|exact K2|exact K3|exact K4|exact K5|exact K6|exact K7|exact K8); (exact rfl); (exact wz rfl))|refine wq fun _ => ?_)
    have hm : y = minM l x0 := hm
    rw [← hm]
    exact Tri.retF ⟨rfl, rfl⟩ (by repeat (first|exact Sub.refl _|exact Sub.nil _|(apply Sub.cons; (first|exact K0|exact K1|exact K2|exact K3|exact K4|exact K5|exact K6|exact K7|exact K8))|apply Sub.skip))
  | cons x R =>
    simp only [List.length_cons] at hln
    have hx : (x0 :: l)[D.length + 1]? = some x := by rw [hDR]; simp
    refine Tri.cndT (by simp; omega) ?_
    refine Tri.ixldR (T := bmE) (o := o) (x := x) (k := 0) (n := 7) (by first|exact K0|exact K1|exact K2|exact K3|exact K4|exact K5|exact K6|exact K7|exact K8) rfl (by omega) (by rw [Int.toNat_natCast]; exact hx) (by decide) rfl ?_
    repeat (first|refine wa ?_|refine wb ?_|refine wc ?_|refine wd ?_|refine we ?_|refine wf ?_|refine wg ?_|refine wh rfl ?_|refine wi rfl ?_|refine wj rfl ?_|refine wk rfl ?_|refine wl rfl ?_|refine wm (by decide) ?_|(apply Tri.ldE; (first|exact K0|exact K1|exact K2|exact K3|exact K4|exact K5|exact K6|exact K7|exact K8); (exact rfl); (exact wz rfl))|(apply Tri.stE; (first|exact K0|exact K1|exact K2|exact K3|exact K4|exact K5|exact K6|exact K7|exact K8); (exact rfl); (exact wz rfl))|(apply Tri.same; (first|exact K0|exact K1|exact K2|exact K3|exact K4|exact K5|exact K6|exact K7|exact K8); (exact rfl); (exact wz rfl))|refine wq fun _ => ?_)
    refine Tri.callv rfl (cmpU x y) (by repeat (first|exact Picks.nil|(apply Picks.cons; (first|exact K0|exact K1|exact K2|exact K3|exact K4|exact K5|exact K6|exact K7|exact K8)))) ?_
    rintro v L' ⟨n, rfl, hn, rfl⟩
    simp only [List.cons_append, List.nil_append]
    repeat (first|refine wa ?_|refine wb ?_|refine wc ?_|refine wd ?_|refine we ?_|refine wf ?_|refine wg ?_|refine wh rfl ?_|refine wi rfl ?_|refine wj rfl ?_|refine wk rfl ?_|refine wl rfl ?_|refine wm (by decide) ?_|(apply Tri.ldE; (first|exact K0|exact K1|exact K2|exact K3|exact K4|exact K5|exact K6|exact K7|exact K8); (exact rfl); (exact wz rfl))|(apply Tri.stE; (first|exact K0|exact K1|exact K2|exact K3|exact K4|exact K5|exact K6|exact K7|exact K8); (exact rfl); (exact wz rfl))|(apply Tri.same; (first|exact K0|exact K1|exact K2|exact K3|exact K4|exact K5|exact K6|exact K7|exact K8); (exact rfl); (exact wz rfl))|refine wq fun _ => ?_)
    have hwr : IntKind.wrap .i64 (((D.length + 1 : Nat) : Int) + 1) = (((D ++ [x]).length + 1 : Nat) : Int) := by rw [wr_i64 (by omega) (by omega)]; simp
    rw [hwr]
    have hm : minM R (if ult x.d y.d then x else y) = minM l x0 := hm
    refine Tri.cnd (fun h => ?_) (fun h => ?_)
    · have h : n < 0 := by simpa using h
      rw [if_pos (hn.1 h)] at hm
      refine Tri.ixldR (T := bmE) (o := o) (x := x) (k := 0) (n := 7) (by first|exact K0|exact K1|exact K2|exact K3|exact K4|exact K5|exact K6|exact K7|exact K8) rfl (by omega) (by rw [Int.toNat_natCast]; exact hx) (by decide) rfl ?_
      repeat (first|refine wa ?_|refine wb ?_|refine wc ?_|refine wd ?_|refine we ?_|refine wf ?_|refine wg ?_|refine wh rfl ?_|refine wi rfl ?_|refine wj rfl ?_|refine wk rfl ?_|refine wl rfl ?_|refine wm (by decide) ?_|(apply Tri.ldE; (first|exact K0|exact K1|exact K2|exact K3|exact K4|exact K5|exact K6|exact K7|exact K8); (exact rfl); (exact wz rfl))|(apply Tri.stE; (first|exact K0|exact K1|exact K2|exact K3|exact K4|exact K5|exact K6|exact K7|exact K8); (exact rfl); (exact wz rfl))|(apply Tri.same; (first|exact K0|exact K1|exact K2|exact K3|exact K4|exact K5|exact K6|exact K7|exact K8); (exact rfl); (exact wz rfl))|refine wq fun _ => ?_)
      exact Tri.back (m' := R.length) (by simp) ⟨D ++ [x], R, x, z, rfl, by rw [hDR]; simp, hm, rfl, rfl⟩ (by repeat (first|exact Sub.refl _|exact Sub.nil _|(apply Sub.cons; (first|exact K0|exact K1|exact K2|exact K3|exact K4|exact K5|exact K6|exact K7|exact K8))|apply Sub.skip))
    · have h : ¬ n < 0 := by simpa using h
      rw [if_neg (fun e => h (hn.2 e))] at hm
      exact Tri.back (m' := R.length) (by simp) ⟨D ++ [x], R, y, z, rfl, by rw [hDR]; simp, hm, rfl, rfl⟩ (by repeat (first|exact Sub.refl _|exact Sub.nil _|(apply Sub.cons; (first|exact K0|exact K1|exact K2|exact K3|exact K4|exact K5|exact K6|exact K7|exact K8))|apply Sub.skip))

/-! the lowest port that is free -/
def usedB (l : List Bd) (p : Int) : Bool := l.any fun x => x.port == p
def freeG (l : List Bd) : Nat → Int → Int
  | 0, p => p
  | n + 1, p => if usedB l p then freeG l n (p + 1) else p
def freeB (l : List Bd) : Int := freeG l (l.length + 1) 20000
def above (l : List Bd) (p : Int) : Nat := l.countP fun x => decide (p ≤ x.port)
theorem above_step {l : List Bd} {p : Int} (h : usedB l p = true) : above l (p + 1) + 1 ≤ above l p := by
  induction l with
  | nil => simp [usedB] at h
  | cons x l ih =>
    have hmono : above l (p + 1) ≤ above l p := List.countP_mono_left fun x _ h => by simp at h ⊢; omega
    unfold above at *
    rw [List.countP_cons, List.countP_cons]
    by_cases hx : x.port = p
    · rw [if_neg (by simp; omega), if_pos (by simp; omega)]; omega
    · have h' : usedB l p = true := by simpa [usedB, hx] using h
      have := ih h'
      split <;> split <;> simp_all <;> omega
theorem free_spec {p : Nat} {b : Bx} {o : Option SlD} {l : List Bm} (hl : l.map Bm.d = b.l) (hb : b.l.length ≤ 1000) : FSpec E 60 [.sc (.p (some (p, 0)))] [pt p (bxC b o), .sl false bmE o l] (fun v L' => v = .sc (.i .u16 (freeB b.l)) ∧ L' = [pt p (bxC b o), .sl false bmE o l]) := by
  have hln : l.length = b.l.length := by rw [← hl]; simp
  refine FSpec.of (Try.func60 : Try.prog.funcs[60]? = some Try.f60) (t60_eq _ _) fun F => ?_
  unfold t60
  refine wn ?_
  refine wo ?_
  unfold t60_k0
  repeat (first|refine wa ?_|refine wb ?_|refine wc ?_|refine wd ?_|refine we ?_|refine wf ?_|refine wg ?_|refine wh rfl ?_|refine wi rfl ?_|refine wj rfl ?_|refine wk rfl ?_|refine wl rfl ?_|refine wm (by decide) ?_|(apply Tri.ldE; (first|exact K0|exact K1|exact K2|exact K3|exact K4|exact K5|exact K6|exact K7|exact K8); (exact rfl); (exact wz rfl))|(apply Tri.stE; (first|exact K0|exact K1|exact K2|exact K3|exact K4|exact K5|exact K6|exact K7|exact K8); (exact rfl); (exact wz rfl))|(apply Tri.same; (first|exact K0|exact K1|exact K2|exact K3|exact K4|exact K5|exact K6|exact K7|exact K8); (exact rfl); (exact wz rfl))|refine wq fun _ => ?_)
  refine Tri.loop (I := fun m l' L => ∃ (q : Int) (n : Nat), m = above b.l q ∧ above b.l q < n ∧ freeG b.l n q = freeB b.l ∧ 20000 ≤ q ∧ q + above b.l q ≤ 20000 + b.l.length ∧
    l' = [.sc (.i .i64 (0 : Int)), .sc (.p (some (p, 0))), .sc (.i .u16 q)] ∧ L = pt p (bxC b o) :: .sl false bmE o l :: F)
    ⟨20000, b.l.length + 1, rfl, Nat.lt_succ_of_le List.countP_le_length, rfl, by omega, by have : above b.l 20000 ≤ b.l.length := List.countP_le_length; omega, rfl, rfl⟩ (by repeat (first|exact Sub.refl _|exact Sub.nil _|(apply Sub.cons; (first|exact K0|exact K1|exact K2|exact K3|exact K4|exact K5|exact K6|exact K7|exact K8))|apply Sub.skip)) ?_
  rintro m l' L ⟨q, n, rfl, hn, hf, hq, hs, rfl, rfl⟩
  unfold t60_b3
  repeat (first|refine wa ?_|refine wb ?_|refine wc ?_|refine wd ?_|refine we ?_|refine wf ?_|refine wg ?_|refine wh rfl ?_|refine wi rfl ?_|refine wj rfl ?_|refine wk rfl ?_|refine wl rfl ?_|refine wm (by decide) ?_|(apply Tri.ldE; (first|exact K0|exact K1|exact K2|exact K3|exact K4|exact K5|exact K6|exact K7|exact K8); (exact rfl); (exact wz rfl))|(apply Tri.stE; (first|exact K0|exact K1|exact K2|exact K3|exact K4|exact K5|exact K6|exact K7|exact K8); (exact rfl); (exact wz rfl))|(apply Tri.same; (first|exact K0|exact K1|exact K2|exact K3|exact K4|exact K5|exact K6|exact K7|exact K8); (exact rfl); (exact wz rfl))|refine wq fun _ => ?_)
  refine Tri.brT rfl ?_
  repeat (first|refine wa ?_|refine wb ?_|refine wc ?_|refine wd ?_|refine we ?_|refine wf ?_|refine wg ?_|refine wh rfl ?_|refine wi rfl ?_|refine wj rfl ?_|refine wk rfl ?_|refine wl rfl ?_|refine wm (by decide) ?_|(apply Tri.ldE; (first|exact K0|exact K1|exact K2|exact K3|exact K4|exact K5|exact K6|exact K7|exact K8); (exact rfl); (exact wz rfl))|(apply Tri.stE; (first|exact K0|exact K1|exact K2|exact K3|exact K4|exact K5|exact K6|exact K7|exact K8); (exact rfl); (exact wz rfl))|(apply Tri.same; (first|exact K0|exact K1|exact K2|exact K3|exact K4|exact K5|exact K6|exact K7|exact K8); (exact rfl); (exact wz rfl))|refine wq fun _ => ?_)
  refine Tri.slLen (l := l) (o := o) (ro := false) (T := bmE) (by first|exact K0|exact K1|exact K2|exact K3|exact K4|exact K5|exact K6|exact K7|exact K8) fun _ e1 => ?_
  rw [e1, hln]
  refine Tri.loop (I := fun m l' L => ∃ (D R : List Bm), m = R.length ∧ l = D ++ R ∧ (∀ x ∈ D, x.d.port ≠ q) ∧
    l' = [.sc (.p (some (p, 0))), .sc (.i .u16 q), .sc (.sl o), .sc (.i .i64 b.l.length), .sc (.i .i64 D.length)] ∧ L = pt p (bxC b o) :: .sl false bmE o l :: F) ⟨[], l, rfl, rfl, by simp, rfl, rfl⟩ (by repeat (first|exact Sub.refl _|exact Sub.nil _|(apply Sub.cons; (first|exact K0|exact K1|exact K2|exact K3|exact K4|exact K5|exact K6|exact K7|exact K8))|apply Sub.skip)) ?_
  rintro m l' L ⟨D, R, rfl, hDR, hD, rfl, rfl⟩
  have hlc : l.length = D.length + R.length := by rw [hDR]; simp
  unfold t60_b13
  repeat (first|refine wa ?_|refine wb ?_|refine wc ?_|refine wd ?_|refine we ?_|refine wf ?_|refine wg ?_|refine wh rfl ?_|refine wi rfl ?_|refine wj rfl ?_|refine wk rfl ?_|refine wl rfl ?_|refine wm (by decide) ?_|(apply Tri.ldE; (first|exact K0|exact K1|exact K2|exact K3|exact K4|exact K5|exact K6|exact K7|exact K8); (exact rfl); (exact wz rfl))|(apply Tri.stE; (first|exact K0|exact K1|exact K2|exact K3|exact K4|exact K5|exact K6|exact K7|exact K8); (exact rfl); (exact wz rfl))|(apply Tri.same; (first|exact K0|exact K1|exact K2|exact K3|exact K4|exact K5|exact K6|exact K7|exact K8); (exact rfl); (exact wz rfl))|refine wq fun _ => ?_)
  cases R with
  | nil =>
    refine Tri.cndF (by simp at hlc; simp; omega) ?_
    refine Tri.exit (by decide) ?_
    unfold t60_k13
    repeat (first|refine wa ?_|refine wb ?_|refine wc ?_|refine wd ?_|refine we ?_|refine wf ?_|refine wg ?_|refine wh rfl ?_|refine wi rfl ?_|refine wj rfl ?_|refine wk rfl ?_|refine wl rfl ?_|refine wm (by decide) ?_|(apply Tri.ldE; (first|exact K0|exact K1|exact K2|exact K3|exact K4|exact K5|exact K6|exact K7|exact K8); (exact rfl); (exact wz rfl))|(apply Tri.stE; (first|exact K0|exact K1|exact K2|exact K3|exact K4|exact K5|exact K6|exact K7|exact K8); (exact rfl); (exact wz rfl))|(apply Tri.same; (first|exact K0|exact K1|exact K2|exact K3|exact K4|exact K5|exact K6|exact K7|exact K8); (exact rfl); (exact wz rfl))|refine wq fun _ => ?_)
    refine Tri.exit (by decide) ?_
    unfold t60_k3
    repeat (first|refine wa ?_|refine wb ?_|refine wc ?_|refine wd ?_|refine we ?_|refine wf ?_|refine wg ?_|refine wh rfl ?_|refine wi rfl ?_|refine wj rfl ?_|refine wk rfl ?_|refine wl rfl ?_|refine wm (by decide) ?_|(apply Tri.ldE; (first|exact K0|exact K1|exact K2|exact K3|exact K4|exact K5|exact K6|exact K7|exact K8); (exact rfl); (exact wz rfl))|(apply Tri.stE; (first|exact K0|exact K1|exact K2|exact K3|exact K4|exact K5|exact K6|exact K7|exact K8); (exact rfl); (exact wz rfl))|(apply Tri.same; (first|exact K0|exact K1|exact K2|exact K3|exact K4|exact K5|exact K6|exact K7|exact K8); (exact rfl); (exact wz rfl))|refine wq fun _ => ?_)
    refine Tri.retF ⟨?_, rfl⟩ (by repeat (first|exact Sub.refl _|exact Sub.nil _|(apply Sub.cons; (first|exact K0|exact K1|exact K2|exact K3|exact K4|exact K5|exact K6|exact K7|exact K8))|apply Sub.skip))
    have hu : usedB b.l q = false := by
      rw [← hl, usedB, List.any_map, List.any_eq_false]
      intro x hx
      rw [hDR, List.append_nil] at hx
      simpa using hD x hx
    cases n with
    | zero => omega
    | succ n => rw [← hf, freeG, hu]; rfl
  | cons x R =>
    simp only [List.length_cons] at hlc
    have hx : l[D.length]? = some x := by rw [hDR]; simp
    refine Tri.cndT (by simp; omega) ?_
    refine Tri.ixldR (T := bmE) (o := o) (x := x) (k := 0) (n := 7) (by first|exact K0|exact K1|exact K2|exact K3|exact K4|exact K5|exact K6|exact K7|exact K8) rfl (by omega) (by simpa using hx) (by decide) rfl ?_
    repeat (first|refine wa ?_|refine wb ?_|refine wc ?_|refine wd ?_|refine we ?_|refine wf ?_|refine wg ?_|refine wh rfl ?_|refine wi rfl ?_|refine wj rfl ?_|refine wk rfl ?_|refine wl rfl ?_|refine wm (by decide) ?_|(apply Tri.ldE; (first|exact K0|exact K1|exact K2|exact K3|exact K4|exact K5|exact K6|exact K7|exact K8); (exact rfl); (exact wz rfl))|(apply Tri.stE; (first|exact K0|exact K1|exact K2|exact K3|exact K4|exact K5|exact K6|exact K7|exact K8); (exact rfl); (exact wz rfl))|(apply Tri.same; (first|exact K0|exact K1|exact K2|exact K3|exact K4|exact K5|exact K6|exact K7|exact K8); (exact rfl); (exact wz rfl))|refine wq fun _ => ?_)
    refine Tri.cnd (fun h => ?_) (fun h => ?_)
    · have h : x.d.port = q := by simpa using h
      have hu : usedB b.l q = true := by
        rw [← hl, usedB, List.any_map, List.any_eq_true]
        exact ⟨x, by rw [hDR]; simp, by simpa using h⟩
      have ha := above_step hu
      refine Tri.exit (by decide) ?_
      unfold t60_k13
      repeat (first|refine wa ?_|refine wb ?_|refine wc ?_|refine wd ?_|refine we ?_|refine wf ?_|refine wg ?_|refine wh rfl ?_|refine wi rfl ?_|refine wj rfl ?_|refine wk rfl ?_|refine wl rfl ?_|refine wm (by decide) ?_|(apply Tri.ldE; (first|exact K0|exact K1|exact K2|exact K3|exact K4|exact K5|exact K6|exact K7|exact K8); (exact rfl); (exact wz rfl))|(apply Tri.stE; (first|exact K0|exact K1|exact K2|exact K3|exact K4|exact K5|exact K6|exact K7|exact K8); (exact rfl); (exact wz rfl))|(apply Tri.same; (first|exact K0|exact K1|exact K2|exact K3|exact K4|exact K5|exact K6|exact K7|exact K8); (exact rfl); (exact wz rfl))|refine wq fun _ => ?_)
      rw [wr_u16 (by omega) (by omega)]
      refine Tri.back (m' := above b.l (q + 1)) (by omega) ⟨q + 1, n - 1, rfl, by omega, ?_, by omega, by omega, rfl, rfl⟩ (by repeat (first|exact Sub.refl _|exact Sub.nil _|(apply Sub.cons; (first|exact K0|exact K1|exact K2|exact K3|exact K4|exact K5|exact K6|exact K7|exact K8))|apply Sub.skip))
      cases n with
      | zero => omega
      | succ n => rw [← hf, freeG, hu]; rfl
    · have h : x.d.port ≠ q := by simpa using h
      rw [wr_i64 (by omega) (by omega)]
      exact Tri.back (m' := R.length) (by simp) ⟨D ++ [x], R, rfl, by rw [hDR]; simp, fun z hz => (List.mem_append.1 hz).elim (hD z) fun hz => by simp at hz; subst hz; exact h, by simp, rfl⟩ (by repeat (first|exact Sub.refl _|exact Sub.nil _|(apply Sub.cons; (first|exact K0|exact K1|exact K2|exact K3|exact K4|exact K5|exact K6|exact K7|exact K8))|apply Sub.skip))
end Go.Proofs.Ytloiifcocgpnbaa
