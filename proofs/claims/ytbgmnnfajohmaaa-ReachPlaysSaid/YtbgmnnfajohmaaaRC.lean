/- What reach's functions come to: votes, the address. -/
import Derived.Test.YtbgmnnfajohmaaaRB
namespace Go.Proofs.Ytbgmnnfajohmaaa
open Go Go.Proofs.Ytbgmnnfajohmaaa.Fw
set_option linter.unusedVariables false
set_option linter.unusedSimpArgs false

theorem clone_triD {α : Type} {T : Enc α} {z eb : Nat} {zs : List Sc} {d : SlD} {l : List α} {c : List Sc} (F : List Assn) (k : SlOk T d l c) (hz : T.z = z) (he : 0 < eb) (he' : eb ≤ appBytes) (hb : l.length * eb ≤ appBound) :
    Tri E (pt d.id c :: F) (cloneT z eb zs (some d)) (RQ F fun v L' => ∃ o', v = .sc (.sl o') ∧ L' = [pt d.id c, .sl false T o' l]) := by
  subst hz
  have hfit : d.off + d.len * T.z ≤ c.length := Nat.le_trans (Nat.add_le_add_left (Nat.mul_le_mul_right _ k.cap) _) k.fit
  unfold cloneT
  refine Tri.cndF rfl ?_
  refine Tri.al fun a => ?_
  refine Tri.ldsD (d := d) (Pick.there Pick.here) k.z (Nat.le_refl _) hfit ?_
  simp only [slN]
  rw [k.at_]
  refine Tri.mkS (T := T) (d := ⟨a, 0, 0, 0, T.z⟩) (l := []) Pick.here (SlOk.mk' rfl (Nat.le_refl _) (by simp) (by simp [Enc.all])) ?_
  refine Tri.app l Pick.here rfl rfl k.len he he' (by simpa using hb) fun o' => ?_
  exact Tri.retF ⟨o', rfl, rfl⟩ ⟨[], by simpa using List.Perm.swap _ _ _⟩
theorem clone36 {d : SlD} {l : List Vt} {c : List Sc} (k : SlOk vE d l c) (hl : l.length ≤ 1000) : FSpec E 36 [.sc (.sl (some d))] [pt d.id c] (fun v L' => ∃ o', v = .sc (.sl o') ∧ L' = [pt d.id c, .sl false vE o' l]) := by
  refine FSpec.of (Try.func36 : Try.prog.funcs[36]? = some Try.f36) (t36_eq _) fun F => ?_
  exact clone_triD F k rfl (by decide) (by decide) (by unfold appBound; omega)
theorem pred37 : IsPred E vE 37 [] [] .emp (fun t => t.who == 0) := by
  intro t
  refine FSpec.of (Try.func37 : Try.prog.funcs[37]? = some Try.f37) (t37_eq _ _ _ _) fun F => ?_
  unfold t37
  repeat (first|refine wa ?_|refine wb ?_|refine wc ?_|refine wd ?_|refine we ?_|refine wf ?_|refine wg ?_|refine wh rfl ?_|refine wi rfl ?_|refine wj rfl ?_|refine wk rfl ?_|refine wl rfl ?_|refine wm (by decide) ?_|refine wn ?_|refine wo ?_|refine wp (by decide) ?_|(apply ld_rounds; (first|exact K0|exact K1|exact K2|exact K3|exact K4|exact K5|exact K6|exact K7|exact K8|exact K9|exact K10|exact K11))|(apply ld_hold; (first|exact K0|exact K1|exact K2|exact K3|exact K4|exact K5|exact K6|exact K7|exact K8|exact K9|exact K10|exact K11))|(apply Tri.ldE; (first|exact K0|exact K1|exact K2|exact K3|exact K4|exact K5|exact K6|exact K7|exact K8|exact K9|exact K10|exact K11); (exact rfl); (exact wz rfl))|(apply Tri.stE; (first|exact K0|exact K1|exact K2|exact K3|exact K4|exact K5|exact K6|exact K7|exact K8|exact K9|exact K10|exact K11); (exact rfl); (exact wz rfl))|(apply Tri.same; (first|exact K0|exact K1|exact K2|exact K3|exact K4|exact K5|exact K6|exact K7|exact K8|exact K9|exact K10|exact K11); (exact rfl); (exact wz rfl))|refine wq fun _ => ?_)
  exact Tri.retF ⟨rfl, rfl⟩ (by repeat (first|exact Sub.refl _|exact Sub.nil _|(apply Sub.cons; (first|exact K0|exact K1|exact K2|exact K3|exact K4|exact K5|exact K6|exact K7|exact K8|exact K9|exact K10|exact K11))|apply Sub.skip))
theorem re_sl {p : Nat} {s : Rs} {o : Option SlD} (hV : s.V.length = 33) : SlOk vE ⟨p, 0 + 2 + 1 * 4, 32, 32, 4⟩ (s.V.drop 1) (reC s o) := by
  have hl := vE.all_length s.V
  have hd := vE.all_drop s.V 1
  have hz : vE.z = 4 := rfl
  rw [hz] at hl hd
  have h32 : (vE.all (s.V.drop 1)).length = 128 := by rw [vE.all_length, hz, List.length_drop]; omega
  refine ⟨rfl, by simp; omega, Nat.le_refl _, by rw [re_len hV]; exact wz rfl, ?_⟩
  show ((reC s o).drop 6).take 128 = _
  have : (reC s o).drop (2 + 4) = vE.all (s.V.drop 1) ++ [Sc.sl o, .b s.on, .i .u32 s.seq, .b s.got] := by
    unfold reC
    rw [List.append_assoc, drop_pre (off := 2) rfl, List.drop_append_of_le_length (by omega), ← hd]
  rw [show 6 = 2 + 4 from rfl, this, List.take_append_of_le_length (by omega), List.take_of_length_le (by omega)]
def votesL (s : Rs) : List Vt := (s.V.drop 1).filter fun t => !(t.who == 0)
theorem votes_spec {p : Nat} {s : Rs} (hV : s.V.length = 33) : FSpec E 18 [.sc (.p (some (p, 0)))] [Re p s] (fun v L' => ∃ o, v = .sc (.sl o) ∧ L' = [Re p s, .sl false vE o (votesL s)]) := by
  refine FSpec.of (Try.func18 : Try.prog.funcs[18]? = some Try.f18) (t18_eq _ _) fun F => ?_
  unfold t18
  refine Re.op Pick.here fun o e1 e2 => ?_
  repeat (first|refine wa ?_|refine wb ?_|refine wc ?_|refine wd ?_|refine we ?_|refine wf ?_|refine wg ?_|refine wh rfl ?_|refine wi rfl ?_|refine wj rfl ?_|refine wk rfl ?_|refine wl rfl ?_|refine wm (by decide) ?_|refine wn ?_|refine wo ?_|refine wp (by decide) ?_|(apply ld_rounds; (first|exact K0|exact K1|exact K2|exact K3|exact K4|exact K5|exact K6|exact K7|exact K8|exact K9|exact K10|exact K11))|(apply ld_hold; (first|exact K0|exact K1|exact K2|exact K3|exact K4|exact K5|exact K6|exact K7|exact K8|exact K9|exact K10|exact K11))|(apply Tri.ldE; (first|exact K0|exact K1|exact K2|exact K3|exact K4|exact K5|exact K6|exact K7|exact K8|exact K9|exact K10|exact K11); (exact rfl); (exact wz rfl))|(apply Tri.stE; (first|exact K0|exact K1|exact K2|exact K3|exact K4|exact K5|exact K6|exact K7|exact K8|exact K9|exact K10|exact K11); (exact rfl); (exact wz rfl))|(apply Tri.same; (first|exact K0|exact K1|exact K2|exact K3|exact K4|exact K5|exact K6|exact K7|exact K8|exact K9|exact K10|exact K11); (exact rfl); (exact wz rfl))|refine wq fun _ => ?_)
  refine Tri.slcD (d := ⟨p, 0 + 2, 33, 33, 4⟩) 1 33 33 rfl rfl rfl rfl (.inl rfl) (wz rfl) (wz rfl) (wz rfl) ?_
  refine Tri.call (clone36 (re_sl (p := p) hV) (by simp; omega)) (by repeat (first|exact Picks.nil|(apply Picks.cons; (first|exact K0|exact K1|exact K2|exact K3|exact K4|exact K5|exact K6|exact K7|exact K8|exact K9|exact K10|exact K11)))) ?_
  rintro v L' ⟨o1, rfl, rfl⟩
  simp only [List.cons_append, List.nil_append]
  repeat (first|refine wa ?_|refine wb ?_|refine wc ?_|refine wd ?_|refine we ?_|refine wf ?_|refine wg ?_|refine wh rfl ?_|refine wi rfl ?_|refine wj rfl ?_|refine wk rfl ?_|refine wl rfl ?_|refine wm (by decide) ?_|refine wn ?_|refine wo ?_|refine wp (by decide) ?_|(apply ld_rounds; (first|exact K0|exact K1|exact K2|exact K3|exact K4|exact K5|exact K6|exact K7|exact K8|exact K9|exact K10|exact K11))|(apply ld_hold; (first|exact K0|exact K1|exact K2|exact K3|exact K4|exact K5|exact K6|exact K7|exact K8|exact K9|exact K10|exact K11))|(apply Tri.ldE; (first|exact K0|exact K1|exact K2|exact K3|exact K4|exact K5|exact K6|exact K7|exact K8|exact K9|exact K10|exact K11); (exact rfl); (exact wz rfl))|(apply Tri.stE; (first|exact K0|exact K1|exact K2|exact K3|exact K4|exact K5|exact K6|exact K7|exact K8|exact K9|exact K10|exact K11); (exact rfl); (exact wz rfl))|(apply Tri.same; (first|exact K0|exact K1|exact K2|exact K3|exact K4|exact K5|exact K6|exact K7|exact K8|exact K9|exact K10|exact K11); (exact rfl); (exact wz rfl))|refine wq fun _ => ?_)
  refine Re.mk (o := o) (s := s) (by first|exact K0|exact K1|exact K2|exact K3|exact K4|exact K5|exact K6|exact K7|exact K8|exact K9|exact K10|exact K11) (by first|exact K0|exact K1|exact K2|exact K3|exact K4|exact K5|exact K6|exact K7|exact K8|exact K9|exact K10|exact K11) ?_
  refine Tri.mkEmp ?_
  refine Tri.call (delF_spec vdOk velOk (o := o1) (l := s.V.drop 1) pred37 (by simp; omega)) (by repeat (first|exact Picks.nil|(apply Picks.cons; (first|exact K0|exact K1|exact K2|exact K3|exact K4|exact K5|exact K6|exact K7|exact K8|exact K9|exact K10|exact K11)))) ?_
  rintro v L' ⟨o2, rfl, rfl⟩
  simp only [List.cons_append, List.nil_append]
  repeat (first|refine wa ?_|refine wb ?_|refine wc ?_|refine wd ?_|refine we ?_|refine wf ?_|refine wg ?_|refine wh rfl ?_|refine wi rfl ?_|refine wj rfl ?_|refine wk rfl ?_|refine wl rfl ?_|refine wm (by decide) ?_|refine wn ?_|refine wo ?_|refine wp (by decide) ?_|(apply ld_rounds; (first|exact K0|exact K1|exact K2|exact K3|exact K4|exact K5|exact K6|exact K7|exact K8|exact K9|exact K10|exact K11))|(apply ld_hold; (first|exact K0|exact K1|exact K2|exact K3|exact K4|exact K5|exact K6|exact K7|exact K8|exact K9|exact K10|exact K11))|(apply Tri.ldE; (first|exact K0|exact K1|exact K2|exact K3|exact K4|exact K5|exact K6|exact K7|exact K8|exact K9|exact K10|exact K11); (exact rfl); (exact wz rfl))|(apply Tri.stE; (first|exact K0|exact K1|exact K2|exact K3|exact K4|exact K5|exact K6|exact K7|exact K8|exact K9|exact K10|exact K11); (exact rfl); (exact wz rfl))|(apply Tri.same; (first|exact K0|exact K1|exact K2|exact K3|exact K4|exact K5|exact K6|exact K7|exact K8|exact K9|exact K10|exact K11); (exact rfl); (exact wz rfl))|refine wq fun _ => ?_)
  exact Tri.retF ⟨o2, rfl, rfl⟩ (by repeat (first|exact Sub.refl _|exact Sub.nil _|(apply Sub.cons; (first|exact K0|exact K1|exact K2|exact K3|exact K4|exact K5|exact K6|exact K7|exact K8|exact K9|exact K10|exact K11))|apply Sub.skip))
theorem votesL_len {s : Rs} (hV : s.V.length = 33) : (votesL s).length ≤ 32 := by
  unfold votesL; exact Nat.le_trans (List.length_filter_le _ _) (by simp; omega)

/-! the address -/
def liveK (a0 a1 p : Nat) (now : Int) (s : Rs) : Assn := .sep (pt a0 [.p (some (p, 0))]) (.sep (pt a1 [.i .u64 now]) (Re p s))
def oldB (s : Rs) (now : Int) (t : Vt) : Bool := decide (IntKind.wrap .u64 (t.at_ + s.hold) ≤ now)
def liveL (s : Rs) (now : Int) : List Vt := (votesL s).filter fun t => !oldB s now t
theorem pred32 {a0 a1 p : Nat} {now : Int} {s : Rs} : IsPred E vE 32 [] [(a0, 0), (a1, 0)] (liveK a0 a1 p now s) (oldB s now) := by
  intro t
  refine FSpec.of (Try.func32 : Try.prog.funcs[32]? = some Try.f32) (t32_eq _ _ _ _ _ _ _ _) fun F => ?_
  unfold t32
  refine Tri.sep (A := pt a0 [.p (some (p, 0))]) (B := .sep (pt a1 [.i .u64 now]) (Re p s)) (by first|exact K0|exact K1|exact K2|exact K3|exact K4|exact K5|exact K6|exact K7|exact K8|exact K9|exact K10|exact K11) ?_
  refine Tri.sep (A := pt a1 [.i .u64 now]) (B := Re p s) (by first|exact K0|exact K1|exact K2|exact K3|exact K4|exact K5|exact K6|exact K7|exact K8|exact K9|exact K10|exact K11) ?_
  refine Re.op (by first|exact K0|exact K1|exact K2|exact K3|exact K4|exact K5|exact K6|exact K7|exact K8|exact K9|exact K10|exact K11) fun o e1 e2 => ?_
  repeat (first|refine wa ?_|refine wb ?_|refine wc ?_|refine wd ?_|refine we ?_|refine wf ?_|refine wg ?_|refine wh rfl ?_|refine wi rfl ?_|refine wj rfl ?_|refine wk rfl ?_|refine wl rfl ?_|refine wm (by decide) ?_|refine wn ?_|refine wo ?_|refine wp (by decide) ?_|(apply ld_rounds; (first|exact K0|exact K1|exact K2|exact K3|exact K4|exact K5|exact K6|exact K7|exact K8|exact K9|exact K10|exact K11))|(apply ld_hold; (first|exact K0|exact K1|exact K2|exact K3|exact K4|exact K5|exact K6|exact K7|exact K8|exact K9|exact K10|exact K11))|(apply Tri.ldE; (first|exact K0|exact K1|exact K2|exact K3|exact K4|exact K5|exact K6|exact K7|exact K8|exact K9|exact K10|exact K11); (exact rfl); (exact wz rfl))|(apply Tri.stE; (first|exact K0|exact K1|exact K2|exact K3|exact K4|exact K5|exact K6|exact K7|exact K8|exact K9|exact K10|exact K11); (exact rfl); (exact wz rfl))|(apply Tri.same; (first|exact K0|exact K1|exact K2|exact K3|exact K4|exact K5|exact K6|exact K7|exact K8|exact K9|exact K10|exact K11); (exact rfl); (exact wz rfl))|refine wq fun _ => ?_)
  refine Re.mk (o := o) (s := s) (by first|exact K0|exact K1|exact K2|exact K3|exact K4|exact K5|exact K6|exact K7|exact K8|exact K9|exact K10|exact K11) (by first|exact K0|exact K1|exact K2|exact K3|exact K4|exact K5|exact K6|exact K7|exact K8|exact K9|exact K10|exact K11) ?_
  refine Tri.mkSep (A := pt a1 [.i .u64 now]) (B := Re p s) (by first|exact K0|exact K1|exact K2|exact K3|exact K4|exact K5|exact K6|exact K7|exact K8|exact K9|exact K10|exact K11) (by first|exact K0|exact K1|exact K2|exact K3|exact K4|exact K5|exact K6|exact K7|exact K8|exact K9|exact K10|exact K11) ?_
  refine Tri.mkSep (A := pt a0 [.p (some (p, 0))]) (B := .sep (pt a1 [.i .u64 now]) (Re p s)) (by first|exact K0|exact K1|exact K2|exact K3|exact K4|exact K5|exact K6|exact K7|exact K8|exact K9|exact K10|exact K11) (by first|exact K0|exact K1|exact K2|exact K3|exact K4|exact K5|exact K6|exact K7|exact K8|exact K9|exact K10|exact K11) ?_
  exact Tri.retF (L1 := [liveK a0 a1 p now s]) ⟨rfl, rfl⟩ (by repeat (first|exact Sub.refl _|exact Sub.nil _|(apply Sub.cons; (first|exact K0|exact K1|exact K2|exact K3|exact K4|exact K5|exact K6|exact K7|exact K8|exact K9|exact K10|exact K11))|apply Sub.skip))
def isA (ip port : Int) (t : Vt) : Bool := t.ip == ip && t.port == port
def cnt (ip port : Int) (l : List Vt) : Nat := l.countP (isA ip port)
/-- the address that most saw, of the same the least -/
def Best (l : List Vt) (ip port : Int) (ok : Bool) : Prop := (l = [] ∧ ip = 0 ∧ port = 0 ∧ ok = false) ∨
  (ok = true ∧ 0 < cnt ip port l ∧ ∀ x ∈ l, cnt x.ip x.port l ≤ cnt ip port l ∧ (cnt x.ip x.port l = cnt ip port l → ¬ (x.ip < ip ∨ x.ip = ip ∧ x.port < port)))
theorem cnt_perm {l l' : List Vt} (p : l.Perm l') (ip port : Int) : cnt ip port l = cnt ip port l' := p.countP_eq _
theorem Best.perm {l l' : List Vt} (p : l.Perm l') {ip port : Int} {ok : Bool} (h : Best l ip port ok) : Best l' ip port ok := by
  rcases h with ⟨rfl, h⟩ | ⟨h1, h2, h3⟩
  · exact .inl ⟨p.nil_eq.symm ▸ rfl, h⟩
  · refine .inr ⟨h1, by rw [← cnt_perm p]; exact h2, fun x hx => ?_⟩
    rw [← cnt_perm p, ← cnt_perm p]
    exact h3 x (p.mem_iff.2 hx)
/-- what the walk through the votes knows -/
structure Sn (D : List Vt) (ip port most many : Int) : Prop where
  many : ∀ x, D.getLast? = some x → many = cnt x.ip x.port D
  most : most = cnt ip port D
  all : ∀ x ∈ D, cnt x.ip x.port D ≤ cnt ip port D ∧ (cnt x.ip x.port D = cnt ip port D → ¬ (x.ip < ip ∨ x.ip = ip ∧ x.port < port))
  z : D = [] → ip = 0 ∧ port = 0
  p : D ≠ [] → 0 < cnt ip port D
theorem cnt_snoc (ip port : Int) (D : List Vt) (x : Vt) : cnt ip port (D ++ [x]) = cnt ip port D + if isA ip port x then 1 else 0 := by
  unfold cnt; rw [List.countP_append]; simp [List.countP_cons]
theorem isA_self (x : Vt) : isA x.ip x.port x = true := by simp [isA]
theorem isA_iff {ip port : Int} {x : Vt} : isA ip port x = true ↔ x.ip = ip ∧ x.port = port := by simp [isA]
theorem cnt_zero {ip port : Int} {D : List Vt} (h : ∀ y ∈ D, ¬ (y.ip = ip ∧ y.port = port)) : cnt ip port D = 0 := List.countP_eq_zero.2 fun y hy => by rw [isA_iff]; exact h y hy
theorem cnt_pos {x : Vt} {D : List Vt} (h : x ∈ D) : 0 < cnt x.ip x.port D := List.countP_pos_iff.2 ⟨x, h, isA_self x⟩
/-- one more; nothing ahead of it is greater -/
theorem Sn.step {D : List Vt} {x : Vt} {ip port most many many' : Int} (h : Sn D ip port most many) (hs : ∀ y ∈ D, ¬ vlt x y) (hm : many' = cnt x.ip x.port (D ++ [x])) :
    (many' > most → Sn (D ++ [x]) x.ip x.port many' many') ∧ (¬ many' > most → Sn (D ++ [x]) ip port most many') := by
  have hx := cnt_snoc x.ip x.port D x
  rw [isA_self, if_pos rfl] at hx
  have hmost := h.most
  have old : ∀ y ∈ D, isA y.ip y.port x = false → cnt y.ip y.port (D ++ [x]) = cnt y.ip y.port D := fun y _ hy => by rw [cnt_snoc, hy]; rfl
  have same : ∀ y : Vt, isA y.ip y.port x = true → y.ip = x.ip ∧ y.port = x.port := fun y hy => by rw [isA_iff] at hy; omega
  constructor
  · intro hgt
    refine ⟨fun z hz => ?_, hm, fun y hy => ?_, fun h => by simp at h, fun _ => by omega⟩
    · rw [List.getLast?_concat] at hz; cases hz; exact hm
    · rcases List.mem_append.1 hy with hy | hy
      · by_cases e : isA y.ip y.port x = true
        · obtain ⟨e1, e2⟩ := same y e
          rw [e1, e2]; exact ⟨Nat.le_refl _, fun _ => by omega⟩
        · have e : isA y.ip y.port x = false := by simpa using e
          have := (h.all y hy).1
          rw [old y hy e]
          refine ⟨by omega, fun he => by omega⟩
      · simp at hy; subst hy; exact ⟨Nat.le_refl _, fun _ => by omega⟩
  · intro hle
    have hne : isA ip port x = false := by
      rw [Bool.eq_false_iff]; intro e
      rw [isA_iff] at e
      obtain ⟨e1, e2⟩ := e
      rw [e1, e2] at hx hm; omega
    have hb : cnt ip port (D ++ [x]) = cnt ip port D := by rw [cnt_snoc, hne]; rfl
    have hD : D ≠ [] := by
      rintro rfl
      have : cnt ip port [] = 0 := rfl
      omega
    have hbp := h.p hD
    obtain ⟨w, hw, hw2⟩ := List.countP_pos_iff.1 hbp
    rw [isA_iff] at hw2
    have hxw := hs w hw
    unfold vlt at hxw
    refine ⟨fun z hz => ?_, by rw [hb]; exact hmost, fun y hy => ?_, fun h => by simp at h, fun _ => by omega⟩
    · rw [List.getLast?_concat] at hz; cases hz; exact hm
    · rw [hb]
      rcases List.mem_append.1 hy with hy | hy
      · by_cases e : isA y.ip y.port x = true
        · obtain ⟨e1, e2⟩ := same y e
          rw [e1, e2]
          exact ⟨by omega, fun _ => by omega⟩
        · have e : isA y.ip y.port x = false := by simpa using e
          rw [old y hy e]
          exact h.all y hy
      · simp at hy; subst hy
        exact ⟨by omega, fun _ => by omega⟩
theorem Sn.best {D : List Vt} {ip port most many : Int} (h : Sn D ip port most many) : Best D ip port (decide (most > 0)) := by
  by_cases e : D = []
  · obtain ⟨h1, h2⟩ := h.z e
    refine .inl ⟨e, h1, h2, ?_⟩
    have := h.most
    subst e
    have h0 : cnt ip port [] = 0 := rfl
    simp; omega
  · have := h.p e
    have hm := h.most
    exact .inr ⟨by simp; omega, this, h.all⟩

set_option maxRecDepth 20000 in
theorem addr_spec {p : Nat} {s : Rs} {now : Int} (hV : s.V.length = 33) : FSpec E 16 [.sc (.p (some (p, 0))), .sc (.i .u64 now)] [Re p s]
    (fun v L' => ∃ ip port ok, v = .tu [.ag [.i .u32 ip, .i .u16 port], .sc (.b ok)] ∧ Best (liveL s now) ip port ok ∧ L' = [Re p s]) := by
  refine FSpec.of (Try.func16 : Try.prog.funcs[16]? = some Try.f16) (t16_eq _ _ _) fun F => ?_
  unfold t16
  repeat (first|refine wa ?_|refine wb ?_|refine wc ?_|refine wd ?_|refine we ?_|refine wf ?_|refine wg ?_|refine wh rfl ?_|refine wi rfl ?_|refine wj rfl ?_|refine wk rfl ?_|refine wl rfl ?_|refine wm (by decide) ?_|(apply ld_rounds; (first|exact K0|exact K1|exact K2|exact K3|exact K4|exact K5|exact K6|exact K7|exact K8|exact K9|exact K10|exact K11))|(apply ld_hold; (first|exact K0|exact K1|exact K2|exact K3|exact K4|exact K5|exact K6|exact K7|exact K8|exact K9|exact K10|exact K11))|(apply Tri.ldE; (first|exact K0|exact K1|exact K2|exact K3|exact K4|exact K5|exact K6|exact K7|exact K8|exact K9|exact K10|exact K11); (exact rfl); (exact wz rfl))|(apply Tri.stE; (first|exact K0|exact K1|exact K2|exact K3|exact K4|exact K5|exact K6|exact K7|exact K8|exact K9|exact K10|exact K11); (exact rfl); (exact wz rfl))|(apply Tri.same; (first|exact K0|exact K1|exact K2|exact K3|exact K4|exact K5|exact K6|exact K7|exact K8|exact K9|exact K10|exact K11); (exact rfl); (exact wz rfl))|refine wq fun _ => ?_)
  rename_i a0 a1 a2
  refine wn ?_
  repeat (first|refine wa ?_|refine wb ?_|refine wc ?_|refine wd ?_|refine we ?_|refine wf ?_|refine wg ?_|refine wh rfl ?_|refine wi rfl ?_|refine wj rfl ?_|refine wk rfl ?_|refine wl rfl ?_|refine wm (by decide) ?_|(apply ld_rounds; (first|exact K0|exact K1|exact K2|exact K3|exact K4|exact K5|exact K6|exact K7|exact K8|exact K9|exact K10|exact K11))|(apply ld_hold; (first|exact K0|exact K1|exact K2|exact K3|exact K4|exact K5|exact K6|exact K7|exact K8|exact K9|exact K10|exact K11))|(apply Tri.ldE; (first|exact K0|exact K1|exact K2|exact K3|exact K4|exact K5|exact K6|exact K7|exact K8|exact K9|exact K10|exact K11); (exact rfl); (exact wz rfl))|(apply Tri.stE; (first|exact K0|exact K1|exact K2|exact K3|exact K4|exact K5|exact K6|exact K7|exact K8|exact K9|exact K10|exact K11); (exact rfl); (exact wz rfl))|(apply Tri.same; (first|exact K0|exact K1|exact K2|exact K3|exact K4|exact K5|exact K6|exact K7|exact K8|exact K9|exact K10|exact K11); (exact rfl); (exact wz rfl))|refine wq fun _ => ?_)
  refine Tri.call (votes_spec hV) (by repeat (first|exact Picks.nil|(apply Picks.cons; (first|exact K0|exact K1|exact K2|exact K3|exact K4|exact K5|exact K6|exact K7|exact K8|exact K9|exact K10|exact K11)))) ?_
  rintro v L' ⟨o1, rfl, rfl⟩
  simp only [List.cons_append, List.nil_append]
  repeat (first|refine wa ?_|refine wb ?_|refine wc ?_|refine wd ?_|refine we ?_|refine wf ?_|refine wg ?_|refine wh rfl ?_|refine wi rfl ?_|refine wj rfl ?_|refine wk rfl ?_|refine wl rfl ?_|refine wm (by decide) ?_|(apply ld_rounds; (first|exact K0|exact K1|exact K2|exact K3|exact K4|exact K5|exact K6|exact K7|exact K8|exact K9|exact K10|exact K11))|(apply ld_hold; (first|exact K0|exact K1|exact K2|exact K3|exact K4|exact K5|exact K6|exact K7|exact K8|exact K9|exact K10|exact K11))|(apply Tri.ldE; (first|exact K0|exact K1|exact K2|exact K3|exact K4|exact K5|exact K6|exact K7|exact K8|exact K9|exact K10|exact K11); (exact rfl); (exact wz rfl))|(apply Tri.stE; (first|exact K0|exact K1|exact K2|exact K3|exact K4|exact K5|exact K6|exact K7|exact K8|exact K9|exact K10|exact K11); (exact rfl); (exact wz rfl))|(apply Tri.same; (first|exact K0|exact K1|exact K2|exact K3|exact K4|exact K5|exact K6|exact K7|exact K8|exact K9|exact K10|exact K11); (exact rfl); (exact wz rfl))|refine wq fun _ => ?_)
  refine Tri.mkSep (A := pt a1 [.i .u64 now]) (B := Re p s) (by first|exact K0|exact K1|exact K2|exact K3|exact K4|exact K5|exact K6|exact K7|exact K8|exact K9|exact K10|exact K11) (by first|exact K0|exact K1|exact K2|exact K3|exact K4|exact K5|exact K6|exact K7|exact K8|exact K9|exact K10|exact K11) ?_
  refine Tri.mkSep (A := pt a0 [.p (some (p, 0))]) (B := .sep (pt a1 [.i .u64 now]) (Re p s)) (by first|exact K0|exact K1|exact K2|exact K3|exact K4|exact K5|exact K6|exact K7|exact K8|exact K9|exact K10|exact K11) (by first|exact K0|exact K1|exact K2|exact K3|exact K4|exact K5|exact K6|exact K7|exact K8|exact K9|exact K10|exact K11) ?_
  have hvl := votesL_len hV
  refine Tri.call (delF_spec vdOk velOk (o := o1) (l := votesL s) (pred32 (a0 := a0) (a1 := a1) (p := p) (now := now) (s := s)) (by omega)) (by repeat (first|exact Picks.nil|(apply Picks.cons; (first|exact K0|exact K1|exact K2|exact K3|exact K4|exact K5|exact K6|exact K7|exact K8|exact K9|exact K10|exact K11)))) ?_
  rintro v L' ⟨o2, rfl, rfl⟩
  simp only [List.cons_append, List.nil_append]
  repeat (first|refine wa ?_|refine wb ?_|refine wc ?_|refine wd ?_|refine we ?_|refine wf ?_|refine wg ?_|refine wh rfl ?_|refine wi rfl ?_|refine wj rfl ?_|refine wk rfl ?_|refine wl rfl ?_|refine wm (by decide) ?_|(apply ld_rounds; (first|exact K0|exact K1|exact K2|exact K3|exact K4|exact K5|exact K6|exact K7|exact K8|exact K9|exact K10|exact K11))|(apply ld_hold; (first|exact K0|exact K1|exact K2|exact K3|exact K4|exact K5|exact K6|exact K7|exact K8|exact K9|exact K10|exact K11))|(apply Tri.ldE; (first|exact K0|exact K1|exact K2|exact K3|exact K4|exact K5|exact K6|exact K7|exact K8|exact K9|exact K10|exact K11); (exact rfl); (exact wz rfl))|(apply Tri.stE; (first|exact K0|exact K1|exact K2|exact K3|exact K4|exact K5|exact K6|exact K7|exact K8|exact K9|exact K10|exact K11); (exact rfl); (exact wz rfl))|(apply Tri.same; (first|exact K0|exact K1|exact K2|exact K3|exact K4|exact K5|exact K6|exact K7|exact K8|exact K9|exact K10|exact K11); (exact rfl); (exact wz rfl))|refine wq fun _ => ?_)
  refine Tri.sep (A := pt a0 [.p (some (p, 0))]) (B := .sep (pt a1 [.i .u64 now]) (Re p s)) (by first|exact K0|exact K1|exact K2|exact K3|exact K4|exact K5|exact K6|exact K7|exact K8|exact K9|exact K10|exact K11) ?_
  refine Tri.sep (A := pt a1 [.i .u64 now]) (B := Re p s) (by first|exact K0|exact K1|exact K2|exact K3|exact K4|exact K5|exact K6|exact K7|exact K8|exact K9|exact K10|exact K11) ?_
  have hll : (liveL s now).length ≤ 32 := Nat.le_trans (List.length_filter_le _ _) hvl
  refine Tri.call (vSort (o := o2) (l := liveL s now) cmpV vlt_ord (by omega)) (by repeat (first|exact Picks.nil|(apply Picks.cons; (first|exact K0|exact K1|exact K2|exact K3|exact K4|exact K5|exact K6|exact K7|exact K8|exact K9|exact K10|exact K11)))) ?_
  rintro v L' ⟨W, rfl, rfl, hW, hinc⟩
  simp only [List.cons_append, List.nil_append]
  repeat (first|refine wa ?_|refine wb ?_|refine wc ?_|refine wd ?_|refine we ?_|refine wf ?_|refine wg ?_|refine wh rfl ?_|refine wi rfl ?_|refine wj rfl ?_|refine wk rfl ?_|refine wl rfl ?_|refine wm (by decide) ?_|(apply ld_rounds; (first|exact K0|exact K1|exact K2|exact K3|exact K4|exact K5|exact K6|exact K7|exact K8|exact K9|exact K10|exact K11))|(apply ld_hold; (first|exact K0|exact K1|exact K2|exact K3|exact K4|exact K5|exact K6|exact K7|exact K8|exact K9|exact K10|exact K11))|(apply Tri.ldE; (first|exact K0|exact K1|exact K2|exact K3|exact K4|exact K5|exact K6|exact K7|exact K8|exact K9|exact K10|exact K11); (exact rfl); (exact wz rfl))|(apply Tri.stE; (first|exact K0|exact K1|exact K2|exact K3|exact K4|exact K5|exact K6|exact K7|exact K8|exact K9|exact K10|exact K11); (exact rfl); (exact wz rfl))|(apply Tri.same; (first|exact K0|exact K1|exact K2|exact K3|exact K4|exact K5|exact K6|exact K7|exact K8|exact K9|exact K10|exact K11); (exact rfl); (exact wz rfl))|refine wq fun _ => ?_)
  rw [hW.length_eq.symm] at hinc hll
  generalize liveL s now = l0 at hW
  refine wo ?_
  unfold t16_k3
  repeat (first|refine wa ?_|refine wb ?_|refine wc ?_|refine wd ?_|refine we ?_|refine wf ?_|refine wg ?_|refine wh rfl ?_|refine wi rfl ?_|refine wj rfl ?_|refine wk rfl ?_|refine wl rfl ?_|refine wm (by decide) ?_|(apply ld_rounds; (first|exact K0|exact K1|exact K2|exact K3|exact K4|exact K5|exact K6|exact K7|exact K8|exact K9|exact K10|exact K11))|(apply ld_hold; (first|exact K0|exact K1|exact K2|exact K3|exact K4|exact K5|exact K6|exact K7|exact K8|exact K9|exact K10|exact K11))|(apply Tri.ldE; (first|exact K0|exact K1|exact K2|exact K3|exact K4|exact K5|exact K6|exact K7|exact K8|exact K9|exact K10|exact K11); (exact rfl); (exact wz rfl))|(apply Tri.stE; (first|exact K0|exact K1|exact K2|exact K3|exact K4|exact K5|exact K6|exact K7|exact K8|exact K9|exact K10|exact K11); (exact rfl); (exact wz rfl))|(apply Tri.same; (first|exact K0|exact K1|exact K2|exact K3|exact K4|exact K5|exact K6|exact K7|exact K8|exact K9|exact K10|exact K11); (exact rfl); (exact wz rfl))|refine wq fun _ => ?_)
  refine Tri.loop (I := fun m l' L => ∃ (D R : List Vt) (ip port most many : Int), m = R.length ∧ W = D ++ R ∧ Sn D ip port most many ∧
    l' = [.sc (.i .i64 0), .sc (.p (some (a2, 0))), .sc (.sl o2), .sc (.i .i64 most), .sc (.i .i64 many), .sc (.i .i64 D.length)] ∧ L = pt a2 [.i .u32 ip, .i .u16 port] :: .sl false vE o2 W :: Re p s :: F)
    ⟨[], W, 0, 0, 0, 0, rfl, rfl, ⟨fun x hx => by simp at hx, rfl, by simp, fun _ => ⟨rfl, rfl⟩, fun h => absurd rfl h⟩, rfl, rfl⟩ (by repeat (first|exact Sub.refl _|exact Sub.nil _|(apply Sub.cons; (first|exact K0|exact K1|exact K2|exact K3|exact K4|exact K5|exact K6|exact K7|exact K8|exact K9|exact K10|exact K11))|apply Sub.skip)) ?_
  rintro m l' L ⟨D, R, ip, port, most, many, rfl, rfl, hsn, rfl, rfl⟩
  have hmb : most ≤ 32 := by
    rw [hsn.most]
    have : cnt ip port D ≤ D.length := List.countP_le_length
    simp at hll; omega
  unfold t16_b14
  repeat (first|refine wa ?_|refine wb ?_|refine wc ?_|refine wd ?_|refine we ?_|refine wf ?_|refine wg ?_|refine wh rfl ?_|refine wi rfl ?_|refine wj rfl ?_|refine wk rfl ?_|refine wl rfl ?_|refine wm (by decide) ?_|(apply ld_rounds; (first|exact K0|exact K1|exact K2|exact K3|exact K4|exact K5|exact K6|exact K7|exact K8|exact K9|exact K10|exact K11))|(apply ld_hold; (first|exact K0|exact K1|exact K2|exact K3|exact K4|exact K5|exact K6|exact K7|exact K8|exact K9|exact K10|exact K11))|(apply Tri.ldE; (first|exact K0|exact K1|exact K2|exact K3|exact K4|exact K5|exact K6|exact K7|exact K8|exact K9|exact K10|exact K11); (exact rfl); (exact wz rfl))|(apply Tri.stE; (first|exact K0|exact K1|exact K2|exact K3|exact K4|exact K5|exact K6|exact K7|exact K8|exact K9|exact K10|exact K11); (exact rfl); (exact wz rfl))|(apply Tri.same; (first|exact K0|exact K1|exact K2|exact K3|exact K4|exact K5|exact K6|exact K7|exact K8|exact K9|exact K10|exact K11); (exact rfl); (exact wz rfl))|refine wq fun _ => ?_)
  refine Tri.brT rfl ?_
  repeat (first|refine wa ?_|refine wb ?_|refine wc ?_|refine wd ?_|refine we ?_|refine wf ?_|refine wg ?_|refine wh rfl ?_|refine wi rfl ?_|refine wj rfl ?_|refine wk rfl ?_|refine wl rfl ?_|refine wm (by decide) ?_|(apply ld_rounds; (first|exact K0|exact K1|exact K2|exact K3|exact K4|exact K5|exact K6|exact K7|exact K8|exact K9|exact K10|exact K11))|(apply ld_hold; (first|exact K0|exact K1|exact K2|exact K3|exact K4|exact K5|exact K6|exact K7|exact K8|exact K9|exact K10|exact K11))|(apply Tri.ldE; (first|exact K0|exact K1|exact K2|exact K3|exact K4|exact K5|exact K6|exact K7|exact K8|exact K9|exact K10|exact K11); (exact rfl); (exact wz rfl))|(apply Tri.stE; (first|exact K0|exact K1|exact K2|exact K3|exact K4|exact K5|exact K6|exact K7|exact K8|exact K9|exact K10|exact K11); (exact rfl); (exact wz rfl))|(apply Tri.same; (first|exact K0|exact K1|exact K2|exact K3|exact K4|exact K5|exact K6|exact K7|exact K8|exact K9|exact K10|exact K11); (exact rfl); (exact wz rfl))|refine wq fun _ => ?_)
  refine Tri.slLen (l := D ++ R) (o := o2) (ro := false) (T := vE) (by first|exact K0|exact K1|exact K2|exact K3|exact K4|exact K5|exact K6|exact K7|exact K8|exact K9|exact K10|exact K11) fun e1 e2 => ?_
  rw [e2]
  refine Tri.cnd (fun hc => ?_) (fun hc => ?_)
  · have hR : R = [] := List.length_eq_zero_iff.1 (by simp at hc; omega)
    subst hR
    rw [List.append_nil] at *
    repeat (first|refine wa ?_|refine wb ?_|refine wc ?_|refine wd ?_|refine we ?_|refine wf ?_|refine wg ?_|refine wh rfl ?_|refine wi rfl ?_|refine wj rfl ?_|refine wk rfl ?_|refine wl rfl ?_|refine wm (by decide) ?_|(apply ld_rounds; (first|exact K0|exact K1|exact K2|exact K3|exact K4|exact K5|exact K6|exact K7|exact K8|exact K9|exact K10|exact K11))|(apply ld_hold; (first|exact K0|exact K1|exact K2|exact K3|exact K4|exact K5|exact K6|exact K7|exact K8|exact K9|exact K10|exact K11))|(apply Tri.ldE; (first|exact K0|exact K1|exact K2|exact K3|exact K4|exact K5|exact K6|exact K7|exact K8|exact K9|exact K10|exact K11); (exact rfl); (exact wz rfl))|(apply Tri.stE; (first|exact K0|exact K1|exact K2|exact K3|exact K4|exact K5|exact K6|exact K7|exact K8|exact K9|exact K10|exact K11); (exact rfl); (exact wz rfl))|(apply Tri.same; (first|exact K0|exact K1|exact K2|exact K3|exact K4|exact K5|exact K6|exact K7|exact K8|exact K9|exact K10|exact K11); (exact rfl); (exact wz rfl))|refine wq fun _ => ?_)
    refine Tri.exit (by decide) ?_
    unfold t16_k14
    repeat (first|refine wa ?_|refine wb ?_|refine wc ?_|refine wd ?_|refine we ?_|refine wf ?_|refine wg ?_|refine wh rfl ?_|refine wi rfl ?_|refine wj rfl ?_|refine wk rfl ?_|refine wl rfl ?_|refine wm (by decide) ?_|(apply ld_rounds; (first|exact K0|exact K1|exact K2|exact K3|exact K4|exact K5|exact K6|exact K7|exact K8|exact K9|exact K10|exact K11))|(apply ld_hold; (first|exact K0|exact K1|exact K2|exact K3|exact K4|exact K5|exact K6|exact K7|exact K8|exact K9|exact K10|exact K11))|(apply Tri.ldE; (first|exact K0|exact K1|exact K2|exact K3|exact K4|exact K5|exact K6|exact K7|exact K8|exact K9|exact K10|exact K11); (exact rfl); (exact wz rfl))|(apply Tri.stE; (first|exact K0|exact K1|exact K2|exact K3|exact K4|exact K5|exact K6|exact K7|exact K8|exact K9|exact K10|exact K11); (exact rfl); (exact wz rfl))|(apply Tri.same; (first|exact K0|exact K1|exact K2|exact K3|exact K4|exact K5|exact K6|exact K7|exact K8|exact K9|exact K10|exact K11); (exact rfl); (exact wz rfl))|refine wq fun _ => ?_)
    exact Tri.retF ⟨ip, port, _, rfl, hsn.best.perm hW, rfl⟩ (by repeat (first|exact Sub.refl _|exact Sub.nil _|(apply Sub.cons; (first|exact K0|exact K1|exact K2|exact K3|exact K4|exact K5|exact K6|exact K7|exact K8|exact K9|exact K10|exact K11))|apply Sub.skip))
  cases R with
  | nil => simp at hc
  | cons x R =>
    simp only [List.length_append, List.length_cons] at hll
    have hs : ∀ y ∈ D, ¬ vlt x y := by
      intro y hy
      obtain ⟨i, hi, rfl⟩ := List.getElem_of_mem hy
      exact hinc i D.length _ x (Nat.zero_le _) hi (by simp) (by rw [List.getElem?_append_left hi, List.getElem?_eq_getElem]) (get_mid' rfl)
    have rest : ∀ many0 : Int, many0 + 1 = cnt x.ip x.port (D ++ [x]) → Tri E (pt a2 [.i .u32 ip, .i .u16 port] :: .sl false vE o2 (D ++ x :: R) :: Re p s :: F) (t16_k29 0 [.sc (.p (some (a2, 0))), .sc (.sl o2), .sc (.i .i64 most), .sc (.i .i64 many0), .sc (.i .i64 D.length)])
        (LQ E (fun m l' L => ∃ (D' R' : List Vt) (ip port most many : Int), m = R'.length ∧ D ++ x :: R = D' ++ R' ∧ Sn D' ip port most many ∧
          l' = [.sc (.i .i64 0), .sc (.p (some (a2, 0))), .sc (.sl o2), .sc (.i .i64 most), .sc (.i .i64 many), .sc (.i .i64 D'.length)] ∧ L = pt a2 [.i .u32 ip, .i .u16 port] :: .sl false vE o2 (D ++ x :: R) :: Re p s :: F) (x :: R).length t16_k14
          (RQ F fun v L' => ∃ ip port ok, v = .tu [.ag [.i .u32 ip, .i .u16 port], .sc (.b ok)] ∧ Best l0 ip port ok ∧ L' = [Re p s])) := by
      intro many0 hm
      have hcb : cnt x.ip x.port (D ++ [x]) ≤ (D ++ [x]).length := List.countP_le_length
      simp only [List.length_append, List.length_cons, List.length_nil] at hcb
      obtain ⟨st1, st2⟩ := hsn.step hs hm
      unfold t16_k29
      repeat (first|refine wa ?_|refine wb ?_|refine wc ?_|refine wd ?_|refine we ?_|refine wf ?_|refine wg ?_|refine wh rfl ?_|refine wi rfl ?_|refine wj rfl ?_|refine wk rfl ?_|refine wl rfl ?_|refine wm (by decide) ?_|(apply ld_rounds; (first|exact K0|exact K1|exact K2|exact K3|exact K4|exact K5|exact K6|exact K7|exact K8|exact K9|exact K10|exact K11))|(apply ld_hold; (first|exact K0|exact K1|exact K2|exact K3|exact K4|exact K5|exact K6|exact K7|exact K8|exact K9|exact K10|exact K11))|(apply Tri.ldE; (first|exact K0|exact K1|exact K2|exact K3|exact K4|exact K5|exact K6|exact K7|exact K8|exact K9|exact K10|exact K11); (exact rfl); (exact wz rfl))|(apply Tri.stE; (first|exact K0|exact K1|exact K2|exact K3|exact K4|exact K5|exact K6|exact K7|exact K8|exact K9|exact K10|exact K11); (exact rfl); (exact wz rfl))|(apply Tri.same; (first|exact K0|exact K1|exact K2|exact K3|exact K4|exact K5|exact K6|exact K7|exact K8|exact K9|exact K10|exact K11); (exact rfl); (exact wz rfl))|refine wq fun _ => ?_)
      rw [wr_i64 (n := many0 + 1) (by omega) (by omega), show IntKind.wrap .i64 ((D.length : Int) + 1) = ((D ++ [x]).length : Int) by rw [wr_i64 (by omega) (by omega)]; simp]
      refine Tri.cnd (fun h1 => ?_) (fun h1 => ?_)
      · have h1 : many0 + 1 > most := by simpa using h1
        refine Tri.ixldR (T := vE) (o := o2) (x := x) (k := 1) (n := 2) (by first|exact K0|exact K1|exact K2|exact K3|exact K4|exact K5|exact K6|exact K7|exact K8|exact K9|exact K10|exact K11) rfl (by omega) (by rw [Int.toNat_natCast]; exact get_mid' rfl) (by decide) rfl ?_
        repeat (first|refine wa ?_|refine wb ?_|refine wc ?_|refine wd ?_|refine we ?_|refine wf ?_|refine wg ?_|refine wh rfl ?_|refine wi rfl ?_|refine wj rfl ?_|refine wk rfl ?_|refine wl rfl ?_|refine wm (by decide) ?_|(apply ld_rounds; (first|exact K0|exact K1|exact K2|exact K3|exact K4|exact K5|exact K6|exact K7|exact K8|exact K9|exact K10|exact K11))|(apply ld_hold; (first|exact K0|exact K1|exact K2|exact K3|exact K4|exact K5|exact K6|exact K7|exact K8|exact K9|exact K10|exact K11))|(apply Tri.ldE; (first|exact K0|exact K1|exact K2|exact K3|exact K4|exact K5|exact K6|exact K7|exact K8|exact K9|exact K10|exact K11); (exact rfl); (exact wz rfl))|(apply Tri.stE; (first|exact K0|exact K1|exact K2|exact K3|exact K4|exact K5|exact K6|exact K7|exact K8|exact K9|exact K10|exact K11); (exact rfl); (exact wz rfl))|(apply Tri.same; (first|exact K0|exact K1|exact K2|exact K3|exact K4|exact K5|exact K6|exact K7|exact K8|exact K9|exact K10|exact K11); (exact rfl); (exact wz rfl))|refine wq fun _ => ?_)
        exact Tri.back (m' := R.length) (by simp) ⟨D ++ [x], R, x.ip, x.port, many0 + 1, many0 + 1, rfl, by simp, st1 h1, rfl, rfl⟩ (by repeat (first|exact Sub.refl _|exact Sub.nil _|(apply Sub.cons; (first|exact K0|exact K1|exact K2|exact K3|exact K4|exact K5|exact K6|exact K7|exact K8|exact K9|exact K10|exact K11))|apply Sub.skip))
      · have h1 : ¬ many0 + 1 > most := by simpa using h1
        exact Tri.back (m' := R.length) (by simp) ⟨D ++ [x], R, ip, port, most, many0 + 1, rfl, by simp, st2 h1, rfl, rfl⟩ (by repeat (first|exact Sub.refl _|exact Sub.nil _|(apply Sub.cons; (first|exact K0|exact K1|exact K2|exact K3|exact K4|exact K5|exact K6|exact K7|exact K8|exact K9|exact K10|exact K11))|apply Sub.skip))
    have hx1 := cnt_snoc x.ip x.port D x
    rw [isA_self, if_pos rfl] at hx1
    refine Tri.cnd (fun h0 => ?_) (fun h0 => ?_)
    · have h0 : D = [] := List.length_eq_zero_iff.1 (by simp at h0; simpa using h0)
      subst h0
      refine Tri.join ?_
      refine Tri.thru ?_
      exact Tri.sub (by repeat (first|exact Sub.refl _|exact Sub.nil _|(apply Sub.cons; (first|exact K0|exact K1|exact K2|exact K3|exact K4|exact K5|exact K6|exact K7|exact K8|exact K9|exact K10|exact K11))|apply Sub.skip)) (rest 0 (by rw [hx1]; rfl))
    · obtain ⟨D', y, rfl⟩ : ∃ D' y, D = D' ++ [y] := by
        rcases List.eq_nil_or_concat D with e | ⟨D', y, e⟩
        · subst e; simp at h0
        · exact ⟨D', y, by simpa using e⟩
      have hmany := hsn.many y (by simp)
      refine Tri.ixldR (T := vE) (o := o2) (x := x) (k := 1) (n := 2) (by first|exact K0|exact K1|exact K2|exact K3|exact K4|exact K5|exact K6|exact K7|exact K8|exact K9|exact K10|exact K11) rfl (by omega) (by rw [Int.toNat_natCast]; exact get_mid' rfl) (by decide) rfl ?_
      repeat (first|refine wa ?_|refine wb ?_|refine wc ?_|refine wd ?_|refine we ?_|refine wf ?_|refine wg ?_|refine wh rfl ?_|refine wi rfl ?_|refine wj rfl ?_|refine wk rfl ?_|refine wl rfl ?_|refine wm (by decide) ?_|(apply ld_rounds; (first|exact K0|exact K1|exact K2|exact K3|exact K4|exact K5|exact K6|exact K7|exact K8|exact K9|exact K10|exact K11))|(apply ld_hold; (first|exact K0|exact K1|exact K2|exact K3|exact K4|exact K5|exact K6|exact K7|exact K8|exact K9|exact K10|exact K11))|(apply Tri.ldE; (first|exact K0|exact K1|exact K2|exact K3|exact K4|exact K5|exact K6|exact K7|exact K8|exact K9|exact K10|exact K11); (exact rfl); (exact wz rfl))|(apply Tri.stE; (first|exact K0|exact K1|exact K2|exact K3|exact K4|exact K5|exact K6|exact K7|exact K8|exact K9|exact K10|exact K11); (exact rfl); (exact wz rfl))|(apply Tri.same; (first|exact K0|exact K1|exact K2|exact K3|exact K4|exact K5|exact K6|exact K7|exact K8|exact K9|exact K10|exact K11); (exact rfl); (exact wz rfl))|refine wq fun _ => ?_)
      rw [show IntKind.wrap .i64 (((D' ++ [y]).length : Int) - 1) = (D'.length : Int) by rw [wr_i64 (by simp <;> omega) (by simp at hll ⊢ <;> omega)]; simp]
      refine Tri.ixldR (T := vE) (o := o2) (x := y) (k := 1) (n := 2) (by first|exact K0|exact K1|exact K2|exact K3|exact K4|exact K5|exact K6|exact K7|exact K8|exact K9|exact K10|exact K11) rfl (by omega) (by rw [Int.toNat_natCast]; simp) (by decide) rfl ?_
      repeat (first|refine wa ?_|refine wb ?_|refine wc ?_|refine wd ?_|refine we ?_|refine wf ?_|refine wg ?_|refine wh rfl ?_|refine wi rfl ?_|refine wj rfl ?_|refine wk rfl ?_|refine wl rfl ?_|refine wm (by decide) ?_|(apply ld_rounds; (first|exact K0|exact K1|exact K2|exact K3|exact K4|exact K5|exact K6|exact K7|exact K8|exact K9|exact K10|exact K11))|(apply ld_hold; (first|exact K0|exact K1|exact K2|exact K3|exact K4|exact K5|exact K6|exact K7|exact K8|exact K9|exact K10|exact K11))|(apply Tri.ldE; (first|exact K0|exact K1|exact K2|exact K3|exact K4|exact K5|exact K6|exact K7|exact K8|exact K9|exact K10|exact K11); (exact rfl); (exact wz rfl))|(apply Tri.stE; (first|exact K0|exact K1|exact K2|exact K3|exact K4|exact K5|exact K6|exact K7|exact K8|exact K9|exact K10|exact K11); (exact rfl); (exact wz rfl))|(apply Tri.same; (first|exact K0|exact K1|exact K2|exact K3|exact K4|exact K5|exact K6|exact K7|exact K8|exact K9|exact K10|exact K11); (exact rfl); (exact wz rfl))|refine wq fun _ => ?_)
      refine Tri.join ?_
      refine Tri.cnd (fun h2 => ?_) (fun h2 => ?_)
      · refine Tri.thru ?_
        have hne : ¬ (x.ip = y.ip ∧ x.port = y.port) := by
          intro e; simp [e.1, e.2] at h2
        have hxy := hs y (by simp)
        have hz : cnt x.ip x.port (D' ++ [y]) = 0 := by
          refine cnt_zero fun z hz e => ?_
          rcases List.mem_append.1 hz with hz | hz
          · obtain ⟨i, hi, rfl⟩ := List.getElem_of_mem hz
            have := hinc i D'.length D'[i] y (Nat.zero_le _) hi (by simp) (by rw [List.append_assoc, List.getElem?_append_left hi, List.getElem?_eq_getElem]) (by simp)
            unfold vlt at this hxy; omega
          · simp at hz; subst hz; omega
        exact Tri.sub (by repeat (first|exact Sub.refl _|exact Sub.nil _|(apply Sub.cons; (first|exact K0|exact K1|exact K2|exact K3|exact K4|exact K5|exact K6|exact K7|exact K8|exact K9|exact K10|exact K11))|apply Sub.skip)) (rest 0 (by rw [hx1, hz]; rfl))
      · refine Tri.thru ?_
        have he : x.ip = y.ip ∧ x.port = y.port := by simpa using h2
        exact Tri.sub (by repeat (first|exact Sub.refl _|exact Sub.nil _|(apply Sub.cons; (first|exact K0|exact K1|exact K2|exact K3|exact K4|exact K5|exact K6|exact K7|exact K8|exact K9|exact K10|exact K11))|apply Sub.skip)) (rest many (by rw [hx1, hmany, he.1, he.2]; rfl))
end Go.Proofs.Ytbgmnnfajohmaaa
