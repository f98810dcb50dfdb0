/- What the queue's functions come to: the queue itself. -/
import Derived.Test.YtphhflkpdejodaaQA
namespace Go.Proofs.Ytphhflkpdejodaa
open Go Go.Proofs.Ytphhflkpdejodaa.Fw
set_option linter.unusedVariables false
set_option linter.unusedSimpArgs false

def κ (t : Itm) : Int := t.r.id - 64 * t.left
/-- a queue's items as they are to be -/
structure Good (l : List Itm) : Prop where
  b : ∀ x ∈ l, 1 ≤ x.r.id ∧ x.r.id ≤ 32 ∧ 1 ≤ x.left ∧ x.left ≤ 100
  d : l.Pairwise fun a b => a.r.id ≠ b.r.id
theorem Good.nil : Good [] := ⟨by simp, by simp⟩
theorem Good.perm {l l' : List Itm} (h : Good l) (p : l'.Perm l) : Good l' := ⟨fun x hx => h.b x (p.mem_iff.1 hx), (h.d).perm p.symm fun h => h.symm⟩
theorem Good.sub {l l' : List Itm} (h : Good l) (p : l'.Sublist l) : Good l' := ⟨fun x hx => h.b x (p.mem hx), h.d.sublist p⟩
theorem filter_one {l : List Itm} (h : Good l) (v : Int) : (l.filter fun x => κ x == v) = [] ∨ ∃ x, (l.filter fun x => κ x == v) = [x] := by
  induction l with
  | nil => exact .inl rfl
  | cons x l ih =>
    obtain ⟨h1, h2⟩ := List.pairwise_cons.1 h.d
    rw [List.filter_cons]
    by_cases hx : κ x = v
    · refine .inr ⟨x, ?_⟩
      rw [if_pos (by simpa using hx)]
      congr 1
      refine List.filter_eq_nil_iff.2 fun y hy => ?_
      have b1 := h.b x (by simp)
      have b2 := h.b y (by simp [hy])
      have := h1 y hy
      simp only [beq_iff_eq, κ] at hx ⊢
      omega
    · rw [if_neg (by simpa using hx)]
      exact ih (h.sub (List.sublist_cons_self _ _))
theorem srt_uniq {l l' : List Itm} (h : Good l) (p : l'.Perm l) (hi : Inc qlt 0 l.length l') : l' = ssort κ l := by
  refine (ssort_eq ⟨?_, fun v => ?_⟩).symm
  · refine List.pairwise_iff_getElem.2 fun i j hi' hj' hij => ?_
    have := hi i j _ _ (Nat.zero_le _) hij (by rw [← p.length_eq]; exact hj') (List.getElem?_eq_getElem hi') (List.getElem?_eq_getElem hj')
    have b1 := (h.perm p).b _ (List.getElem_mem hi')
    have b2 := (h.perm p).b _ (List.getElem_mem hj')
    unfold qlt at this; unfold κ; omega
  · have hp := p.filter fun x => κ x == v
    rcases filter_one h v with e | ⟨x, e⟩
    · rw [e] at hp ⊢; exact hp.eq_nil
    · rw [e] at hp ⊢; exact hp.eq_singleton
theorem ssort_perm (l : List Itm) : (ssort κ l).Perm l := by
  have hi : ∀ (x : Itm) (l : List Itm), (ins κ x l).Perm (x :: l) := by
    intro x l
    have := List.takeWhile_append_dropWhile (p := fun y => decide (κ y ≤ κ x)) (l := l)
    unfold ins
    refine List.perm_middle.trans ?_
    rw [this]
  have : ∀ (l acc : List Itm), (l.foldl (fun acc x => ins κ x acc) acc).Perm (l ++ acc) := by
    intro l
    induction l with
    | nil => intro acc; exact List.Perm.refl _
    | cons x l ih =>
      intro acc
      rw [List.foldl_cons]
      refine (ih _).trans (((hi x acc).append_left l).trans ?_)
      simp
  simpa [ssort] using this l []
theorem Good.srt {l : List Itm} (h : Good l) : Good (ssort κ l) := h.perm (ssort_perm l)

def Qu (p : Nat) (l : List Itm) (room : Int) : Assn := .ex fun o => .sep (pt p [.sl o, .i .i64 room]) (.sl false itE o l)
theorem Qu.op {p : Nat} {l : List Itm} {room : Int} {L R : List Assn} {t : Tree} {Q : Post} (pk : Pick L (Qu p l room) R)
    (h : ∀ o, slN o = l.length → slLen o = (l.length : Int) → Tri E (pt p [.sl o, .i .i64 room] :: .sl false itE o l :: R) t Q) : Tri E L t Q := by
  refine Tri.ex (A := fun o => .sep (pt p [.sl o, .i .i64 room]) (.sl false itE o l)) pk fun o => ?_
  refine Tri.sep (by first|exact K0|exact K1|exact K2|exact K3|exact K4|exact K5|exact K6|exact K7|exact K8|exact K9|exact K10|exact K11) ?_
  refine Tri.slLen (l := l) (o := o) (ro := false) (T := itE) (by first|exact K0|exact K1|exact K2|exact K3|exact K4|exact K5|exact K6|exact K7|exact K8|exact K9|exact K10|exact K11) fun e1 e2 => h o e1 e2
theorem Qu.mk {p : Nat} {l : List Itm} {room : Int} {o : Option SlD} {L R R' : List Assn} {t : Tree} {Q : Post} (pk : Pick L (pt p [.sl o, .i .i64 room]) R) (pk' : Pick R (.sl false itE o l) R')
    (h : Tri E (Qu p l room :: R') t Q) : Tri E L t Q :=
  Tri.mkSep pk pk' (Tri.mkEx (A := fun o => .sep (pt p [.sl o, .i .i64 room]) (.sl false itE o l)) o Pick.here h)

theorem new_ok {room : Int} (h1 : 1 ≤ room) (h2 : room ≤ 64) : FSpec E 10 [.sc (.i .i64 room)] [] (fun v L' => ∃ p, v = .tu [.sc (.p (some (p, 0))), .sc (.i .i64 0)] ∧ L' = [Qu p [] room]) := by
  refine FSpec.of (Try.func10 : Try.prog.funcs[10]? = some Try.f10) (t10_eq _) fun F => ?_
  unfold t10
  refine Tri.cndF (by simp; omega) ?_
  refine Tri.cndF (by simp; omega) ?_
  repeat (first|refine wa ?_|refine wb ?_|refine wc ?_|refine wd ?_|refine we ?_|refine wf ?_|refine wg ?_|refine wh rfl ?_|refine wi rfl ?_|refine wj rfl ?_|refine wk rfl ?_|refine wl rfl ?_|refine wm (by decide) ?_|refine wn ?_|refine wo ?_|refine wp (by decide) ?_|(apply Tri.ldE; (first|exact K0|exact K1|exact K2|exact K3|exact K4|exact K5|exact K6|exact K7|exact K8|exact K9|exact K10|exact K11); (exact rfl); (exact wz rfl))|(apply Tri.stE; (first|exact K0|exact K1|exact K2|exact K3|exact K4|exact K5|exact K6|exact K7|exact K8|exact K9|exact K10|exact K11); (exact rfl); (exact wz rfl))|(apply Tri.same; (first|exact K0|exact K1|exact K2|exact K3|exact K4|exact K5|exact K6|exact K7|exact K8|exact K9|exact K10|exact K11); (exact rfl); (exact wz rfl))|refine wq fun _ => ?_)
  refine Tri.mkN false itE ?_
  refine Qu.mk (o := none) (by first|exact K0|exact K1|exact K2|exact K3|exact K4|exact K5|exact K6|exact K7|exact K8|exact K9|exact K10|exact K11) (by first|exact K0|exact K1|exact K2|exact K3|exact K4|exact K5|exact K6|exact K7|exact K8|exact K9|exact K10|exact K11) ?_
  exact Tri.retF ⟨_, rfl, rfl⟩ (by repeat (first|exact Sub.refl _|exact Sub.nil _|(apply Sub.cons; (first|exact K0|exact K1|exact K2|exact K3|exact K4|exact K5|exact K6|exact K7|exact K8|exact K9|exact K10|exact K11))|apply Sub.skip))
theorem new_no {room : Int} (h : ¬ (1 ≤ room ∧ room ≤ 64)) : FSpec E 10 [.sc (.i .i64 room)] [] (fun v L' => v = .tu [.sc (.p none), .sc (.i .i64 1)] ∧ L' = []) := by
  refine FSpec.of (Try.func10 : Try.prog.funcs[10]? = some Try.f10) (t10_eq _) fun F => ?_
  unfold t10
  refine Tri.cnd (fun h1 => ?_) (fun h1 => ?_)
  · exact Tri.retF ⟨rfl, rfl⟩ (by repeat (first|exact Sub.refl _|exact Sub.nil _|(apply Sub.cons; (first|exact K0|exact K1|exact K2|exact K3|exact K4|exact K5|exact K6|exact K7|exact K8|exact K9|exact K10|exact K11))|apply Sub.skip))
  refine Tri.cnd (fun h2 => ?_) (fun h2 => ?_)
  · exact Tri.retF ⟨rfl, rfl⟩ (by repeat (first|exact Sub.refl _|exact Sub.nil _|(apply Sub.cons; (first|exact K0|exact K1|exact K2|exact K3|exact K4|exact K5|exact K6|exact K7|exact K8|exact K9|exact K10|exact K11))|apply Sub.skip))
  · simp at h1 h2; omega
theorem len_spec {p : Nat} {l : List Itm} {room : Int} : FSpec E 22 [.sc (.p (some (p, 0)))] [Qu p l room] (fun v L' => v = .sc (.i .i64 l.length) ∧ L' = [Qu p l room]) := by
  refine FSpec.of (Try.func22 : Try.prog.funcs[22]? = some Try.f22) (t22_eq _ _) fun F => ?_
  unfold t22
  refine Qu.op Pick.here fun o e1 e2 => ?_
  repeat (first|refine wa ?_|refine wb ?_|refine wc ?_|refine wd ?_|refine we ?_|refine wf ?_|refine wg ?_|refine wh rfl ?_|refine wi rfl ?_|refine wj rfl ?_|refine wk rfl ?_|refine wl rfl ?_|refine wm (by decide) ?_|refine wn ?_|refine wo ?_|refine wp (by decide) ?_|(apply Tri.ldE; (first|exact K0|exact K1|exact K2|exact K3|exact K4|exact K5|exact K6|exact K7|exact K8|exact K9|exact K10|exact K11); (exact rfl); (exact wz rfl))|(apply Tri.stE; (first|exact K0|exact K1|exact K2|exact K3|exact K4|exact K5|exact K6|exact K7|exact K8|exact K9|exact K10|exact K11); (exact rfl); (exact wz rfl))|(apply Tri.same; (first|exact K0|exact K1|exact K2|exact K3|exact K4|exact K5|exact K6|exact K7|exact K8|exact K9|exact K10|exact K11); (exact rfl); (exact wz rfl))|refine wq fun _ => ?_)
  rw [e2]
  refine Qu.mk (by first|exact K0|exact K1|exact K2|exact K3|exact K4|exact K5|exact K6|exact K7|exact K8|exact K9|exact K10|exact K11) (by first|exact K0|exact K1|exact K2|exact K3|exact K4|exact K5|exact K6|exact K7|exact K8|exact K9|exact K10|exact K11) ?_
  exact Tri.retF ⟨rfl, rfl⟩ (by repeat (first|exact Sub.refl _|exact Sub.nil _|(apply Sub.cons; (first|exact K0|exact K1|exact K2|exact K3|exact K4|exact K5|exact K6|exact K7|exact K8|exact K9|exact K10|exact K11))|apply Sub.skip))
theorem clone_spec {o : Option SlD} {l : List Itm} (hl : l.length ≤ 1000) : FSpec E 32 [.sc (.sl o)] [.sl false itE o l]
    (fun v L' => ∃ o', v = .sc (.sl o') ∧ L' = [.sl false itE o l, .sl false itE o' l]) := by
  refine FSpec.of (Try.func32 : Try.prog.funcs[32]? = some Try.f32) (t32_eq _) fun F => ?_
  exact clone_tri F rfl (by decide) (by decide) (by unfold appBound; omega)
theorem del_spec {o : Option SlD} {l : List Itm} {i j : Nat} (h1 : i ≤ j) (h2 : j ≤ l.length) : FSpec E 29 [.sc (.sl o), .sc (.i .i64 i), .sc (.i .i64 j)] [.sl false itE o l]
    (fun v L' => ∃ o', v = .sc (.sl o') ∧ L' = [.sl false itE o' (l.take i ++ l.drop j)]) := by
  refine FSpec.of (Try.func29 : Try.prog.funcs[29]? = some Try.f29) (t29_eq _ _ _) fun F => ?_
  exact del_tri F rfl rfl (by decide) (by decide) h1 h2
theorem items_spec {N : Nat} (hN : N ≤ 1000) (hS : SortOk E itE 33 N) {p : Nat} {l : List Itm} {room : Int} (hg : Good l) (hl : l.length ≤ N) : FSpec E 21 [.sc (.p (some (p, 0)))] [Qu p l room]
    (fun v L' => ∃ o, v = .sc (.sl o) ∧ L' = [Qu p l room, .sl false itE o (ssort κ l)]) := by
  refine FSpec.of (Try.func21 : Try.prog.funcs[21]? = some Try.f21) (t21_eq _ _) fun F => ?_
  unfold t21
  refine Qu.op Pick.here fun o e1 e2 => ?_
  repeat (first|refine wa ?_|refine wb ?_|refine wc ?_|refine wd ?_|refine we ?_|refine wf ?_|refine wg ?_|refine wh rfl ?_|refine wi rfl ?_|refine wj rfl ?_|refine wk rfl ?_|refine wl rfl ?_|refine wm (by decide) ?_|refine wn ?_|refine wo ?_|refine wp (by decide) ?_|(apply Tri.ldE; (first|exact K0|exact K1|exact K2|exact K3|exact K4|exact K5|exact K6|exact K7|exact K8|exact K9|exact K10|exact K11); (exact rfl); (exact wz rfl))|(apply Tri.stE; (first|exact K0|exact K1|exact K2|exact K3|exact K4|exact K5|exact K6|exact K7|exact K8|exact K9|exact K10|exact K11); (exact rfl); (exact wz rfl))|(apply Tri.same; (first|exact K0|exact K1|exact K2|exact K3|exact K4|exact K5|exact K6|exact K7|exact K8|exact K9|exact K10|exact K11); (exact rfl); (exact wz rfl))|refine wq fun _ => ?_)
  refine Tri.call (clone_spec (l := l) (by omega)) (by repeat (first|exact Picks.nil|(apply Picks.cons; (first|exact K0|exact K1|exact K2|exact K3|exact K4|exact K5|exact K6|exact K7|exact K8|exact K9|exact K10|exact K11)))) ?_
  rintro v L' ⟨o', rfl, rfl⟩
  simp only [List.cons_append, List.nil_append]
  repeat (first|refine wa ?_|refine wb ?_|refine wc ?_|refine wd ?_|refine we ?_|refine wf ?_|refine wg ?_|refine wh rfl ?_|refine wi rfl ?_|refine wj rfl ?_|refine wk rfl ?_|refine wl rfl ?_|refine wm (by decide) ?_|refine wn ?_|refine wo ?_|refine wp (by decide) ?_|(apply Tri.ldE; (first|exact K0|exact K1|exact K2|exact K3|exact K4|exact K5|exact K6|exact K7|exact K8|exact K9|exact K10|exact K11); (exact rfl); (exact wz rfl))|(apply Tri.stE; (first|exact K0|exact K1|exact K2|exact K3|exact K4|exact K5|exact K6|exact K7|exact K8|exact K9|exact K10|exact K11); (exact rfl); (exact wz rfl))|(apply Tri.same; (first|exact K0|exact K1|exact K2|exact K3|exact K4|exact K5|exact K6|exact K7|exact K8|exact K9|exact K10|exact K11); (exact rfl); (exact wz rfl))|refine wq fun _ => ?_)
  refine Tri.call (hS (o := o') (l := l) cmpIt qlt_ord hl) (by repeat (first|exact Picks.nil|(apply Picks.cons; (first|exact K0|exact K1|exact K2|exact K3|exact K4|exact K5|exact K6|exact K7|exact K8|exact K9|exact K10|exact K11)))) ?_
  rintro v L' ⟨l', rfl, rfl, hp, hi⟩
  rw [srt_uniq hg hp hi]
  simp only [List.cons_append, List.nil_append]
  refine Qu.mk (o := o) (l := l) (by first|exact K0|exact K1|exact K2|exact K3|exact K4|exact K5|exact K6|exact K7|exact K8|exact K9|exact K10|exact K11) (by first|exact K0|exact K1|exact K2|exact K3|exact K4|exact K5|exact K6|exact K7|exact K8|exact K9|exact K10|exact K11) ?_
  exact Tri.retF ⟨o', rfl, rfl⟩ (by repeat (first|exact Sub.refl _|exact Sub.nil _|(apply Sub.cons; (first|exact K0|exact K1|exact K2|exact K3|exact K4|exact K5|exact K6|exact K7|exact K8|exact K9|exact K10|exact K11))|apply Sub.skip))

/-- an item is put into the queue -/
def putQ (l : List Itm) (x : Itm) (room : Int) : List Itm := (ssort κ (l ++ [x])).take room.toNat
def okQ (x : Itm) : Bool := rightB x.r && decide (1 ≤ x.left) && decide (x.left ≤ 100)
def isI (id : Int) (t : Itm) : Bool := t.r.id == id
def addQ (l : List Itm) (x : Itm) (room : Int) : Int × List Itm :=
  if okQ x = false then (1, l) else match l.find? (isI x.r.id) with
    | none => (0, putQ l x room)
    | some y => if overB x.r y.r then (0, putQ (l.filter fun t => !isI x.r.id t) x room) else (6, l)
theorem okQ_b {x : Itm} (h : okQ x = true) : 1 ≤ x.r.id ∧ x.r.id ≤ 32 ∧ 1 ≤ x.left ∧ x.left ≤ 100 := by
  simp [okQ, rightB] at h; omega
theorem Good.put {l : List Itm} (h : Good l) {x : Itm} (hx : okQ x = true) (hn : ∀ y ∈ l, y.r.id ≠ x.r.id) : Good (l ++ [x]) :=
  ⟨fun y hy => (List.mem_append.1 hy).elim (h.b y) fun hy => by simp at hy; subst hy; exact okQ_b hx,
    List.pairwise_append.2 ⟨h.d, by simp, fun a ha b hb => by simp at hb; subst hb; exact hn a ha⟩⟩
theorem putQ_good {l : List Itm} (h : Good l) {x : Itm} {room : Int} (hx : okQ x = true) (hn : ∀ y ∈ l, y.r.id ≠ x.r.id) : Good (putQ l x room) :=
  ((h.put hx hn).srt).sub (List.take_sublist _ _)
theorem addQ_good {l : List Itm} (h : Good l) (x : Itm) (room : Int) : Good (addQ l x room).2 := by
  unfold addQ
  split
  · exact h
  · rename_i hx
    have hx : okQ x = true := by simpa using hx
    split
    · rename_i hf
      exact putQ_good h hx fun y hy he => by have := List.find?_eq_none.1 hf y hy; simp [isI, he] at this
    · split
      · exact putQ_good (h.sub List.filter_sublist) hx fun y hy he => by have := (List.mem_filter.1 hy).2; simp [isI, he] at this
      · exact h
theorem addQ_len {l : List Itm} {x : Itm} {room : Int} (h : (l.length : Int) ≤ room) : ((addQ l x room).2.length : Int) ≤ room := by
  unfold addQ putQ
  split
  · exact h
  · split
    · simp only [List.length_take]; omega
    · split
      · simp only [List.length_take]; omega
      · exact h
end Go.Proofs.Ytphhflkpdejodaa
