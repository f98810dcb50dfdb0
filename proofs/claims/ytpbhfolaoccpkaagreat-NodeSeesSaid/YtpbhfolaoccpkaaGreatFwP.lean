/- Regions in the text's order. -/
import Derived.Test.YtpbhfolaoccpkaaGreatFwL
import Derived.Orders
set_option linter.unusedSimpArgs false
set_option linter.unusedVariables false
namespace Go.Proofs.YtpbhfolaoccpkaaGreat.Fw
open Go
section ops
variable {P : Program} {T : TTab} {C : Ora} {n : Nat}

/-- is the operation wanted? -/
theorem wantedA_sound {ops : Array Oper} {e : List AV} {o : Oper} {b : Bool} (h : wantedA ops.toList e o = some b) {ι : Inj} {a : Act} (he : ER ι e a.tmps) : Region.wanted o (yielded ops a.tmps) = b := by
  unfold wantedA at h
  unfold Region.wanted
  split at h
  · rename_i hg; cases h; rw [hg]
  · rename_i j want hg
    rw [hg]
    dsimp only
    unfold dstOf at h
    unfold yielded
    have hx : ops.toList[j]? = ops[j]? := by simp
    rw [hx] at h
    cases hd : (ops[j]?).bind (·.dst) with
    | none => rw [hd] at h; cases h
    | some t =>
      rw [hd] at h; dsimp only at h
      have hv := he.get t
      have hsz : ∀ v, a.tmps.getD t undef = v → v ≠ undef → a.tmps[t]? = some v := by
        intro v hv hne
        by_cases hlt : t < a.tmps.size
        · simp [Array.getD, hlt] at hv; simp [hlt, hv]
        · simp [Array.getD, hlt] at hv; exact absurd hv.symm hne
      split at h
      · rename_i e1; rw [e1] at hv; cases h
        have := hsz (.bool true) hv (by simp [undef])
        simp [this] <;> cases want <;> rfl
      · rename_i e1; rw [e1] at hv; cases h
        have := hsz (.bool false) hv (by simp [undef])
        simp [this] <;> cases want <;> rfl
      · rename_i e1; rw [e1] at hv; cases h
        obtain ⟨vs, h1, h2⟩ := hv
        cases h1
        simp only [Option.bind_some]
        by_cases hlt : t < a.tmps.size
        · have : a.tmps[t]? = some (.tuple #[]) := by simp [Array.getD, hlt] at h2; simp [hlt, h2]
          rw [this]; rfl
        · rw [Array.getElem?_eq_none (Nat.le_of_not_lt hlt)]; rfl
      · cases h

theorem guardK_run {g : Bool} {v : AV} {go : AV → Tree} {H : AH} {r : Res} (h : run C n (guardK g v go) H = some r) : run C n (go v) H = some r := by
  unfold guardK at h
  split at h
  · exact h
  · split at h
    · rename_i b
      cases b
      · simpa using h
      · simpa using h
    · simp [run] at h

theorem opsK_sound (hT : TOk P T) (hC : OraOk P C) (ops : Array Oper) : ∀ (os : List Oper) (j : Nat) (e : List AV) (H : AH) (f : List AV → Tree) (r : Res), run C n (opsK T ops.toList j os e f) H = some r →
    ∃ e1 H1, run C n (f e1) H1 = some r ∧ Grow H H1 ∧ ∀ (ι : Inj) (a : Act) (w : World), ER ι e a.tmps → HR ι H w → Gap ι H H1 → ∀ (Q : Exit → Act → World → Prop),
      (∀ a' w' ι', AEq a a' → ER ι' e1 a'.tmps → HR ι' H1 w' → Stp ι H w ι' H1 w' → Q .normal a' w') → wpList P ops Q os a w := by
  intro os
  induction os with
  | nil =>
    intro j e H f r h
    exact ⟨e, H, h, Grow.refl _, fun ι a w he hh _ Q k => k a w ι (AEq.refl _) he hh (Stp.refl _ _ _)⟩
  | cons o os ih =>
    intro j e H f r h
    simp only [opsK, frc_eq] at h
    split at h
    · rename_i hw
      obtain ⟨v, H1, h1, hnx, hS⟩ := opX_sound hT hC h
      -- whatever way on, the rest is run with v (or what v is) in its slot
      have rest : ∀ v1 : AV, (∀ ι x, VR ι v x → VR ι v1 x) → run C n (opsK T ops.toList (j + 1) os (putE e o.dst v1) f) H1 = some r →
          ∃ e1 H2, run C n (f e1) H2 = some r ∧ Grow H H2 ∧ ∀ (ι : Inj) (a : Act) (w : World), ER ι e a.tmps → HR ι H w → Gap ι H H2 → ∀ (Q : Exit → Act → World → Prop),
            (∀ a' w' ι', AEq a a' → ER ι' e1 a'.tmps → HR ι' H2 w' → Stp ι H w ι' H2 w' → Q .normal a' w') → wpList P ops Q (o :: os) a w := by
        intro v1 hv1 h2
        obtain ⟨e1, H2, h3, hnx2, hk⟩ := ih (j + 1) _ H1 f r h2
        refine ⟨e1, H2, h3, hnx.trans hnx2, fun ι a w he hh g Q k => ?_⟩
        unfold wpList
        rw [if_pos (wantedA_sound hw he)]
        refine .inl (hS ι a w he hh (g.left hnx2.nx) _ Q fun v' w' ι' hvr hh' hs' => ?_)
        have he' : ER ι' (putE e o.dst v1) (a.put o.dst v').tmps := (he.mono hs'.ext).put o.dst (hv1 _ _ hvr)
        refine hk ι' (a.put o.dst v') w' he' hh' (g.right hs') Q fun a2 w2 ι2 hd2 he2 hh2 hs2 => ?_
        exact k a2 w2 ι2 ((AEq.put a o.dst v').trans hd2) he2 hh2 (hs'.trans hs2 g)
      exact rest v (fun _ _ h => h) (guardK_run h1)
    · rename_i hw
      obtain ⟨e1, H2, h3, hnx2, hk⟩ := ih (j + 1) _ H f r h
      refine ⟨e1, H2, h3, hnx2, fun ι a w he hh g Q k => ?_⟩
      unfold wpList
      rw [if_neg (by rw [wantedA_sound hw he]; simp)]
      have he' : ER ι (putE e o.dst (.tu [])) (a.put o.dst undef).tmps := he.put o.dst ⟨[], rfl, rfl⟩
      refine hk ι (a.put o.dst undef) w he' hh g Q fun a2 w2 ι2 hd2 he2 hh2 hs2 => ?_
      exact k a2 w2 ι2 ((AEq.put a o.dst undef).trans hd2) he2 hh2 hs2
    · simp [run] at h
end ops
end Go.Proofs.YtpbhfolaoccpkaaGreat.Fw
set_option linter.unusedSimpArgs false
set_option linter.unusedVariables false
namespace Go.Proofs.YtpbhfolaoccpkaaGreat.Fw
open Go
/-! #### an operation sees its operands alone -/
def maskE (S : List Nat) (e : List AV) : List AV := (List.range e.length).map fun t => if S.contains t then e.getD t .un else .un
theorem maskE_length (S : List Nat) (e : List AV) : (maskE S e).length = e.length := by simp [maskE]
theorem maskE_get (S : List Nat) (e : List AV) (t : Nat) : (maskE S e).getD t .un = if S.contains t then e.getD t .un else .un := by
  by_cases h : t < e.length
  · simp [maskE, List.getD, h]
  · have h1 : (maskE S e).getD t .un = .un := by rw [List.getD, List.getElem?_eq_none (by rw [maskE_length]; omega)]; rfl
    have h2 : e.getD t .un = .un := by rw [List.getD, List.getElem?_eq_none (by omega)]; rfl
    rw [h1, h2]; simp

theorem opK_congr {T : TTab} {e e' : List AV} {o : Oper} (h : ∀ x ∈ o.op.operands.toList, ev e x = ev e' x) (f : AV → Tree) : opK T e o f = opK T e' o f := by
  have hl : ∀ l : List Operand, (∀ x ∈ l, ev e x = ev e' x) → evs e l = evs e' l := fun l hl => List.map_congr_left hl
  have hp : ∀ ps : Array (Nat × Operand), (∀ x ∈ ps.toList.map (·.2), ev e x = ev e' x) → (ps.toList.map fun p => (p.1, ev e p.2)) = (ps.toList.map fun p => (p.1, ev e' p.2)) := by
    intro ps hps
    apply List.map_congr_left
    intro p hp
    rw [hps p.2 (List.mem_map.2 ⟨p, hp, rfl⟩)]
  have ho : ∀ x : Option Operand, (∀ y ∈ x.toList, ev e y = ev e' y) → optI e x = optI e' x := by
    intro x hx
    cases x with
    | none => rfl
    | some y => simp only [optI, hx y (by simp)]
  cases hop : o.op with
  | move x => simp only [hop, Op.operands] at h; simp only [opK, hop]; rw [h x (by simp)]
  | assign x => simp only [hop, Op.operands] at h; simp only [opK, hop]; rw [h x (by simp)]
  | pick c a b => simp only [hop, Op.operands] at h; simp only [opK, hop]; rw [h c (by simp), h a (by simp), h b (by simp)]
  | box t x => simp only [hop, Op.operands] at h; simp only [opK, hop]; rw [h x (by simp)]
  | build t ps =>
    simp only [hop, Op.operands] at h
    have := hp ps (fun x hx => h x (by simpa using hx))
    simp only [opK, hop]; rw [this]
  | buildSlice t n ps =>
    simp only [hop, Op.operands] at h
    have := hp ps (fun x hx => h x (by simpa using hx))
    simp only [opK, hop]; rw [this]
  | load t a => simp only [hop, Op.operands] at h; simp only [opK, hop]; rw [h a (by simp)]
  | store t a x => simp only [hop, Op.operands] at h; simp only [opK, hop]; rw [h a (by simp), h x (by simp)]
  | nilCheck x => simp only [hop, Op.operands] at h; simp only [opK, hop]; rw [h x (by simp)]
  | binOp op t x y t' => simp only [hop, Op.operands] at h; simp only [opK, hop]; rw [h x (by simp), h y (by simp)]
  | unOp op t x => simp only [hop, Op.operands] at h; simp only [opK, hop]; rw [h x (by simp)]
  | convert s d x => simp only [hop, Op.operands] at h; simp only [opK, hop]; rw [h x (by simp)]
  | makeFunc fn fs cs =>
    simp only [hop, Op.operands] at h
    cases fn <;> simp only [opK, hop]
    rw [hl fs.toList (fun x hx => h x (by simp; left; simpa using hx)), hl cs.toList (fun x hx => h x (by simp; right; simpa using hx))]
  | makeSlice t l c => simp only [hop, Op.operands] at h; simp only [opK, hop]; rw [h l (by simp), h c (by simp)]
  | slice t x lo hi mx =>
    simp only [hop, Op.operands] at h
    simp only [opK, hop]
    rw [h x (by simp), ho lo (fun y hy => h y (by simp at hy ⊢; simp [hy])), ho hi (fun y hy => h y (by simp at hy ⊢; simp [hy])), ho mx (fun y hy => h y (by simp at hy ⊢; simp [hy]))]
  | fieldAddr t x j => simp only [hop, Op.operands] at h; simp only [opK, hop]; rw [h x (by simp)]
  | field t x j => simp only [hop, Op.operands] at h; simp only [opK, hop]; rw [h x (by simp)]
  | indexAddr t x j => simp only [hop, Op.operands] at h; simp only [opK, hop]; rw [h x (by simp), h j (by simp)]
  | index t x j => simp only [hop, Op.operands] at h; simp only [opK, hop]; rw [h x (by simp), h j (by simp)]
  | extract x j => simp only [hop, Op.operands] at h; simp only [opK, hop]; rw [h x (by simp)]
  | range t x => simp only [hop, Op.operands] at h; simp only [opK, hop]; rw [h x (by simp)]
  | next x b =>
    simp only [hop, Op.operands] at h
    cases b
    · simp only [opK, hop]
    · simp only [opK, hop]; rw [h x (by simp)]
  | call c =>
    simp only [hop, Op.operands, Call.operands] at h
    have ha : evs e c.args.toList = evs e' c.args.toList := hl _ (fun x hx => h x (by simp; right; simpa using hx))
    cases hc : c.callee with
    | builtin b => simp only [opK, hop, hc]; rw [ha]
    | value g => rw [hc] at h; simp only [opK, hop, hc]; rw [ha, h g (by simp)]
    | invoke a b => simp only [opK, hop, hc]
  | _ => simp only [opK, hop]

theorem ev_mask {ops : List Oper} {o : Oper} {e : List AV} : ∀ x ∈ o.op.operands.toList, ev e x = ev (maskE (readsG ops o) e) x := by
  intro x hx
  cases x with
  | tmp t =>
    simp only [ev]
    rw [maskE_get, if_pos]
    have : t ∈ readsG ops o := by
      unfold readsG readsOf
      exact List.mem_append.2 (.inl (List.mem_filterMap.2 ⟨.tmp t, hx, rfl⟩))
    simpa using this
  | _ => rfl
theorem wantedA_mask {ops : List Oper} {o : Oper} {e : List AV} : wantedA ops (maskE (readsG ops o) e) o = wantedA ops e o := by
  unfold wantedA
  cases hg : o.guard with
  | none => rfl
  | some g =>
    dsimp only
    cases hd : dstOf ops g.1 with
    | none => rfl
    | some t =>
      dsimp only
      rw [maskE_get, if_pos]
      unfold readsG
      rw [hg]; simp [hd]

end Go.Proofs.YtpbhfolaoccpkaaGreat.Fw
set_option linter.unusedSimpArgs false
set_option linter.unusedVariables false
namespace Go.Proofs.YtpbhfolaoccpkaaGreat.Fw
open Go
/-! #### what the one order tells -/
section tr
variable {P : Program} {T : TTab} {C : Ora} {n : Nat}

structure StepF (P : Program) (ops : List Oper) (o : Oper) (H H' : AH) (e e' : List AV) (v : AV) (wd : Bool) : Prop where
  w : wantedA ops e o = some wd
  en : e' = putE e o.dst v
  skip : wd = false → v = .tu [] ∧ H' = H
  pur : wd = true → clsOf o = .pure → H' = H ∧ PureS P o (maskE (readsG ops o) e) v
  load : wd = true → clsOf o = .load → H' = H ∧ ∃ q l x, ev (maskE (readsG ops o) e) x = .sc (.p (some q)) ∧ H.rd q.1 q.2 l.length = some l ∧ LoadS P o (maskE (readsG ops o) e) q l v
  alloc : wd = true → clsOf o = .alloc → ∃ l, H' = H.new (.cells false l) ∧ AllocS P o (maskE (readsG ops o) e) H.next l v
  eff : wd = true → clsOf o = .eff → Grow H H' ∧ OpS P o (maskE (readsG ops o) e) H v H'

theorem sames_run {A : List Nat} {j : Nat} {t : Tree} {H : AH} {r : Res} : ∀ {ls : Loads}, run C n (sames A j ls t) H = some r → run C n t H = some r ∧ ∀ x ∈ ls, tied A x.1 j = false → H.rd x.2.1 x.2.2.1 x.2.2.2.length = some x.2.2.2
  | [], h => ⟨h, by simp⟩
  | (i, id, off, l) :: ls, h => by
    simp only [sames] at h
    split at h
    · rename_i ht
      obtain ⟨h1, h2⟩ := sames_run h
      refine ⟨h1, fun x hx htx => ?_⟩
      cases hx with
      | head => rw [ht] at htx; cases htx
      | tail _ hm => exact h2 x hm htx
    · simp only [run] at h
      split at h
      case isFalse => cases h
      rename_i hrd
      obtain ⟨h1, h2⟩ := sames_run h
      refine ⟨h1, fun x hx htx => ?_⟩
      cases hx with
      | head => exact hrd
      | tail _ hm => exact h2 x hm htx

/-- the load of a place is looked at again behind each effect that isn't tied to it -/
def Again (A : List Nat) (js : List Nat) (ops : List Oper) (Hs : Nat → AH) (wd : Nat → Bool) (x : Nat × Nat × Nat × List Sc) : Prop :=
  ∀ p j o, js[p]? = some j → ops[j]? = some o → wd p = true → clsOf o = .eff → tied A x.1 j = false → (Hs (p + 1)).rd x.2.1 x.2.2.1 x.2.2.2.length = some x.2.2.2

theorem opsD_run (hT : TOk P T) (hC : OraOk P C) {ops : List Oper} {A : List Nat} {f : List AV → Tree} {r : Res} : ∀ (js : List Nat) (ls : Loads) (e : List AV) (H : AH), run C n (opsD T ops A js ls e f) H = some r →
    ∃ (Hs : Nat → AH) (es : Nat → List AV) (vs : Nat → AV) (wd : Nat → Bool), Hs 0 = H ∧ es 0 = e ∧ run C n (f (es js.length)) (Hs js.length) = some r ∧
      (∀ p j, js[p]? = some j → ∃ o, ops[j]? = some o ∧ StepF P ops o (Hs p) (Hs (p + 1)) (es p) (es (p + 1)) (vs p) (wd p)) ∧
      (∀ x ∈ ls, Again A js ops Hs wd x) ∧
      (∀ p j o, js[p]? = some j → ops[j]? = some o → wd p = true → clsOf o = .load → ∃ q l x, ev (maskE (readsG ops o) (es p)) x = .sc (.p (some q)) ∧ (Hs p).rd q.1 q.2 l.length = some l ∧ LoadS P o (maskE (readsG ops o) (es p)) q l (vs p) ∧
        ∀ p' j' o', p < p' → js[p']? = some j' → ops[j']? = some o' → wd p' = true → clsOf o' = .eff → tied A j j' = false → (Hs (p' + 1)).rd q.1 q.2 l.length = some l) := by
  intro js
  induction js with
  | nil =>
    intro ls e H h
    exact ⟨fun _ => H, fun _ => e, fun _ => .un, fun _ => false, rfl, rfl, h, by simp, fun x hx p j o hj => by simp at hj, by simp⟩
  | cons j js ih =>
    intro ls e H h
    simp only [opsD, frc_eq] at h
    split at h
    case h_1 => simp [run] at h
    rename_i o ho
    have hm : ∀ g : AV → Tree, opK T e o g = opK T (maskE (readsG ops o) e) o g := fun g => opK_congr ev_mask g
    -- the rest behind a value
    have fin : ∀ (v : AV) (H1 : AH) (wd0 : Bool) (ls' : Loads), run C n (opsD T ops A js ls' (putE e o.dst v) f) H1 = some r →
        StepF P ops o H H1 e (putE e o.dst v) v wd0 → (∀ x ∈ ls, x ∈ ls') → (wd0 = true → clsOf o = .eff → ∀ x ∈ ls, tied A x.1 j = false → H1.rd x.2.1 x.2.2.1 x.2.2.2.length = some x.2.2.2) →
        (wd0 = true → clsOf o = .load → ∃ q l x, ev (maskE (readsG ops o) e) x = .sc (.p (some q)) ∧ H.rd q.1 q.2 l.length = some l ∧ LoadS P o (maskE (readsG ops o) e) q l v ∧ (j, q.1, q.2, l) ∈ ls') →
        ∃ (Hs : Nat → AH) (es : Nat → List AV) (vs : Nat → AV) (wd : Nat → Bool), Hs 0 = H ∧ es 0 = e ∧ run C n (f (es (j :: js).length)) (Hs (j :: js).length) = some r ∧
          (∀ p j', (j :: js)[p]? = some j' → ∃ o, ops[j']? = some o ∧ StepF P ops o (Hs p) (Hs (p + 1)) (es p) (es (p + 1)) (vs p) (wd p)) ∧
          (∀ x ∈ ls, Again A (j :: js) ops Hs wd x) ∧
          (∀ p j' o, (j :: js)[p]? = some j' → ops[j']? = some o → wd p = true → clsOf o = .load → ∃ q l x, ev (maskE (readsG ops o) (es p)) x = .sc (.p (some q)) ∧ (Hs p).rd q.1 q.2 l.length = some l ∧ LoadS P o (maskE (readsG ops o) (es p)) q l (vs p) ∧
            ∀ p' j'' o', p < p' → (j :: js)[p']? = some j'' → ops[j'']? = some o' → wd p' = true → clsOf o' = .eff → tied A j' j'' = false → (Hs (p' + 1)).rd q.1 q.2 l.length = some l) := by
      intro v H1 wd0 ls' hrest hst hsub hsame hload
      obtain ⟨Hs, es, vs, wd, h0, h0', hr, h1, h2, h3⟩ := ih ls' _ H1 hrest
      refine ⟨fun p => match p with | 0 => H | p + 1 => Hs p, fun p => match p with | 0 => e | p + 1 => es p, fun p => match p with | 0 => v | p + 1 => vs p, fun p => match p with | 0 => wd0 | p + 1 => wd p, rfl, rfl, hr, ?_, ?_, ?_⟩
      · intro p j' hj
        cases p with
        | zero => simp at hj; subst hj; exact ⟨o, ho, by simpa only [h0, h0'] using hst⟩
        | succ p => exact h1 p j' (by simpa using hj)
      · intro x hx p j' o' hj ho' hw hc ht
        cases p with
        | zero =>
          simp at hj; subst hj
          rw [ho] at ho'; cases ho'
          dsimp only at hw ⊢
          rw [h0]; exact hsame hw hc x hx ht
        | succ p => exact h2 x (hsub x hx) p j' o' (by simpa using hj) ho' hw hc ht
      · intro p j' o' hj ho' hw hc
        cases p with
        | zero =>
          simp at hj; subst hj
          rw [ho] at ho'; cases ho'
          obtain ⟨q, l, x, a1, a2, a3, a4⟩ := hload hw hc
          refine ⟨q, l, x, a1, a2, a3, fun p' j'' o' hp hj' ho' hw' hc' ht => ?_⟩
          cases p' with
          | zero => omega
          | succ p' => exact h2 _ a4 p' j'' o' (by simpa using hj') ho' hw' hc' ht
        | succ p =>
          obtain ⟨q, l, x, a1, a2, a3, a4⟩ := h3 p j' o' (by simpa using hj) ho' hw hc
          refine ⟨q, l, x, a1, a2, a3, fun p' j'' o'' hp hj' ho' hw' hc' ht => ?_⟩
          cases p' with
          | zero => omega
          | succ p' => exact a4 p' j'' o'' (by omega) (by simpa using hj') ho' hw' hc' ht
    split at h
    · rename_i hw
      rw [hm] at h
      have tail : ∀ (v : AV) (H1 : AH), run C n (effK (clsOf o) (fun t => sames A j ls t) (guardK (guards ops j) v fun v => opsD T ops A js (noteLoad e j o v ls) (putE e o.dst v) f)) H1 = some r →
          run C n (opsD T ops A js (noteLoad e j o v ls) (putE e o.dst v) f) H1 = some r ∧ (clsOf o = .eff → ∀ x ∈ ls, tied A x.1 j = false → H1.rd x.2.1 x.2.2.1 x.2.2.2.length = some x.2.2.2) := by
        intro v H1 h
        unfold effK at h
        split at h
        · obtain ⟨h1, h2⟩ := sames_run h
          exact ⟨guardK_run h1, fun _ => h2⟩
        · rename_i hc
          exact ⟨guardK_run h, fun hc' => absurd hc' hc⟩
      have hsub : ∀ (v : AV), ∀ x ∈ ls, x ∈ noteLoad e j o v ls := by
        intro v x hx
        unfold noteLoad
        split
        · split
          · exact List.mem_cons_of_mem _ hx
          · exact hx
        · exact hx
      cases hcls : clsOf o with
      | pure =>
        obtain ⟨v, h1, hp⟩ := opP_sound hT hcls h
        obtain ⟨h2, _⟩ := tail v H h1
        refine fin v H true _ h2 ⟨hw, rfl, fun h => (by cases h), fun _ _ => ⟨rfl, hp⟩, fun _ h => (by rw [hcls] at h; cases h), fun _ h => (by rw [hcls] at h; cases h), fun _ h => (by rw [hcls] at h; cases h)⟩ (hsub v) (fun _ h => (by rw [hcls] at h; cases h)) (fun _ h => (by rw [hcls] at h; cases h))
      | load =>
        have hop : ∃ t x, o.op = .load t x := by
          unfold clsOf at hcls
          split at hcls <;> first | (exact ⟨_, _, by assumption⟩) | (split at hcls <;> cases hcls) | cases hcls
        obtain ⟨t, x, hop⟩ := hop
        obtain ⟨q, l, v, h1, hx, hl, hvc, hs⟩ := op_loadL hT hop h
        obtain ⟨h2, _⟩ := tail v H h1
        have hx' : ev e x = .sc (.p (some q)) := by rw [ev_mask (ops := ops) (o := o) x (by simp [hop, Op.operands])]; exact hx
        refine fin v H true _ h2 ⟨hw, rfl, fun h => (by cases h), fun _ h => (by rw [hcls] at h; cases h), fun _ _ => ⟨rfl, q, l, x, hx, hl, hs⟩, fun _ h => (by rw [hcls] at h; cases h), fun _ h => (by rw [hcls] at h; cases h)⟩ (hsub v) (fun _ h => (by rw [hcls] at h; cases h)) (fun _ _ => ⟨q, l, x, hx, hl, hs, ?_⟩)
        unfold noteLoad
        rw [hop]; simp only [hx', hvc]; exact List.mem_cons_self ..
      | alloc =>
        obtain ⟨l, v, h1, hs⟩ := opA_sound hT hcls h
        obtain ⟨h2, _⟩ := tail v _ h1
        exact fin v _ true _ h2 ⟨hw, rfl, fun h => (by cases h), fun _ h => (by rw [hcls] at h; cases h), fun _ h => (by rw [hcls] at h; cases h), fun _ _ => ⟨l, rfl, hs⟩, fun _ h => (by rw [hcls] at h; cases h)⟩ (hsub v) (fun _ h => (by rw [hcls] at h; cases h)) (fun _ h => (by rw [hcls] at h; cases h))
      | eff =>
        obtain ⟨v, H1, h1, hnx, hs⟩ := opK_sound hT hC h
        obtain ⟨h2, h3⟩ := tail v H1 h1
        exact fin v H1 true _ h2 ⟨hw, rfl, fun h => (by cases h), fun _ h => (by rw [hcls] at h; cases h), fun _ h => (by rw [hcls] at h; cases h), fun _ h => (by rw [hcls] at h; cases h), fun _ _ => ⟨hnx, hs⟩⟩ (hsub v) (fun _ _ => h3 hcls) (fun _ h => (by rw [hcls] at h; cases h))
    · rename_i hw
      exact fin (.tu []) H false _ h ⟨hw, rfl, fun _ => ⟨rfl, rfl⟩, fun h => (by cases h), fun h => (by cases h), fun h => (by cases h), fun h => (by cases h)⟩ (fun x hx => hx) (fun h => (by cases h)) (fun h => (by cases h))
    · simp [run] at h
end tr
end Go.Proofs.YtpbhfolaoccpkaaGreat.Fw
set_option linter.unusedSimpArgs false
set_option linter.unusedVariables false
namespace Go.Proofs.YtpbhfolaoccpkaaGreat.Fw
open Go
theorem nodupB_get : ∀ {l : List Nat} {p q x : Nat}, nodupB l = true → l[p]? = some x → l[q]? = some x → p = q
  | [], p, q, x, _, h, _ => by simp at h
  | y :: l, p, q, x, h, hp, hq => by
    simp only [nodupB, Bool.and_eq_true, Bool.not_eq_true'] at h
    have hmem : ∀ k : Nat, l[k]? = some y → False := by
      intro k hk
      have : y ∈ l := List.mem_of_getElem? hk
      have : l.contains y = true := by simpa using this
      rw [h.1] at this; cases this
    cases p with
    | zero =>
      simp at hp; subst hp
      cases q with
      | zero => rfl
      | succ q => exact (hmem q (by simpa using hq)).elim
    | succ p =>
      cases q with
      | zero => simp at hq; subst hq; exact (hmem p (by simpa using hp)).elim
      | succ q =>
        have : p = q := nodupB_get (x := x) h.2 (by simpa using hp) (by simpa using hq)
        rw [this]
theorem idxOf_get {l : List Nat} {p x : Nat} (h : nodupB l = true) (hp : l[p]? = some x) : l.idxOf x = p := by
  have hm : x ∈ l := List.mem_of_getElem? hp
  have h1 : l.idxOf x < l.length := List.idxOf_lt_length_of_mem hm
  have h2 : l[l.idxOf x]? = some x := by rw [List.getElem?_eq_getElem h1]; simp
  exact nodupB_get h h2 hp

/-- what okDraw says -/
structure OkD (A : List Nat) (ops : Array Oper) (L : List Nat) : Prop where
  len : L.length = ops.size
  nd : ∀ p q j : Nat, L[p]? = some j → L[q]? = some j → p = q
  mem : ∀ j : Nat, j < ops.size → ∃ p : Nat, L[p]? = some j
  lt : ∀ p j : Nat, L[p]? = some j → j < ops.size
  direct : ∀ (j : Nat) o e, ops[j]? = some o → e ∈ o.after.toList → bindsA e = true → isAhead A e.on j = true ∧ e.on < ops.size ∧ e.on ≠ j
  guard : ∀ (j : Nat) o g b, ops[j]? = some o → o.guard = some (g, b) → isAhead A g j = true
  back : ∀ (i j : Nat) o, ops[j]? = some o → i < ops.size → i ≠ j → isAhead A i j = true → ∃ e ∈ o.after.toList, bindsA e = true ∧ (e.on = i ∨ isAhead A i e.on = true)
  pos : ∀ p q i j : Nat, L[p]? = some i → L[q]? = some j → i ≠ j → isAhead A i j = true → p < q
  clash : ∀ (i j : Nat) o o', ops[i]? = some o → ops[j]? = some o' → i ≠ j → clashG ops.toList o o' = true → tied A i j = true
  eff : ∀ (i j : Nat) o o', ops[i]? = some o → ops[j]? = some o' → i ≠ j → clsOf o = .eff → clsOf o' = .eff → tied A i j = true
  load : ∀ (p q i j : Nat) o o', L[p]? = some i → L[q]? = some j → ops[i]? = some o → ops[j]? = some o' → i ≠ j → clsOf o = .load → clsOf o' = .eff → tied A i j = true ∨ p < q

theorem OkD.of {A : List Nat} {ops : Array Oper} {L : List Nat} (h : okDraw A ops.toList L = true) : OkD A ops L := by
  simp only [okDraw, Bool.and_eq_true, beq_iff_eq, Array.length_toList] at h
  obtain ⟨⟨⟨hlen, hnd⟩, hlt⟩, hall⟩ := h
  have hj := fun (j : Nat) (o : Oper) (ho : ops[j]? = some o) => List.all_eq_true.1 hall j (by
    have : j < ops.size := by
      rcases Nat.lt_or_ge j ops.size with h' | h'
      · exact h'
      · simp [Array.getElem?_eq_none h'] at ho
    simpa using this)
  have hsz : ∀ (j : Nat) o, ops[j]? = some o → j < ops.size := by
    intro j o ho
    rcases Nat.lt_or_ge j ops.size with h' | h'
    · exact h'
    · simp [Array.getElem?_eq_none h'] at ho
  have hget : ∀ (j : Nat) o, ops[j]? = some o → ops.toList[j]? = some o := fun j o ho => by simpa using ho
  have pair : ∀ (i j : Nat) o o', ops[i]? = some o → ops[j]? = some o' → i ≠ j →
      ((!isAhead A i j || (decide (L.idxOf i < L.idxOf j) && o'.after.toList.any fun e => bindsA e && (e.on == i || isAhead A i e.on))) = true ∧
       (!(clashG ops.toList o o') || tied A i j) = true ∧ (!(clsOf o == .eff && clsOf o' == .eff) || tied A i j) = true ∧
       (!(clsOf o == .load && clsOf o' == .eff) || tied A i j || decide (L.idxOf i < L.idxOf j)) = true) := by
    intro i j o o' hi hj' hne
    have h1 := hj j o' hj'
    rw [hget j o' hj'] at h1
    simp only [Bool.and_eq_true] at h1
    have h2 := List.all_eq_true.1 h1.2 i (by simpa using hsz i o hi)
    rw [hget i o hi] at h2
    simp only [Bool.or_eq_true, beq_iff_eq, hne, false_or, Bool.and_eq_true] at h2
    simp only [Bool.or_eq_true, Bool.and_eq_true]
    exact ⟨h2.1.1.1, h2.1.1.2, h2.1.2, h2.2⟩
  refine ⟨hlen, fun p q j => nodupB_get hnd, ?_, ?_, ?_, ?_, ?_, ?_, ?_, ?_, ?_⟩
  · intro j hjl
    obtain ⟨o, ho⟩ : ∃ o, ops[j]? = some o := ⟨ops[j], by simp [hjl]⟩
    have h1 := hj j o ho
    rw [hget j o ho] at h1
    simp only [Bool.and_eq_true] at h1
    have : j ∈ L := by simpa using h1.1.1.1
    exact List.mem_iff_getElem?.1 this
  · intro p j hp
    have := List.all_eq_true.1 hlt j (List.mem_of_getElem? hp)
    simpa using this
  · intro j o e ho he hb
    have h1 := hj j o ho
    rw [hget j o ho] at h1
    simp only [Bool.and_eq_true] at h1
    have := List.all_eq_true.1 h1.1.1.2 e he
    simp [hb] at this
    exact ⟨this.1.1, this.1.2, this.2⟩
  · intro j o g b ho hg
    have h1 := hj j o ho
    rw [hget j o ho] at h1
    simp only [Bool.and_eq_true, hg] at h1
    exact h1.1.2
  · intro i j o ho hi hne ha
    obtain ⟨o', ho'⟩ : ∃ o, ops[i]? = some o := ⟨ops[i], by simp [hi]⟩
    have := (pair i j o' o ho' ho hne).1
    simp only [ha, Bool.not_true, Bool.false_or, Bool.and_eq_true, List.any_eq_true, Bool.or_eq_true, beq_iff_eq] at this
    obtain ⟨_, e, he, hb, h3⟩ := this
    exact ⟨e, he, hb, h3⟩
  · intro p q i j hp hq hne ha
    have hi : i < ops.size := by have := List.all_eq_true.1 hlt i (List.mem_of_getElem? hp); simpa using this
    have hj2 : j < ops.size := by have := List.all_eq_true.1 hlt j (List.mem_of_getElem? hq); simpa using this
    have := (pair i j ops[i] ops[j] (by simp [hi]) (by simp [hj2]) hne).1
    simp only [ha, Bool.not_true, Bool.false_or, Bool.and_eq_true, decide_eq_true_eq] at this
    have h1 := this.1
    rwa [idxOf_get hnd hp, idxOf_get hnd hq] at h1
  · intro i j o o' hi hj' hne hc
    have := (pair i j o o' hi hj' hne).2.1
    simpa [hc] using this
  · intro i j o o' hi hj' hne h1 h2
    have := (pair i j o o' hi hj' hne).2.2.1
    simpa [h1, h2] using this
  · intro p q i j o o' hp hq hi hj' hne h1 h2
    have := (pair i j o o' hi hj' hne).2.2.2
    simp only [h1, h2, Bool.or_eq_true, decide_eq_true_eq] at this
    rw [idxOf_get hnd hp, idxOf_get hnd hq] at this
    simpa using this

theorem HR.grow {ι : Inj} {H H' : AH} {w : World} (h : HR ι H w) (hn : H.next ≤ H'.next) (ho : ∀ id, id < H.next → H'.obj id = H.obj id) (hf : ∀ id, H'.next ≤ id → H'.obj id = none)
    (hm : ∀ id d o, ι id = some d → H.next ≤ id → H'.obj id = some o → OR ι d w o) : HR ι H' w := by
  refine ⟨?_, ?_, h.lt, hf⟩
  · intro id d o hd hob
    by_cases hlt : id < H.next
    · rw [ho id hlt] at hob; exact h.obj id d o hd hob
    · exact hm id d o hd (by omega) hob
  · intro a b da db hne ha hb h1 h2
    have al : ∀ id, Alive H' id → Alive H id := by
      intro id hal
      by_cases hlt : id < H.next
      · rcases hal with hal | hal
        · omega
        · rw [ho id hlt] at hal; exact .inr hal
      · exact .inl (by omega)
    exact h.inj a b da db hne ha hb (al a h1) (al b h2)
/-- an object that is there already is laid into memory -/
theorem HR.link {ι : Inj} {H : AH} {w : World} (h : HR ι H w) {id : Nat} {ob : Obj} {d : IB} (g : ι id = none) (hb : d.blk = w.heap.size)
    (ho : ∀ o, H.obj id = some o → OR (ι.add id d) d (w.alloc ob) o) : HR (ι.add id d) H (w.alloc ob) := by
  have old : ∀ b, b < w.heap.size → (w.alloc ob).heap[b]? = w.heap[b]? := by
    intro b hb; show (w.heap.push ob)[b]? = _; rw [Array.getElem?_push, if_neg (by omega)]
  have hle := Inj.le_add (d := d) g
  refine ⟨?_, ?_, ?_, h.fut⟩
  · intro j dj oj hj hoj
    unfold Inj.add at hj
    split at hj
    · rename_i e; cases hj; subst e; exact ho oj hoj
    · exact (h.obj j dj oj hj hoj).mono hle (old _ (h.lt j dj hj))
  · intro a b da db hne ha hb' h1 h2
    unfold Inj.add at ha hb'
    by_cases ea : a = id
    · rw [if_pos ea] at ha; cases ha
      rw [if_neg (fun e => hne (ea.trans e.symm))] at hb'
      have := h.lt b db hb'; right; omega
    · rw [if_neg ea] at ha
      by_cases eb : b = id
      · rw [if_pos eb] at hb'; cases hb'
        have := h.lt a da ha; right; omega
      · rw [if_neg eb] at hb'
        exact h.inj a b da db hne ha hb' h1 h2
  · intro a da ha
    unfold Inj.add at ha
    split at ha
    · cases ha; simp; omega
    · have := h.lt a da ha; simp; omega
theorem Inj.add_ne {ι : Inj} {id j : Nat} {d : IB} (h : j ≠ id) : ι.add id d j = ι j := by simp [Inj.add, h]

end Go.Proofs.YtpbhfolaoccpkaaGreat.Fw
