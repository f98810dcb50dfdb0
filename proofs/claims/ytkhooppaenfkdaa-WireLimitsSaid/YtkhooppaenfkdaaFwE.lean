/- The operations that only compute, against the model's. -/
import Derived.Test.YtkhooppaenfkdaaFwD
namespace Go.Proofs.Ytkhooppaenfkdaa.Fw
open Go

structure ER (ι : Inj) (e : List AV) (tmps : Array Value) : Prop where
  size : e.length ≤ tmps.size
  get : ∀ t, VR ι (e.getD t .un) (tmps.getD t undef)

theorem ER.mono {ι ι' : Inj} {e : List AV} {tmps : Array Value} (h : ER ι e tmps) (hle : ι.le ι') : ER ι' e tmps := ⟨h.size, fun t => VR.mono hle (h.get t)⟩
theorem ER.put {ι : Inj} {e : List AV} {a : Act} (h : ER ι e a.tmps) (d : Option Nat) {v : AV} {v' : Value} (hv : VR ι v v') : ER ι (putE e d v) (a.put d v').tmps := by
  cases d with
  | none => exact h
  | some t =>
    refine ⟨by simpa [putE, Act.put] using h.size, fun s => ?_⟩
    simp only [putE, Act.put]
    by_cases hs : s = t
    · subst hs
      by_cases hl : s < e.length
      · have : s < a.tmps.size := Nat.lt_of_lt_of_le hl h.size
        simpa [List.getD, hl, this] using hv
      · have : (e.set s v).getD s .un = .un := by
          rw [List.getD, List.getElem?_eq_none (by simp; omega)]; rfl
        rw [this]; trivial
    · have h1 : (e.set t v).getD s .un = e.getD s .un := by simp [List.getD, Ne.symm hs]
      have h2 : (a.tmps.setIfInBounds t v').getD s undef = a.tmps.getD s undef := by simp [Ne.symm hs]
      rw [h1, h2]; exact h.get s

/-- the same frame but for what slots hold -/
def AEq (a0 a : Act) : Prop := a.defers = a0.defers ∧ a.tmps.size = a0.tmps.size
theorem AEq.refl (a : Act) : AEq a a := ⟨rfl, rfl⟩
theorem AEq.trans {a b c : Act} (h : AEq a b) (g : AEq b c) : AEq a c := ⟨g.1.trans h.1, g.2.trans h.2⟩
theorem AEq.put (a : Act) (d : Option Nat) (v : Value) : AEq a (a.put d v) := by cases d <;> simp [AEq, Act.put]

theorem ev_sound {ι : Inj} {e : List AV} {a : Act} (h : ER ι e a.tmps) (x : Operand) : VR ι (ev e x) (a.eval x) := by
  cases x with
  | tmp t => exact h.get t
  | const v => exact constAV_sound v ι
  | global g => trivial
  | func f => exact ⟨[], [], rfl, rfl, rfl⟩

def OpS (P : Program) (o : Oper) (e : List AV) (H : AH) (v : AV) (H1 : AH) : Prop :=
  ∀ (ι : Inj) (a : Act) (w : World), ER ι e a.tmps → HR ι H w → Gap ι H H1 → ∀ (next : Act → World → Prop) (Q : Exit → Act → World → Prop),
    (∀ v' w' ι', VR ι' v v' → HR ι' H1 w' → Stp ι H w ι' H1 w' → next (a.put o.dst v') w') → o.wp P a w next Q
def Done (P : Program) (o : Oper) (e : List AV) (C : Ora) (n : Nat) (H : AH) (f : AV → Tree) (r : Res) : Prop :=
  ∃ v H1, run C n (f v) H1 = some r ∧ Grow H H1 ∧ OpS P o e H v H1

/-- an operation that only computes -/
def PureS (P : Program) (o : Oper) (e : List AV) (v : AV) : Prop :=
  ∀ (ι : Inj) (a : Act) (w : World), ER ι e a.tmps → ∃ v', (execOp a.eval o).run P w = .ok (.value v') w ∧ VR ι v v'
def DoneP (P : Program) (o : Oper) (e : List AV) (C : Ora) (n : Nat) (H : AH) (f : AV → Tree) (r : Res) : Prop :=
  ∃ v, run C n (f v) H = some r ∧ PureS P o e v

section pure_ops
variable {P : Program} {T : TTab} {o : Oper} {e : List AV} {C : Ora} {n : Nat} {H : AH} {f : AV → Tree} {r : Res}

theorem Done.pure {v : AV} (h : run C n (f v) H = some r) (hp : ∀ ι (a : Act) (w : World), ER ι e a.tmps → HR ι H w → ∃ v', (execOp a.eval o).run P w = .ok (.value v') w ∧ VR ι v v') : Done P o e C n H f r := by
  refine ⟨v, H, h, Grow.refl _, fun ι a w he hh _ next Q k => ?_⟩
  obtain ⟨v', h1, h2⟩ := hp ι a w he hh
  unfold Oper.wp
  rw [h1]
  exact k v' w ι h2 hh (Stp.refl _ _ _)

theorem DoneP.of {v : AV} (h : run C n (f v) H = some r) (hp : ∀ ι (a : Act) (w : World), ER ι e a.tmps → True → ∃ v', (execOp a.eval o).run P w = .ok (.value v') w ∧ VR ι v v') : DoneP P o e C n H f r :=
  ⟨v, h, fun ι a w he => hp ι a w he trivial⟩
theorem DoneP.done (h : DoneP P o e C n H f r) : Done P o e C n H f r := by
  obtain ⟨v, h1, h2⟩ := h
  exact Done.pure h1 fun ι a w he _ => h2 ι a w he

/-- what a list of fields or parts says of two aggregates -/
theorem eqTD_sound {td : TD} {x y : Sc} {r : Bool} (h : eqTD td x y = some r) {P : Program} {t : Nat} {d : TypeDesc} (hu : P.underlying t = some d) (hd : tdm td d = true) {ι : Inj} {v v' : Value} (hx : SR ι x v) (hy : SR ι y v') (k : Nat) (w : World) :
    (Op.equalIn (k + 1) t v v').run P w = .ok r w := by
  unfold eqTD at h
  split at h
  · split at h
    · cases h; subst_vars
      cases tdm_int hd
      exact run_equalIn_int w _ t _ _ _ _ hu
    · cases h
  · cases h; cases hx; cases hy; cases tdm_bool hd; exact run_equalIn_bool w _ t _ _ hu
  · cases h; cases hx; cases hy; cases tdm_str hd; exact run_equalIn_string w _ t _ _ hu
  · cases h

theorem run_part_agg {P : Program} {t : Nat} {i : TI} (hi : tiOk P t i = true) (ha : isAggD i.d = true) (cs : Array Value) (off : Nat) (w : World) : (part t cs off).run P w = .ok (.agg (cs.extract off (off + i.size))) w := by
  simp [part, TI.run_agg hi, ha, TI.run_size hi]
theorem run_part_one {P : Program} {t : Nat} {i : TI} (hi : tiOk P t i = true) (ha : isAggD i.d = false) (cs : Array Value) (off : Nat) (v : Value) (hv : cs[off]? = some v) (w : World) : (part t cs off).run P w = .ok v w := by
  simp [part, TI.run_agg hi, ha, hv]

theorem eqF_sound {P : Program} {T : TTab} (hT : TOk P T) : ∀ (d t : Nat) (a b : List Sc) (r : Bool), eqF T d t a b = some r → ∀ (ι : Inj) (va vb : List Value), LR ι a va → LR ι b vb → ∀ (k : Nat) (w : World), d ≤ k →
    (∀ i fs, T.get t = some i → i.d = .struct fs → (Op.equalIn k t (.agg ⟨va⟩) (.agg ⟨vb⟩)).run P w = .ok r w) ∧
    (∀ i, T.get t = some i → isAggD i.d = false → ∃ x y, va = [x] ∧ vb = [y] ∧ (Op.equalIn k t x y).run P w = .ok r w) := by
  intro d
  induction d with
  | zero => intro t a b r h; simp [eqF] at h
  | succ d ih =>
    intro t a b r h ι va vb ha hb k w hk
    obtain ⟨k, rfl⟩ : ∃ m, k = m + 1 := ⟨k - 1, by omega⟩
    simp only [eqF] at h
    cases hg : T.get t with
    | none => rw [hg] at h; cases h
    | some i =>
      have hi := hT t i hg
      obtain ⟨dd, hu, hm⟩ := TI.und hi
      rw [hg] at h; dsimp only at h
      refine ⟨?_, ?_⟩
      · intro i' fs hi' hfs
        cases hi'
        rw [hfs] at h hm; dsimp only at h
        split at h
        case isFalse => cases h
        rename_i hlen
        obtain ⟨fa, rfl, hfa, hnm⟩ := tdm_struct hm
        have hf0 : P.fieldsOf t = fa := by simp [Program.fieldsOf, hu]
        rw [run_equalIn_struct w k t ⟨va⟩ ⟨vb⟩ (by rw [hf0]; exact hu) (TI.struct hi hfs).2, hf0]
        clear hf0 hm hu
        have key : ∀ (L : List Field) (r : Bool), eqFs T (eqF T d) (L.map fun f => (f.offset, f.type)) a b = some r → (∀ f ∈ L, f.name ≠ "_") → (Op.eqFields k ⟨va⟩ ⟨vb⟩ L).run P w = .ok r w := by
          intro L
          induction L with
          | nil => intro r h _; simp [eqFs] at h; subst h; rfl
          | cons fl L ihL =>
            intro r h hn
            simp only [List.map_cons, eqFs] at h
            cases hfg : T.get fl.type with
            | none => rw [hfg] at h; cases h
            | some fi =>
              rw [hfg] at h; dsimp only at h
              split at h
              case h_2 => cases h
              rename_i r1 s hr1 hs
              cases h
              have hfi := hT _ _ hfg
              have hA := ha.drop fl.offset |>.take fi.size
              have hB := hb.drop fl.offset |>.take fi.size
              obtain ⟨h1, h2⟩ := ih fl.type _ _ r1 hr1 ι _ _ hA hB k w (by omega)
              have hL := ihL s hs (fun g hg => hn g (by simp [hg]))
              simp only [Op.eqFields, if_pos (hn fl (by simp)), Sem.run_bind]
              have step : ∃ x y, (part fl.type ⟨va⟩ fl.offset).run P w = .ok x w ∧ (part fl.type ⟨vb⟩ fl.offset).run P w = .ok y w ∧ (Op.equalIn k fl.type x y).run P w = .ok r1 w := by
                cases hag : isAggD fi.d with
                | true =>
                  refine ⟨_, _, run_part_agg hfi hag _ _ w, run_part_agg hfi hag _ _ w, ?_⟩
                  have e1 : ∀ (l : List Value), (Array.mk l).extract fl.offset (fl.offset + fi.size) = ⟨(l.drop fl.offset).take fi.size⟩ := by
                    intro l; apply Array.ext'; simp
                  rw [e1, e1]
                  cases hfd : fi.d with
                  | struct fs' => exact h1 fi fs' hfg hfd
                  | arr nn ee => 
                    exfalso
                    cases d with
                    | zero => simp [eqF] at hr1
                    | succ d =>
                      simp only [eqF, hfg, hfd] at hr1
                      split at hr1
                      · simp [eqTD] at hr1
                      · cases hr1
                  | _ => rw [hfd] at hag; simp [isAggD] at hag
                | false =>
                  obtain ⟨x, y, hx, hy, he⟩ := h2 fi hfg hag
                  have g1 : ∀ (l : List Value) z, (l.drop fl.offset).take fi.size = [z] → (Array.mk l)[fl.offset]? = some z := by
                    intro l z hz
                    have : ((l.drop fl.offset).take fi.size)[0]? = some z := by rw [hz]; rfl
                    rw [List.getElem?_take] at this
                    split at this
                    · simpa using this
                    · cases this
                  exact ⟨x, y, run_part_one hfi hag _ _ x (g1 va x hx) w, run_part_one hfi hag _ _ y (g1 vb y hy) w, he⟩
              obtain ⟨x, y, hx, hy, he⟩ := step
              rw [hx]; simp only [Result.andThen_ok, hy, he]
              cases r1
              · simp
              · simp [hL]
        exact key fa.toList r (by rw [hfa]; exact h) hnm
      · intro i' hi' hag
        cases hi'
        split at h
        · rename_i fs hfs; rw [hfs] at hag; simp [isAggD] at hag
        · split at h
          · rename_i x y
            obtain ⟨v, l1, rfl, hx, h1⟩ := ha
            obtain ⟨v', l2, rfl, hy, h2⟩ := hb
            cases h1; cases h2
            exact ⟨v, v', rfl, rfl, eqTD_sound h hu hm hx hy k w⟩
          · cases h
end pure_ops

end Go.Proofs.Ytkhooppaenfkdaa.Fw
