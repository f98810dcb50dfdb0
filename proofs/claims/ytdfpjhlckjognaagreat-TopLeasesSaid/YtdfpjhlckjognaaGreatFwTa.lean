/- Regions, whole; then code. -/
import Derived.Test.YtdfpjhlckjognaaGreatFwR
import Derived.Scope
import Derived.ScopeJumps
import Derived.RangeFuncOwn
import Derived.TacticsIn
set_option linter.unusedSimpArgs false
set_option linter.unusedVariables false
set_option linter.unusedSectionVars false
namespace Go.Proofs.YtdfpjhlckjognaaGreat.Fw
open Go
section
variable {P : Program} {T : TTab} {C : Ora} {n : Nat}
theorem StepF.grow {ops : List Oper} {o : Oper} {H H' : AH} {e e' : List AV} {v : AV} {wd : Bool} (s : StepF P ops o H H' e e' v wd) : Grow H H' := by
  cases hw : wd with
  | false => rw [(s.skip hw).2]; exact Grow.refl _
  | true =>
    cases hc : clsOf o with
    | pure => rw [(s.pur hw hc).1]; exact Grow.refl _
    | load => rw [(s.load hw hc).1]; exact Grow.refl _
    | alloc => obtain ⟨l, h, _⟩ := s.alloc hw hc; rw [h]; exact Grow.new _ _
    | eff => exact (s.eff hw hc).1
theorem region_sound (hT : TOk P T) (hC : OraOk P C) (hmix : P.follows .mixedOrders = true) {id : Nat} {ops : Array Oper} {draw : Bool} {e : List AV} {H : AH} {f : List AV → Tree} {r : Res} (h : run C n (regionK T ops.toList draw e f) H = some r) :
    ∃ e1 H1, run C n (f e1) H1 = some r ∧ Grow H H1 ∧ ∀ (ι : Inj) (a : Act) (w : World), ER ι e a.tmps → HR ι H w → Gap ι H H1 → ∀ (Q : Exit → Act → World → Prop),
      (∀ a' w' ι', AEq a a' → ER ι' e1 a'.tmps → HR ι' H1 w' → Stp ι H w ι' H1 w' → Q .normal a' w') → (Code.region id ops draw).wp P Q a w := by
  unfold regionK at h
  cases draw with
  | false =>
    simp only [Bool.false_eq_true, if_false] at h
    obtain ⟨e1, H1, h1, h2, h3⟩ := opsK_sound hT hC ops ops.toList 0 e H f r h
    exact ⟨e1, H1, h1, h2, fun ι a w he hh g Q k => wp_region_list (h3 ι a w he hh g Q k)⟩
  | true =>
    simp only [if_true] at h
    split at h
    case isFalse => simp [run] at h
    rename_i hok
    generalize hL : eager (aheads ops.toList) ops.toList ops.toList.length (List.range ops.toList.length) [] = L at h hok
    have ok := OkD.of hok
    obtain ⟨Hs, es, vs, wd, h0, h0', hr, h1, _, h3⟩ := opsD_run hT hC L [] e H h
    have grow : ∀ p, p ≤ L.length → Grow (Hs 0) (Hs p) := by
      intro p
      induction p with
      | zero => intro _; exact Grow.refl _
      | succ p ih =>
        intro hp
        obtain ⟨o, _, s⟩ := h1 p L[p] (by simp)
        exact (ih (by omega)).trans s.grow
    refine ⟨es L.length, Hs L.length, hr, by rw [← h0]; exact grow _ (Nat.le_refl _), fun ι a w he hh g Q k => ?_⟩
    refine wp_region_draw fun t => ?_
    have hsch : Region.schedule (P.follows .mixedOrders) ops t = Region.linearise .any ops t := by unfold Region.schedule; simp [hmix]
    rw [hsch]
    unfold Region.linearise
    refine wpAny_sound _ _ _ _ _ ?_
    let c : Ctx := ⟨P, ops, aheads ops.toList, L, Hs, es, vs, wd, fun p => ops.getD (L.getD p 0) ⟨none, .move (.func 0), 0, "", #[], none⟩⟩
    have hget : ∀ p, p < L.length → L[p]? = some (L.getD p 0) := by intro p hp; simp [List.getD, hp]
    have hop : ∀ p, p < L.length → ∀ o, ops[L.getD p 0]? = some o → c.op p = o := by
      intro p hp o ho
      show ops.getD (L.getD p 0) _ = o
      rw [Array.getD_eq_getD_getElem?, ho]; rfl
    have hc : CtxOk c := by
      refine ⟨by show ∀ id, (Hs 0).next ≤ id → (Hs 0).obj id = none; rw [h0]; exact hh.fut, ok, ?_, ?_, ?_⟩
      · intro p hp
        obtain ⟨o, ho, _⟩ := h1 p _ (hget p hp)
        have ho : ops[L.getD p 0]? = some o := by simpa using ho
        rw [hop p hp o ho]; exact ho
      · intro p hp
        obtain ⟨o, ho, s⟩ := h1 p _ (hget p hp)
        have ho : ops[L.getD p 0]? = some o := by simpa using ho
        rw [hop p hp o ho]; exact s
      · intro p hp hw hcl
        obtain ⟨o, ho, s⟩ := h1 p _ (hget p hp)
        have ho' : ops[L.getD p 0]? = some o := by simpa using ho
        rw [hop p hp o ho'] at hcl ⊢
        obtain ⟨q, l, x, a1, a2, a3, a4⟩ := h3 p _ o (hget p hp) ho hw hcl
        refine ⟨q, l, x, a1, a2, a3, fun p' hp1 hp2 hw' hcl' ht => ?_⟩
        obtain ⟨o', ho2, _⟩ := h1 p' _ (hget p' hp2)
        have ho2' : ops[L.getD p' 0]? = some o' := by simpa using ho2
        rw [hop p' hp2 o' ho2'] at hcl'
        exact a4 p' _ o' hp1 (hget p' hp2) ho2 hw' hcl' ht
    have g0 : Gap ι (c.Hs 0) (c.Hs c.N) := by show Gap ι (Hs 0) (Hs L.length); rw [h0]; exact g
    have hh0 : HR ι (c.Hs 0) { w with drawn := w.drawn + 1 } := by show HR ι (Hs 0) _; rw [h0]; exact hh.same_heap rfl
    obtain ⟨τ, I⟩ := Inv.init hc (a0 := a) g0 (by show ER ι (es 0) a.tmps; rw [h0']; exact he) hh0
    refine any_order hc g0 (w0 := { w with drawn := w.drawn + 1 }) (fun a' w' ι' x1 x2 x3 x4 => ?_) ops.size (List.range ops.size) _ τ ι a _ I (by simp) (fun i hi _ => by simpa using hi)
    refine k a' w' ι' x1 x2 x3 ?_
    have x4 : Stp ι (Hs 0) { w with drawn := w.drawn + 1 } ι' (Hs L.length) w' := x4
    rw [h0] at x4
    exact (Stp.same_heap (w := w) (w' := { w with drawn := w.drawn + 1 }) ⟨rfl, rfl, rfl, rfl⟩).trans x4 g
end
end Go.Proofs.YtdfpjhlckjognaaGreat.Fw
set_option linter.unusedSimpArgs false
set_option linter.unusedVariables false
set_option linter.unusedSectionVars false
namespace Go.Proofs.YtdfpjhlckjognaaGreat.Fw
open Go
def ExC : Ex → Exit
  | .nrm => .normal
  | .ret => .ret
  | .exit id => .exit id
  | .goto l => .goto l
theorem tag_inj : ∀ {x y : Ex}, x.tag = y.tag → x = y
  | .nrm, .nrm, _ => rfl
  | .nrm, .ret, h => by simp [Ex.tag] at h
  | .nrm, .exit _, h => by simp only [Ex.tag] at h; omega
  | .nrm, .goto _, h => by simp only [Ex.tag] at h; omega
  | .ret, .nrm, h => by simp [Ex.tag] at h
  | .ret, .ret, _ => rfl
  | .ret, .exit _, h => by simp only [Ex.tag] at h; omega
  | .ret, .goto _, h => by simp only [Ex.tag] at h; omega
  | .exit _, .nrm, h => by simp only [Ex.tag] at h; omega
  | .exit _, .ret, h => by simp only [Ex.tag] at h; omega
  | .exit _, .exit _, h => by simp only [Ex.tag] at h; congr 1; omega
  | .exit _, .goto _, h => by simp only [Ex.tag] at h; omega
  | .goto _, .nrm, h => by simp only [Ex.tag] at h; omega
  | .goto _, .ret, h => by simp only [Ex.tag] at h; omega
  | .goto _, .exit _, h => by simp only [Ex.tag] at h; omega
  | .goto _, .goto _, h => by simp only [Ex.tag] at h; congr 1; omega
section
variable {P : Program} {T : TTab} {C : Ora} {n : Nat}
theorem disp_run {tag : Nat} {f : Ex → Tree} {H : AH} {r : Res} : ∀ {xs : List Ex}, run C n (disp tag f xs) H = some r → ∃ y, tag = y.tag ∧ run C n (f y) H = some r
  | [], h => by simp [disp, run] at h
  | x :: xs, h => by
    simp only [disp, run] at h
    split at h
    · exact ⟨x, by assumption, h⟩
    · exact disp_run h
theorem dispS_run {tag : Nat} {f : Ex → Tree} {H : AH} {r : Res} : ∀ {xs : List Ex}, run C n (dispS tag f xs) H = some r → ∃ y, tag = y.tag + 1 ∧ run C n (f y) H = some r
  | [], h => by simp [dispS, run] at h
  | x :: xs, h => by
    simp only [dispS, run] at h
    split at h
    · exact ⟨x, by assumption, h⟩
    · exact dispS_run h
theorem decE_run {l : List AV} {f : List AV → Tree} {H : AH} {r : Res} : ∀ (ks : Keep) (j : Nat) (e0 : List AV), run C n (decE l j ks e0 f) H = some r →
    ∃ e', run C n (f e') H = some r ∧ ∀ (ι : Inj) (tmps : Array Value), ER ι e0 tmps → (∀ (i : Nat) t c, ks[i]? = some (t, c) → VR ι (l.getD (j + i) .un) (tmps.getD t undef)) → ER ι e' tmps
  | [], j, e0, h => ⟨e0, h, fun ι tmps he _ => he⟩
  | (t, c) :: ks, j, e0, h => by
    simp only [decE, frc_eq] at h
    have h := decV_run h
    obtain ⟨e', h1, h2⟩ := decE_run ks (j + 1) _ h
    refine ⟨e', h1, fun ι tmps he hk => h2 ι tmps ?_ (fun i t' c' hi => by have := hk (i + 1) t' c' (by simpa using hi); rwa [show j + (i + 1) = j + 1 + i by omega] at this)⟩
    refine ⟨by simpa using he.size, fun s => ?_⟩
    by_cases e : s = t
    · subst e
      by_cases hl : s < e0.length
      · have : (e0.set s (l.getD j .un)).getD s .un = l.getD j .un := by simp [List.getD, hl]
        rw [this]; have := hk 0 s c rfl; simpa using this
      · have : (e0.set s (l.getD j .un)).getD s .un = .un := by rw [List.getD, List.getElem?_eq_none (by simp; omega)]; rfl
        rw [this]; trivial
    · have : (e0.set t (l.getD j .un)).getD s .un = e0.getD s .un := by simp [List.getD, Ne.symm e]
      rw [this]; exact he.get s
theorem keepL_get {ks : Keep} {e : List AV} {i t : Nat} {c : Ck} (h : ks[i]? = some (t, c)) : (keepL ks e).getD i .un = e.getD t .un := by
  simp [keepL, List.getD, h]
theorem keepL_ER {ks : Keep} {e : List AV} {ι : Inj} {tmps : Array Value} (h : ER ι e tmps) (i t : Nat) (c : Ck) (hi : ks[i]? = some (t, c)) : VR ι ((keepL ks e).getD i .un) (tmps.getD t undef) := by
  rw [keepL_get hi]; exact h.get t
theorem blank_ER {nt : Nat} {ι : Inj} {tmps : Array Value} (h : nt ≤ tmps.size) : ER ι (blank nt) tmps := by
  refine ⟨by simpa [blank] using h, fun t => ?_⟩
  have : (blank nt).getD t .un = .un := by
    by_cases ht : t < nt <;> simp [blank, List.getD, ht]
  rw [this]; trivial
def RestWp (P : Program) : Code → Nat → (Exit → Act → World → Prop) → Act → World → Prop
  | .seq x y, l, Q, a, w => if hasLabel x l = true then RestWp P x l (Exit.then (y.wp P Q) Q) a w else RestWp P y l Q a w
  | .label l', l, Q, a, w => l' = l ∧ Q .normal a w
  | _, _, _, _, _ => False
theorem find_has : ∀ (c : Code) (l : Nat), (findLabel c l).isSome = hasLabel c l
  | .seq a b, l => by
    have h1 := find_has a l
    have h2 := find_has b l
    simp only [findLabel, hasLabel]
    cases h : findLabel a l with
    | some r => rw [h] at h1; simp at h1; simp [← h1]
    | none => rw [h] at h1; simp at h1; simp [h1, h2]
  | .label l', l => by simp only [findLabel, hasLabel]; split <;> simp_all
  | .skip, l => rfl
  | .region .., l => rfl
  | .cond .., l => rfl
  | .block .., l => rfl
  | .loop _, l => rfl
  | .rangeFunc .., l => rfl
  | .exit _, l => rfl
  | .scope _, l => rfl
  | .goto _, l => rfl
  | .ret, l => rfl
  | .refuse _, l => rfl
theorem has_in : ∀ (c : Code) (l : Nat), hasLabel c l = (labelsIn c).contains l
  | .seq a b, l => by simp only [hasLabel, labelsIn, has_in a l, has_in b l]; simp
  | .label l', l => by
    by_cases h : l' = l
    · subst h; simp [hasLabel, labelsIn]
    · simp [hasLabel, labelsIn, h, Ne.symm h]
  | .skip, l => rfl
  | .region .., l => rfl
  | .cond .., l => rfl
  | .block .., l => rfl
  | .loop _, l => rfl
  | .rangeFunc .., l => rfl
  | .exit _, l => rfl
  | .scope _, l => rfl
  | .goto _, l => rfl
  | .ret, l => rfl
  | .refuse _, l => rfl
theorem nodupB_append {l m : List Nat} (h : nodupB (l ++ m) = true) : nodupB l = true ∧ nodupB m = true ∧ ∀ x, l.contains x = true → m.contains x = false := by
  induction l with
  | nil => exact ⟨rfl, h, by simp⟩
  | cons a l ih =>
    simp only [List.cons_append, nodupB, Bool.and_eq_true, Bool.not_eq_true'] at h
    obtain ⟨h1, h2, h3⟩ := ih h.2
    have ha : l.contains a = false ∧ m.contains a = false := by
      have := h.1
      simp only [List.contains_eq_mem, List.mem_append, decide_eq_false_iff_not, not_or] at this ⊢
      exact this
    refine ⟨by simp only [nodupB, Bool.and_eq_true, Bool.not_eq_true']; exact ⟨ha.1, h1⟩, h2, fun x hx => ?_⟩
    by_cases e : x = a
    · subst e; exact ha.2
    · exact h3 x (by simpa [e] using hx)
theorem RestWp.rest : ∀ (c : Code) (l : Nat) (Q : Exit → Act → World → Prop) (a : Act) (w : World) (r : Code), RestWp P c l Q a w → findLabel c l = some r → r.wp P Q a w
  | .seq x y, l, Q, a, w, r, h, hf => by
    simp only [RestWp] at h
    simp only [findLabel] at hf
    have hh := find_has x l
    cases hx : findLabel x l with
    | some r' =>
      rw [hx] at hf hh; cases hf
      rw [if_pos (by simpa using hh.symm)] at h
      exact wp_seq (RestWp.rest x l _ a w r' h hx)
    | none =>
      rw [hx] at hf hh
      rw [if_neg (by rw [← hh]; simp)] at h
      exact RestWp.rest y l Q a w r h hf
  | .label l', l, Q, a, w, r, h, hf => by
    obtain ⟨rfl, hq⟩ := h
    simp [findLabel] at hf
    subst hf
    exact wp_skip hq
def LoopAt (P : Program) (c : Code) (Q : Exit → Act → World → Prop) (a : Act) (w : World) : Prop :=
  ∀ (b : Frame) (k : List Item) (cs : List Frame), ∃ e a' w', Q e a' w' ∧ Arrives P (lone (b.at a (.code c :: .inLoop c :: k)) cs w) b k cs e a' w'
theorem LoopAt.wp {c : Code} {Q : Exit → Act → World → Prop} {a : Act} {w : World} (h : LoopAt P c Q a w) : (Code.loop c).wp P Q a w := by
  intro b k cs
  obtain ⟨e, a', w', hq, harr⟩ := h b k cs
  exact ⟨e, a', w', hq, .of_steps (.one step_loop) harr⟩
theorem LoopAt.round {c : Code} {Q : Exit → Act → World → Prop} {a : Act} {w : World} (h : c.wp P (Exit.then (fun a' w' => LoopAt P c Q a' w') Q) a w) : LoopAt P c Q a w := by
  intro b k cs
  obtain ⟨e, a₁, w₁, hq, harr⟩ := h b (.inLoop c :: k) cs
  cases e with
  | normal =>
    obtain ⟨e₂, a₂, w₂, hq₂, harr₂⟩ := hq b k cs
    exact ⟨e₂, a₂, w₂, hq₂, .of_steps (Steps.trans harr (.one step_inLoop)) harr₂⟩
  | exit id => exact ⟨_, a₁, w₁, hq, .pass (x := .inLoop c) rfl (fun _ _ => .inl (by simp)) harr⟩
  | goto l => exact ⟨_, a₁, w₁, hq, .pass (x := .inLoop c) rfl (fun _ _ => .inl (by simp)) harr⟩
  | ret => exact ⟨_, a₁, w₁, hq, .pass (x := .inLoop c) rfl (fun _ _ => .inl (by simp)) harr⟩
  | panic ch => exact ⟨_, a₁, w₁, hq, .pass (x := .inLoop c) rfl (fun _ _ => .inl (by simp)) harr⟩
  | outgrown => exact ⟨_, a₁, w₁, hq, .pass (x := .inLoop c) rfl (fun _ _ => .inl (by simp)) harr⟩
def ScopeAt (P : Program) (c : Code) (l : Nat) (Q : Exit → Act → World → Prop) (a : Act) (w : World) : Prop :=
  ∀ rest, findLabel c l = some rest → ∀ (b : Frame) (k : List Item) (cs : List Frame), ∃ e a' w', Q e a' w' ∧ Arrives P (lone (b.at a (.code rest :: .inScope c :: k)) cs w) b k cs e a' w'
def QS (P : Program) (c : Code) (Q : Exit → Act → World → Prop) : Exit → Act → World → Prop
  | .goto l, a, w => if (labelsIn c).contains l = true then ScopeAt P c l Q a w else Q (.goto l) a w
  | e, a, w => Q e a w
theorem scope_leave {c : Code} {Q : Exit → Act → World → Prop} {m : Machine} {b : Frame} {k : List Item} {cs : List Frame} {e : Exit} {a₁ : Act} {w₁ : World} (hq : QS P c Q e a₁ w₁) (harr : Arrives P m b (.inScope c :: k) cs e a₁ w₁) :
    ∃ e a' w', Q e a' w' ∧ Arrives P m b k cs e a' w' := by
  cases e with
  | normal => exact ⟨.normal, a₁, w₁, hq, Steps.trans harr (.one step_inScope)⟩
  | exit id => exact ⟨.exit id, a₁, w₁, hq, fun k' hk => harr k' (by simp [exitTo, hk])⟩
  | goto l =>
    have hh := find_has c l
    rw [has_in] at hh
    simp only [QS] at hq
    split at hq
    · rename_i hl
      rw [hl] at hh
      obtain ⟨rest, hr⟩ := Option.isSome_iff_exists.1 hh
      obtain ⟨e₂, a₂, w₂, hq₂, harr₂⟩ := hq rest hr b k cs
      exact ⟨e₂, a₂, w₂, hq₂, .of_steps (harr _ (by simp [gotoIn, hr])) harr₂⟩
    · rename_i hl
      have hn : findLabel c l = none := by
        cases hf : findLabel c l with
        | none => rfl
        | some r => rw [hf] at hh; simp at hh hl; exact absurd hh hl
      exact ⟨.goto l, a₁, w₁, hq, fun k' hk => harr k' (by simp [gotoIn, hn, hk])⟩
  | ret => exact ⟨_, a₁, w₁, hq, harr⟩
  | panic ch => exact ⟨_, a₁, w₁, hq, harr⟩
  | outgrown => exact ⟨_, a₁, w₁, hq, harr⟩
theorem wp_scope_QS {c : Code} {Q : Exit → Act → World → Prop} {a : Act} {w : World} (h : c.wp P (QS P c Q) a w) : (Code.scope c).wp P Q a w := by
  intro b k cs
  obtain ⟨e, a₁, w₁, hq, harr⟩ := h b (.inScope c :: k) cs
  obtain ⟨e₂, a₂, w₂, hq₂, harr₂⟩ := scope_leave hq harr
  exact ⟨e₂, a₂, w₂, hq₂, .of_steps (b := b) (.one step_scope) harr₂⟩
theorem RestWp.scopeAt {c : Code} {l : Nat} {Q : Exit → Act → World → Prop} {a : Act} {w : World} (h : RestWp P c l (QS P c Q) a w) : ScopeAt P c l Q a w := by
  intro rest hr b k cs
  obtain ⟨e, a₁, w₁, hq, harr⟩ := RestWp.rest c l _ a w rest h hr b (.inScope c :: k) cs
  exact scope_leave hq harr
end
end Go.Proofs.YtdfpjhlckjognaaGreat.Fw
set_option linter.unusedSimpArgs false
set_option linter.unusedVariables false
set_option linter.unusedSectionVars false
namespace Go.Proofs.YtdfpjhlckjognaaGreat.Fw
open Go
abbrev WF (ρ : Option Nat) : Fence := { Fence.wide with round := ρ }
theorem WF.calls {ρ : Option Nat} {n : Nat} {P : Program} {f : FuncId} {args : Array Value} {w : World} {R : Ending → World → Prop} (h : Calls P f args w R) : CallsIn (WF ρ) n P f args w R := (callsIn_wide (n := n)).2 h
theorem WF.rows {ρ : Option Nat} {n : Nat} {P : Program} {row : String} {args : Array Value} {w : World} {R : Value → World → Prop} (h : Rows P row args w R) : RowsIn (WF ρ) n P row args w R :=
  fun c cs _ => let ⟨v, w', r, s⟩ := h c cs; ⟨v, w', r, stepsIn_wide.2 s⟩
section
variable {P : Program} {T : TTab} {C : Ora} {n m : Nat} {ρ : Option Nat}
theorem op_in {o : Oper} {a : Act} {w : World} {next : Act → World → Prop} {Q : Exit → Act → World → Prop} (hd : ∀ c, o.op ≠ .defer c) (h : o.wp P a w next Q) : o.wpIn (WF ρ) m P a w next Q := by
  refine ⟨fun f _ => trivial, ?_⟩
  have hs : o.semAt (WF ρ).round a.eval = execOp a.eval o := by
    unfold Oper.semAt
    split
    · rename_i hc; exact absurd hc (hd _)
    · rfl
  rw [hs]
  unfold Oper.wp at h
  generalize (execOp a.eval o).run P w = res at h
  unfold Oper.upon at h
  unfold Oper.uponIn
  split at h
  · exact h
  · exact h
  · exact h
  · exact ⟨(fun h => by cases h), WF.calls h⟩
  · exact ⟨(fun h => by cases h), WF.rows h⟩
  · exact h
  · exact h.elim
theorem opX_nodefer {e : List AV} {o : Oper} {f : AV → Tree} {H : AH} {r : Res} (h : run C n (opX T e o f) H = some r) : ∀ c, o.op ≠ .defer c := by
  intro c hc
  simp [opX, opK, hc, run] at h
theorem opsIn_sound (hT : TOk P T) (hC : OraOk P C) (ops : Array Oper) : ∀ (os : List Oper) (j : Nat) (e : List AV) (H : AH) (f : List AV → Tree) (r : Res), run C n (opsK T ops.toList j os e f) H = some r →
    ∃ e1 H1, run C n (f e1) H1 = some r ∧ Grow H H1 ∧ ∀ (ρ : Option Nat) (m : Nat) (ι : Inj) (a : Act) (w : World), ER ι e a.tmps → HR ι H w → Gap ι H H1 → ∀ (Q : Exit → Act → World → Prop),
      (∀ a' w' ι', AEq a a' → ER ι' e1 a'.tmps → HR ι' H1 w' → Stp ι H w ι' H1 w' → Q .normal a' w') → wpListIn (WF ρ) m P ops Q os a w := by
  intro os
  induction os with
  | nil =>
    intro j e H f r h
    exact ⟨e, H, h, Grow.refl _, fun ρ m ι a w he hh _ Q k => k a w ι (AEq.refl _) he hh (Stp.refl _ _ _)⟩
  | cons o os ih =>
    intro j e H f r h
    simp only [opsK, frc_eq] at h
    split at h
    · rename_i hw
      have hnd := opX_nodefer h
      obtain ⟨v, H1, h1, hnx, hS⟩ := opX_sound hT hC h
      obtain ⟨e1, H2, h3, hnx2, hk⟩ := ih (j + 1) _ H1 f r (guardK_run h1)
      refine ⟨e1, H2, h3, hnx.trans hnx2, fun ρ m ι a w he hh g Q k => ?_⟩
      unfold wpListIn
      rw [if_pos (wantedA_sound hw he)]
      refine op_in hnd (hS ι a w he hh (g.left hnx2.nx) _ Q fun v' w' ι' hvr hh' hs' => ?_)
      have he' : ER ι' (putE e o.dst v) (a.put o.dst v').tmps := (he.mono hs'.ext).put o.dst hvr
      refine hk ρ m ι' (a.put o.dst v') w' he' hh' (g.right hs') Q fun a2 w2 ι2 hd2 he2 hh2 hs2 => ?_
      exact k a2 w2 ι2 ((AEq.put a o.dst v').trans hd2) he2 hh2 (hs'.trans hs2 g)
    · rename_i hw
      obtain ⟨e1, H2, h3, hnx2, hk⟩ := ih (j + 1) _ H f r h
      refine ⟨e1, H2, h3, hnx2, fun ρ m ι a w he hh g Q k => ?_⟩
      unfold wpListIn
      rw [if_neg (by rw [wantedA_sound hw he]; simp)]
      have he' : ER ι (putE e o.dst (.tu [])) (a.put o.dst undef).tmps := he.put o.dst ⟨[], rfl, rfl⟩
      refine ⟨fun f _ => trivial, hk ρ m ι (a.put o.dst undef) w he' hh g Q fun a2 w2 ι2 hd2 he2 hh2 hs2 => ?_⟩
      exact k a2 w2 ι2 ((AEq.put a o.dst undef).trans hd2) he2 hh2 hs2
    · simp [run] at h
theorem simple_sound {hs : Hints} {nt : Nat} (hT : TOk P T) (hC : OraOk P C) : ∀ (c : Code), simpleC c = true → ∀ (e : List AV) (H : AH) (k : Ex → List AV → Tree) (r : Res), run C n (exec T hs nt c none [] e k) H = some r →
    ∃ x e1 H1, run C n (k x e1) H1 = some r ∧ Grow H H1 ∧ ∀ (ρ : Option Nat) (m : Nat) (ι : Inj) (a : Act) (w : World), nt ≤ a.tmps.size → ER ι e a.tmps → HR ι H w → Gap ι H H1 → ∀ (Q : Exit → Act → World → Prop),
      (∀ a' w' ι', AEq a a' → ER ι' e1 a'.tmps → HR ι' H1 w' → Stp ι H w ι' H1 w' → Q (ExC x) a' w') → c.wpIn (WF ρ) m P Q a w := by
  intro c
  induction c with
  | seq x y hx hy =>
    intro hc e H k r h
    simp only [simpleC, Bool.and_eq_true] at hc
    simp only [exec] at h
    obtain ⟨z, e1, H1, h1, h2, h3⟩ := hx hc.1 e H _ r h
    by_cases hz : z = .nrm
    · subst hz
      obtain ⟨z2, e2, H2, k1, k2, k3⟩ := hy hc.2 e1 H1 k r h1
      refine ⟨z2, e2, H2, k1, h2.trans k2, fun ρ m ι a w hnt he hh g Q hq => wpIn_seq (h3 ρ m ι a w hnt he hh (g.left k2.nx) _ fun a' w' ι' x1 x2 x3 x4 => ?_)⟩
      exact k3 ρ m ι' a' w' (by rw [x1.2]; exact hnt) x2 x3 (g.right x4) Q fun a2 w2 ι2 y1 y2 y3 y4 => hq a2 w2 ι2 (x1.trans y1) y2 y3 (x4.trans y4 g)
    · refine ⟨z, e1, H1, by cases z <;> first | exact absurd rfl hz | exact h1, h2, fun ρ m ι a w hnt he hh g Q hq => wpIn_seq (h3 ρ m ι a w hnt he hh g _ fun a' w' ι' x1 x2 x3 x4 => ?_)⟩
      have q1 := hq a' w' ι' x1 x2 x3 x4
      cases z <;> first | exact absurd rfl hz | exact q1
  | region id ops draw =>
    intro hc e H k r h
    cases draw with
    | true => cases hc
    | false =>
      simp only [exec, regionK, Bool.false_eq_true, if_false] at h
      obtain ⟨e1, H1, h1, h2, h3⟩ := opsIn_sound hT hC ops ops.toList 0 e H _ r h
      exact ⟨.nrm, e1, H1, h1, h2, fun ρ m ι a w _ he hh g Q hq => wpIn_region_list (h3 ρ m ι a w he hh g Q hq)⟩
  | cond c x y hx hy =>
    intro hc e H k r h
    simp only [simpleC, Bool.and_eq_true] at hc
    simp only [exec] at h
    split at h
    case h_2 => simp [run] at h
    rename_i t ht
    have hev : ∀ (ι : Inj) (a : Act), ER ι e a.tmps → a.eval c = .bool t := by
      intro ι a he; have := ev_sound he c; rw [ht] at this; exact this
    split at h
    · rename_i ks hks
      simp only [run, obind_eq] at h
      obtain ⟨⟨⟨tag, l⟩, Hm⟩, h1, h2⟩ := h
      have arm : ∃ z e1, tag = z.tag ∧ l = keepL (kx ks z) e1 ∧ Grow H Hm ∧ ∀ (ρ : Option Nat) (m : Nat) (ι : Inj) (a : Act) (w : World), nt ≤ a.tmps.size → ER ι e a.tmps → HR ι H w → Gap ι H Hm → ∀ (Q : Exit → Act → World → Prop),
          (∀ a' w' ι', AEq a a' → ER ι' e1 a'.tmps → HR ι' Hm w' → Stp ι H w ι' Hm w' → Q (ExC z) a' w') → (if t then x else y).wpIn (WF ρ) m P Q a w := by
        cases t with
        | true =>
          simp only [cond_true] at h1
          obtain ⟨z, e1, H1, g1, g2, g3⟩ := hx hc.1 e H _ _ h1
          simp only [run, Option.some.injEq, Prod.mk.injEq] at g1
          obtain ⟨⟨rfl, rfl⟩, rfl⟩ := g1
          exact ⟨z, e1, rfl, rfl, g2, fun ρ m ι a w hnt he hh g Q hq => g3 ρ m ι a w hnt he hh g Q hq⟩
        | false =>
          simp only [cond_false] at h1
          obtain ⟨z, e1, H1, g1, g2, g3⟩ := hy hc.2 e H _ _ h1
          simp only [run, Option.some.injEq, Prod.mk.injEq] at g1
          obtain ⟨⟨rfl, rfl⟩, rfl⟩ := g1
          exact ⟨z, e1, rfl, rfl, g2, fun ρ m ι a w hnt he hh g Q hq => g3 ρ m ι a w hnt he hh g Q hq⟩
      obtain ⟨z, e1, rfl, rfl, ag, aw⟩ := arm
      obtain ⟨y', hy', h3⟩ := disp_run h2
      obtain rfl := tag_inj hy'
      obtain ⟨e', h4, h5⟩ := decE_run _ _ _ h3
      refine ⟨z, e', Hm, h4, ag, fun ρ m ι a w hnt he hh g Q hq => wpIn_cond (hev ι a he) (aw ρ m ι a w hnt he hh g Q fun a' w' ι' x1 x2 x3 x4 => hq a' w' ι' x1 (h5 ι' _ (blank_ER (by rw [x1.2]; exact hnt)) (fun i t c hi => by rw [Nat.zero_add]; exact keepL_ER x2 i t c hi)) x3 x4)⟩
    · cases t with
      | true =>
        simp only [cond_true] at h
        obtain ⟨z, e1, H1, g1, g2, g3⟩ := hx hc.1 e H _ _ h
        exact ⟨z, e1, H1, g1, g2, fun ρ m ι a w hnt he hh g Q hq => wpIn_cond (hev ι a he) (g3 ρ m ι a w hnt he hh g Q hq)⟩
      | false =>
        simp only [cond_false] at h
        obtain ⟨z, e1, H1, g1, g2, g3⟩ := hy hc.2 e H _ _ h
        exact ⟨z, e1, H1, g1, g2, fun ρ m ι a w hnt he hh g Q hq => wpIn_cond (hev ι a he) (g3 ρ m ι a w hnt he hh g Q hq)⟩
  | block id x hx =>
    intro hc e H k r h
    simp only [exec] at h
    obtain ⟨z, e1, H1, g1, g2, g3⟩ := hx hc e H _ _ h
    refine ⟨_, e1, H1, g1, g2, fun ρ m ι a w hnt he hh g Q hq => wpIn_block (g3 ρ m ι a w hnt he hh g _ fun a' w' ι' x1 x2 x3 x4 => ?_)⟩
    have := hq a' w' ι' x1 x2 x3 x4
    cases z with
    | exit id' =>
      by_cases hid : id' = id
      · subst hid; simpa [ExC, Exit.inBlock] using this
      · have hne : Ex.exit id' ≠ Ex.exit id := fun h => hid (by cases h; rfl)
        rw [if_neg hne] at this
        simp only [ExC, Exit.inBlock, if_neg hid]
        exact this
    | nrm => simpa [ExC, Exit.inBlock] using this
    | ret => simpa [ExC, Exit.inBlock] using this
    | goto l => simpa [ExC, Exit.inBlock] using this
  | skip =>
    intro _ e H k r h
    exact ⟨.nrm, e, H, h, Grow.refl _, fun ρ m ι a w _ he hh _ Q hq => wpIn_skip (hq a w ι (AEq.refl _) he hh (Stp.refl _ _ _))⟩
  | exit id =>
    intro _ e H k r h
    exact ⟨.exit id, e, H, h, Grow.refl _, fun ρ m ι a w _ he hh _ Q hq => wpIn_exit (hq a w ι (AEq.refl _) he hh (Stp.refl _ _ _))⟩
  | _ => intro hc; cases hc
end
end Go.Proofs.YtdfpjhlckjognaaGreat.Fw
