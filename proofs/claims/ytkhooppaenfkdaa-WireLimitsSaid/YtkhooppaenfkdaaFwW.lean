/- Functions: the oracle of a program's own functions is sound. -/
import Derived.Test.YtkhooppaenfkdaaFwV
set_option linter.unusedSimpArgs false
set_option linter.unusedVariables false
set_option linter.unusedSectionVars false
namespace Go.Proofs.Ytkhooppaenfkdaa.Fw
open Go

section
variable {P : Program} {T : TTab} {C : Ora} {n : Nat}

def resOne (tmps : Array Value) : ResultVar → Sem Value
  | .tmp t => pure (tmps.getD t undef)
  | .cell c t => do loadVar t (← asAddr (tmps.getD c undef))
theorem results_eq (fn : Func) (tmps : Array Value) : results fn tmps = (do
    let vs ← fn.results.mapM (resOne tmps)
    pure (if h : vs.size = 1 then vs[0] else .tuple vs)) := by
  have : (fun (x : ResultVar) => (match x with
        | .tmp t => (pure (tmps.getD t undef) : Sem Value)
        | .cell c t => do loadVar t (← asAddr (tmps.getD c undef)))) = resOne tmps := by
    funext x; cases x <;> rfl
  unfold results
  rw [← this]
  rfl
theorem resK_run (hT : TOk P T) {H : AH} {r : Res} : ∀ (rs : List ResultVar) (e : List AV) (f : List AV → Tree), run C n (resK T rs e f) H = some r →
    ∃ vs, run C n (f vs) H = some r ∧ ∀ (ι : Inj) (a : Act) (w : World), ER ι e a.tmps → HR ι H w →
      ∃ vals, (rs.mapM (resOne a.tmps)).run P w = .ok vals w ∧ VRs ι vs vals
  | [], e, f, h => ⟨[], h, fun ι a w _ _ => ⟨[], rfl, rfl⟩⟩
  | .tmp t :: rs, e, f, h => by
    simp only [resK] at h
    obtain ⟨vs, h1, h2⟩ := resK_run hT rs e _ h
    refine ⟨_ :: vs, h1, fun ι a w he hh => ?_⟩
    obtain ⟨vals, h3, h4⟩ := h2 ι a w he hh
    exact ⟨a.tmps.getD t undef :: vals, by simp [List.mapM_cons, resOne, h3], _, _, rfl, he.get t, h4⟩
  | .cell c t :: rs, e, f, h => by
    simp only [resK] at h
    split at h
    case h_2 => simp [run] at h
    rename_i i q hg hx
    split at h
    · simp [run] at h
    rename_i hnt
    simp only [run, obind_eq] at h
    obtain ⟨l, hl, h⟩ := h
    have hlen : l.length = i.size := by
      unfold AH.rd at hl
      split at hl
      · split at hl
        · cases hl; simp; omega
        · cases hl
      · cases hl
    have read : ∀ (ι : Inj) (a : Act) (w : World), ER ι e a.tmps → HR ι H w → ∃ d vs, ι q.1 = some d ∧ a.tmps.getD c undef = .pointer (some ⟨d.blk, d.base + q.2, none⟩) ∧ LR ι l vs ∧ ∀ (j : Nat) v, vs[j]? = some v → w.cell? ⟨d.blk, d.base + q.2 + j, none⟩ = some v := by
      intro ι a w he hh
      have := he.get c
      rw [hx] at this
      obtain ⟨d, hd, hv⟩ := this
      obtain ⟨vs, h1, h2, h3, h4⟩ := hh.read hd hl
      exact ⟨d, vs, hd, hv, h1, h4⟩
    have htup : ∀ ts, i.d ≠ .tup ts := fun ts hts => by rw [hts] at hnt; simp [notTup] at hnt
    rcases decT_run (hT _ _ hg) htup hlen h with ⟨ha, h⟩ | ⟨ha, x', hx', h⟩
    · obtain ⟨vs, h1, h2⟩ := resK_run hT rs e _ h
      refine ⟨_ :: vs, h1, fun ι a w he hh => ?_⟩
      obtain ⟨vals, h3, h4⟩ := h2 ι a w he hh
      obtain ⟨d, ws, hd, ea, r1, r2⟩ := read ι a w he hh
      obtain ⟨v, hv, hs⟩ := (loadVar_run hT hg r1 hlen r2).1 ha
      exact ⟨v :: vals, by simp [List.mapM_cons, resOne, h3, ea, asAddr, hv], _, _, rfl, hs, h4⟩
    · obtain ⟨vs, h1, h2⟩ := resK_run hT rs e _ h
      refine ⟨_ :: vs, h1, fun ι a w he hh => ?_⟩
      obtain ⟨vals, h3, h4⟩ := h2 ι a w he hh
      obtain ⟨d, ws, hd, ea, r1, r2⟩ := read ι a w he hh
      obtain ⟨v, hv, hs⟩ := (loadVar_run hT hg r1 hlen r2).2 ha x' hx'
      exact ⟨v :: vals, by simp [List.mapM_cons, resOne, h3, ea, asAddr, hv], _, _, rfl, hs, h4⟩

theorem packC_VR {ι : Inj} : ∀ {vs : List AV} {l : List CV} {vals : List Value}, packC vs = some l → VRs ι vs vals → All2 (CR ι) l vals
  | [], l, vals, h, hv => by simp [packC] at h; subst h; exact hv
  | .sc x :: vs, l, vals, h, ⟨y, ys, e, h1, h2⟩ => by
    simp only [packC, Option.map_eq_some_iff] at h
    obtain ⟨l', h, rfl⟩ := h
    exact ⟨y, ys, e, h1, packC_VR h h2⟩
  | .ag x :: vs, l, vals, h, ⟨y, ys, e, h1, h2⟩ => by
    simp only [packC, Option.map_eq_some_iff] at h
    obtain ⟨l', h, rfl⟩ := h
    exact ⟨y, ys, e, h1, packC_VR h h2⟩
  | .un :: _, _, _, h, _ => by simp [packC] at h
  | .tu _ :: _, _, _, h, _ => by simp [packC] at h
theorem packR_VR {ι : Inj} {vs : List AV} {v : AV} {vals : List Value} (h : packR vs = some v) (hv : VRs ι vs vals) :
    VR ι v (if h : vals.toArray.size = 1 then vals.toArray[0] else .tuple vals.toArray) := by
  have hl := All2.length hv
  unfold packR at h
  split at h
  · cases h
    obtain ⟨y, ys, rfl, h1, h2⟩ := hv
    cases h2
    exact h1
  · rename_i hne
    have h1 : ¬ vals.toArray.size = 1 := by
      intro h1
      have : vs.length = 1 := by simpa [hl] using h1
      match vs, this with
      | [v], _ => exact hne v rfl
    rw [dif_neg h1]
    simp only [Option.map_eq_some_iff] at h
    obtain ⟨l, h, rfl⟩ := h
    exact ⟨vals, packC_VR h hv, rfl⟩

theorem enter_ER {ι : Inj} {args : List AV} {vals : List Value} (h : VRs ι args vals) (m : Nat) :
    ER ι (args ++ blank (m - args.length)) ((⟨vals⟩ : Array Value) ++ Array.replicate (m - (⟨vals⟩ : Array Value).size) undef) := by
  have hl := All2.length h
  refine ⟨by simp [blank, hl], fun t => ?_⟩
  by_cases ht : t < args.length
  · have h1 : (args ++ blank (m - args.length)).getD t .un = args[t] := by simp [List.getD, List.getElem?_append_left ht, ht]
    rw [h1]
    obtain ⟨y, hy, hr⟩ := h.get t args[t] (by simp [ht])
    have h2 : ((⟨vals⟩ : Array Value) ++ Array.replicate (m - (⟨vals⟩ : Array Value).size) undef).getD t undef = y := by
      rw [Array.getD_eq_getD_getElem?, Array.getElem?_append_left (by simp; omega)]
      simp [hy]
    rw [h2]; exact hr
  · have h1 : (args ++ blank (m - args.length)).getD t .un = .un := by
      rw [List.getD, List.getElem?_append_right (by omega)]
      by_cases h2 : t - args.length < m - args.length <;> simp [blank, h2]
    rw [h1]; trivial

/-- no function of the program is the one that the machine answers itself -/
def NoOdd (P : Program) : Prop := ∀ (f : FuncId) (fn : Func), P.funcs[f]? = some fn → (fn.body.isSome = true → (fn.name == "runtime.NumGoroutine") = false) ∧ (fn.body = none → extNames.contains fn.name = true → Extern.findNext fn = none)
def oddB (fn : Func) : Bool := match fn.body with
  | some _ => !(fn.name == "runtime.NumGoroutine")
  | none => !(extNames.contains fn.name) || (Extern.findNext fn).isNone
def noOddB (P : Program) : Bool := P.funcs.toList.all oddB
theorem NoOdd.of (h : noOddB P = true) : NoOdd P := by
  intro f fn hf
  have hm : fn ∈ P.funcs.toList := by
    have : P.funcs.toList[f]? = some fn := by simpa using hf
    exact List.mem_of_getElem? this
  have := List.all_eq_true.1 h fn hm
  unfold oddB at this
  refine ⟨fun hb => ?_, fun hb hn => ?_⟩
  · obtain ⟨c, hc⟩ := Option.isSome_iff_exists.1 hb
    rw [hc] at this
    simpa using this
  · rw [hb] at this
    simp only [hn, Bool.not_true, Bool.false_or] at this
    exact Option.isNone_iff_eq_none.1 this

theorem callA_sound (hT : TOk P T) (hmix : P.follows .mixedOrders = true) (hodd : NoOdd P) (hs : Nat → Hints) : ∀ n, OraOk P (callA P T hs n) := by
  intro n
  induction n with
  | zero => intro f args H v H1 h; simp [callA] at h
  | succ n ih =>
    intro f args H v H1 h
    simp only [callA] at h
    split at h
    case h_2 => cases h
    rename_i fn hf
    split at h
    case h_2 => cases h
    rename_i v' H' hrun
    cases h
    unfold bodyK at hrun
    split at hrun
    case h_2 =>
      rename_i hb
      split at hrun
      case h_2 => simp [run] at hrun
      rename_i s hx
      simp only [run, Option.some.injEq, Prod.mk.injEq, true_and, List.cons.injEq, and_true] at hrun
      obtain ⟨rfl, rfl⟩ := hrun
      have hn := extA_names hx
      refine ⟨Grow.refl _, .inr ⟨rfl, fn, s, hf, hb, ?_, (hodd f fn hf).2 hb (by simpa using hn), hx, rfl⟩⟩
      simp only [extNames, List.mem_cons, List.not_mem_nil, or_false] at hn
      rcases hn with e | e | e | e <;> rw [e] <;> decide
    rename_i c hb
    obtain ⟨x, e1, H2, h1, h2, h3⟩ := exec_sound (C := callA P T hs n) (n := n) (hs := hs f) (nt := fn.ntmps) hT ih hmix c none [] _ H _ _ (by simp) (.inl rfl) hrun
    have hx : (x = .nrm ∨ x = .ret) ∧ run (callA P T hs n) n (resK T fn.results.toList e1 fun vs => match packR vs with | some v => .ret 0 [v] | none => .fail) H2 = some ((0, [v]), H1) := by
      cases x with
      | nrm => exact ⟨.inl rfl, h1⟩
      | ret => exact ⟨.inr rfl, h1⟩
      | exit id => simp [run] at h1
      | goto l => simp [run] at h1
    obtain ⟨hx, h1⟩ := hx
    obtain ⟨vs, h4, h5⟩ := resK_run hT (H := H2) (r := ((0, [v]), H1)) _ e1 _ h1
    have hv : packR vs = some v ∧ H2 = H1 := by
      split at h4
      · rename_i v' hp
        simp only [run, Option.some.injEq, Prod.mk.injEq, true_and, List.cons.injEq, and_true] at h4
        exact ⟨by rw [hp, h4.1], h4.2⟩
      · simp [run] at h4
    obtain ⟨hp, rfl⟩ := hv
    refine ⟨h2, .inl ⟨?_, fn, hf, by rw [hb]; rfl, (hodd f fn hf).1 (by rw [hb]; rfl)⟩⟩
    intro ι w args' hargs hh g
    refine calls_of_wp hf hb ?_
    refine h3 ι _ w (by simp; omega) (enter_ER hargs fn.ntmps) hh g _ fun a' w' ι' x1 x2 x3 x4 => no_cut ?_
    obtain ⟨vals, k1, k2⟩ := h5 ι' a' w' x2 x3
    have hres : (results fn a'.tmps).run P w' = .ok (if h : vals.toArray.size = 1 then vals.toArray[0] else .tuple vals.toArray) w' := by
      rw [results_eq, Array.mapM_eq_mapM_toList]
      simp [k1]
    have post : a'.defers = [] ∧ ∃ v, (results fn a'.tmps).run P w' = .ok v w' ∧ (∃ ι' v', Ending.returned v = .returned v' ∧ VR ι' _ v' ∧ HR ι' H2 w' ∧ Stp ι H w ι' H2 w') :=
      ⟨x1.1, _, hres, ι', _, rfl, packR_VR hp k2, x3, x4⟩
    rcases hx with rfl | rfl <;> exact post
end
end Go.Proofs.Ytkhooppaenfkdaa.Fw
