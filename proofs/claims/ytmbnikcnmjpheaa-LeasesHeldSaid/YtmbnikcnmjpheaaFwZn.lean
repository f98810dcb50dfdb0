/- Runs of the abstract machine by printed trees (so that the kernel need not make them anew). -/
import Derived.Test.YtmbnikcnmjpheaaFwZl
set_option linter.unusedVariables false
set_option linter.unusedSimpArgs false
namespace Go.Proofs.Ytmbnikcnmjpheaa.Fw
open Go
abbrev Tbl := List (Nat × (List AV → Tree))
def callT (tb : Tbl) : Nat → Ora
  | 0, _, _, _ => none
  | n + 1, f, args, H => match lookN tb f with
    | some t => match run (callT tb n) n (t args) H with
      | some ((0, [v]), H') => some (v, H')
      | _ => none
    | none => none
/-- a tree that is the function's wherever it ends -/
def TrOk (E : Env) (f : Nat) (t : List AV → Tree) : Prop := ∃ fn, E.P.funcs[f]? = some fn ∧ ∀ (args : List AV) (C : Ora) (n : Nat) (H : AH) (r : Res), run C n (t args) H = some r → t args = bodyK E.T (E.hs f) fn args
def TbOk (E : Env) : Tbl → Prop
  | [] => True
  | x :: r => TrOk E x.1 x.2 ∧ TbOk E r
theorem TbOk.look {E : Env} : ∀ {tb : Tbl}, TbOk E tb → ∀ {f : Nat} {t : List AV → Tree}, lookN tb f = some t → TrOk E f t
  | [], _, f, t, h => by cases h
  | x :: r, h, f, t, hl => by
    obtain ⟨a, y⟩ := x
    simp only [lookN] at hl
    split at hl
    · rename_i e; subst e; cases hl; exact h.1
    · exact TbOk.look h.2 hl
theorem callT_sound {E : Env} {tb : Tbl} (h : TbOk E tb) : ∀ (n : Nat) {f : FuncId} {args : List AV} {H : AH} {r : AV × AH}, callT tb n f args H = some r → callA E.P E.T E.hs n f args H = some r
  | 0, _, _, _, _, hr => by cases hr
  | n + 1, f, args, H, r, hr => by
    simp only [callT] at hr
    split at hr
    · rename_i t ht
      split at hr
      · rename_i v H' hv
        cases hr
        obtain ⟨fn, h1, h2⟩ := h.look ht
        have h3 := h2 args _ _ _ _ hv
        rw [h3] at hv
        have h4 := run_mono (C' := callA E.P E.T E.hs n) (fun f a H r hc => callT_sound h n hc) (Nat.le_refl n) _ hv
        simp only [callA, h1, h4]
      · cases hr
    · cases hr
end Go.Proofs.Ytmbnikcnmjpheaa.Fw
