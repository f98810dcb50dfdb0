/- The operations that only compute: each against the model's run. -/
import Derived.Test.YtdfpjhlckjognaaGreatFwE
import Derived.Laws.Strings
import Derived.Laws.Pointers
import Derived.Laws.DeepStrings4
import Derived.Laws.Append
import Derived.Laws.CopyRow
import Derived.Laws.AppendOwn
set_option linter.unusedSimpArgs false
namespace Go.Proofs.YtdfpjhlckjognaaGreat.Fw
open Go
section ops
variable {P : Program} {T : TTab} {o : Oper} {e : List AV} {C : Ora} {n : Nat} {H : AH} {f : AV → Tree} {r : Res}
theorem op_move {x : Operand} (ho : o.op = .move x) (h : run C n (opK T e o f) H = some r) : DoneP P o e C n H f r := by
  simp only [opK, ho] at h
  exact DoneP.of h fun ι a w he _ => ⟨a.eval x, by simp [execOp, ho], ev_sound he x⟩
theorem op_assign {x : Operand} (ho : o.op = .assign x) (h : run C n (opK T e o f) H = some r) : DoneP P o e C n H f r := by
  simp only [opK, ho] at h
  exact DoneP.of h fun ι a w he _ => ⟨a.eval x, by simp [execOp, ho], ev_sound he x⟩
theorem op_pick {c x y : Operand} (ho : o.op = .pick c x y) (h : run C n (opK T e o f) H = some r) : DoneP P o e C n H f r := by
  simp only [opK, ho] at h
  split at h
  · rename_i b hb
    cases b
    · refine DoneP.of h fun ι a w he _ => ⟨a.eval y, ?_, ev_sound he y⟩
      have := ev_sound he c; rw [hb] at this
      have e : a.eval c = .bool false := this
      simp [execOp, ho, e, asBool]
    · refine DoneP.of h fun ι a w he _ => ⟨a.eval x, ?_, ev_sound he x⟩
      have := ev_sound he c; rw [hb] at this
      have e : a.eval c = .bool true := this
      simp [execOp, ho, e, asBool]
  · simp [run] at h
theorem op_nilCheck {x : Operand} (ho : o.op = .nilCheck x) (h : run C n (opK T e o f) H = some r) : DoneP P o e C n H f r := by
  simp only [opK, ho] at h
  split at h
  · rename_i q hq
    simp only [run, obind_eq] at h
    obtain ⟨q', rfl, h⟩ := h
    refine DoneP.of h fun ι a w he _ => ?_
    have := ev_sound he x; rw [hq] at this
    obtain ⟨d, hd, e⟩ := this
    exact ⟨_, by simp [execOp, ho, e], d, hd, rfl⟩
  · rename_i g fs cs hq
    refine DoneP.of h fun ι a w he _ => ?_
    have := ev_sound he x; rw [hq] at this
    obtain ⟨l, l', h1, h2, e⟩ := this
    exact ⟨_, by simp [execOp, ho, e], l, l', h1, h2, rfl⟩
  · simp [run] at h
theorem op_makeFunc {g : FuncId} {fs cs : Array Operand} (ho : o.op = .makeFunc (.func g) fs cs) (h : run C n (opK T e o f) H = some r) : DoneP P o e C n H f r := by
  simp only [opK, ho] at h
  split at h
  · rename_i a b ha hb
    refine DoneP.of h fun ι ac w he _ => ?_
    have key : ∀ (l : List Operand) (q : List (Nat × Nat)), (evs e l).mapM (fun v => match v with | .sc (.p (some q)) => some q | _ => none) = some q → All2 (PtR ι) q (l.map ac.eval) := by
      intro l
      induction l with
      | nil => intro q hq; simp [evs] at hq; subst hq; rfl
      | cons x l ih =>
        intro q hq
        simp only [evs, List.map_cons, List.mapM_cons, Option.bind_eq_bind, Option.pure_def, Option.bind_eq_some_iff] at hq
        obtain ⟨y, hy, ys, hys, hq⟩ := hq
        cases hq
        split at hy
        · rename_i q0 hx
          cases hy
          have := ev_sound he x; rw [hx] at this
          exact ⟨_, _, rfl, this, ih ys hys⟩
        · cases hy
    refine ⟨_, by simp [execOp, ho, Instr.makeFunc] <;> rfl, fs.toList.map ac.eval, cs.toList.map ac.eval, key _ _ ha, key _ _ hb, ?_⟩
    congr 1
    · apply Array.ext'; simp
    · apply Array.ext'; simp
  · simp [run] at h
theorem intBin_sound {op : BinOp} {k : IntKind} {x y : Int} (h : run C n (intBin op k x y f) H = some r) (hs : op ≠ .shl) (hs' : op ≠ .shr) :
    ∃ v, run C n (f v) H = some r ∧ ∀ (xt : Nat) (w : World) (ι : Inj), ∃ v', (binOp op xt (.int k x) (.int k y)).run P w = .ok v' w ∧ VR ι v v' := by
  cases op <;> simp only [intBin] at h
  case shl => exact absurd rfl hs
  case shr => exact absurd rfl hs'
  case quo =>
    simp only [run] at h
    split at h
    · rename_i hy
      have hy : ¬ y = 0 := by simpa using hy
      exact ⟨_, h, fun xt w ι => ⟨_, by simp [binOp, Op.intDiv, hy] <;> rfl, rfl⟩⟩
    · simp [run] at h
  case rem =>
    simp only [run] at h
    split at h
    · rename_i hy
      have hy : ¬ y = 0 := by simpa using hy
      exact ⟨_, h, fun xt w ι => ⟨_, by simp [binOp, Op.intDiv, hy] <;> rfl, rfl⟩⟩
    · simp [run] at h
  all_goals exact ⟨_, h, fun xt w ι => ⟨_, by simp [binOp, Op.intArith, Op.intBits, Op.intCmp] <;> rfl, rfl⟩⟩
theorem fltRes_sound {op : BinOp} {k : FloatKind} {a b : Nat} {s : Sc} (h : fltRes op k a b = some s) (xt : Nat) (w : World) (ι : Inj) : ∃ v', (binOp op xt (.float k a) (.float k b)).run P w = .ok v' w ∧ VR ι (.sc s) v' := by
  cases op <;> simp only [fltRes, Option.map_eq_some_iff, Option.some.injEq] at h
  case add => obtain ⟨r, h1, rfl⟩ := h; exact ⟨.float k r, by simp [binOp, Op.floatArith, h1], rfl⟩
  case sub => obtain ⟨r, h1, rfl⟩ := h; exact ⟨.float k r, by simp [binOp, Op.floatArith, h1], rfl⟩
  case mul => obtain ⟨r, h1, rfl⟩ := h; exact ⟨.float k r, by simp [binOp, Op.floatArith, h1], rfl⟩
  case quo => obtain ⟨r, h1, rfl⟩ := h; exact ⟨.float k r, by simp [binOp, Op.floatArith, h1], rfl⟩
  all_goals first | (cases h; done) | (subst h; exact ⟨_, by simp [binOp, Op.floatCmp] <;> rfl, rfl⟩)
theorem cxRes_sound {op : BinOp} {k : FloatKind} {a b c d : Nat} {s : Sc} (h : cxRes op k a b c d = some s) (xt : Nat) (w : World) (ι : Inj) : ∃ v', (binOp op xt (.complex k a b) (.complex k c d)).run P w = .ok v' w ∧ VR ι (.sc s) v' := by
  cases op <;> simp only [cxRes] at h
  case add =>
    split at h
    · rename_i x y h1 h2; cases h
      exact ⟨.complex k x y, by simp [binOp, Op.complexOp, Op.Complex.arith, Op.floatArith, h1, h2], rfl⟩
    · cases h
  case sub =>
    split at h
    · rename_i x y h1 h2; cases h
      exact ⟨.complex k x y, by simp [binOp, Op.complexOp, Op.Complex.arith, Op.floatArith, h1, h2], rfl⟩
    · cases h
  case mul =>
    split at h
    · rename_i hk; subst hk
      split at h
      · rename_i p q r s' h1 h2 h3 h4
        split at h
        · rename_i x y h5 h6; cases h
          exact ⟨.complex .f64 x y, by simp [binOp, Op.complexOp, Op.Complex.product, Op.Complex.conv, Op.Complex.mul, Op.Complex.add, Op.Complex.sub, Op.Complex.arith, Op.floatArith, h1, h2, h3, h4, h5, h6], rfl⟩
        · cases h
      · cases h
    · cases h
  all_goals first | (cases h; done) | (cases h; exact ⟨_, by simp [binOp, Op.complexOp, Op.Complex.cmp, Op.floatCmp, asBool] <;> rfl, rfl⟩)
theorem run_eqGuard_plain (op : BinOp) (t : Nat) (x y : Operand) {a b : Value} (ha : ∀ c, a ≠ .agg c) (hn : a ≠ .nilIface) (w : World) : (eqGuard op t x y a b).run P w = .ok () w := by
  cases op <;> simp [eqGuard] <;> (split <;> first | rfl | exact absurd rfl hn | exact absurd rfl (ha _))
theorem tdOf_und (hT : TOk P T) {t : Nat} {d : TD} (h : tdOf T t = some d) : ∃ dd, P.underlying t = some dd ∧ tdm d dd = true := by
  unfold tdOf at h
  cases hg : T.get t with
  | none => rw [hg] at h; cases h
  | some i => rw [hg] at h; cases h; exact TI.und (hT _ _ hg)
theorem tdm_ptr {d : TypeDesc} {e : Nat} (h : tdm (.ptr e) d = true) : d = .pointer e := by
  cases d <;> simp_all [tdm]
theorem run_equal_pointer_nil' (w : World) (t e : Nat) (q : Option Addr) (h : P.underlying t = some (.pointer e)) : (Op.equal t (.pointer q) (.pointer none)).run P w = .ok q.isNone w := by
  have : P.pointee t = e := by simp [Program.pointee, h]
  exact run_equal_pointer_nil w t q (by rw [this]; exact h)
theorem binK_sound (hT : TOk P T) {op : BinOp} {xt : Nat} {x y : AV} (h : run C n (binK T op xt x y f) H = some r) :
    ∃ v, run C n (f v) H = some r ∧ ∀ (ι : Inj) (vx vy : Value) (ox oy : Operand) (w : World), VR ι x vx → VR ι y vy →
      ∃ v', ((do eqGuard op xt ox oy vx vy; binOp op xt vx vy : Sem Value)).run P w = .ok v' w ∧ VR ι v v' := by
  unfold binK at h
  split at h
  · rename_i k a k' b
    split at h
    · simp only [shiftBin, run] at h
      split at h
      · rename_i hb
        have hb : ¬ b < 0 := by simpa using hb
        refine ⟨_, h, fun ι vx vy ox oy w h1 h2 => ?_⟩
        cases h1; cases h2
        refine ⟨_, ?_, rfl⟩
        rw [Sem.run_bind, run_eqGuard_plain _ _ _ _ (by simp) (by simp), Result.andThen_ok]
        simp [binOp, Op.shift, hb]
      · simp [run] at h
    · simp only [shiftBin, run] at h
      split at h
      · rename_i hb
        have hb : ¬ b < 0 := by simpa using hb
        refine ⟨_, h, fun ι vx vy ox oy w h1 h2 => ?_⟩
        cases h1; cases h2
        refine ⟨_, ?_, rfl⟩
        rw [Sem.run_bind, run_eqGuard_plain _ _ _ _ (by simp) (by simp), Result.andThen_ok]
        simp [binOp, Op.shift, hb]
      · simp [run] at h
    · rename_i h1 h2
      split at h
      · rename_i hk
        subst hk
        obtain ⟨v, hv, hs⟩ := intBin_sound (P := P) h (fun e => h1 e) (fun e => h2 e)
        refine ⟨v, hv, fun ι vx vy ox oy w h1 h2 => ?_⟩
        cases h1; cases h2
        obtain ⟨v', e1, e2⟩ := hs xt w ι
        refine ⟨v', ?_, e2⟩
        rw [Sem.run_bind, run_eqGuard_plain _ _ _ _ (by simp) (by simp), Result.andThen_ok, e1]
      · simp [run] at h
  · rename_i k a k' b
    split at h
    · rename_i hk; subst hk
      unfold orFail at h
      split at h
      · rename_i s hs
        refine ⟨_, h, fun ι vx vy ox oy w h1 h2 => ?_⟩
        cases h1; cases h2
        obtain ⟨v', e1, e2⟩ := fltRes_sound (P := P) hs xt w ι
        refine ⟨v', ?_, e2⟩
        rw [Sem.run_bind, run_eqGuard_plain _ _ _ _ (by simp) (by simp), Result.andThen_ok, e1]
      · simp [run] at h
    · simp [run] at h
  · rename_i k a b k' c d
    split at h
    · rename_i hk; subst hk
      unfold orFail at h
      split at h
      · rename_i s hs
        refine ⟨_, h, fun ι vx vy ox oy w h1 h2 => ?_⟩
        cases h1; cases h2
        obtain ⟨v', e1, e2⟩ := cxRes_sound (P := P) hs xt w ι
        refine ⟨v', ?_, e2⟩
        rw [Sem.run_bind, run_eqGuard_plain _ _ _ _ (by simp) (by simp), Result.andThen_ok, e1]
      · simp [run] at h
    · simp [run] at h
  · rename_i a b
    have go : ∀ (v' : Value), (Op.stringOp op a b : Sem Value).run P = (fun w => .ok v' w) → ∀ (ox oy : Operand) (w : World), ((do eqGuard op xt ox oy (.string a) (.string b); binOp op xt (.string a) (.string b) : Sem Value)).run P w = .ok v' w := by
      intro v' hv ox oy w
      rw [Sem.run_bind, run_eqGuard_plain _ _ _ _ (by simp) (by simp), Result.andThen_ok]
      cases op <;> simp only [binOp] <;> rw [hv]
    cases op <;> simp only [strBin] at h <;> first | (simp [run] at h; done) | skip
    case add =>
      simp only [run] at h
      split at h
      · rename_i hb
        have hb : (a.size : Int) + b.size ≤ 9223372036854775807 := by simpa using hb
        refine ⟨_, h, fun ι vx vy ox oy w h1 h2 => ?_⟩
        cases h1; cases h2
        exact ⟨_, go _ (by funext w; exact run_string_add_sum w a b (by omega)) ox oy w, rfl⟩
      · simp [run] at h
    all_goals
      refine ⟨_, h, fun ι vx vy ox oy w h1 h2 => ?_⟩
      cases h1; cases h2
      exact ⟨_, go _ (by funext w; simp [Op.stringOp] <;> rfl) ox oy w, rfl⟩
  · rename_i a b
    split at h
    case h_2 => simp [run] at h
    rename_i htd
    obtain ⟨dd, hu, hm⟩ := tdOf_und hT htd
    cases tdm_bool hm
    split at h
    · refine ⟨_, h, fun ι vx vy ox oy w h1 h2 => ?_⟩
      cases h1; cases h2
      refine ⟨.bool (a == b), ?_, rfl⟩
      rw [Sem.run_bind, run_eqGuard_plain _ _ _ _ (by simp) (by simp), Result.andThen_ok]
      simp [binOp, run_equal_bool w xt a b hu]
    · refine ⟨_, h, fun ι vx vy ox oy w h1 h2 => ?_⟩
      cases h1; cases h2
      refine ⟨.bool (!(a == b)), ?_, rfl⟩
      rw [Sem.run_bind, run_eqGuard_plain _ _ _ _ (by simp) (by simp), Result.andThen_ok]
      simp [binOp, run_equal_bool w xt a b hu]
    · simp [run] at h
  · rename_i a
    split at h
    case h_2 => simp [run] at h
    rename_i el htd
    obtain ⟨dd, hu, hm⟩ := tdOf_und hT htd
    cases tdm_ptr hm
    have ha : ∀ (ι : Inj) (v : Value), SR ι (.p a) v → ∃ q, v = .pointer q ∧ q.isNone = a.isNone := by
      intro ι v h
      cases a with
      | none => exact ⟨none, h, rfl⟩
      | some q => obtain ⟨d, _, e⟩ := h; exact ⟨_, e, rfl⟩
    split at h
    · refine ⟨_, h, fun ι vx vy ox oy w h1 h2 => ?_⟩
      obtain ⟨q, rfl, hq⟩ := ha ι vx h1
      cases h2
      refine ⟨.bool a.isNone, ?_, rfl⟩
      rw [Sem.run_bind, run_eqGuard_plain _ _ _ _ (by simp) (by simp), Result.andThen_ok]
      simp [binOp, run_equal_pointer_nil' w xt el q hu, hq]
    · refine ⟨_, h, fun ι vx vy ox oy w h1 h2 => ?_⟩
      obtain ⟨q, rfl, hq⟩ := ha ι vx h1
      cases h2
      refine ⟨.bool (!a.isNone), ?_, rfl⟩
      rw [Sem.run_bind, run_eqGuard_plain _ _ _ _ (by simp) (by simp), Result.andThen_ok]
      simp [binOp, run_equal_pointer_nil' w xt el q hu, hq]
    · simp [run] at h
  · rename_i a
    split at h
    case h_2 => simp [run] at h
    rename_i el htd
    obtain ⟨dd, hu, hm⟩ := tdOf_und hT htd
    cases tdm_slice hm
    have ha : ∀ (ι : Inj) (v : Value), SR ι (.sl a) v → ∃ q l c, v = .slice q l c ∧ q.isNone = a.isNone := by
      intro ι v h
      cases a with
      | none => exact ⟨none, 0, 0, h, rfl⟩
      | some q => obtain ⟨d, x, c, _, e, _⟩ := h; exact ⟨_, _, _, e, rfl⟩
    split at h
    · refine ⟨_, h, fun ι vx vy ox oy w h1 h2 => ?_⟩
      obtain ⟨q, l, c, rfl, hq⟩ := ha ι vx h1
      cases h2
      refine ⟨.bool a.isNone, ?_, rfl⟩
      rw [Sem.run_bind, run_eqGuard_plain _ _ _ _ (by simp) (by simp), Result.andThen_ok]
      simp [binOp, run_equal_slice_nil w xt el q l c hu, hq]
    · refine ⟨_, h, fun ι vx vy ox oy w h1 h2 => ?_⟩
      obtain ⟨q, l, c, rfl, hq⟩ := ha ι vx h1
      cases h2
      refine ⟨.bool (!a.isNone), ?_, rfl⟩
      rw [Sem.run_bind, run_eqGuard_plain _ _ _ _ (by simp) (by simp), Result.andThen_ok]
      simp [binOp, run_equal_slice_nil w xt el q l c hu, hq]
    · simp [run] at h
  · rename_i a b
    split at h
    case h_2 => simp [run] at h
    rename_i fs htd
    split at h
    case h_2 => simp [run] at h
    rename_i rr hr
    cases hg : T.get xt with
    | none => simp [tdOf, hg] at htd
    | some i =>
      have hd : i.d = .struct fs := by simpa [tdOf, hg] using htd
      have hgd := (TI.struct (hT _ _ hg) hd).1
      split at h
      · refine ⟨_, h, fun ι vx vy ox oy w h1 h2 => ?_⟩
        obtain ⟨va, h1, rfl⟩ := h1
        obtain ⟨vb, h2, rfl⟩ := h2
        refine ⟨.bool rr, ?_, rfl⟩
        rw [Sem.run_bind, run_eqGuard_agg w _ _ _ _ _ _ hgd, Result.andThen_ok, run_eql_struct,
          ((eqF_sound hT 8 xt a b rr hr ι va vb h1 h2 10000 w (by omega)).1 i fs hg hd)]
        rfl
      · refine ⟨_, h, fun ι vx vy ox oy w h1 h2 => ?_⟩
        obtain ⟨va, h1, rfl⟩ := h1
        obtain ⟨vb, h2, rfl⟩ := h2
        refine ⟨.bool (!rr), ?_, rfl⟩
        rw [Sem.run_bind, run_eqGuard_agg w _ _ _ _ _ _ hgd, Result.andThen_ok, run_neq_struct,
          ((eqF_sound hT 8 xt a b rr hr ι va vb h1 h2 10000 w (by omega)).1 i fs hg hd)]
        rfl
      · simp [run] at h
  · simp [run] at h
theorem op_binOp (hT : TOk P T) {op : BinOp} {xt yt : Nat} {x y : Operand} (ho : o.op = .binOp op xt x y yt) (h : run C n (opK T e o f) H = some r) : DoneP P o e C n H f r := by
  simp only [opK, ho] at h
  obtain ⟨v, hv, hs⟩ := binK_sound hT h
  refine DoneP.of hv fun ι a w he _ => ?_
  obtain ⟨v', e1, e2⟩ := hs ι (a.eval x) (a.eval y) x y w (ev_sound he x) (ev_sound he y)
  refine ⟨v', ?_, e2⟩
  simp only [execOp, ho]
  rw [Sem.run_bind, e1]; rfl
theorem op_unOp {op : UnOp} {t : Nat} {x : Operand} (ho : o.op = .unOp op t x) (h : run C n (opK T e o f) H = some r) : DoneP P o e C n H f r := by
  simp only [opK, ho, unK] at h
  split at h
  · rename_i b hb
    refine DoneP.of h fun ι a w he _ => ?_
    have := ev_sound he x; rw [hb] at this
    have e : a.eval x = .bool b := this
    exact ⟨.bool (!b), by simp [execOp, ho, e, Op.unary], rfl⟩
  · rename_i k b hb
    refine DoneP.of h fun ι a w he _ => ?_
    have := ev_sound he x; rw [hb] at this
    have e : a.eval x = .int k b := this
    exact ⟨_, by simp [execOp, ho, e, Op.unary, Op.intArith] <;> rfl, by simp [VR, SR]⟩
  · rename_i k b hb
    refine DoneP.of h fun ι a w he _ => ?_
    have := ev_sound he x; rw [hb] at this
    have e : a.eval x = .float k b := this
    exact ⟨.float k (Op.negFloat k b), by simp [execOp, ho, e, Op.unary], rfl⟩
  · rename_i k b c hb
    refine DoneP.of h fun ι a w he _ => ?_
    have := ev_sound he x; rw [hb] at this
    have e : a.eval x = .complex k b c := this
    exact ⟨.complex k (Op.negFloat k b) (Op.negFloat k c), by simp [execOp, ho, e, Op.unary], rfl⟩
  · simp [run] at h
end ops
end Go.Proofs.YtdfpjhlckjognaaGreat.Fw
set_option linter.unusedSimpArgs false
namespace Go.Proofs.YtdfpjhlckjognaaGreat.Fw
open Go
section ops
variable {P : Program} {T : TTab} {o : Oper} {e : List AV} {C : Ora} {n : Nat} {H : AH} {f : AV → Tree} {r : Res}
theorem ev_int {ι : Inj} {a : Act} {x : Operand} {k : IntKind} {j : Int} (he : ER ι e a.tmps) (h : ev e x = .sc (.i k j)) : a.eval x = .int k j := by
  have := ev_sound he x; rw [h] at this; exact this
theorem ev_str {ι : Inj} {a : Act} {x : Operand} {s : ByteArray} (he : ER ι e a.tmps) (h : ev e x = .sc (.s s)) : a.eval x = .string s := by
  have := ev_sound he x; rw [h] at this; exact this
theorem ev_ptr {ι : Inj} {a : Act} {x : Operand} {q : Nat × Nat} (he : ER ι e a.tmps) (h : ev e x = .sc (.p (some q))) : ∃ d, ι q.1 = some d ∧ a.eval x = .pointer (some ⟨d.blk, d.base + q.2, none⟩) := by
  have := ev_sound he x; rw [h] at this; exact this
theorem ev_ag {ι : Inj} {a : Act} {x : Operand} {l : List Sc} (he : ER ι e a.tmps) (h : ev e x = .ag l) : ∃ vs, LR ι l vs ∧ a.eval x = .agg ⟨vs⟩ := by
  have := ev_sound he x; rw [h] at this; exact this
theorem op_convert (hT : TOk P T) {s d : Nat} {x : Operand} (ho : o.op = .convert s d x) (h : run C n (opK T e o f) H = some r) : DoneP P o e C n H f r := by
  simp only [opK, ho] at h
  split at h
  · rename_i j i k m hs hd hx
    split at h
    · rename_i k' hk
      refine DoneP.of h fun ι a w he _ => ?_
      obtain ⟨d1, hu1, _⟩ := TI.und (hT _ _ hs)
      obtain ⟨d2, hu2, hm2⟩ := TI.und (hT _ _ hd)
      rw [hk] at hm2; cases tdm_int hm2
      refine ⟨.int k' (k'.wrap m), ?_, rfl⟩
      simp [execOp, ho, ev_int he hx, convert, run_underlying hu1, run_underlying hu2, Conv.intToInt]
    · rename_i k' hk
      refine DoneP.of h fun ι a w he _ => ?_
      obtain ⟨d1, hu1, _⟩ := TI.und (hT _ _ hs)
      obtain ⟨d2, hu2, hm2⟩ := TI.und (hT _ _ hd)
      rw [hk] at hm2
      have hd2 : d2 = .float k' := by cases d2 <;> simp_all [tdm]
      subst hd2
      refine ⟨.float k' (k'.nearest m), ?_, rfl⟩
      simp [execOp, ho, ev_int he hx, convert, run_underlying hu1, run_underlying hu2, Conv.intToFloat]
    · simp [run] at h
  · rename_i j i x' hs hd hx
    split at h
    · rename_i hk1 hk2
      refine DoneP.of h fun ι a w he _ => ?_
      obtain ⟨d1, hu1, hm1⟩ := TI.und (hT _ _ hs)
      obtain ⟨d2, hu2, hm2⟩ := TI.und (hT _ _ hd)
      rw [hk1] at hm1; rw [hk2] at hm2; cases tdm_str hm2; cases tdm_str hm1
      refine ⟨.string x', ?_, rfl⟩
      simp [execOp, ho, ev_str he hx, convert, run_underlying hu1, run_underlying hu2]
    · simp [run] at h
  · rename_i j i k m hs hd hx
    split at h
    · rename_i k' hk
      split at h
      · rename_i q hq
        split at h
        · rename_i hr
          refine DoneP.of h fun ι a w he _ => ?_
          obtain ⟨d1, hu1, _⟩ := TI.und (hT _ _ hs)
          obtain ⟨d2, hu2, hm2⟩ := TI.und (hT _ _ hd)
          rw [hk] at hm2; cases tdm_int hm2
          have e : a.eval x = .float k m := by have := ev_sound he x; rw [hx] at this; exact this
          refine ⟨.int k' q, ?_, rfl⟩
          simp [execOp, ho, e, convert, run_underlying hu1, run_underlying hu2, Conv.floatToInt, hq, hr]
        · simp [run] at h
      · simp [run] at h
    · simp [run] at h
  · simp [run] at h
theorem op_fieldAddr (hT : TOk P T) {t : Nat} {x : Operand} {j : Nat} (ho : o.op = .fieldAddr t x j) (h : run C n (opK T e o f) H = some r) : DoneP P o e C n H f r := by
  simp only [opK, ho] at h
  split at h
  case h_2 => simp [run] at h
  rename_i i q hg hx
  split at h
  case h_2 => simp [run] at h
  rename_i fs hfs
  split at h
  case h_2 => simp [run] at h
  rename_i p hp
  split at h
  case h_2 => simp [run] at h
  rename_i fi hfi
  split at h
  case isTrue => simp [run] at h
  rename_i hz
  refine DoneP.of h fun ι a w he _ => ?_
  obtain ⟨d1, hu1, hm1⟩ := TI.und (hT _ _ hg)
  rw [hfs] at hm1
  obtain ⟨fa, rfl, hfa, _⟩ := tdm_struct hm1
  obtain ⟨d, hd, ea⟩ := ev_ptr he hx
  have hj : ∃ fl, fa[j]? = some fl ∧ fl.offset = p.1 ∧ fl.type = p.2 := by
    rw [← hfa] at hp
    simp only [List.getElem?_map, Option.map_eq_some_iff] at hp
    obtain ⟨fl, h1, rfl⟩ := hp
    exact ⟨fl, by simpa using h1, rfl, rfl⟩
  obtain ⟨fl, hfl, hoff, hty⟩ := hj
  refine ⟨.pointer (some ⟨d.blk, d.base + (q.2 + p.1), none⟩), ?_, d, hd, rfl⟩
  simp [execOp, ho, ea, Instr.fieldAt, run_underlying hu1, hfl, Instr.sureAddr, fieldPlace, hoff, hty, TI.run_size (hT _ _ hfi), hz, addr_add, Nat.add_assoc]
theorem part_run (hT : TOk P T) {t : Nat} {fi : TI} (hg : T.get t = some fi) {l : List Sc} {off : Nat} {f : AV → Tree} {r : Res}
    (h : run C n (if isAggD fi.d then f (.ag ((l.drop off).take fi.size)) else .nth l off fun y => decS (fi.kinds.headD .any) y fun z => f (.sc z)) H = some r) :
    ∃ v, run C n (f v) H = some r ∧ ∀ (ι : Inj) (vs : List Value) (w : World), LR ι l vs → ∃ v', (part t ⟨vs⟩ off).run P w = .ok v' w ∧ VR ι v v' := by
  split at h
  · rename_i ha
    refine ⟨_, h, fun ι vs w hl => ⟨_, run_part_agg (hT _ _ hg) ha _ _ w, (vs.drop off).take fi.size, (hl.drop off).take fi.size, ?_⟩⟩
    congr 1
    apply Array.ext'; simp
  · rename_i ha
    simp only [run, obind_eq] at h
    obtain ⟨x, hx, h⟩ := h
    have h := decS_run h
    refine ⟨_, h, fun ι vs w hl => ?_⟩
    obtain ⟨v, hv, hs⟩ := hl.get off x hx
    exact ⟨v, run_part_one (hT _ _ hg) (by simpa using ha) _ _ v (by simpa using hv) w, hs⟩
theorem op_field (hT : TOk P T) {t : Nat} {x : Operand} {j : Nat} (ho : o.op = .field t x j) (h : run C n (opK T e o f) H = some r) : DoneP P o e C n H f r := by
  simp only [opK, ho] at h
  split at h
  case h_2 => simp [run] at h
  rename_i i l hg hx
  split at h
  case h_2 => simp [run] at h
  rename_i fs hfs
  split at h
  case h_2 => simp [run] at h
  rename_i p hp
  split at h
  case h_2 => simp [run] at h
  rename_i fi hfi
  obtain ⟨v, hv, hs⟩ := part_run hT hfi h
  refine DoneP.of hv fun ι a w he _ => ?_
  obtain ⟨d1, hu1, hm1⟩ := TI.und (hT _ _ hg)
  rw [hfs] at hm1
  obtain ⟨fa, rfl, hfa, _⟩ := tdm_struct hm1
  obtain ⟨vs, hvs, ea⟩ := ev_ag he hx
  have hj : ∃ fl, fa[j]? = some fl ∧ fl.offset = p.1 ∧ fl.type = p.2 := by
    rw [← hfa] at hp
    simp only [List.getElem?_map, Option.map_eq_some_iff] at hp
    obtain ⟨fl, h1, rfl⟩ := hp
    exact ⟨fl, by simpa using h1, rfl, rfl⟩
  obtain ⟨fl, hfl, hoff, hty⟩ := hj
  obtain ⟨v', h1, h2⟩ := hs ι vs w hvs
  refine ⟨v', ?_, h2⟩
  simp [execOp, ho, ea, Instr.field, run_underlying hu1, hfl, asAgg, hoff, hty, h1]
theorem op_indexAddr (hT : TOk P T) {t : Nat} {x y : Operand} (ho : o.op = .indexAddr t x y) (h : run C n (opK T e o f) H = some r) : DoneP P o e C n H f r := by
  simp only [opK, ho] at h
  split at h
  · rename_i i s k j hg hx hy
    split at h
    case h_2 => simp [run] at h
    rename_i el hel
    split at h
    case h_2 => simp [run] at h
    rename_i ie hie
    simp only [run, obind_eq] at h
    obtain ⟨q, hq, h⟩ := h
    unfold ixIn at hq
    split at hq
    case h_2 => cases hq
    rename_i sd
    split at hq
    case isFalse => cases hq
    rename_i hc
    cases hq
    refine DoneP.of h fun ι a w he _ => ?_
    obtain ⟨d1, hu1, hm1⟩ := TI.und (hT _ _ hg)
    rw [hel] at hm1; cases tdm_slice hm1
    have hs := ev_sound he x; rw [hx] at hs
    obtain ⟨d, ad, c, hd, ea, hlc, hcc, had, _⟩ := hs
    have hc0 : c ≠ 0 := by omega
    have had := had.resolve_left hc0
    subst had
    refine ⟨.pointer (some ⟨d.blk, d.base + (sd.off + j.toNat * ie.size), none⟩), ?_, d, hd, rfl⟩
    simp [execOp, ho, ea, ev_int he hy, Instr.indexAt, asIntOf, run_underlying hu1, hc.2.1, hc.2.2, TI.run_size (hT _ _ hie), addr_add, Nat.add_assoc]
  · rename_i i q k j hg hx hy
    split at h
    case h_2 => simp [run] at h
    rename_i len el hel
    split at h
    case h_2 => simp [run] at h
    rename_i ie hie
    simp only [run] at h
    split at h
    case isFalse => simp [run] at h
    rename_i hc
    have hc : 0 ≤ j ∧ j < (len : Int) := by simpa using hc
    refine DoneP.of h fun ι a w he _ => ?_
    obtain ⟨d1, hu1, hm1⟩ := TI.und (hT _ _ hg)
    rw [hel] at hm1; cases tdm_arr hm1
    obtain ⟨d, hd, ea⟩ := ev_ptr he hx
    refine ⟨.pointer (some ⟨d.blk, d.base + (q.2 + j.toNat * ie.size), none⟩), ?_, d, hd, rfl⟩
    simp [execOp, ho, ea, ev_int he hy, Instr.indexAt, asIntOf, run_underlying hu1, hc.1, hc.2, TI.run_size (hT _ _ hie), addr_add, Nat.add_assoc, Instr.sureAddr]
  · simp [run] at h
theorem decP_run {t : Nat} {i : TI} (hi : tiOk P t i = true) (ha : isAggD i.d = true) {l : List Sc} {f : AV → Tree} (h : run C n (decP i (l.take i.size) f) H = some r) : run C n (f (.ag (l.take i.size))) H = some r := by
  have hn : ∀ ts, i.d ≠ .tup ts := by intro ts e; rw [e] at ha; cases ha
  obtain ⟨_, h1, h2⟩ := TI.more hi hn
  unfold decP at h
  split at h
  · rename_i hs
    rcases decL_run _ _ _ h with ⟨h3, _⟩ | ⟨h3, h4⟩
    · rw [h2 ha hs] at h3
      have e : ((l.take i.size).drop 0).take i.size = l.take i.size := by simp [List.take_take]
      rw [e] at h3; exact h3
    · have h5 := h2 ha hs
      rw [h3] at h5
      have e : l.take i.size = [] := by rw [← h5]; rfl
      rw [e]; exact h4
  · exact h
theorem op_index (hT : TOk P T) {t : Nat} {x y : Operand} (ho : o.op = .index t x y) (h : run C n (opK T e o f) H = some r) : DoneP P o e C n H f r := by
  simp only [opK, ho] at h
  split at h
  · rename_i i s k j hg hx hy
    split at h
    case h_2 => simp [run] at h
    rename_i hst
    simp only [run] at h
    split at h
    case isFalse => simp [run] at h
    rename_i hc
    have hc : 0 ≤ j ∧ j < (s.size : Int) := by simpa using hc
    refine DoneP.of h fun ι a w he _ => ?_
    obtain ⟨d1, hu1, hm1⟩ := TI.und (hT _ _ hg)
    rw [hst] at hm1; cases tdm_str hm1
    refine ⟨.int .u8 (strAt s j.toNat), ?_, rfl⟩
    have hlt : j.toNat < s.size := by omega
    simp [execOp, ho, ev_str he hx, ev_int he hy, Instr.index, asIntOf, run_underlying hu1, hc.1, hlt, strAt]
  · rename_i i l k j hg hx hy
    split at h
    case h_2 => simp [run] at h
    rename_i len el hel
    split at h
    case h_2 => simp [run] at h
    rename_i ie hie
    simp only [run] at h
    split at h
    case isFalse => simp [run] at h
    rename_i hc
    have hc : 0 ≤ j ∧ j < (len : Int) := by simpa using hc
    have h : run C n (if isAggD ie.d then f (.ag ((l.drop (j.toNat * ie.size)).take ie.size)) else .nth l (j.toNat * ie.size) fun y => decS (ie.kinds.headD .any) y fun z => f (.sc z)) H = some r := by
      split at h
      · rename_i ha; rw [if_pos ha]; exact decP_run (hT _ _ hie) ha h
      · rename_i ha; rw [if_neg ha]; exact h
    obtain ⟨v, hv, hs⟩ := part_run hT hie h
    refine DoneP.of hv fun ι a w he _ => ?_
    obtain ⟨d1, hu1, hm1⟩ := TI.und (hT _ _ hg)
    rw [hel] at hm1; cases tdm_arr hm1
    obtain ⟨vs, hvs, ea⟩ := ev_ag he hx
    obtain ⟨v', h1, h2⟩ := hs ι vs w hvs
    refine ⟨v', ?_, h2⟩
    simp [execOp, ho, ea, ev_int he hy, Instr.index, asIntOf, run_underlying hu1, hc.1, hc.2, TI.run_size (hT _ _ hie), h1]
  · simp [run] at h
theorem op_extract {x : Operand} {j : Nat} (ho : o.op = .extract x j) (h : run C n (opK T e o f) H = some r) : DoneP P o e C n H f r := by
  simp only [opK, ho] at h
  split at h
  case h_2 => simp [run] at h
  rename_i l hl
  split at h
  case h_2 => simp [run] at h
  rename_i c hc
  refine DoneP.of h fun ι a w he _ => ?_
  have hs := ev_sound he x; rw [hl] at hs
  obtain ⟨vs, hvs, ea⟩ := hs
  obtain ⟨v, hv, hr⟩ := hvs.get j c hc
  refine ⟨v, by simp [execOp, ho, ea, Instr.extract, hv], ?_⟩
  cases c with
  | sc x => exact hr
  | ag x => exact hr
theorem optI_run {lo : Option Operand} {l : Option Int} (h : optI e lo = some l) {ι : Inj} {a : Act} (he : ER ι e a.tmps) :
    (l = none ∧ lo.map a.eval = none) ∨ ∃ k j, l = some j ∧ lo.map a.eval = some (.int k j) := by
  cases lo with
  | none => simp [optI] at h; exact .inl ⟨h.symm, rfl⟩
  | some x =>
    simp only [optI] at h
    split at h
    · rename_i k j hx; cases h; exact .inr ⟨k, j, rfl, by simp [ev_int he hx]⟩
    · cases h
theorem run_bounds (isS : Bool) (len cap : Nat) (lo hi mx : Option Value) (l h m : Option Int) (hl : (l = none ∧ lo = none) ∨ ∃ k j, l = some j ∧ lo = some (.int k j)) (hh : (h = none ∧ hi = none) ∨ ∃ k j, h = some j ∧ hi = some (.int k j))
    (hm : (m = none ∧ mx = none) ∨ ∃ k j, m = some j ∧ mx = some (.int k j)) (hmh : (m.isNone || h.isSome) = true)
    (h1 : 0 ≤ m.getD cap) (h2 : m.getD cap ≤ cap) (h3 : 0 ≤ h.getD len) (h4 : h.getD len ≤ m.getD cap) (h5 : 0 ≤ l.getD 0) (h6 : l.getD 0 ≤ h.getD len) (w : World) :
    (Instr.sliceBounds isS len cap lo hi mx).run P w = .ok ((l.getD 0).toNat, (h.getD len).toNat, (m.getD cap).toNat) w := by
  have bd : ∀ (k : IntKind) (i : Int) (y : Nat) (c : BoundsCode), 0 ≤ i → i ≤ y → (Instr.sliceBound (.int k i) y c).run P w = .ok i.toNat w := by
    intro k i y c a b; exact run_sliceBound w k i y c a b
  rcases hm with ⟨rfl, rfl⟩ | ⟨km, jm, rfl, rfl⟩ <;> rcases hh with ⟨rfl, rfl⟩ | ⟨kh, jh, rfl, rfl⟩ <;> rcases hl with ⟨rfl, rfl⟩ | ⟨kl, jl, rfl, rfl⟩ <;> simp at h1 h2 h3 h4 h5 h6 hmh
  all_goals simp only [Instr.sliceBounds, Sem.run_bind, Sem.run_pure, Result.andThen_ok, Option.getD_none, Option.getD_some, Int.toNat_natCast, Int.toNat_zero]
  · rw [bd _ _ _ _ h5 (by omega)]; rfl
  · rw [bd _ _ _ _ h3 (by omega)]; rfl
  · rw [bd _ _ _ _ h3 (by omega)]; simp only [Result.andThen_ok]; rw [bd _ _ _ _ h5 (by omega)]; rfl
  · rw [bd _ _ _ _ h1 (by omega)]; simp only [Result.andThen_ok]; rw [bd _ _ _ _ h3 (by omega)]; rfl
  · rw [bd _ _ _ _ h1 (by omega)]; simp only [Result.andThen_ok]; rw [bd _ _ _ _ h3 (by omega)]; simp only [Result.andThen_ok]; rw [bd _ _ _ _ h5 (by omega)]; rfl
end ops
end Go.Proofs.YtdfpjhlckjognaaGreat.Fw
set_option linter.unusedSimpArgs false
namespace Go.Proofs.YtdfpjhlckjognaaGreat.Fw
open Go
section ops
variable {P : Program} {T : TTab} {o : Oper} {e : List AV} {C : Ora} {n : Nat} {H : AH} {f : AV → Tree} {r : Res}
theorem op_slice (hT : TOk P T) {t : Nat} {x : Operand} {lo hi mx : Option Operand} (ho : o.op = .slice t x lo hi mx) (h : run C n (opK T e o f) H = some r) : DoneP P o e C n H f r := by
  simp only [opK, ho] at h
  split at h
  case h_2 => simp [run] at h
  rename_i i hg
  split at h
  · rename_i el s l hh m hel hx hl hhh hm
    split at h
    case h_2 => simp [run] at h
    rename_i ie hie
    simp only [run, obind_eq] at h
    obtain ⟨s', hs', h⟩ := h
    refine DoneP.of h fun ι a w he _ => ?_
    obtain ⟨d1, hu1, hm1⟩ := TI.und (hT _ _ hg)
    rw [hel] at hm1; cases tdm_slice hm1
    have hs := ev_sound he x; rw [hx] at hs
    have rl := optI_run hl he
    have rh := optI_run hhh he
    have rm := optI_run hm he
    cases s with
    | none =>
      simp only [slcIn] at hs'
      split at hs'
      case isFalse => cases hs'
      rename_i hc
      cases hs'
      have ea : a.eval x = .slice none 0 0 := hs
      have hb := run_bounds (P := P) true 0 0 (lo.map a.eval) (hi.map a.eval) (mx.map a.eval) l hh m rl rh rm hc.1 hc.2.1 hc.2.2.1 hc.2.2.2.1 hc.2.2.2.2.1 hc.2.2.2.2.2.1 hc.2.2.2.2.2.2 w
      refine ⟨.slice none 0 0, ?_, rfl⟩
      obtain ⟨_, c1, c2, c3, c4, c5, c6⟩ : (m.isNone || hh.isSome) = true ∧ 0 ≤ m.getD ((0 : Nat) : Int) ∧ m.getD ((0 : Nat) : Int) ≤ ((0 : Nat) : Int) ∧ 0 ≤ hh.getD ((0 : Nat) : Int) ∧ hh.getD ((0 : Nat) : Int) ≤ m.getD ((0 : Nat) : Int) ∧ 0 ≤ l.getD 0 ∧ l.getD 0 ≤ hh.getD ((0 : Nat) : Int) := hc
      simp only [execOp, ho, ea, Instr.sliceAt, Instr.slice, Sem.run_bind, run_underlying hu1, Result.andThen_ok, hb, TI.run_size (hT _ _ hie)]
      have z1 : (hh.getD ((0 : Nat) : Int)).toNat - (l.getD 0).toNat = 0 := by omega
      have z2 : (m.getD ((0 : Nat) : Int)).toNat - (l.getD 0).toNat = 0 := by omega
      simp only [z1, z2]
      split <;> rfl
    | some sd =>
      simp only [slcIn] at hs'
      split at hs'
      case isFalse => cases hs'
      rename_i hc
      split at hs'
      case isFalse => cases hs'
      rename_i hz
      cases hs'
      obtain ⟨d, ad, c, hd, ea, hlc, hcc, had, hbs⟩ := hs
      obtain ⟨c0, c1, c2, c3, c4, c5, c6⟩ := hc
      have hmc : m = none ∨ ∃ j, m = some j := by cases m <;> simp
      have k1 : 0 ≤ m.getD c := by rcases hmc with rfl | ⟨j, rfl⟩ <;> simp at c1 ⊢ <;> omega
      have k2 : m.getD c ≤ c := by rcases hmc with rfl | ⟨j, rfl⟩ <;> simp at c2 ⊢; omega
      have k4 : hh.getD sd.len ≤ m.getD c := by rcases hmc with rfl | ⟨j, rfl⟩ <;> simp at c4 ⊢ <;> omega
      have hb := run_bounds (P := P) true sd.len c (lo.map a.eval) (hi.map a.eval) (mx.map a.eval) l hh m rl rh rm c0 k1 k2 c3 k4 c5 c6 w
      have hcap : (m.getD (sd.cap : Int)).toNat - (l.getD 0).toNat ≤ (m.getD (c : Int)).toNat - (l.getD 0).toNat := by rcases hmc with rfl | ⟨j, rfl⟩ <;> simp at c2 ⊢; omega
      refine ⟨.slice (some (if (m.getD (c : Int)).toNat = (l.getD 0).toNat then ad else ad.add ((l.getD 0).toNat * ie.size))) ((hh.getD (sd.len : Int)) - (l.getD 0)).toNat ((m.getD (c : Int)).toNat - (l.getD 0).toNat), ?_, d, _, (m.getD (c : Int)).toNat - (l.getD 0).toNat, hd, rfl, ?_, ?_, ?_, ?_⟩
      · rw [show ((hh.getD (sd.len : Int)) - (l.getD 0)).toNat = (hh.getD (sd.len : Int)).toNat - (l.getD 0).toNat by omega]
        simp only [execOp, ho, ea, Instr.sliceAt, Instr.slice, Sem.run_bind, run_underlying hu1, Result.andThen_ok, hb, TI.run_size (hT _ _ hie), Option.map_some]
        split <;> rfl
      · simp only []; omega
      · simp only []; rcases hmc with rfl | ⟨j, rfl⟩ <;> simp at c2 ⊢ <;> omega
      · by_cases hz0 : (m.getD (c : Int)).toNat - (l.getD 0).toNat = 0
        · exact .inl hz0
        · right
          have : c ≠ 0 := by omega
          have had := had.resolve_left this
          subst had
          rw [if_neg (by omega), addr_add]
          simp only [Addr.mk.injEq, true_and, and_true]; omega
      · simp only []
        rcases hmc with rfl | ⟨j, rfl⟩
        · simp at c1 c2 c4 k4 ⊢
          rcases hbs with hbs | hbs
          · left; omega
          · right
            rw [← hz]
            have e1 : (l.getD 0).toNat ≤ c := by omega
            have : (l.getD 0).toNat * sd.z + (c - (l.getD 0).toNat) * sd.z = c * sd.z := by rw [← Nat.add_mul]; congr 1; omega
            omega
        · left; simp at c1 c2 c4 ⊢; omega
  · rename_i s l hh hst hx hl hhh hm
    simp only [run] at h
    split at h
    case isFalse => simp [run] at h
    rename_i hc
    have hc : (0 ≤ l.getD 0 ∧ l.getD 0 ≤ hh.getD s.size) ∧ hh.getD s.size ≤ s.size := by simpa using hc
    refine DoneP.of h fun ι a w he _ => ?_
    obtain ⟨d1, hu1, hm1⟩ := TI.und (hT _ _ hg)
    rw [hst] at hm1; cases tdm_str hm1
    have rl := optI_run hl he
    have rh := optI_run hhh he
    have rm := optI_run hm he
    have hmx : mx.map a.eval = none := by
      rcases rm with ⟨_, e⟩ | ⟨_, _, e, _⟩
      · exact e
      · cases e
    have hb := run_bounds (P := P) false s.size s.size (lo.map a.eval) (hi.map a.eval) none l hh none rl rh (.inl ⟨rfl, rfl⟩) (by simp) (by simp) (by simp) (by omega) (by simpa using hc.2) hc.1.1 hc.1.2 w
    refine ⟨.string (s.extract (l.getD 0).toNat (hh.getD s.size).toNat), ?_, rfl⟩
    simp only [execOp, ho, ev_str he hx, Instr.sliceAt, Instr.slice, Sem.run_bind, run_underlying hu1, Result.andThen_ok, hmx, hb, Option.isSome_none, Bool.false_eq_true, if_false]
    rfl
  · rename_i len el q l hh m hel hx hl hhh hm
    split at h
    case h_2 => simp [run] at h
    rename_i ie hie
    simp only [run, obind_eq] at h
    obtain ⟨s', hs', h⟩ := h
    refine DoneP.of h fun ι a w he _ => ?_
    obtain ⟨d1, hu1, hm1⟩ := TI.und (hT _ _ hg)
    rw [hel] at hm1; cases tdm_arr hm1
    obtain ⟨d, hd, ea⟩ := ev_ptr he hx
    have rl := optI_run hl he
    have rh := optI_run hhh he
    have rm := optI_run hm he
    simp only [slcIn, if_true] at hs'
    split at hs'
    case isFalse => cases hs'
    rename_i hc
    cases hs'
    obtain ⟨c0, c1, c2, c3, c4, c5, c6⟩ := hc
    have hb := run_bounds (P := P) false len len (lo.map a.eval) (hi.map a.eval) (mx.map a.eval) l hh m rl rh rm c0 c1 c2 c3 c4 c5 c6 w
    refine ⟨.slice (some (if (m.getD (len : Int)).toNat = (l.getD 0).toNat then (⟨d.blk, d.base + q.2, none⟩ : Addr) else (⟨d.blk, d.base + q.2, none⟩ : Addr).add ((l.getD 0).toNat * ie.size))) ((hh.getD (len : Int)) - (l.getD 0)).toNat ((m.getD (len : Int)).toNat - (l.getD 0).toNat), ?_, d, _, (m.getD (len : Int)).toNat - (l.getD 0).toNat, hd, rfl, ?_, ?_, ?_, .inl ?_⟩
    · rw [show ((hh.getD (len : Int)) - (l.getD 0)).toNat = (hh.getD (len : Int)).toNat - (l.getD 0).toNat by omega]
      simp only [execOp, ho, ea, Instr.sliceAt, Instr.sureAddr, Sem.run_bind, run_underlying hu1, Result.andThen_ok, hb, TI.run_size (hT _ _ hie), Sem.run_pure]
    · simp only []; omega
    · simp only []; omega
    · by_cases hz0 : (m.getD (len : Int)).toNat - (l.getD 0).toNat = 0
      · exact .inl hz0
      · right
        rw [if_neg (by omega), addr_add]
        simp only [Addr.mk.injEq, true_and, and_true]; omega
    · simp only []; omega
  · simp [run] at h
theorem loadVar_run (hT : TOk P T) {t : Nat} {i : TI} (hg : T.get t = some i) {ι : Inj} {w : World} {l : List Sc} {b off : Nat} {vs : List Value} (h1 : LR ι l vs) (h3 : l.length = i.size) (h4 : ∀ (j : Nat) v, vs[j]? = some v → w.cell? ⟨b, off + j, none⟩ = some v) :
    (isAggD i.d = true → ∃ v, (loadVar t ⟨b, off, none⟩).run P w = .ok v w ∧ VR ι (.ag l) v) ∧
    (isAggD i.d = false → ∀ x, l = [x] → ∃ v, (loadVar t ⟨b, off, none⟩).run P w = .ok v w ∧ VR ι (.sc x) v) := by
  have h2 : vs.length = i.size := by rw [h1.length, h3]
  refine ⟨fun ha => ?_, fun ha x hx => ?_⟩
  · refine ⟨.agg vs.toArray, ?_, vs, h1, rfl⟩
    have := run_loadCells_list (P := P) w ⟨b, off, none⟩ vs (fun j v hj => by rw [addr_add]; exact h4 j v hj)
    rw [h2] at this
    simp [loadVar, TI.run_agg (hT _ _ hg), ha, TI.run_size (hT _ _ hg), this]
  · subst hx
    obtain ⟨v, l', rfl, hs, hn⟩ := h1
    refine ⟨v, ?_, hs⟩
    have := h4 0 v rfl
    simp [loadVar, TI.run_agg (hT _ _ hg), ha]
    simp at this
    simp [this]
def LoadS (P : Program) (o : Oper) (e : List AV) (q : Nat × Nat) (l : List Sc) (v : AV) : Prop :=
  ∀ (ι : Inj) (a : Act) (w : World), ER ι e a.tmps → (∀ d, ι q.1 = some d → ∃ vs, LR ι l vs ∧ ∀ (j : Nat) u, vs[j]? = some u → w.cell? ⟨d.blk, d.base + q.2 + j, none⟩ = some u) →
    ∃ v', (execOp a.eval o).run P w = .ok (.value v') w ∧ VR ι v v'
def DoneL (P : Program) (o : Oper) (x : Operand) (e : List AV) (C : Ora) (n : Nat) (H : AH) (f : AV → Tree) (r : Res) : Prop :=
  ∃ q l v, run C n (f v) H = some r ∧ ev e x = .sc (.p (some q)) ∧ H.rd q.1 q.2 l.length = some l ∧ v.cells = some l ∧ LoadS P o e q l v
theorem op_loadL (hT : TOk P T) {t : Nat} {x : Operand} (ho : o.op = .load t x) (h : run C n (opK T e o f) H = some r) : DoneL P o x e C n H f r := by
  simp only [opK, ho] at h
  split at h
  case h_2 => simp [run] at h
  rename_i i q hg hx
  split at h
  case h_1 => simp [run] at h
  rename_i hnt
  simp only [run, obind_eq] at h
  obtain ⟨l, hl, h⟩ := h
  have hlen : l.length = i.size := by
    unfold AH.rd at hl
    split at hl
    · split at hl
      · cases hl; simp; omega
      · cases hl
    · cases hl
  rcases decT_run (hT _ _ hg) (fun ts hts => hnt ts hts) hlen h with ⟨ha, h⟩ | ⟨ha, x', hx', h⟩
  · refine ⟨q, l, .ag l, h, hx, by rw [hlen]; exact hl, rfl, fun ι a w he hr => ?_⟩
    obtain ⟨d, hd, ea⟩ := ev_ptr he hx
    obtain ⟨vs, h1, h2⟩ := hr d hd
    obtain ⟨v, hv, hs⟩ := (loadVar_run hT hg h1 hlen h2).1 ha
    exact ⟨v, by simp [execOp, ho, ea, Instr.loadAt, Instr.sureAddr, hv], hs⟩
  · refine ⟨q, l, .sc x', h, hx, by rw [hlen]; exact hl, by rw [hx']; rfl, fun ι a w he hr => ?_⟩
    obtain ⟨d, hd, ea⟩ := ev_ptr he hx
    obtain ⟨vs, h1, h2⟩ := hr d hd
    obtain ⟨v, hv, hs⟩ := (loadVar_run hT hg h1 hlen h2).2 ha x' hx'
    exact ⟨v, by simp [execOp, ho, ea, Instr.loadAt, Instr.sureAddr, hv], hs⟩
theorem op_load (hT : TOk P T) {t : Nat} {x : Operand} (ho : o.op = .load t x) (h : run C n (opK T e o f) H = some r) : Done P o e C n H f r := by
  obtain ⟨q, l, v, h1, hx, hl, _, hs⟩ := op_loadL hT ho h
  refine Done.pure h1 fun ι a w he hh => hs ι a w he fun d hd => ?_
  obtain ⟨vs, h1, h2, h3, h4⟩ := hh.read hd hl
  exact ⟨vs, h1, h4⟩
theorem op_store (hT : TOk P T) {t : Nat} {x y : Operand} (ho : o.op = .store t x y) (h : run C n (opK T e o f) H = some r) : Done P o e C n H f r := by
  simp only [opK, ho] at h
  split at h
  case h_2 => simp [run] at h
  rename_i i q l hg hx hl
  split at h
  case isFalse => simp [run] at h
  rename_i hc
  simp only [run, obind_eq] at h
  obtain ⟨H', hw, h⟩ := h
  refine ⟨.un, H', h, wr_grow hw, fun ι a w he hh _ next Q k => ?_⟩
  obtain ⟨d, hd, ea⟩ := ev_ptr he hx
  have hv := ev_sound he y
  have hL := VR.cells hl hv
  obtain ⟨w1, w2, w3⟩ := hh.write P hd hw hL
  have hsz : (a.eval y).cells.size = i.size := by have := hL.length; simp at this; rw [this]; exact hc
  unfold Oper.wp
  have : (execOp a.eval o).run P w = .ok .skip (w.setCells d.blk (d.base + q.2) (a.eval y).cells.toList) := by
    simp [execOp, ho, ea, Instr.storeAt, Instr.sureAddr, storeVar, TI.run_size (hT _ _ hg), hsz, w1]
  rw [this]
  exact k undef _ ι trivial w2 w3
def AllocS (P : Program) (o : Oper) (e : List AV) (id : Nat) (l : List Sc) (v : AV) : Prop :=
  ∀ (ι : Inj) (a : Act) (w : World), ER ι e a.tmps → ∃ (vs : List Value) (ty : TypeId) (w1 : World) (v' : Value), SameW w1 w ∧ LR ι l vs ∧ (execOp a.eval o).run P w = .ok (.value v') (w1.alloc (.cells ⟨vs⟩ ty)) ∧
      ∀ ι' : Inj, ι' id = some ⟨w.heap.size, 0, l.length, false⟩ → VR ι' v v'
def DoneA (P : Program) (o : Oper) (e : List AV) (C : Ora) (n : Nat) (H : AH) (f : AV → Tree) (r : Res) : Prop :=
  ∃ l v, run C n (f v) (H.new (.cells false l)) = some r ∧ AllocS P o e H.next l v
theorem alloc_done {l : List Sc} {v : Nat → AV} (h : run C n (f (v H.next)) (H.new (.cells false l)) = some r)
    (hp : ∀ ι (a : Act) (w : World), ER ι e a.tmps → True → ∃ (vs : List Value) (ty : TypeId) (w1 : World) (v' : Value), SameW w1 w ∧ LR ι l vs ∧ (execOp a.eval o).run P w = .ok (.value v') (w1.alloc (.cells ⟨vs⟩ ty)) ∧
      ∀ ι' : Inj, ι' H.next = some ⟨w.heap.size, 0, l.length, false⟩ → VR ι' (v H.next) v') : DoneA P o e C n H f r :=
  ⟨l, v H.next, h, fun ι a w he => hp ι a w he trivial⟩
theorem DoneA.done (h : DoneA P o e C n H f r) : Done P o e C n H f r := by
  obtain ⟨l, v, h, hp⟩ := h
  refine ⟨v, H.new (.cells false l), h, Grow.new _ _, fun ι a w he hh g next Q k => ?_⟩
  obtain ⟨vs, ty, w1, v', hw1, hl, hrun, hvr⟩ := hp ι a w he
  have hn : ι H.next = none := g H.next (Nat.le_refl _) (by simp [AH.new])
  have hh1 : HR ι H w1 := hh.same_heap hw1.1
  have hlen : vs.length = l.length := hl.length
  have ho := OR.cells_new (w := w1) (e := ty) (c := ⟨vs⟩) (hl.mono fun _ _ => SR.mono (Inj.le_add (d := ⟨w1.heap.size, 0, (Array.mk vs).size, false⟩) hn)) (fun j v hj => by simpa using hj) (by simp; omega)
  obtain ⟨m1, m2⟩ := hh1.make (d := ⟨w1.heap.size, 0, (Array.mk vs).size, false⟩) hn rfl rfl ho
  unfold Oper.wp
  rw [hrun]
  have hst : Stp ι H w (ι.add H.next ⟨w1.heap.size, 0, (Array.mk vs).size, false⟩) (H.new (.cells false l)) (w1.alloc (.cells ⟨vs⟩ ty)) := (Stp.same_heap hw1).trans m2 g
  refine k v' _ _ (hvr _ ?_) m1 hst
  rw [Inj.add_at]; simp [hlen, hw1.1]
theorem TI.zero_run (hT : TOk P T) {t : Nat} {i : TI} (hg : T.get t = some i) (hn : ∀ ts, i.d ≠ .tup ts) (w : World) : ∃ z, (zeroValue t).run P w = .ok z w ∧ constScs z.cells.toList = some i.zero ∧ i.zero.length = i.size := by
  obtain ⟨⟨inf, z, h1, h2, h3, h4⟩, _⟩ := TI.more (hT _ _ hg) hn
  exact ⟨z, by simp [zeroValue, typeInfo, h1, h2], h3, h4⟩
theorem op_alloc (hT : TOk P T) {t : Nat} (ho : o.op = .alloc t) (h : run C n (opK T e o f) H = some r) : DoneA P o e C n H f r := by
  simp only [opK, ho] at h
  split at h
  case h_2 => simp [run] at h
  rename_i i hg
  split at h
  case h_1 => simp [run] at h
  rename_i hnt
  simp only [run] at h
  refine alloc_done (v := fun id => .sc (.p (some (id, 0)))) h fun ι a w he hh => ?_
  obtain ⟨z, hz, hc, _⟩ := TI.zero_run hT hg (fun ts hts => hnt ts hts) w
  refine ⟨z.cells.toList, t, w, .pointer (some ⟨w.heap.size, 0, none⟩), ⟨rfl, rfl, rfl, rfl⟩, constScs_sound hc ι, ?_, fun ι' h => ⟨_, h, rfl⟩⟩
  simp [execOp, ho, Instr.alloc, hz, newVar, newRow]
theorem op_box {t : Nat} {x : Operand} (ho : o.op = .box t x) (h : run C n (opK T e o f) H = some r) : DoneA P o e C n H f r := by
  simp only [opK, ho] at h
  split at h
  case h_2 => simp [run] at h
  rename_i i l hg hl
  simp only [run] at h
  refine alloc_done (v := fun id => .sc (.p (some (id, 0)))) h fun ι a w he hh => ?_
  have hL := VR.cells hl (ev_sound he x)
  refine ⟨(a.eval x).cells.toList, t, w, .pointer (some ⟨w.heap.size, 0, none⟩), ⟨rfl, rfl, rfl, rfl⟩, hL, ?_, fun ι' h => ⟨_, h, rfl⟩⟩
  simp [execOp, ho, Instr.box, newVar, newRow]
end ops
end Go.Proofs.YtdfpjhlckjognaaGreat.Fw
set_option linter.unusedSimpArgs false
namespace Go.Proofs.YtdfpjhlckjognaaGreat.Fw
open Go
theorem zeros_length (z : List Sc) : ∀ n, (zeros z n).length = n * z.length
  | 0 => by simp [zeros]
  | n + 1 => by simp [zeros, zeros_length z n, Nat.add_mul, Nat.add_comm]
theorem zeros_get (z : List Sc) : ∀ (n i : Nat), i < n * z.length → (zeros z n)[i]? = z[i % z.length]?
  | 0, i, h => by simp at h
  | n + 1, i, h => by
    rw [zeros]
    by_cases hi : i < z.length
    · rw [List.getElem?_append_left hi, Nat.mod_eq_of_lt hi]
    · have h' : i < n * z.length + z.length := by rw [Nat.add_mul, Nat.one_mul] at h; exact h
      have e : i % z.length = (i - z.length) % z.length := Nat.mod_eq_sub_mod (by omega)
      rw [List.getElem?_append_right (by omega), zeros_get z n (i - z.length) (by omega), e]
theorem zeros_LR {ι : Inj} {z : List Sc} {zv : Array Value} (h : LR ι z zv.toList) (n m : Nat) (hm : m = n * zv.size) :
    LR ι (zeros z n) ((Array.range m).map fun i => zv[i % zv.size]!).toList := by
  have hl : zv.size = z.length := by have := h.length; simpa using this
  subst hm
  apply All2.of_get
  · simp [zeros_length, hl]
  · intro j x y hx hy
    simp only [Array.toList_map, Array.toList_range, List.getElem?_map, Option.map_eq_some_iff] at hy
    obtain ⟨k, hk, rfl⟩ := hy
    have hj : j < n * zv.size ∧ k = j := by
      obtain ⟨h1, h2⟩ := List.getElem?_eq_some_iff.1 hk
      simp at h1 h2
      exact ⟨h1, h2.symm⟩
    obtain ⟨hj, rfl⟩ := hj
    rw [zeros_get z n k (by rw [← hl]; exact hj), ← hl] at hx
    obtain ⟨v, hv, hs⟩ := h.get _ x hx
    have : zv[k % zv.size]? = some v := by simpa using hv
    simp [getElem!_def, this]; exact hs
theorem fill_fold (off : Nat) : ∀ (l : List Value) (k : Nat) (cs : Array Value), off + k + l.length ≤ cs.size →
    ((l.zipIdx k).foldl (fun cs p => cs.setIfInBounds (off + p.2) p.1) cs).toList = cs.toList.take (off + k) ++ l ++ cs.toList.drop (off + k + l.length)
  | [], k, cs, _ => by simp
  | v :: l, k, cs, h => by
    rw [List.zipIdx_cons, List.foldl_cons, fill_fold off l (k + 1) _ (by simp at h ⊢; omega)]
    have := list_seg_step cs.toList (off + k) v l (by simp at h ⊢; omega)
    simp only [Array.toList_setIfInBounds, List.length_cons]
    rw [show off + (k + 1) = off + k + 1 by omega]
    exact this
theorem All2.splice {ι : Inj} {l m : List Sc} {l' m' : List Value} (off size : Nat) (h : LR ι l l') (hm : LR ι m m') (_ : m.length = size) : LR ι (l.take off ++ m ++ l.drop (off + size)) (l'.take off ++ m' ++ l'.drop (off + size)) :=
  All2.append (All2.append (h.take off) hm) (h.drop _)
theorem fill_sound {ι : Inj} {e : List AV} {a : Act} (he : ER ι e a.tmps) {placeA place : Nat → Option (Nat × Nat)} : ∀ (ps : List (Nat × Operand)) (c l : List Sc) (c' : Array Value),
    (∀ p ∈ ps, ∀ q, placeA p.1 = some q → place p.1 = some q) → LR ι c c'.toList → fillA placeA c (ps.map fun p => (p.1, ev e p.2)) = some l →
    ∃ l' : Array Value, Instr.fill place c' (ps.map fun p => (p.1, a.eval p.2)) = some l' ∧ LR ι l l'.toList
  | [], c, l, c', _, hc, h => by simp [fillA] at h; subst h; exact ⟨c', rfl, hc⟩
  | p :: ps, c, l, c', hpl, hc, h => by
    simp only [List.map_cons, fillA] at h
    split at h
    case h_2 => cases h
    rename_i off size m hp hm
    split at h
    case isFalse => cases h
    rename_i hsz
    have hL := VR.cells hm (ev_sound he p.2)
    have hsz' : (a.eval p.2).cells.size = size := by have := hL.length; simp at this; omega
    have hcl : c'.size = c.length := by have := hc.length; simpa using this
    have hf := fill_fold off (a.eval p.2).cells.toList 0 c' (by simp; omega)
    have hnew : LR ι (c.take off ++ m ++ c.drop (off + size)) (((a.eval p.2).cells.zipIdx.foldl (fun cs p => cs.setIfInBounds (off + p.2) p.1) c').toList) := by
      rw [← Array.foldl_toList, Array.toList_zipIdx, hf]
      have := All2.splice off size hc hL hsz.1
      simpa [hsz'] using this
    obtain ⟨l', h1, h2⟩ := fill_sound he ps _ l _ (fun q hq => hpl q (by simp [hq])) hnew h
    refine ⟨l', ?_, h2⟩
    simp only [List.map_cons, Instr.fill, hpl p (by simp) _ hp]
    rw [if_neg (by simp [hsz']; omega)]
    exact h1
section ops
variable {P : Program} {T : TTab} {o : Oper} {e : List AV} {C : Ora} {n : Nat} {H : AH} {f : AV → Tree} {r : Res}
theorem notTup_ne {d : TD} (h : notTup d = true) : ∀ ts, d ≠ .tup ts := by
  intro ts e; subst e; simp [notTup] at h
theorem run_list_mapM {α β : Type} (g : α → Sem β) (k : α → β) (w : World) : ∀ (l : List α), (∀ x ∈ l, (g x).run P w = .ok (k x) w) → (l.mapM g).run P w = .ok (l.map k) w
  | [], _ => rfl
  | x :: l, h => by
    rw [List.mapM_cons, Sem.run_bind, h x (by simp), Result.andThen_ok, Sem.run_bind, run_list_mapM g k w l (fun y hy => h y (by simp [hy])), Result.andThen_ok]
    rfl
theorem op_build (hT : TOk P T) {t : Nat} {ps : Array (Nat × Operand)} (ho : o.op = .build t ps) (h : run C n (opK T e o f) H = some r) : DoneP P o e C n H f r := by
  simp only [opK, ho] at h
  split at h
  case h_2 => simp [run] at h
  rename_i i hg
  split at h
  · rename_i fs hfs
    split at h
    case isFalse => simp [run] at h
    rename_i hall
    split at h
    case h_2 => simp [run] at h
    rename_i l hl
    refine DoneP.of h fun ι a w he _ => ?_
    obtain ⟨d1, hu1, hm1⟩ := TI.und (hT _ _ hg)
    rw [hfs] at hm1
    obtain ⟨fa, rfl, hfa, _⟩ := tdm_struct hm1
    obtain ⟨z, hz, hc, _⟩ := TI.zero_run hT hg (by rw [hfs]; simp) w
    have hpl : ∀ p ∈ ps.toList, ∀ q, (fun j => (fs[j]?).map fun p => (p.1, ((T.get p.2).map (·.size)).getD 0)) p.1 = some q → (fun j => (fa.map fun fl => (fl.offset, ((T.get fl.type).map (·.size)).getD 0))[j]?) p.1 = some q := by
      intro p _ q hq
      simp only [← hfa, List.getElem?_map, Option.map_map] at hq
      simp only [Array.getElem?_map]
      rw [← hq]; simp [Function.comp_def]
    obtain ⟨l', h1, h2⟩ := fill_sound he ps.toList i.zero l z.cells hpl (constScs_sound hc ι) hl
    refine ⟨.agg l', ?_, l'.toList, h2, by simp⟩
    have hmap : (fa.mapM fun f => (do pure (f.offset, ← sizeOf f.type) : Sem (Nat × Nat))).run P w = .ok (fa.map fun fl => (fl.offset, ((T.get fl.type).map (·.size)).getD 0)) w := by
      rw [Array.mapM_eq_mapM_toList, Sem.run_map, run_list_mapM _ (fun fl => (fl.offset, ((T.get fl.type).map (·.size)).getD 0)) w]
      · simp only [Result.andThen_ok]; congr 1; apply Array.ext'; simp
      · intro fl hfl
        have : (T.get fl.type).isSome = true := by
          have := List.all_eq_true.1 hall (fl.offset, fl.type) (by rw [← hfa]; exact List.mem_map.2 ⟨fl, hfl, rfl⟩)
          exact this
        obtain ⟨fi, hfi⟩ := Option.isSome_iff_exists.1 this
        simp [TI.run_size (hT _ _ hfi), hfi]
    have hps : (ps.map fun x => (x.1, a.eval x.2)).toList = ps.toList.map fun x => (x.1, a.eval x.2) := by simp
    simp only [execOp, ho, Instr.build, Sem.run_bind, hz, Result.andThen_ok, run_underlying hu1, hmap, hps, h1, Sem.run_pure]
  · rename_i len el hel
    split at h
    case h_2 => simp [run] at h
    rename_i ie hie
    split at h
    case h_2 => simp [run] at h
    rename_i l hl
    refine DoneP.of h fun ι a w he _ => ?_
    obtain ⟨d1, hu1, hm1⟩ := TI.und (hT _ _ hg)
    rw [hel] at hm1; cases tdm_arr hm1
    obtain ⟨z, hz, hc, _⟩ := TI.zero_run hT hg (by rw [hel]; simp) w
    obtain ⟨l', h1, h2⟩ := fill_sound (place := fun j => some (j * ie.size, ie.size)) he ps.toList i.zero l z.cells (fun _ _ _ h => h) (constScs_sound hc ι) hl
    refine ⟨.agg l', ?_, l'.toList, h2, by simp⟩
    have hps : (ps.map fun x => (x.1, a.eval x.2)).toList = ps.toList.map fun x => (x.1, a.eval x.2) := by simp
    simp only [execOp, ho, Instr.build, Sem.run_bind, hz, Result.andThen_ok, run_underlying hu1, TI.run_size (hT _ _ hie), hps, h1, Sem.run_pure]
  · simp [run] at h
theorem op_buildSlice (hT : TOk P T) {t m : Nat} {ps : Array (Nat × Operand)} (ho : o.op = .buildSlice t m ps) (h : run C n (opK T e o f) H = some r) : DoneA P o e C n H f r := by
  simp only [opK, ho] at h
  split at h
  case h_2 => simp [run] at h
  rename_i i hg
  split at h
  case h_2 => simp [run] at h
  rename_i el hel
  split at h
  case h_2 => simp [run] at h
  rename_i ie hie
  split at h
  case isFalse => simp [run] at h
  rename_i hsz
  split at h
  case h_2 => simp [run] at h
  rename_i l hl
  simp only [run] at h
  refine alloc_done (v := fun id => .sc (.sl (some ⟨id, 0, m, m, ie.size⟩))) h fun ι a w he hh => ?_
  obtain ⟨d1, hu1, hm1⟩ := TI.und (hT _ _ hg)
  rw [hel] at hm1; cases tdm_slice hm1
  have hps : (ps.map fun x => (x.1, a.eval x.2)).toList = ps.toList.map fun x => (x.1, a.eval x.2) := by simp
  have hsz' : ¬ (m * ie.size > 2 ^ 24) := by have := hsz.1; omega
  obtain ⟨z, hz, hc, hzlen⟩ := TI.zero_run hT hie (notTup_ne hsz.2) w
  have hzs : z.cells.size = ie.size := by have := (constScs_sound hc ι).length; simpa [hzlen] using this
  have key : ∀ zc : Array Value, LR ι (zeros ie.zero m) ((Array.range (m * ie.size)).map (zc[· % zc.size]!)).toList → (m * ie.size = 0 ∧ zc = #[] ∨ ¬ m * ie.size = 0 ∧ zc = z.cells) → ∃ (vs : List Value) (ty : TypeId) (w1 : World) (v' : Value), SameW w1 w ∧ LR ι l vs ∧ (execOp a.eval o).run P w = .ok (.value v') (w1.alloc (.cells ⟨vs⟩ ty)) ∧
      ∀ ι' : Inj, ι' H.next = some ⟨w.heap.size, 0, l.length, false⟩ → VR ι' (.sc (.sl (some ⟨H.next, 0, m, m, ie.size⟩))) v' := by
    intro zc hzl hzc
    obtain ⟨l', h1, h2⟩ := fill_sound (placeA := fun j => some (j * ie.size, ie.size)) (place := fun j => some (j * ie.size, ie.size)) he ps.toList _ l _ (fun _ _ _ h => h) hzl hl
    refine ⟨l'.toList, el, w, .slice (some ⟨w.heap.size, 0, none⟩) m m, ⟨rfl, rfl, rfl, rfl⟩, h2, ?_, fun ι' h => ⟨_, ⟨w.heap.size, 0, none⟩, m, h, rfl, Nat.le_refl _, Nat.le_refl _, .inr rfl, .inl rfl⟩⟩
    rcases hzc with ⟨h0, rfl⟩ | ⟨h0, rfl⟩
    · simp only [execOp, ho, Instr.buildSlice, Sem.run_bind, Result.andThen_ok, run_underlying hu1, TI.run_size (hT _ _ hie), if_neg hsz', Sem.run_pure, if_pos h0, hps, h1, newRow, run_newObj, World.alloc_eq]
    · simp only [execOp, ho, Instr.buildSlice, Sem.run_bind, Result.andThen_ok, run_underlying hu1, TI.run_size (hT _ _ hie), if_neg hsz', Sem.run_pure, if_neg h0, hz, hps, h1, newRow, run_newObj, World.alloc_eq]
  by_cases h0 : m * ie.size = 0
  · refine key #[] ?_ (.inl ⟨h0, rfl⟩)
    have : zeros ie.zero m = [] := List.eq_nil_of_length_eq_zero (by rw [zeros_length, hzlen]; exact h0)
    rw [this, h0]; simp [LR, All2]
  · exact key z.cells (zeros_LR (constScs_sound hc ι) m _ (by rw [hzs])) (.inr ⟨h0, rfl⟩)
end ops
end Go.Proofs.YtdfpjhlckjognaaGreat.Fw
