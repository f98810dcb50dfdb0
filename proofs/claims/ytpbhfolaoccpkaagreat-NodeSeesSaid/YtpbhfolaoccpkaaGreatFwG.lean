/- The operations that only compute: each against the model's run. -/
import Derived.Test.YtpbhfolaoccpkaaGreatFwE
import Derived.Laws.Strings
import Derived.Laws.Pointers
import Derived.Laws.DeepStrings4
set_option linter.unusedSimpArgs false
namespace Go.Proofs.YtpbhfolaoccpkaaGreat.Fw
open Go
section ops
variable {P : Program} {T : TTab} {o : Oper} {e : List AV} {C : Ora} {n : Nat} {H : AH} {f : AV → Tree} {r : Res}

theorem op_move {x : Operand} (ho : o.op = .move x) (h : run C n (opK T e o f) H = some r) : DoneP P o e C n H f r := by
  simp only [opK, ho] at h
  exact DoneP.of h fun ι a w he _ => ⟨a.eval x, by simp [execOp, ho], ev_sound he x⟩
theorem op_assign {x : Operand} (ho : o.op = .assign x) (h : run C n (opK T e o f) H = some r) : DoneP P o e C n H f r := by
  simp only [opK, ho] at h
  exact DoneP.of h fun ι a w he _ => ⟨a.eval x, by simp [execOp, ho], ev_sound he x⟩
theorem op_pick {c x y : Operand} (ho : o.op = .pick c x y) (h : run C n (opK T e o f) H = some r) : DoneP P o e C n H f r := by
  simp only [opK, ho] at h
  split at h
  · rename_i b hb
    cases b
    · refine DoneP.of h fun ι a w he _ => ⟨a.eval y, ?_, ev_sound he y⟩
      have := ev_sound he c; rw [hb] at this
      have e : a.eval c = .bool false := this
      simp [execOp, ho, e, asBool]
    · refine DoneP.of h fun ι a w he _ => ⟨a.eval x, ?_, ev_sound he x⟩
      have := ev_sound he c; rw [hb] at this
      have e : a.eval c = .bool true := this
      simp [execOp, ho, e, asBool]
  · simp [run] at h

theorem op_nilCheck {x : Operand} (ho : o.op = .nilCheck x) (h : run C n (opK T e o f) H = some r) : DoneP P o e C n H f r := by
  simp only [opK, ho] at h
  split at h
  · rename_i q hq
    simp only [run, obind_eq] at h
    obtain ⟨q', rfl, h⟩ := h
    refine DoneP.of h fun ι a w he _ => ?_
    have := ev_sound he x; rw [hq] at this
    obtain ⟨d, hd, e⟩ := this
    exact ⟨_, by simp [execOp, ho, e], d, hd, rfl⟩
  · rename_i g fs cs hq
    refine DoneP.of h fun ι a w he _ => ?_
    have := ev_sound he x; rw [hq] at this
    obtain ⟨l, l', h1, h2, e⟩ := this
    exact ⟨_, by simp [execOp, ho, e], l, l', h1, h2, rfl⟩
  · simp [run] at h

theorem op_makeFunc {g : FuncId} {fs cs : Array Operand} (ho : o.op = .makeFunc (.func g) fs cs) (h : run C n (opK T e o f) H = some r) : DoneP P o e C n H f r := by
  simp only [opK, ho] at h
  split at h
  · rename_i a b ha hb
    refine DoneP.of h fun ι ac w he _ => ?_
    have key : ∀ (l : List Operand) (q : List (Nat × Nat)), (evs e l).mapM (fun v => match v with | .sc (.p (some q)) => some q | _ => none) = some q → All2 (PtR ι) q (l.map ac.eval) := by
      intro l
      induction l with
      | nil => intro q hq; simp [evs] at hq; subst hq; rfl
      | cons x l ih =>
        intro q hq
        simp only [evs, List.map_cons, List.mapM_cons, Option.bind_eq_bind, Option.pure_def, Option.bind_eq_some_iff] at hq
        obtain ⟨y, hy, ys, hys, hq⟩ := hq
        cases hq
        split at hy
        · rename_i q0 hx
          cases hy
          have := ev_sound he x; rw [hx] at this
          exact ⟨_, _, rfl, this, ih ys hys⟩
        · cases hy
    refine ⟨_, by simp [execOp, ho, Instr.makeFunc] <;> rfl, fs.toList.map ac.eval, cs.toList.map ac.eval, key _ _ ha, key _ _ hb, ?_⟩
    congr 1
    · apply Array.ext'; simp
    · apply Array.ext'; simp
  · simp [run] at h

/-! binary and unary operations -/
theorem intBin_sound {op : BinOp} {k : IntKind} {x y : Int} (h : run C n (intBin op k x y f) H = some r) (hs : op ≠ .shl) (hs' : op ≠ .shr) :
    ∃ v, run C n (f v) H = some r ∧ ∀ (xt : Nat) (w : World) (ι : Inj), ∃ v', (binOp op xt (.int k x) (.int k y)).run P w = .ok v' w ∧ VR ι v v' := by
  cases op <;> simp only [intBin] at h
  case shl => exact absurd rfl hs
  case shr => exact absurd rfl hs'
  case quo =>
    simp only [run] at h
    split at h
    · rename_i hy
      have hy : ¬ y = 0 := by simpa using hy
      exact ⟨_, h, fun xt w ι => ⟨_, by simp [binOp, Op.intDiv, hy] <;> rfl, rfl⟩⟩
    · simp [run] at h
  case rem =>
    simp only [run] at h
    split at h
    · rename_i hy
      have hy : ¬ y = 0 := by simpa using hy
      exact ⟨_, h, fun xt w ι => ⟨_, by simp [binOp, Op.intDiv, hy] <;> rfl, rfl⟩⟩
    · simp [run] at h
  all_goals exact ⟨_, h, fun xt w ι => ⟨_, by simp [binOp, Op.intArith, Op.intBits, Op.intCmp] <;> rfl, rfl⟩⟩

theorem fltRes_sound {op : BinOp} {k : FloatKind} {a b : Nat} {s : Sc} (h : fltRes op k a b = some s) (xt : Nat) (w : World) (ι : Inj) : ∃ v', (binOp op xt (.float k a) (.float k b)).run P w = .ok v' w ∧ VR ι (.sc s) v' := by
  cases op <;> simp only [fltRes, Option.map_eq_some_iff, Option.some.injEq] at h
  case add => obtain ⟨r, h1, rfl⟩ := h; exact ⟨.float k r, by simp [binOp, Op.floatArith, h1], rfl⟩
  case sub => obtain ⟨r, h1, rfl⟩ := h; exact ⟨.float k r, by simp [binOp, Op.floatArith, h1], rfl⟩
  case mul => obtain ⟨r, h1, rfl⟩ := h; exact ⟨.float k r, by simp [binOp, Op.floatArith, h1], rfl⟩
  case quo => obtain ⟨r, h1, rfl⟩ := h; exact ⟨.float k r, by simp [binOp, Op.floatArith, h1], rfl⟩
  all_goals first | (cases h; done) | (subst h; exact ⟨_, by simp [binOp, Op.floatCmp] <;> rfl, rfl⟩)
theorem cxRes_sound {op : BinOp} {k : FloatKind} {a b c d : Nat} {s : Sc} (h : cxRes op k a b c d = some s) (xt : Nat) (w : World) (ι : Inj) : ∃ v', (binOp op xt (.complex k a b) (.complex k c d)).run P w = .ok v' w ∧ VR ι (.sc s) v' := by
  cases op <;> simp only [cxRes] at h
  case add =>
    split at h
    · rename_i x y h1 h2; cases h
      exact ⟨.complex k x y, by simp [binOp, Op.complexOp, Op.Complex.arith, Op.floatArith, h1, h2], rfl⟩
    · cases h
  case sub =>
    split at h
    · rename_i x y h1 h2; cases h
      exact ⟨.complex k x y, by simp [binOp, Op.complexOp, Op.Complex.arith, Op.floatArith, h1, h2], rfl⟩
    · cases h
  case mul =>
    split at h
    · rename_i hk; subst hk
      split at h
      · rename_i p q r s' h1 h2 h3 h4
        split at h
        · rename_i x y h5 h6; cases h
          exact ⟨.complex .f64 x y, by simp [binOp, Op.complexOp, Op.Complex.product, Op.Complex.conv, Op.Complex.mul, Op.Complex.add, Op.Complex.sub, Op.Complex.arith, Op.floatArith, h1, h2, h3, h4, h5, h6], rfl⟩
        · cases h
      · cases h
    · cases h
  all_goals first | (cases h; done) | (cases h; exact ⟨_, by simp [binOp, Op.complexOp, Op.Complex.cmp, Op.floatCmp, asBool] <;> rfl, rfl⟩)

theorem run_eqGuard_plain (op : BinOp) (t : Nat) (x y : Operand) {a b : Value} (ha : ∀ c, a ≠ .agg c) (hn : a ≠ .nilIface) (w : World) : (eqGuard op t x y a b).run P w = .ok () w := by
  cases op <;> simp [eqGuard] <;> (split <;> first | rfl | exact absurd rfl hn | exact absurd rfl (ha _))

theorem tdOf_und (hT : TOk P T) {t : Nat} {d : TD} (h : tdOf T t = some d) : ∃ dd, P.underlying t = some dd ∧ tdm d dd = true := by
  unfold tdOf at h
  cases hg : T.get t with
  | none => rw [hg] at h; cases h
  | some i => rw [hg] at h; cases h; exact TI.und (hT _ _ hg)
theorem tdm_ptr {d : TypeDesc} {e : Nat} (h : tdm (.ptr e) d = true) : d = .pointer e := by
  cases d <;> simp_all [tdm]
theorem run_equal_pointer_nil' (w : World) (t e : Nat) (q : Option Addr) (h : P.underlying t = some (.pointer e)) : (Op.equal t (.pointer q) (.pointer none)).run P w = .ok q.isNone w := by
  have : P.pointee t = e := by simp [Program.pointee, h]
  exact run_equal_pointer_nil w t q (by rw [this]; exact h)

theorem binK_sound (hT : TOk P T) {op : BinOp} {xt : Nat} {x y : AV} (h : run C n (binK T op xt x y f) H = some r) :
    ∃ v, run C n (f v) H = some r ∧ ∀ (ι : Inj) (vx vy : Value) (ox oy : Operand) (w : World), VR ι x vx → VR ι y vy →
      ∃ v', ((do eqGuard op xt ox oy vx vy; binOp op xt vx vy : Sem Value)).run P w = .ok v' w ∧ VR ι v v' := by
  unfold binK at h
  split at h
  · rename_i k a k' b
    split at h
    · simp only [shiftBin, run] at h
      split at h
      · rename_i hb
        have hb : ¬ b < 0 := by simpa using hb
        refine ⟨_, h, fun ι vx vy ox oy w h1 h2 => ?_⟩
        cases h1; cases h2
        refine ⟨_, ?_, rfl⟩
        rw [Sem.run_bind, run_eqGuard_plain _ _ _ _ (by simp) (by simp), Result.andThen_ok]
        simp [binOp, Op.shift, hb]
      · simp [run] at h
    · simp only [shiftBin, run] at h
      split at h
      · rename_i hb
        have hb : ¬ b < 0 := by simpa using hb
        refine ⟨_, h, fun ι vx vy ox oy w h1 h2 => ?_⟩
        cases h1; cases h2
        refine ⟨_, ?_, rfl⟩
        rw [Sem.run_bind, run_eqGuard_plain _ _ _ _ (by simp) (by simp), Result.andThen_ok]
        simp [binOp, Op.shift, hb]
      · simp [run] at h
    · rename_i h1 h2
      split at h
      · rename_i hk
        subst hk
        obtain ⟨v, hv, hs⟩ := intBin_sound (P := P) h (fun e => h1 e) (fun e => h2 e)
        refine ⟨v, hv, fun ι vx vy ox oy w h1 h2 => ?_⟩
        cases h1; cases h2
        obtain ⟨v', e1, e2⟩ := hs xt w ι
        refine ⟨v', ?_, e2⟩
        rw [Sem.run_bind, run_eqGuard_plain _ _ _ _ (by simp) (by simp), Result.andThen_ok, e1]
      · simp [run] at h
  · rename_i k a k' b
    split at h
    · rename_i hk; subst hk
      unfold orFail at h
      split at h
      · rename_i s hs
        refine ⟨_, h, fun ι vx vy ox oy w h1 h2 => ?_⟩
        cases h1; cases h2
        obtain ⟨v', e1, e2⟩ := fltRes_sound (P := P) hs xt w ι
        refine ⟨v', ?_, e2⟩
        rw [Sem.run_bind, run_eqGuard_plain _ _ _ _ (by simp) (by simp), Result.andThen_ok, e1]
      · simp [run] at h
    · simp [run] at h
  · rename_i k a b k' c d
    split at h
    · rename_i hk; subst hk
      unfold orFail at h
      split at h
      · rename_i s hs
        refine ⟨_, h, fun ι vx vy ox oy w h1 h2 => ?_⟩
        cases h1; cases h2
        obtain ⟨v', e1, e2⟩ := cxRes_sound (P := P) hs xt w ι
        refine ⟨v', ?_, e2⟩
        rw [Sem.run_bind, run_eqGuard_plain _ _ _ _ (by simp) (by simp), Result.andThen_ok, e1]
      · simp [run] at h
    · simp [run] at h
  · rename_i a b
    have go : ∀ (v' : Value), (Op.stringOp op a b : Sem Value).run P = (fun w => .ok v' w) → ∀ (ox oy : Operand) (w : World), ((do eqGuard op xt ox oy (.string a) (.string b); binOp op xt (.string a) (.string b) : Sem Value)).run P w = .ok v' w := by
      intro v' hv ox oy w
      rw [Sem.run_bind, run_eqGuard_plain _ _ _ _ (by simp) (by simp), Result.andThen_ok]
      cases op <;> simp only [binOp] <;> rw [hv]
    cases op <;> simp only [strBin] at h <;> first | (simp [run] at h; done) | skip
    case add =>
      simp only [run] at h
      split at h
      · rename_i hb
        have hb : (a.size : Int) + b.size ≤ 9223372036854775807 := by simpa using hb
        refine ⟨_, h, fun ι vx vy ox oy w h1 h2 => ?_⟩
        cases h1; cases h2
        exact ⟨_, go _ (by funext w; exact run_string_add_sum w a b (by omega)) ox oy w, rfl⟩
      · simp [run] at h
    all_goals
      refine ⟨_, h, fun ι vx vy ox oy w h1 h2 => ?_⟩
      cases h1; cases h2
      exact ⟨_, go _ (by funext w; simp [Op.stringOp] <;> rfl) ox oy w, rfl⟩
  · rename_i a b
    split at h
    case h_2 => simp [run] at h
    rename_i htd
    obtain ⟨dd, hu, hm⟩ := tdOf_und hT htd
    cases tdm_bool hm
    split at h
    · refine ⟨_, h, fun ι vx vy ox oy w h1 h2 => ?_⟩
      cases h1; cases h2
      refine ⟨.bool (a == b), ?_, rfl⟩
      rw [Sem.run_bind, run_eqGuard_plain _ _ _ _ (by simp) (by simp), Result.andThen_ok]
      simp [binOp, run_equal_bool w xt a b hu]
    · refine ⟨_, h, fun ι vx vy ox oy w h1 h2 => ?_⟩
      cases h1; cases h2
      refine ⟨.bool (!(a == b)), ?_, rfl⟩
      rw [Sem.run_bind, run_eqGuard_plain _ _ _ _ (by simp) (by simp), Result.andThen_ok]
      simp [binOp, run_equal_bool w xt a b hu]
    · simp [run] at h
  · rename_i a
    split at h
    case h_2 => simp [run] at h
    rename_i el htd
    obtain ⟨dd, hu, hm⟩ := tdOf_und hT htd
    cases tdm_ptr hm
    have ha : ∀ (ι : Inj) (v : Value), SR ι (.p a) v → ∃ q, v = .pointer q ∧ q.isNone = a.isNone := by
      intro ι v h
      cases a with
      | none => exact ⟨none, h, rfl⟩
      | some q => obtain ⟨d, _, e⟩ := h; exact ⟨_, e, rfl⟩
    split at h
    · refine ⟨_, h, fun ι vx vy ox oy w h1 h2 => ?_⟩
      obtain ⟨q, rfl, hq⟩ := ha ι vx h1
      cases h2
      refine ⟨.bool a.isNone, ?_, rfl⟩
      rw [Sem.run_bind, run_eqGuard_plain _ _ _ _ (by simp) (by simp), Result.andThen_ok]
      simp [binOp, run_equal_pointer_nil' w xt el q hu, hq]
    · refine ⟨_, h, fun ι vx vy ox oy w h1 h2 => ?_⟩
      obtain ⟨q, rfl, hq⟩ := ha ι vx h1
      cases h2
      refine ⟨.bool (!a.isNone), ?_, rfl⟩
      rw [Sem.run_bind, run_eqGuard_plain _ _ _ _ (by simp) (by simp), Result.andThen_ok]
      simp [binOp, run_equal_pointer_nil' w xt el q hu, hq]
    · simp [run] at h
  · rename_i a
    split at h
    case h_2 => simp [run] at h
    rename_i el htd
    obtain ⟨dd, hu, hm⟩ := tdOf_und hT htd
    cases tdm_slice hm
    have ha : ∀ (ι : Inj) (v : Value), SR ι (.sl a) v → ∃ q l c, v = .slice q l c ∧ q.isNone = a.isNone := by
      intro ι v h
      cases a with
      | none => exact ⟨none, 0, 0, h, rfl⟩
      | some q => obtain ⟨d, x, c, _, e, _⟩ := h; exact ⟨_, _, _, e, rfl⟩
    split at h
    · refine ⟨_, h, fun ι vx vy ox oy w h1 h2 => ?_⟩
      obtain ⟨q, l, c, rfl, hq⟩ := ha ι vx h1
      cases h2
      refine ⟨.bool a.isNone, ?_, rfl⟩
      rw [Sem.run_bind, run_eqGuard_plain _ _ _ _ (by simp) (by simp), Result.andThen_ok]
      simp [binOp, run_equal_slice_nil w xt el q l c hu, hq]
    · refine ⟨_, h, fun ι vx vy ox oy w h1 h2 => ?_⟩
      obtain ⟨q, l, c, rfl, hq⟩ := ha ι vx h1
      cases h2
      refine ⟨.bool (!a.isNone), ?_, rfl⟩
      rw [Sem.run_bind, run_eqGuard_plain _ _ _ _ (by simp) (by simp), Result.andThen_ok]
      simp [binOp, run_equal_slice_nil w xt el q l c hu, hq]
    · simp [run] at h
  · rename_i a b
    split at h
    case h_2 => simp [run] at h
    rename_i fs htd
    split at h
    case h_2 => simp [run] at h
    rename_i rr hr
    cases hg : T.get xt with
    | none => simp [tdOf, hg] at htd
    | some i =>
      have hd : i.d = .struct fs := by simpa [tdOf, hg] using htd
      have hgd := (TI.struct (hT _ _ hg) hd).1
      split at h
      · refine ⟨_, h, fun ι vx vy ox oy w h1 h2 => ?_⟩
        obtain ⟨va, h1, rfl⟩ := h1
        obtain ⟨vb, h2, rfl⟩ := h2
        refine ⟨.bool rr, ?_, rfl⟩
        rw [Sem.run_bind, run_eqGuard_agg w _ _ _ _ _ _ hgd, Result.andThen_ok, run_eql_struct,
          ((eqF_sound hT 8 xt a b rr hr ι va vb h1 h2 10000 w (by omega)).1 i fs hg hd)]
        rfl
      · refine ⟨_, h, fun ι vx vy ox oy w h1 h2 => ?_⟩
        obtain ⟨va, h1, rfl⟩ := h1
        obtain ⟨vb, h2, rfl⟩ := h2
        refine ⟨.bool (!rr), ?_, rfl⟩
        rw [Sem.run_bind, run_eqGuard_agg w _ _ _ _ _ _ hgd, Result.andThen_ok, run_neq_struct,
          ((eqF_sound hT 8 xt a b rr hr ι va vb h1 h2 10000 w (by omega)).1 i fs hg hd)]
        rfl
      · simp [run] at h
  · simp [run] at h

theorem op_binOp (hT : TOk P T) {op : BinOp} {xt yt : Nat} {x y : Operand} (ho : o.op = .binOp op xt x y yt) (h : run C n (opK T e o f) H = some r) : DoneP P o e C n H f r := by
  simp only [opK, ho] at h
  obtain ⟨v, hv, hs⟩ := binK_sound hT h
  refine DoneP.of hv fun ι a w he _ => ?_
  obtain ⟨v', e1, e2⟩ := hs ι (a.eval x) (a.eval y) x y w (ev_sound he x) (ev_sound he y)
  refine ⟨v', ?_, e2⟩
  simp only [execOp, ho]
  rw [Sem.run_bind, e1]; rfl

theorem op_unOp {op : UnOp} {t : Nat} {x : Operand} (ho : o.op = .unOp op t x) (h : run C n (opK T e o f) H = some r) : DoneP P o e C n H f r := by
  simp only [opK, ho, unK] at h
  split at h
  · rename_i b hb
    refine DoneP.of h fun ι a w he _ => ?_
    have := ev_sound he x; rw [hb] at this
    have e : a.eval x = .bool b := this
    exact ⟨.bool (!b), by simp [execOp, ho, e, Op.unary], rfl⟩
  · rename_i k b hb
    refine DoneP.of h fun ι a w he _ => ?_
    have := ev_sound he x; rw [hb] at this
    have e : a.eval x = .int k b := this
    exact ⟨_, by simp [execOp, ho, e, Op.unary, Op.intArith] <;> rfl, by simp [VR, SR]⟩
  · rename_i k b hb
    refine DoneP.of h fun ι a w he _ => ?_
    have := ev_sound he x; rw [hb] at this
    have e : a.eval x = .float k b := this
    exact ⟨.float k (Op.negFloat k b), by simp [execOp, ho, e, Op.unary], rfl⟩
  · rename_i k b c hb
    refine DoneP.of h fun ι a w he _ => ?_
    have := ev_sound he x; rw [hb] at this
    have e : a.eval x = .complex k b c := this
    exact ⟨.complex k (Op.negFloat k b) (Op.negFloat k c), by simp [execOp, ho, e, Op.unary], rfl⟩
  · simp [run] at h
end ops
end Go.Proofs.YtpbhfolaoccpkaaGreat.Fw
set_option linter.unusedSimpArgs false
namespace Go.Proofs.YtpbhfolaoccpkaaGreat.Fw
open Go
section ops
variable {P : Program} {T : TTab} {o : Oper} {e : List AV} {C : Ora} {n : Nat} {H : AH} {f : AV → Tree} {r : Res}

theorem ev_int {ι : Inj} {a : Act} {x : Operand} {k : IntKind} {j : Int} (he : ER ι e a.tmps) (h : ev e x = .sc (.i k j)) : a.eval x = .int k j := by
  have := ev_sound he x; rw [h] at this; exact this
theorem ev_str {ι : Inj} {a : Act} {x : Operand} {s : ByteArray} (he : ER ι e a.tmps) (h : ev e x = .sc (.s s)) : a.eval x = .string s := by
  have := ev_sound he x; rw [h] at this; exact this
theorem ev_ptr {ι : Inj} {a : Act} {x : Operand} {q : Nat × Nat} (he : ER ι e a.tmps) (h : ev e x = .sc (.p (some q))) : ∃ d, ι q.1 = some d ∧ a.eval x = .pointer (some ⟨d.blk, d.base + q.2, none⟩) := by
  have := ev_sound he x; rw [h] at this; exact this
theorem ev_ag {ι : Inj} {a : Act} {x : Operand} {l : List Sc} (he : ER ι e a.tmps) (h : ev e x = .ag l) : ∃ vs, LR ι l vs ∧ a.eval x = .agg ⟨vs⟩ := by
  have := ev_sound he x; rw [h] at this; exact this

theorem op_convert (hT : TOk P T) {s d : Nat} {x : Operand} (ho : o.op = .convert s d x) (h : run C n (opK T e o f) H = some r) : DoneP P o e C n H f r := by
  simp only [opK, ho] at h
  split at h
  · rename_i j i k m hs hd hx
    split at h
    · rename_i k' hk
      refine DoneP.of h fun ι a w he _ => ?_
      obtain ⟨d1, hu1, _⟩ := TI.und (hT _ _ hs)
      obtain ⟨d2, hu2, hm2⟩ := TI.und (hT _ _ hd)
      rw [hk] at hm2; cases tdm_int hm2
      refine ⟨.int k' (k'.wrap m), ?_, rfl⟩
      simp [execOp, ho, ev_int he hx, convert, run_underlying hu1, run_underlying hu2, Conv.intToInt]
    · rename_i k' hk
      refine DoneP.of h fun ι a w he _ => ?_
      obtain ⟨d1, hu1, _⟩ := TI.und (hT _ _ hs)
      obtain ⟨d2, hu2, hm2⟩ := TI.und (hT _ _ hd)
      rw [hk] at hm2
      have hd2 : d2 = .float k' := by cases d2 <;> simp_all [tdm]
      subst hd2
      refine ⟨.float k' (k'.nearest m), ?_, rfl⟩
      simp [execOp, ho, ev_int he hx, convert, run_underlying hu1, run_underlying hu2, Conv.intToFloat]
    · simp [run] at h
  · rename_i j i x' hs hd hx
    split at h
    · rename_i hk1 hk2
      refine DoneP.of h fun ι a w he _ => ?_
      obtain ⟨d1, hu1, hm1⟩ := TI.und (hT _ _ hs)
      obtain ⟨d2, hu2, hm2⟩ := TI.und (hT _ _ hd)
      rw [hk1] at hm1; rw [hk2] at hm2; cases tdm_str hm2; cases tdm_str hm1
      refine ⟨.string x', ?_, rfl⟩
      simp [execOp, ho, ev_str he hx, convert, run_underlying hu1, run_underlying hu2]
    · simp [run] at h
  · rename_i j i k m hs hd hx
    split at h
    · rename_i k' hk
      split at h
      · rename_i q hq
        split at h
        · rename_i hr
          refine DoneP.of h fun ι a w he _ => ?_
          obtain ⟨d1, hu1, _⟩ := TI.und (hT _ _ hs)
          obtain ⟨d2, hu2, hm2⟩ := TI.und (hT _ _ hd)
          rw [hk] at hm2; cases tdm_int hm2
          have e : a.eval x = .float k m := by have := ev_sound he x; rw [hx] at this; exact this
          refine ⟨.int k' q, ?_, rfl⟩
          simp [execOp, ho, e, convert, run_underlying hu1, run_underlying hu2, Conv.floatToInt, hq, hr]
        · simp [run] at h
      · simp [run] at h
    · simp [run] at h
  · simp [run] at h

theorem op_fieldAddr (hT : TOk P T) {t : Nat} {x : Operand} {j : Nat} (ho : o.op = .fieldAddr t x j) (h : run C n (opK T e o f) H = some r) : DoneP P o e C n H f r := by
  simp only [opK, ho] at h
  split at h
  case h_2 => simp [run] at h
  rename_i i q hg hx
  split at h
  case h_2 => simp [run] at h
  rename_i fs hfs
  split at h
  case h_2 => simp [run] at h
  rename_i p hp
  split at h
  case h_2 => simp [run] at h
  rename_i fi hfi
  split at h
  case isTrue => simp [run] at h
  rename_i hz
  refine DoneP.of h fun ι a w he _ => ?_
  obtain ⟨d1, hu1, hm1⟩ := TI.und (hT _ _ hg)
  rw [hfs] at hm1
  obtain ⟨fa, rfl, hfa, _⟩ := tdm_struct hm1
  obtain ⟨d, hd, ea⟩ := ev_ptr he hx
  have hj : ∃ fl, fa[j]? = some fl ∧ fl.offset = p.1 ∧ fl.type = p.2 := by
    rw [← hfa] at hp
    simp only [List.getElem?_map, Option.map_eq_some_iff] at hp
    obtain ⟨fl, h1, rfl⟩ := hp
    exact ⟨fl, by simpa using h1, rfl, rfl⟩
  obtain ⟨fl, hfl, hoff, hty⟩ := hj
  refine ⟨.pointer (some ⟨d.blk, d.base + (q.2 + p.1), none⟩), ?_, d, hd, rfl⟩
  simp [execOp, ho, ea, Instr.fieldAt, run_underlying hu1, hfl, Instr.sureAddr, fieldPlace, hoff, hty, TI.run_size (hT _ _ hfi), hz, addr_add, Nat.add_assoc]

theorem part_run (hT : TOk P T) {t : Nat} {fi : TI} (hg : T.get t = some fi) {l : List Sc} {off : Nat} {f : AV → Tree} {r : Res}
    (h : run C n (if isAggD fi.d then f (.ag ((l.drop off).take fi.size)) else .nth l off fun y => decS (fi.kinds.headD .any) y fun z => f (.sc z)) H = some r) :
    ∃ v, run C n (f v) H = some r ∧ ∀ (ι : Inj) (vs : List Value) (w : World), LR ι l vs → ∃ v', (part t ⟨vs⟩ off).run P w = .ok v' w ∧ VR ι v v' := by
  split at h
  · rename_i ha
    refine ⟨_, h, fun ι vs w hl => ⟨_, run_part_agg (hT _ _ hg) ha _ _ w, (vs.drop off).take fi.size, (hl.drop off).take fi.size, ?_⟩⟩
    congr 1
    apply Array.ext'; simp
  · rename_i ha
    simp only [run, obind_eq] at h
    obtain ⟨x, hx, h⟩ := h
    have h := decS_run h
    refine ⟨_, h, fun ι vs w hl => ?_⟩
    obtain ⟨v, hv, hs⟩ := hl.get off x hx
    exact ⟨v, run_part_one (hT _ _ hg) (by simpa using ha) _ _ v (by simpa using hv) w, hs⟩

theorem op_field (hT : TOk P T) {t : Nat} {x : Operand} {j : Nat} (ho : o.op = .field t x j) (h : run C n (opK T e o f) H = some r) : DoneP P o e C n H f r := by
  simp only [opK, ho] at h
  split at h
  case h_2 => simp [run] at h
  rename_i i l hg hx
  split at h
  case h_2 => simp [run] at h
  rename_i fs hfs
  split at h
  case h_2 => simp [run] at h
  rename_i p hp
  split at h
  case h_2 => simp [run] at h
  rename_i fi hfi
  obtain ⟨v, hv, hs⟩ := part_run hT hfi h
  refine DoneP.of hv fun ι a w he _ => ?_
  obtain ⟨d1, hu1, hm1⟩ := TI.und (hT _ _ hg)
  rw [hfs] at hm1
  obtain ⟨fa, rfl, hfa, _⟩ := tdm_struct hm1
  obtain ⟨vs, hvs, ea⟩ := ev_ag he hx
  have hj : ∃ fl, fa[j]? = some fl ∧ fl.offset = p.1 ∧ fl.type = p.2 := by
    rw [← hfa] at hp
    simp only [List.getElem?_map, Option.map_eq_some_iff] at hp
    obtain ⟨fl, h1, rfl⟩ := hp
    exact ⟨fl, by simpa using h1, rfl, rfl⟩
  obtain ⟨fl, hfl, hoff, hty⟩ := hj
  obtain ⟨v', h1, h2⟩ := hs ι vs w hvs
  refine ⟨v', ?_, h2⟩
  simp [execOp, ho, ea, Instr.field, run_underlying hu1, hfl, asAgg, hoff, hty, h1]

theorem op_indexAddr (hT : TOk P T) {t : Nat} {x y : Operand} (ho : o.op = .indexAddr t x y) (h : run C n (opK T e o f) H = some r) : DoneP P o e C n H f r := by
  simp only [opK, ho] at h
  split at h
  · rename_i i s k j hg hx hy
    split at h
    case h_2 => simp [run] at h
    rename_i el hel
    split at h
    case h_2 => simp [run] at h
    rename_i ie hie
    simp only [run, obind_eq] at h
    obtain ⟨q, hq, h⟩ := h
    unfold ixIn at hq
    split at hq
    case h_2 => cases hq
    rename_i sd
    split at hq
    case isFalse => cases hq
    rename_i hc
    cases hq
    refine DoneP.of h fun ι a w he _ => ?_
    obtain ⟨d1, hu1, hm1⟩ := TI.und (hT _ _ hg)
    rw [hel] at hm1; cases tdm_slice hm1
    have hs := ev_sound he x; rw [hx] at hs
    obtain ⟨d, ad, c, hd, ea, hlc, hcc, had, _⟩ := hs
    have hc0 : c ≠ 0 := by omega
    have had := had.resolve_left hc0
    subst had
    refine ⟨.pointer (some ⟨d.blk, d.base + (sd.off + j.toNat * ie.size), none⟩), ?_, d, hd, rfl⟩
    simp [execOp, ho, ea, ev_int he hy, Instr.indexAt, asIntOf, run_underlying hu1, hc.2.1, hc.2.2, TI.run_size (hT _ _ hie), addr_add, Nat.add_assoc]
  · rename_i i q k j hg hx hy
    split at h
    case h_2 => simp [run] at h
    rename_i len el hel
    split at h
    case h_2 => simp [run] at h
    rename_i ie hie
    simp only [run] at h
    split at h
    case isFalse => simp [run] at h
    rename_i hc
    have hc : 0 ≤ j ∧ j < (len : Int) := by simpa using hc
    refine DoneP.of h fun ι a w he _ => ?_
    obtain ⟨d1, hu1, hm1⟩ := TI.und (hT _ _ hg)
    rw [hel] at hm1; cases tdm_arr hm1
    obtain ⟨d, hd, ea⟩ := ev_ptr he hx
    refine ⟨.pointer (some ⟨d.blk, d.base + (q.2 + j.toNat * ie.size), none⟩), ?_, d, hd, rfl⟩
    simp [execOp, ho, ea, ev_int he hy, Instr.indexAt, asIntOf, run_underlying hu1, hc.1, hc.2, TI.run_size (hT _ _ hie), addr_add, Nat.add_assoc, Instr.sureAddr]
  · simp [run] at h

theorem decP_run {t : Nat} {i : TI} (hi : tiOk P t i = true) (ha : isAggD i.d = true) {l : List Sc} {f : AV → Tree} (h : run C n (decP i (l.take i.size) f) H = some r) : run C n (f (.ag (l.take i.size))) H = some r := by
  have hn : ∀ ts, i.d ≠ .tup ts := by intro ts e; rw [e] at ha; cases ha
  obtain ⟨_, h1, h2⟩ := TI.more hi hn
  unfold decP at h
  split at h
  · rename_i hs
    rcases decL_run _ _ _ h with ⟨h3, _⟩ | ⟨h3, h4⟩
    · rw [h2 ha hs] at h3
      have e : ((l.take i.size).drop 0).take i.size = l.take i.size := by simp [List.take_take]
      rw [e] at h3; exact h3
    · have h5 := h2 ha hs
      rw [h3] at h5
      have e : l.take i.size = [] := by rw [← h5]; rfl
      rw [e]; exact h4
  · exact h
theorem op_index (hT : TOk P T) {t : Nat} {x y : Operand} (ho : o.op = .index t x y) (h : run C n (opK T e o f) H = some r) : DoneP P o e C n H f r := by
  simp only [opK, ho] at h
  split at h
  · rename_i i s k j hg hx hy
    split at h
    case h_2 => simp [run] at h
    rename_i hst
    simp only [run] at h
    split at h
    case isFalse => simp [run] at h
    rename_i hc
    have hc : 0 ≤ j ∧ j < (s.size : Int) := by simpa using hc
    refine DoneP.of h fun ι a w he _ => ?_
    obtain ⟨d1, hu1, hm1⟩ := TI.und (hT _ _ hg)
    rw [hst] at hm1; cases tdm_str hm1
    refine ⟨.int .u8 (strAt s j.toNat), ?_, rfl⟩
    have hlt : j.toNat < s.size := by omega
    simp [execOp, ho, ev_str he hx, ev_int he hy, Instr.index, asIntOf, run_underlying hu1, hc.1, hlt, strAt]
  · rename_i i l k j hg hx hy
    split at h
    case h_2 => simp [run] at h
    rename_i len el hel
    split at h
    case h_2 => simp [run] at h
    rename_i ie hie
    simp only [run] at h
    split at h
    case isFalse => simp [run] at h
    rename_i hc
    have hc : 0 ≤ j ∧ j < (len : Int) := by simpa using hc
    have h : run C n (if isAggD ie.d then f (.ag ((l.drop (j.toNat * ie.size)).take ie.size)) else .nth l (j.toNat * ie.size) fun y => decS (ie.kinds.headD .any) y fun z => f (.sc z)) H = some r := by
      split at h
      · rename_i ha; rw [if_pos ha]; exact decP_run (hT _ _ hie) ha h
      · rename_i ha; rw [if_neg ha]; exact h
    obtain ⟨v, hv, hs⟩ := part_run hT hie h
    refine DoneP.of hv fun ι a w he _ => ?_
    obtain ⟨d1, hu1, hm1⟩ := TI.und (hT _ _ hg)
    rw [hel] at hm1; cases tdm_arr hm1
    obtain ⟨vs, hvs, ea⟩ := ev_ag he hx
    obtain ⟨v', h1, h2⟩ := hs ι vs w hvs
    refine ⟨v', ?_, h2⟩
    simp [execOp, ho, ea, ev_int he hy, Instr.index, asIntOf, run_underlying hu1, hc.1, hc.2, TI.run_size (hT _ _ hie), h1]
  · simp [run] at h

theorem op_extract {x : Operand} {j : Nat} (ho : o.op = .extract x j) (h : run C n (opK T e o f) H = some r) : DoneP P o e C n H f r := by
  simp only [opK, ho] at h
  split at h
  case h_2 => simp [run] at h
  rename_i l hl
  split at h
  case h_2 => simp [run] at h
  rename_i c hc
  refine DoneP.of h fun ι a w he _ => ?_
  have hs := ev_sound he x; rw [hl] at hs
  obtain ⟨vs, hvs, ea⟩ := hs
  obtain ⟨v, hv, hr⟩ := hvs.get j c hc
  refine ⟨v, by simp [execOp, ho, ea, Instr.extract, hv], ?_⟩
  cases c with
  | sc x => exact hr
  | ag x => exact hr

/-! slicing -/
theorem optI_run {lo : Option Operand} {l : Option Int} (h : optI e lo = some l) {ι : Inj} {a : Act} (he : ER ι e a.tmps) :
    (l = none ∧ lo.map a.eval = none) ∨ ∃ k j, l = some j ∧ lo.map a.eval = some (.int k j) := by
  cases lo with
  | none => simp [optI] at h; exact .inl ⟨h.symm, rfl⟩
  | some x =>
    simp only [optI] at h
    split at h
    · rename_i k j hx; cases h; exact .inr ⟨k, j, rfl, by simp [ev_int he hx]⟩
    · cases h

theorem run_bounds (isS : Bool) (len cap : Nat) (lo hi mx : Option Value) (l h m : Option Int) (hl : (l = none ∧ lo = none) ∨ ∃ k j, l = some j ∧ lo = some (.int k j)) (hh : (h = none ∧ hi = none) ∨ ∃ k j, h = some j ∧ hi = some (.int k j))
    (hm : (m = none ∧ mx = none) ∨ ∃ k j, m = some j ∧ mx = some (.int k j)) (hmh : (m.isNone || h.isSome) = true)
    (h1 : 0 ≤ m.getD cap) (h2 : m.getD cap ≤ cap) (h3 : 0 ≤ h.getD len) (h4 : h.getD len ≤ m.getD cap) (h5 : 0 ≤ l.getD 0) (h6 : l.getD 0 ≤ h.getD len) (w : World) :
    (Instr.sliceBounds isS len cap lo hi mx).run P w = .ok ((l.getD 0).toNat, (h.getD len).toNat, (m.getD cap).toNat) w := by
  have bd : ∀ (k : IntKind) (i : Int) (y : Nat) (c : BoundsCode), 0 ≤ i → i ≤ y → (Instr.sliceBound (.int k i) y c).run P w = .ok i.toNat w := by
    intro k i y c a b; exact run_sliceBound w k i y c a b
  rcases hm with ⟨rfl, rfl⟩ | ⟨km, jm, rfl, rfl⟩ <;> rcases hh with ⟨rfl, rfl⟩ | ⟨kh, jh, rfl, rfl⟩ <;> rcases hl with ⟨rfl, rfl⟩ | ⟨kl, jl, rfl, rfl⟩ <;> simp at h1 h2 h3 h4 h5 h6 hmh
  all_goals simp only [Instr.sliceBounds, Sem.run_bind, Sem.run_pure, Result.andThen_ok, Option.getD_none, Option.getD_some, Int.toNat_natCast, Int.toNat_zero]
  · rw [bd _ _ _ _ h5 (by omega)]; rfl
  · rw [bd _ _ _ _ h3 (by omega)]; rfl
  · rw [bd _ _ _ _ h3 (by omega)]; simp only [Result.andThen_ok]; rw [bd _ _ _ _ h5 (by omega)]; rfl
  · rw [bd _ _ _ _ h1 (by omega)]; simp only [Result.andThen_ok]; rw [bd _ _ _ _ h3 (by omega)]; rfl
  · rw [bd _ _ _ _ h1 (by omega)]; simp only [Result.andThen_ok]; rw [bd _ _ _ _ h3 (by omega)]; simp only [Result.andThen_ok]; rw [bd _ _ _ _ h5 (by omega)]; rfl
end ops
end Go.Proofs.YtpbhfolaoccpkaaGreat.Fw
