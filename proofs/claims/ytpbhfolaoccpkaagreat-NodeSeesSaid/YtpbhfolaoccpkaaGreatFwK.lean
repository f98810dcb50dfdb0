/- The other builtins, make, string iterators, calls; every operation in one theorem. -/
import Derived.Test.YtpbhfolaoccpkaaGreatFwJ
set_option linter.unusedSimpArgs false
set_option linter.unusedVariables false
namespace Go.Proofs.YtpbhfolaoccpkaaGreat.Fw
open Go
def VRs (ι : Inj) : List AV → List Value → Prop := All2 (VR ι)
/-- a call of the model's function does what the abstract one does -/
def CallS (P : Program) (f : FuncId) (args : List AV) (H : AH) (v : AV) (H1 : AH) : Prop :=
  ∀ (ι : Inj) (w : World) (args' : List Value), VRs ι args args' → HR ι H w → Gap ι H H1 →
    Calls P f ⟨args'⟩ w fun e w' => ∃ ι' v', e = .returned v' ∧ VR ι' v v' ∧ HR ι' H1 w' ∧ Stp ι H w ι' H1 w'
/-- a call that the machine answers itself -/
def ExtS (P : Program) (f : FuncId) (args : List AV) (H : AH) (v : AV) (H1 : AH) : Prop :=
  H1 = H ∧ ∃ fn s, P.funcs[f]? = some fn ∧ fn.body = none ∧ (fn.name == "runtime.NumGoroutine") = false ∧ Extern.findNext fn = none ∧ extA fn.name args = some s ∧ v = .sc s
def OraOk (P : Program) (C : Ora) : Prop := ∀ f args H v H1, C f args H = some (v, H1) → Grow H H1 ∧ ((CallS P f args H v H1 ∧ (∃ fn, P.funcs[f]? = some fn ∧ fn.body.isSome = true ∧ (fn.name == "runtime.NumGoroutine") = false)) ∨ ExtS P f args H v H1)
theorem find_floor {fn : Func} (h : fn.name = "math.archFloor") : Extern.find fn = some (Extern.MathFloor.toIntegral "math.archFloor" .down) := by
  cases fn; subst h; kernel_rfl
theorem find_bits {fn : Func} (h : fn.name = "math.Float64bits") : Extern.find fn = some Extern.MathFloatBits.float64bits := by
  cases fn; subst h; kernel_rfl
theorem find_frombits {fn : Func} (h : fn.name = "math.Float64frombits") : Extern.find fn = some Extern.MathFloatBits.float64frombits := by
  cases fn; subst h; kernel_rfl
theorem find_index {fn : Func} (h : fn.name = "internal/bytealg.IndexByteString") : Extern.find fn = some Extern.BytealgIndexByte.indexByte := by
  cases fn; subst h; kernel_rfl
theorem extA_names {name : String} {args : List AV} {s : Sc} (h : extA name args = some s) : name ∈ extNames := by
  unfold extA at h
  split at h
  · rename_i e; simp [extNames, e]
  split at h
  · rename_i e; simp [extNames, e]
  split at h
  · rename_i e; simp [extNames, e]
  split at h
  · rename_i e; simp [extNames, e]
  · cases h
theorem extA_nb {name : String} {args : List AV} {b : Bool} : extA name args ≠ some (.b b) := by
  intro h
  unfold extA at h
  repeat' split at h
  all_goals cases h
theorem toInt_eq (n : String) (way : Ieee.Toward) (x : Nat) : ∃ g : Bool → Nat → Sem Value, Extern.MathFloor.toIntegral n way #[.float .f64 x] = (match FloatKind.f64.decode x with
    | .nan s t => g s t
    | d => pure (.float .f64 (FloatKind.f64.encode (d.integral way)))) := ⟨_, rfl⟩
theorem ext_run {P : Program} {fn : Func} {args : List AV} {s : Sc} (h : extA fn.name args = some s) {ι : Inj} {args' : List Value} (hv : VRs ι args args') (w : World) :
    ∃ e x, Extern.find fn = some e ∧ (e ⟨args'⟩).run P w = .ok x w ∧ VR ι (.sc s) x := by
  unfold extA at h
  split at h
  · rename_i hn
    split at h
    case h_2 => cases h
    rename_i x
    obtain ⟨y, l, rfl, hy, hl⟩ := hv
    cases hl; cases hy
    split at h
    case h_1 => cases h
    rename_i d hd
    cases h
    refine ⟨_, _, find_floor hn, ?_, rfl⟩
    obtain ⟨g, hg⟩ := toInt_eq "math.archFloor" .down x
    rw [hg]
    split
    · rename_i s t e; exact (hd _ _ e).elim
    · rfl
  split at h
  · rename_i hn
    split at h
    case h_2 => cases h
    rename_i x
    obtain ⟨y, l, rfl, hy, hl⟩ := hv
    cases hl; cases hy
    cases h
    exact ⟨_, _, find_bits hn, rfl, rfl⟩
  split at h
  · rename_i hn
    split at h
    case h_2 => cases h
    rename_i x
    obtain ⟨y, l, rfl, hy, hl⟩ := hv
    cases hl; cases hy
    cases h
    exact ⟨_, _, find_frombits hn, rfl, rfl⟩
  split at h
  · rename_i hn
    split at h
    case h_2 => cases h
    rename_i x y
    obtain ⟨y1, l, rfl, hy, hl⟩ := hv
    obtain ⟨y2, l, rfl, hy2, hl⟩ := hl
    cases hl; cases hy; cases hy2
    have hidx : ∀ (o : Option Nat), ((List.range x.size).find? fun i => x[i]! == y.toNat.toUInt8) = o → (Extern.BytealgIndexByte.indexByte ⟨[.string x, .int .u8 y]⟩).run P w = .ok (match o with | some i => goInt i | none => goInt (-1)) w := by
      intro o ho
      subst ho
      have e : Extern.BytealgIndexByte.indexByte ⟨[.string x, .int .u8 y]⟩ = (do
        let b ← Extern.Bytes.bytesOf (.string x)
        let c ← Extern.Bytes.asByte (.int .u8 y)
        match (List.range b.size).find? fun i => b[i]! == c with
        | some i => pure (goInt i)
        | none => pure (goInt (-1))) := rfl
      rw [e]
      simp only [Extern.Bytes.bytesOf, Extern.Bytes.asByte, pure_bind]
      split
      · rfl
      · rfl
    split at h
    · rename_i i hi
      cases h
      exact ⟨_, _, find_index hn, hidx _ hi, rfl⟩
    · rename_i hi
      cases h
      exact ⟨_, _, find_index hn, hidx _ hi, rfl⟩
  · cases h

section ops
variable {P : Program} {T : TTab} {o : Oper} {e : List AV} {C : Ora} {n : Nat} {H : AH} {f : AV → Tree} {r : Res}

theorem wrs_run (hT : TOk P T) {ι : Inj} {w : World} (hh : HR ι H w) {z : Nat} {s : Option SlD} {l : List Sc} {H' : AH} (hw : H.wrs z s l = some H') {vs : List Value} (hl : LR ι l vs) {v : Value} (hv : SR ι (.sl s) v) :
    ∃ b c w', v = .slice b (slN s) c ∧ (b = none → vs = []) ∧ (∀ a, b = some a → (storeCells a vs).run P w = .ok () w') ∧ (b = none → w' = w) ∧ HR ι H' w' ∧ Stp ι H w ι H' w' := by
  cases s with
  | none =>
    cases hv
    cases l with
    | nil => cases hw; cases hl; exact ⟨none, 0, w, rfl, fun _ => rfl, fun a h => (by cases h), fun _ => rfl, hh, Stp.refl _ _ _⟩
    | cons x l => simp [AH.wrs] at hw
  | some d =>
    obtain ⟨db, a, c, hd, rfl, hlc, hcc, had, _⟩ := hv
    cases l with
    | nil => cases hw; cases hl; exact ⟨some a, c, w, rfl, fun h => (by cases h), fun a' h => rfl, fun h => (by cases h), hh, Stp.refl _ _ _⟩
    | cons x l =>
      simp only [AH.wrs] at hw
      split at hw
      case isFalse => cases hw
      rename_i hle
      have had := had.resolve_left (by
        intro h0
        have : d.len = 0 := by omega
        have h1 := hle.1
        rw [this] at h1; simp at h1)
      subst had
      obtain ⟨w1, w2, w3⟩ := hh.write P hd hw hl
      exact ⟨_, c, _, rfl, fun h => (by cases h), fun a' h => (by cases h; exact w1), fun h => (by cases h), w2, w3⟩

theorem builtin_done {b : Builtin} {c : Call} {v : AV} {H1 : AH} (ho : o.op = .call c) (hc : c.callee = .builtin b) (h : run C n (f v) H1 = some r) (hnx : Grow H H1)
    (hp : ∀ ι (a : Act) (w : World), ER ι e a.tmps → HR ι H w → Gap ι H H1 → ∃ v' w' ι', (builtin b c.argTypes o.type (c.args.map fun x => match x with | .const _ => true | _ => false) (c.args.map a.eval)).run P w = .ok (.value v') w' ∧ VR ι' v v' ∧ HR ι' H1 w' ∧ Stp ι H w ι' H1 w') :
    Done P o e C n H f r := by
  refine ⟨v, H1, h, hnx, fun ι a w he hh g next Q k => ?_⟩
  obtain ⟨v', w', ι', h1, h2, h3, h4⟩ := hp ι a w he hh g
  unfold Oper.wp
  have : (execOp a.eval o).run P w = .ok (.value v') w' := by
    simp only [execOp, ho, resolve, hc, Sem.run_bind, Sem.run_pure, Result.andThen_ok, invoke]
    exact h1
  rw [this]
  exact k v' w' ι' h2 h3 h4

theorem args_one {args : Array Operand} {x : AV} (h : evs e args.toList = [x]) : ∃ a, args = #[a] ∧ ev e a = x := by
  obtain ⟨l⟩ := args
  match l, h with
  | [a], h => simp [evs] at h; exact ⟨a, rfl, h⟩
theorem args_two {args : Array Operand} {x y : AV} (h : evs e args.toList = [x, y]) : ∃ a b, args = #[a, b] ∧ ev e a = x ∧ ev e b = y := by
  obtain ⟨l⟩ := args
  match l, h with
  | [a, b], h => simp [evs] at h; exact ⟨a, b, rfl, h.1, h.2⟩
theorem ats_get {ats : Array TypeId} {k : Nat} {i : TI} (h : (ats.toList[k]?).bind T.get = some i) : ∃ t, ats[k]? = some t ∧ T.get t = some i := by
  cases hk : ats.toList[k]? with
  | none => rw [hk] at h; cases h
  | some t => rw [hk] at h; exact ⟨t, by simpa using hk, h⟩

theorem foldI_run {g : Int → Int → Int} {b : Value → Value → Sem Value} (hb : ∀ k x y (w : World), (b (.int k x) (.int k y)).run P w = .ok (.int k (g x y)) w) {k : IntKind} : ∀ (l : List AV) (x r : Int), foldI g k x l = some r → ∀ (ι : Inj) (l' : List Value) (w : World), All2 (VR ι) l l' → (l'.foldlM b (.int k x)).run P w = .ok (.int k r) w
  | [], x, r, h, ι, l', w, hl => by cases hl; simp [foldI] at h; subst h; rfl
  | y :: l, x, r, h, ι, l', w, ⟨v, l2, e, hv, ht⟩ => by
    subst e
    unfold foldI at h
    split at h
    · rename_i e; cases e
    · rename_i k' b' l3 e
      cases e
      split at h
      · rename_i hk
        subst hk
        cases hv
        rw [List.foldlM_cons, Sem.run_bind, hb, Result.andThen_ok]
        exact foldI_run hb l _ r h ι l2 w ht
      · cases h
    · cases h

theorem evs_all {ι : Inj} {a : Act} (he : ER ι e a.tmps) : ∀ l : List Operand, All2 (VR ι) (evs e l) (l.map a.eval)
  | [] => rfl
  | x :: l => ⟨_, _, rfl, ev_sound he x, evs_all he l⟩

theorem builtin_pure {b : Builtin} {c : Call} {v : AV} (ho : o.op = .call c) (hc : c.callee = .builtin b) (h : run C n (f v) H = some r)
    (hp : ∀ ι (a : Act) (w : World), ER ι e a.tmps → ∃ v', (builtin b c.argTypes o.type (c.args.map fun x => match x with | .const _ => true | _ => false) (c.args.map a.eval)).run P w = .ok (.value v') w ∧ VR ι v v') :
    DoneP P o e C n H f r := by
  refine DoneP.of h fun ι a w he _ => ?_
  obtain ⟨v', h1, h2⟩ := hp ι a w he
  refine ⟨v', ?_, h2⟩
  simp only [execOp, ho, resolve, hc, Sem.run_bind, Sem.run_pure, Result.andThen_ok, invoke]
  exact h1

theorem op_builtin_pure (hT : TOk P T) {b : Builtin} {c : Call} (hb : b = .len ∨ b = .min ∨ b = .max) (ho : o.op = .call c) (hc : c.callee = .builtin b) (h : run C n (builtinK T b c.argTypes.toList (evs e c.args.toList) f) H = some r) : DoneP P o e C n H f r := by
  unfold builtinK at h
  split at h
  · -- len of a string
    rename_i s hs
    obtain ⟨x, hx, hxe⟩ := args_one hs
    split at h
    case h_2 => simp [run] at h
    rename_i i hg
    obtain ⟨t, ht, hti⟩ := ats_get hg
    split at h
    case h_2 => simp [run] at h
    rename_i hd
    refine builtin_pure ho hc h fun ι a w he => ?_
    obtain ⟨d1, hu1, hm1⟩ := TI.und (hT _ _ hti)
    rw [hd] at hm1; cases tdm_str hm1
    refine ⟨.int .i64 s.size, ?_, rfl⟩
    simp [builtin, hx, ev_str he hxe, Builtin.len_, ht, run_underlying hu1, goInt]
  · rename_i s hs
    obtain ⟨x, hx, hxe⟩ := args_one hs
    split at h
    case h_2 => simp [run] at h
    rename_i i hg
    obtain ⟨t, ht, hti⟩ := ats_get hg
    split at h
    case h_2 => simp [run] at h
    rename_i el hd
    refine builtin_pure ho hc h fun ι a w he => ?_
    obtain ⟨d1, hu1, hm1⟩ := TI.und (hT _ _ hti)
    rw [hd] at hm1; cases tdm_slice hm1
    have hv := ev_sound he x; rw [hxe] at hv
    have : ∃ b c, a.eval x = .slice b (slN s) c := by
      cases s with
      | none => exact ⟨none, 0, hv⟩
      | some d => obtain ⟨_, ad, c, _, e, _⟩ := hv; exact ⟨some ad, c, e⟩
    obtain ⟨b, cc, ea⟩ := this
    refine ⟨.int .i64 (slLen s), ?_, rfl⟩
    simp [builtin, hx, ea, Builtin.len_, ht, run_underlying hu1, goInt]
    cases s <;> rfl
  · rename_i l hs
    obtain ⟨x, hx, hxe⟩ := args_one hs
    split at h
    case h_2 => simp [run] at h
    rename_i i hg
    obtain ⟨t, ht, hti⟩ := ats_get hg
    split at h
    case h_2 => simp [run] at h
    rename_i m el hd
    refine builtin_pure ho hc h fun ι a w he => ?_
    obtain ⟨d1, hu1, hm1⟩ := TI.und (hT _ _ hti)
    rw [hd] at hm1; cases tdm_arr hm1
    refine ⟨.int .i64 m, ?_, rfl⟩
    simp [builtin, hx, Builtin.len_, ht, run_underlying hu1, goInt]
  · -- min
    rename_i k x l hs
    split at h
    case h_2 => simp [run] at h
    rename_i m hm
    refine builtin_pure ho hc h fun ι a w he => ?_
    have hall := evs_all he c.args.toList
    rw [hs] at hall
    obtain ⟨v, l2, e1, hv, ht⟩ := hall
    cases hv
    refine ⟨.int k m, ?_, rfl⟩
    have := foldI_run (P := P) (b := Builtin.min2) (g := minI) (fun k x y w => by simp [Builtin.min2, minI]) l x m hm ι l2 w ht
    simp only [builtin, Builtin.min_, Array.toList_map, e1, Sem.run_bind, this, Result.andThen_ok]
    rfl
  · rename_i k x l hs
    split at h
    case h_2 => simp [run] at h
    rename_i m hm
    refine builtin_pure ho hc h fun ι a w he => ?_
    have hall := evs_all he c.args.toList
    rw [hs] at hall
    obtain ⟨v, l2, e1, hv, ht⟩ := hall
    cases hv
    refine ⟨.int k m, ?_, rfl⟩
    have := foldI_run (P := P) (b := Builtin.max2) (g := maxI) (fun k x y w => by simp [Builtin.max2, maxI]) l x m hm ι l2 w ht
    simp only [builtin, Builtin.max_, Array.toList_map, e1, Sem.run_bind, this, Result.andThen_ok]
    rfl
  all_goals first | (simp [run] at h; done) | (rcases hb with h1 | h1 | h1 <;> cases h1)

theorem run_real (ats : Array TypeId) (ty : TypeId) (k : FloatKind) (x y : Nat) (w : World) : (Builtin.real_ ats ty #[.complex k x y]).run P w = .ok (.float k x) w := rfl
theorem run_imag (ats : Array TypeId) (ty : TypeId) (k : FloatKind) (x y : Nat) (w : World) : (Builtin.imag_ ats ty #[.complex k x y]).run P w = .ok (.float k y) w := rfl
theorem run_cx (ats : Array TypeId) (ty : TypeId) (k : FloatKind) (x y : Nat) (w : World) : (Builtin.complex_ ats ty #[.float k x, .float k y]).run P w = .ok (.complex k x y) w := by
  show Sem.run P (if k = k then pure (Value.complex k x y) else _) w = _
  rw [if_pos rfl]; rfl
theorem op_builtin (hT : TOk P T) {b : Builtin} {c : Call} (ho : o.op = .call c) (hc : c.callee = .builtin b) (h : run C n (builtinK T b c.argTypes.toList (evs e c.args.toList) f) H = some r) : Done P o e C n H f r := by
  by_cases hb : b = .len ∨ b = .min ∨ b = .max
  · exact (op_builtin_pure hT hb ho hc h).done
  unfold builtinK at h
  split at h
  · exact absurd (.inl rfl) hb
  · exact absurd (.inl rfl) hb
  · exact absurd (.inl rfl) hb
  · exact absurd (.inr (.inl rfl)) hb
  · exact absurd (.inr (.inr rfl)) hb
  · rename_i k x y hs
    obtain ⟨o1, hargs, h1⟩ := args_one hs
    refine (builtin_pure ho hc h fun ι a w he => ?_).done
    have e : a.eval o1 = .complex k x y := by have := ev_sound he o1; rw [h1] at this; exact this
    exact ⟨.float k x, by simp [builtin, hargs, e, run_real], rfl⟩
  · rename_i k x y hs
    obtain ⟨o1, hargs, h1⟩ := args_one hs
    refine (builtin_pure ho hc h fun ι a w he => ?_).done
    have e : a.eval o1 = .complex k x y := by have := ev_sound he o1; rw [h1] at this; exact this
    exact ⟨.float k y, by simp [builtin, hargs, e, run_imag], rfl⟩
  · rename_i k x k' y hs
    split at h
    case isFalse => simp [run] at h
    rename_i hk
    subst hk
    obtain ⟨o1, o2, hargs, h1, h2⟩ := args_two hs
    refine (builtin_pure ho hc h fun ι a w he => ?_).done
    have e1 : a.eval o1 = .float k x := by have := ev_sound he o1; rw [h1] at this; exact this
    have e2 : a.eval o2 = .float k y := by have := ev_sound he o2; rw [h2] at this; exact this
    exact ⟨.complex k x y, by simp [builtin, hargs, e1, e2, run_cx], rfl⟩
  · -- append
    rename_i s x hs
    obtain ⟨o1, o2, hargs, h1, h2⟩ := args_two hs
    split at h
    case h_2 => simp [run] at h
    rename_i i j hg0 hg1
    obtain ⟨t0, ht0, hti0⟩ := ats_get hg0
    obtain ⟨t1, ht1, hti1⟩ := ats_get hg1
    split at h
    case h_2 => simp [run] at h
    rename_i el el' hd0 hd1
    split at h
    case h_2 => simp [run] at h
    rename_i ie hie
    split at h
    case isTrue => simp [run] at h
    rename_i hnt
    simp only [run, obind_eq] at h
    obtain ⟨l, hl, q, hq, h⟩ := h
    refine builtin_done ho hc h (app_grow hq) fun ι a w he hh g => ?_
    have hv1 := ev_sound he o1; rw [h1] at hv1
    have hv2 := ev_sound he o2; rw [h2] at hv2
    obtain ⟨v', w', ι', r1, r2, r3, r4⟩ := append_run (ty := o.type) hT hti0 hti1 hd0 hd1 hie (by simpa using hnt) hh hl hq g hv1 hv2
    refine ⟨v', w', ι', ?_, r2, r3, r4⟩
    have hrun : (Builtin.append_ c.argTypes o.type #[a.eval o1, a.eval o2]).run P w = .ok v' w' := by
      rw [← r1]; simp only [Builtin.append_, ht0, ht1]; rfl
    simp only [builtin, hargs, List.map_toArray, List.map_cons, List.map_nil, Sem.run_bind, hrun, Result.andThen_ok]
    rfl
  · -- clear
    rename_i s hs
    obtain ⟨o1, hargs, h1⟩ := args_one hs
    split at h
    case h_2 => simp [run] at h
    rename_i i hg0
    obtain ⟨t0, ht0, hti0⟩ := ats_get hg0
    split at h
    case h_2 => simp [run] at h
    rename_i el hd0
    split at h
    case h_2 => simp [run] at h
    rename_i ie hie
    split at h
    case isTrue => simp [run] at h
    rename_i hnt
    have hnt : notTup ie.d = true := by simpa using hnt
    simp only [run, obind_eq] at h
    obtain ⟨H1, hw, h⟩ := h
    refine builtin_done ho hc h (wrs_grow hw) fun ι a w he hh g => ?_
    have hv1 := ev_sound he o1; rw [h1] at hv1
    obtain ⟨d1, hu1, hm1⟩ := TI.und (hT _ _ hti0)
    rw [hd0] at hm1; cases tdm_slice hm1
    obtain ⟨z, hz, hzc, hzl⟩ := TI.zero_run hT hie (notTup_ne hnt) w
    have hzs : z.cells.size = ie.size := by have := (constScs_sound hzc ι).length; simpa [hzl] using this
    have hL : LR ι (zeros ie.zero (slN s)) (Builtin.zeroCells z.cells (slN s)).toList := by
      have := zeros_LR (constScs_sound hzc ι) (slN s) _ rfl
      unfold Builtin.zeroCells; exact this
    obtain ⟨b, cc, w', ea, g1, g2, g3, g4, g5⟩ := wrs_run hT hh hw hL hv1
    refine ⟨.tuple #[], w', ι, ?_, trivial, g4, g5⟩
    have hrun : (Builtin.clear_ c.argTypes o.type #[a.eval o1]).run P w = .ok (.tuple #[]) w' := by
      rw [ea]
      simp only [Builtin.clear_, ht0]
      cases b with
      | none =>
        have := g3 rfl; subst this
        simp [run_underlying hu1]
      | some ad =>
        have hst := g2 ad rfl
        by_cases hn0 : slN s = 0
        · have : w' = w := by
            have he0 : (Builtin.zeroCells z.cells (slN s)).toList = [] := by rw [hn0]; simp [Builtin.zeroCells]
            rw [he0] at hst
            simp [storeCells] at hst
            exact hst.symm
          subst this
          simp [run_underlying hu1, hn0]
        · obtain ⟨m, hm⟩ : ∃ m, slN s = m + 1 := ⟨slN s - 1, by omega⟩
          rw [hm] at hst ⊢
          simp [run_underlying hu1, hz, hst]
    simp only [builtin, hargs, List.map_toArray, List.map_cons, List.map_nil, Sem.run_bind, hrun, Result.andThen_ok]
    rfl
  · -- copy
    rename_i s x hs
    obtain ⟨o1, o2, hargs, h1, h2⟩ := args_two hs
    split at h
    case h_2 => simp [run] at h
    rename_i i j hg0 hg1
    obtain ⟨t0, ht0, hti0⟩ := ats_get hg0
    obtain ⟨t1, ht1, hti1⟩ := ats_get hg1
    split at h
    case h_2 => simp [run] at h
    rename_i el el' hd0 hd1
    split at h
    case h_2 => simp [run] at h
    rename_i ie hie
    simp only [run, obind_eq] at h
    obtain ⟨l, hl, H1, hw, h⟩ := h
    refine builtin_done ho hc h (wrs_grow hw) fun ι a w he hh g => ?_
    have hv1 := ev_sound he o1; rw [h1] at hv1
    have hv2 := ev_sound he o2; rw [h2] at hv2
    obtain ⟨d1, hu1, hm1⟩ := TI.und (hT _ _ hti0)
    rw [hd0] at hm1; cases tdm_slice hm1
    obtain ⟨bx, cx, news, ex, hnl, hnlen, hnrun⟩ := rds_run (P := P) hT hie hh hl hv2
    obtain ⟨b, cc, w', ea, g1, g2, g3, g4, g5⟩ := wrs_run hT hh hw hnl hv1
    refine ⟨.int .i64 (min (slN x) (slN s) : Nat), w', ι, ?_, rfl, g4, g5⟩
    have hnr := hnrun w rfl
    rw [ex] at hnr
    have hrun : (Builtin.copy_ c.argTypes o.type #[a.eval o1, a.eval o2]).run P w = .ok (.int .i64 (min (slN x) (slN s) : Nat)) w' := by
      rw [ea, ex]
      simp only [Builtin.copy_, ht0]
      have hm' : Nat.min (slN x) (slN s) = min (slN x) (slN s) := rfl
      cases b with
      | none =>
        have := g3 rfl; subst this
        simp [run_underlying hu1, Builtin.lenOf, TI.run_size (hT _ _ hie), hm', hnr, goInt]
      | some ad =>
        have hst := g2 ad rfl
        simp [run_underlying hu1, Builtin.lenOf, TI.run_size (hT _ _ hie), hm', hnr, goInt, hst]
    simp only [builtin, hargs, List.map_toArray, List.map_cons, List.map_nil, Sem.run_bind, hrun, Result.andThen_ok]
    rfl
  · simp [run] at h
end ops
end Go.Proofs.YtpbhfolaoccpkaaGreat.Fw
