/- Make, string iterators, calls; every operation in one theorem. -/
import Derived.Test.YtpbhfolaoccpkaaGreatFwK
set_option linter.unusedSimpArgs false
set_option linter.unusedVariables false
namespace Go.Proofs.YtpbhfolaoccpkaaGreat.Fw
open Go
section ops
variable {P : Program} {T : TTab} {o : Oper} {e : List AV} {C : Ora} {n : Nat} {H : AH} {f : AV → Tree} {r : Res}

theorem wrap_i64 (x : Int) (h1 : 0 ≤ x) (h2 : x ≤ 9223372036854775807) : IntKind.i64.wrap x = x := by
  simp [IntKind.wrap, IntKind.bits, IntKind.signed]; omega

theorem op_makeSlice (hT : TOk P T) {t : Nat} {x y : Operand} (ho : o.op = .makeSlice t x y) (h : run C n (opK T e o f) H = some r) : DoneA P o e C n H f r := by
  simp only [opK, ho] at h
  split at h
  case h_2 => simp [run] at h
  rename_i i k1 m1 k2 m2 hg hx hy
  split at h
  case h_2 => simp [run] at h
  rename_i el hel
  split at h
  case h_2 => simp [run] at h
  rename_i ie hie
  split at h
  case isTrue => simp [run] at h
  rename_i hnt
  have hnt : notTup ie.d = true := by simpa using hnt
  simp only [run] at h
  split at h
  case isFalse => simp at h
  rename_i hc
  simp only [Bool.and_eq_true, decide_eq_true_eq] at hc
  obtain ⟨⟨⟨c1, c2⟩, c3⟩, c4⟩ := hc
  refine alloc_done (v := fun id => .sc (.sl (some ⟨id, 0, m1.toNat, m2.toNat, ie.size⟩))) h fun ι a w he hh => ?_
  obtain ⟨d1, hu1, hm1⟩ := TI.und (hT _ _ hg)
  rw [hel] at hm1; cases tdm_slice hm1
  obtain ⟨inf, hinf, hisz, hib⟩ := TI.inf (hT _ _ hie)
  obtain ⟨z, hz, hzc, hzl⟩ := TI.zero_run hT hie (notTup_ne hnt) w
  have hzs : z.cells.size = ie.size := by have := (constScs_sound hzc ι).length; simpa [hzl] using this
  have w1 := wrap_i64 m1 c1 (by omega)
  have w2 := wrap_i64 m2 (by omega) (by omega)
  have b1 : (inf.bytes : Int) * m2 ≤ 281474976710656 := by rw [hib, Int.mul_comm]; omega
  have hti : (typeInfo el).run P w = .ok inf w := by simp [typeInfo, hinf]
  have hlen : (zeros ie.zero m2.toNat).length = m2.toNat * ie.size := by rw [zeros_length, hzl]
  have main : ∀ zc : Array Value, LR ι (zeros ie.zero m2.toNat) ((Array.range (m2.toNat * ie.size)).map (zc[· % zc.size]!)).toList → (m2.toNat * ie.size = 0 ∧ zc = #[] ∨ ¬ m2.toNat * ie.size = 0 ∧ zc = z.cells) →
      ∃ (vs : List Value) (ty : TypeId) (w1 : World) (v' : Value), SameW w1 w ∧ LR ι (zeros ie.zero m2.toNat) vs ∧ (execOp a.eval o).run P w = .ok (.value v') (w1.alloc (.cells ⟨vs⟩ ty)) ∧
        ∀ ι' : Inj, ι' H.next = some ⟨w.heap.size, 0, (zeros ie.zero m2.toNat).length, false⟩ → VR ι' (.sc (.sl (some ⟨H.next, 0, m1.toNat, m2.toNat, ie.size⟩))) v' := by
    intro zc hL hzc'
    refine ⟨((Array.range (m2.toNat * ie.size)).map (zc[· % zc.size]!)).toList, el, w, .slice (some ⟨w.heap.size, 0, none⟩) m1.toNat m2.toNat, ⟨rfl, rfl, rfl, rfl⟩, hL, ?_, fun ι' h => ⟨_, ⟨w.heap.size, 0, none⟩, m2.toNat, h, rfl, by simp only []; omega, Nat.le_refl _, .inr rfl, .inl rfl⟩⟩
    have hcond : ((decide (m2 < 0) || decide ((inf.bytes : Int) * m2 > 2 ^ 48)) || decide (m1 < 0) || decide (m1 > m2)) = false := by
      simp; omega
    rcases hzc' with ⟨h0, rfl⟩ | ⟨h0, rfl⟩
    · simp only [execOp, ho, Instr.makeSlice, ev_int he hx, ev_int he hy, asInt, asIntOf, Sem.run_bind, Sem.run_pure, Result.andThen_ok, run_underlying hu1, hti, w1, w2, hcond, Bool.false_eq_true, if_false, run_askRoom, TI.run_size (hT _ _ hie), if_pos h0, newRow, run_newObj, World.alloc_eq]
    · simp only [execOp, ho, Instr.makeSlice, ev_int he hx, ev_int he hy, asInt, asIntOf, Sem.run_bind, Sem.run_pure, Result.andThen_ok, run_underlying hu1, hti, w1, w2, hcond, Bool.false_eq_true, if_false, run_askRoom, TI.run_size (hT _ _ hie), if_neg h0, hz, newRow, run_newObj, World.alloc_eq]
  by_cases h0 : m2.toNat * ie.size = 0
  · refine main #[] ?_ (.inl ⟨h0, rfl⟩)
    have : zeros ie.zero m2.toNat = [] := List.eq_nil_of_length_eq_zero (by rw [hlen]; exact h0)
    rw [this, h0]; simp [LR, All2]
  · exact main z.cells (zeros_LR (constScs_sound hzc ι) _ _ (by rw [hzs])) (.inr ⟨h0, rfl⟩)

/-! string iterators -/
theorem op_range (hT : TOk P T) {t : Nat} {x : Operand} (ho : o.op = .range t x) (h : run C n (opK T e o f) H = some r) : Done P o e C n H f r := by
  simp only [opK, ho] at h
  split at h
  case h_2 => simp [run] at h
  rename_i i s hg hx
  split at h
  case h_2 => simp [run] at h
  rename_i hd
  simp only [run] at h
  refine ⟨_, _, h, Grow.new _ _, fun ι a w he hh g next Q k => ?_⟩
  obtain ⟨d1, hu1, hm1⟩ := TI.und (hT _ _ hg)
  rw [hd] at hm1; cases tdm_str hm1
  have hn : ι H.next = none := g H.next (Nat.le_refl _) (by simp [AH.new])
  have hOR : OR (ι.add H.next ⟨w.heap.size, 0, 0, false⟩) ⟨w.heap.size, 0, 0, false⟩ (w.alloc (.stringIter s 0)) (.iter s 0) := by
    refine ⟨rfl, ?_⟩
    simp only [World.alloc]
    simp
  obtain ⟨m1, m2⟩ := hh.make (d := ⟨w.heap.size, 0, 0, false⟩) hn rfl rfl hOR
  unfold Oper.wp
  have : (execOp a.eval o).run P w = .ok (.value (.pointer (some ⟨w.heap.size, 0, none⟩))) (w.alloc (.stringIter s 0)) := by
    simp [execOp, ho, ev_str he hx, Instr.range, run_underlying hu1]
  rw [this]
  exact k _ _ _ ⟨_, Inj.add_at _ _ _, rfl⟩ m1 m2

theorem op_next (hT : TOk P T) {x : Operand} (ho : o.op = .next x true) (h : run C n (opK T e o f) H = some r) : Done P o e C n H f r := by
  simp only [opK, ho] at h
  split at h
  case h_2 => simp [run] at h
  rename_i id hx
  simp only [run, obind_eq] at h
  obtain ⟨q, hq, h⟩ := h
  have hobj : H.obj id = some (.iter q.1 q.2) := by
    unfold AH.it at hq
    split at hq
    · rename_i s pos hs; cases hq; exact hs
    · cases hq
  split at h
  · rename_i hlt
    refine ⟨_, _, h, Grow.put _ _ _ (.inl (by rw [hobj]; simp)), fun ι a w he hh g next Q k => ?_⟩
    have hv := ev_sound he x; rw [hx] at hv
    obtain ⟨d, hd, ea⟩ := hv
    obtain ⟨hro, hb⟩ := hh.obj id d _ hd hobj
    have hidlt : id < H.next := hh.live_lt (by rw [hobj]; simp)
    have hblt := hh.lt id d hd
    unfold Oper.wp
    have hrun : (execOp a.eval o).run P w = .ok (.value (.tuple #[.bool true, goInt q.2, .int .i32 (Utf8.decode q.1 q.2).1])) { w with heap := w.heap.setIfInBounds d.blk (.stringIter q.1 (q.2 + (Utf8.decode q.1 q.2).2)) } := by
      have hg : (getObj d.blk).run P w = .ok (.stringIter q.1 q.2) w := by simp only [getObj, Sem.run, hb]
      have hs : (setObj d.blk (.stringIter q.1 (q.2 + (Utf8.decode q.1 q.2).2))).run P w = .ok () { w with heap := w.heap.setIfInBounds d.blk (.stringIter q.1 (q.2 + (Utf8.decode q.1 q.2).2)) } := by simp only [setObj, Sem.run, hb]
      simp only [execOp, ho, ea, Instr.next, Sem.run_bind, hg, Result.andThen_ok, if_pos hlt, hs, Sem.run_pure]
    rw [hrun]
    have hset : ∀ b, b ≠ d.blk → (w.heap.setIfInBounds d.blk (.stringIter q.1 (q.2 + (Utf8.decode q.1 q.2).2)))[b]? = w.heap[b]? := by
      intro b hb; simp [Array.getElem?_setIfInBounds, Ne.symm hb]
    have hself : (w.heap.setIfInBounds d.blk (.stringIter q.1 (q.2 + (Utf8.decode q.1 q.2).2)))[d.blk]? = some (.stringIter q.1 (q.2 + (Utf8.decode q.1 q.2).2)) := by
      simp [Array.getElem?_setIfInBounds, hblt]
    have halive : Alive H id := .inr (by rw [hobj]; simp)
    have al : ∀ j, Alive (H.put id (some (.iter q.1 (q.2 + (Utf8.decode q.1 q.2).2)))) j → Alive H j := by
      intro j ha
      rcases ha with ha | ha
      · exact .inl ha
      · unfold AH.put at ha; dsimp only at ha
        split at ha
        · rename_i e; subst e; exact halive
        · exact .inr ha
    refine k _ _ ι ⟨[.bool true, .int .i64 q.2, .int .i32 (Utf8.decode q.1 q.2).1], ⟨_, _, rfl, rfl, _, _, rfl, rfl, _, _, rfl, rfl, rfl⟩, rfl⟩ ⟨?_, ?_, ?_, ?_⟩ ⟨fun _ _ h => h, fun _ _ h h' => (by rw [h] at h'; cases h'), Nat.le_refl _, ?_, ?_, by simp, ?_, rfl, rfl, rfl⟩
    · intro j dj oj hj hoj
      unfold AH.put at hoj; dsimp only at hoj
      split at hoj
      · rename_i e; subst e; cases hoj
        rw [hd] at hj; cases hj
        exact ⟨hro, hself⟩
      · rename_i hne
        refine (hh.obj j dj oj hj hoj).mono (fun _ _ h => h) (hset _ ?_)
        rcases hh.inj j id dj d hne hj hd (.inr (by rw [hoj]; simp)) halive with ⟨_, h2⟩ | h2
        · rw [hro] at h2; cases h2
        · exact h2
    · intro a' b' da db hn ha hb h1 h2
      exact hh.inj a' b' da db hn ha hb (al a' h1) (al b' h2)
    · intro j dj hj; simp; exact hh.lt j dj hj
    · intro j hj
      have hj' : H.next ≤ j := hj
      unfold AH.put; dsimp only
      rw [if_neg (by omega)]; exact hh.fut j hj
    · intro j hj hn
      unfold AH.put; dsimp only
      rw [if_neg (by rintro rfl; rw [hobj] at hn; cases hn)]; exact hn
    · intro j hj hn
      unfold AH.put; dsimp only
      rw [if_neg (by rintro rfl; rw [hd] at hn; cases hn)]
    · intro b hb hno
      exact hset b (fun e => hno (e ▸ ⟨id, d, hd, hidlt, by rw [hobj]; simp, hro, rfl⟩))
  · rename_i hge
    refine Done.pure h fun ι a w he hh => ?_
    have hv := ev_sound he x; rw [hx] at hv
    obtain ⟨d, hd, ea⟩ := hv
    obtain ⟨hro, hb⟩ := hh.obj id d _ hd hobj
    refine ⟨.tuple #[.bool false], ?_, [.bool false], ⟨_, _, rfl, rfl, rfl⟩, rfl⟩
    have hg : (getObj d.blk).run P w = .ok (.stringIter q.1 q.2) w := by simp only [getObj, Sem.run, hb]
    simp only [execOp, ho, ea, Instr.next, Sem.run_bind, hg, Result.andThen_ok, if_neg hge, Sem.run_pure]

/-! calls -/
theorem decTu_run (hT : TOk P T) {l : List CV} : ∀ (ts : List Nat) (j : Nat) (f : List CV → Tree), run C n (decTu T l j ts f) H = some r → run C n (f ((l.drop j).take ts.length)) H = some r ∧ (ts = [] ∨ j + ts.length ≤ l.length)
  | [], j, f, h => ⟨by simpa [decTu] using h, .inl rfl⟩
  | t :: ts, j, f, h => by
    simp only [decTu, run, obind_eq] at h
    obtain ⟨c, hc, h⟩ := h
    have hj : j < l.length := by
      rcases Nat.lt_or_ge j l.length with h' | h'
      · exact h'
      · simp [List.getElem?_eq_none h'] at hc
    have hce : l[j] = c := by simpa [List.getElem?_eq_getElem hj] using hc
    split at h
    case h_2 => simp [run] at h
    rename_i i hg
    split at h
    case isTrue => simp [run] at h
    rename_i hnt
    have h := decA_run (hT _ _ hg) (notTup_ne (by simpa using hnt)) h
    obtain ⟨h, h2⟩ := decTu_run hT ts (j + 1) _ h
    refine ⟨?_, .inr (by rcases h2 with h2 | h2
                         · subst h2; simp; omega
                         · simp; omega)⟩
    rw [List.drop_eq_getElem_cons hj, List.length_cons, List.take_succ_cons, hce]
    cases c with
    | sc x => exact h
    | ag x => exact h

theorem decR_run (hT : TOk P T) {t : Nat} {v : AV} {f : AV → Tree} (h : run C n (decR T t v f) H = some r) : ∃ v', run C n (f v') H = some r ∧ ∀ ι x, VR ι v x → VR ι v' x := by
  unfold decR at h
  split at h
  case h_2 => simp [run] at h
  rename_i i hg
  split at h
  · exact ⟨.un, h, fun _ _ _ => trivial⟩
  · rename_i ts hne hts
    simp only [run, obind_eq] at h
    obtain ⟨l, hl, h⟩ := h
    obtain ⟨rfl, hlen⟩ := asT_eq hl
    obtain ⟨h, _⟩ := decTu_run hT ts 0 _ h
    refine ⟨_, h, fun ι x hx => ?_⟩
    have : (l.drop 0).take ts.length = l := by simp [← hlen]
    rw [this]; exact hx
  · rename_i h1 h2
    exact ⟨v, decA_run (hT _ _ hg) (fun ts hts => by
      cases ts with
      | nil => exact h1 hts
      | cons a b => exact h2 _ hts) h, fun _ _ h => h⟩

theorem ptrs_VR {ι : Inj} : ∀ {l : List (Nat × Nat)} {vs : List Value}, All2 (PtR ι) l vs → All2 (VR ι) (ptrs l) vs
  | [], _, h => h
  | _ :: _, _, ⟨y, l', e, hr, ht⟩ => ⟨y, l', e, hr, ptrs_VR ht⟩

theorem op_callv (hT : TOk P T) (hC : OraOk P C) {c : Call} {g : Operand} (ho : o.op = .call c) (hc : c.callee = .value g) (h : run C n (opK T e o f) H = some r) : Done P o e C n H f r := by
  simp only [opK, ho, hc] at h
  have key : ∀ (g' : FuncId) (fs cs : List (Nat × Nat)) (v : AV) (H1 : AH), ev e g = .sc (.fn g' fs cs) → C g' (ptrs fs ++ evs e c.args.toList ++ ptrs cs) H = some (v, H1) → run C n (decR T o.type v f) H1 = some r → Done P o e C n H f r := by
    intro g' fs cs v H1 hg hcall h
    obtain ⟨v', hv', hm⟩ := decR_run hT h
    obtain ⟨hnx, ⟨hS, fn, hfn, hbody, hname⟩ | ⟨rfl, fn, s, hfn, hbody, hname, hfx, hext, rfl⟩⟩ := hC _ _ _ _ _ hcall
    case inr =>
      refine ⟨v', H1, hv', hnx, fun ι a w he hh gp next Q k => ?_⟩
      have hv := ev_sound he g; rw [hg] at hv
      obtain ⟨l, l', p1, p2, ea⟩ := hv
      obtain ⟨ex, x, h1, h2, h3⟩ := ext_run (P := P) hext (All2.append (All2.append (ptrs_VR p1) (evs_all he _)) (ptrs_VR p2)) w
      unfold Oper.wp
      have hargs : (⟨l ++ (c.args.toList.map a.eval) ++ l'⟩ : Array Value) = l.toArray ++ c.args.map a.eval ++ l'.toArray := by apply Array.ext'; simp
      have hrun : (execOp a.eval o).run P w = .ok (.value x) w := by
        simp only [execOp, ho, resolve, hc, Deferred.ofValue, ea, Sem.run_bind, Sem.run_pure, Result.andThen_ok, invoke, callFunc, run_program, hfn, hname, Bool.false_eq_true, if_false, hbody, Option.isNone_none, if_true, hfx, h1]
        rw [← hargs]
        simp only [mark, Sem.run, h2, Result.andThen_ok]
      rw [hrun]
      exact k x w ι (hm ι x h3) hh (Stp.refl _ _ _)
    refine ⟨v', H1, hv', hnx, fun ι a w he hh gp next Q k => ?_⟩
    have hv := ev_sound he g; rw [hg] at hv
    obtain ⟨l, l', p1, p2, ea⟩ := hv
    unfold Oper.wp
    have hb : fn.body.isNone = false := by cases hb : fn.body <;> simp_all
    have hrun : (execOp a.eval o).run P w = .ok (.enter g' ⟨l ++ (c.args.toList.map a.eval) ++ l'⟩) w := by
      simp only [execOp, ho, resolve, hc, Deferred.ofValue, ea, Sem.run_bind, Sem.run_pure, Result.andThen_ok, invoke, callFunc, run_program, hfn, hname, Bool.false_eq_true, if_false, hb]
      congr 2
      apply Array.ext'; simp
    rw [hrun]
    have hcl := hS ι w (l ++ (c.args.toList.map a.eval) ++ l') (All2.append (All2.append (ptrs_VR p1) (evs_all he _)) (ptrs_VR p2)) hh gp
    refine Calls.mono hcl fun e' w' hpost => ?_
    obtain ⟨ι', v2, rfl, hv2, hh2, hs2⟩ := hpost
    exact k v2 w' ι' (hm ι' v2 hv2) hh2 hs2
  split at h
  · rename_i g'
    simp only [run, obind_eq] at h
    obtain ⟨q, hq, h⟩ := h
    exact key g' [] [] q.1 q.2 rfl (by simpa [ptrs] using hq) h
  · simp only [run, obind_eq] at h
    obtain ⟨q, hq, q2, hq2, h⟩ := h
    have : ev e g = .sc (.fn q.1 q.2.1 q.2.2) := by
      unfold AV.asFn at hq
      split at hq
      · rename_i hh; cases hq; exact hh
      · cases hq
    exact key q.1 q.2.1 q.2.2 q2.1 q2.2 this hq2 h

theorem opP_sound (hT : TOk P T) (hc : clsOf o = .pure) (h : run C n (opK T e o f) H = some r) : DoneP P o e C n H f r := by
  cases ho : o.op with
  | move x => exact op_move ho h
  | assign x => exact op_assign ho h
  | pick c a b => exact op_pick ho h
  | build t ps => exact op_build hT ho h
  | nilCheck x => exact op_nilCheck ho h
  | binOp op t x y t' => exact op_binOp hT ho h
  | unOp op t x => exact op_unOp ho h
  | convert s d x => exact op_convert hT ho h
  | makeFunc fn fs cs =>
    cases fn with
    | func g => exact op_makeFunc ho h
    | _ => simp only [opK, ho] at h; simp [run] at h
  | slice t x lo hi mx => exact op_slice hT ho h
  | fieldAddr t x j => exact op_fieldAddr hT ho h
  | field t x j => exact op_field hT ho h
  | indexAddr t x j => exact op_indexAddr hT ho h
  | index t x j => exact op_index hT ho h
  | extract x j => exact op_extract ho h
  | call c =>
    cases hcc : c.callee with
    | builtin b =>
      have hb : b = .len ∨ b = .min ∨ b = .max := by
        simp only [clsOf, ho, hcc] at hc
        cases b <;> simp_all
      exact op_builtin_pure hT hb ho hcc (by simpa only [opK, ho, hcc] using h)
    | value g => simp [clsOf, ho, hcc] at hc
    | invoke a b => simp [clsOf, ho, hcc] at hc
  | _ => simp [clsOf, ho] at hc
theorem opA_sound (hT : TOk P T) (hc : clsOf o = .alloc) (h : run C n (opK T e o f) H = some r) : DoneA P o e C n H f r := by
  cases ho : o.op with
  | alloc t => exact op_alloc hT ho h
  | box t x => exact op_box ho h
  | buildSlice t m ps => exact op_buildSlice hT ho h
  | makeSlice t l c => exact op_makeSlice hT ho h
  | call c => 
    exfalso
    simp only [clsOf, ho] at hc
    split at hc <;> cases hc
  | _ => simp [clsOf, ho] at hc

theorem opK_sound (hT : TOk P T) (hC : OraOk P C) (h : run C n (opK T e o f) H = some r) : Done P o e C n H f r := by
  by_cases hp : clsOf o = .pure
  · exact (opP_sound hT hp h).done
  by_cases ha : clsOf o = .alloc
  · exact (opA_sound hT ha h).done
  cases ho : o.op with
  | load t a => exact op_load hT ho h
  | store t a x => exact op_store hT ho h
  | range t x => exact op_range hT ho h
  | next x b =>
    cases b with
    | true => exact op_next hT ho h
    | false => simp only [opK, ho] at h; simp [run] at h
  | call c =>
    cases hc : c.callee with
    | builtin b => exact op_builtin hT ho hc (by simpa only [opK, ho, hc] using h)
    | value g => exact op_callv hT hC ho hc h
    | invoke a b => simp only [opK, ho, hc] at h; simp [run] at h
  | _ => first | (simp [clsOf, ho] at hp; done) | (simp [clsOf, ho] at ha; done) | (simp only [opK, ho] at h; simp [run] at h)
theorem baOf_run {ι : Inj} {w : World} (g : Value → ByteArray → Sem (ForInStep ByteArray)) (hg : ∀ (n : Int) (s : ByteArray), g (.int .u8 n) s = pure (.yield (s.push (UInt8.ofNat n.toNat)))) :
    ∀ (l : List Sc) (vs : List Value) (s s' : ByteArray), LR ι l vs → baOf l s = some s' → (forIn vs s g).run P w = .ok s' w
  | [], vs, s, s', hl, h => by cases hl; simp [baOf] at h; subst h; simp
  | x :: l, vs, s, s', ⟨v, l', e, hx, ht⟩, h => by
    subst e
    unfold baOf at h
    split at h
    · rename_i e; cases e
    · rename_i n l2 s2 e
      cases e
      cases hx
      rw [List.forIn_cons, hg]
      simp only [pure_bind]
      exact baOf_run g hg l l' _ s' ht h
    · cases h
theorem opX_sound (hT : TOk P T) (hC : OraOk P C) (h : run C n (opX T e o f) H = some r) : Done P o e C n H f r := by
  unfold opX at h
  split at h
  case h_2 => exact opK_sound hT hC h
  rename_i s d x ho
  split at h
  case h_2 => exact opK_sound hT hC h
  rename_i j i v hs hd hx
  split at h
  case h_2 => simp [run] at h
  rename_i el hj hi
  split at h
  case h_2 => simp [run] at h
  rename_i ie hie
  split at h
  case h_2 => simp [run] at h
  rename_i hu8
  simp only [run, obind_eq] at h
  obtain ⟨l, hl, b, hb, h⟩ := h
  have hsz : ie.size = 1 := by
    obtain ⟨_, h1, _⟩ := TI.more (hT _ _ hie) (by intro ts e; rw [hu8] at e; cases e)
    rcases h1 with h1 | h1
    · rw [hu8] at h1; cases h1
    · exact h1
  refine Done.pure h fun ι a w he hh => ?_
  have hv := ev_sound he x; rw [hx] at hv
  obtain ⟨d1, hu1, hm1⟩ := TI.und (hT _ _ hs)
  rw [hj] at hm1; cases tdm_slice hm1
  obtain ⟨d2, hu2, hm2⟩ := TI.und (hT _ _ hd)
  rw [hi] at hm2; cases tdm_str hm2
  obtain ⟨d3, hu3, hm3⟩ := TI.und (hT _ _ hie)
  rw [hu8] at hm3; cases tdm_int hm3
  obtain ⟨bx, cx, news, ea, hnl, hnlen, hnrun⟩ := rds_run (P := P) hT hie hh hl hv
  have hnr := hnrun w rfl
  rw [ea] at hnr
  refine ⟨.string b, ?_, rfl⟩
  have hc : (Conv.bytesToString (a.eval x)).run P w = .ok (.string b) w := by
    rw [ea]
    cases bx with
    | none =>
      simp [Builtin.firstCells] at hnr
      subst hnr
      cases l with
      | nil => simp [baOf] at hb; subst hb; rfl
      | cons y l => obtain ⟨_, _, e, _⟩ := hnl; cases e
    | some ad =>
      simp [Builtin.firstCells] at hnr
      rw [hsz, Nat.mul_one] at hnr
      unfold Conv.bytesToString
      simp only [Sem.run_bind, hnr, Result.andThen_ok]
      rw [← Array.forIn_toList, baOf_run _ (fun n s => rfl) l news .empty b hnl hb]
      rfl
  rw [ea] at hc
  simp [execOp, ho, convert, run_underlying hu1, run_underlying hu2, run_underlying hu3, ea, hc]
end ops
end Go.Proofs.YtpbhfolaoccpkaaGreat.Fw
