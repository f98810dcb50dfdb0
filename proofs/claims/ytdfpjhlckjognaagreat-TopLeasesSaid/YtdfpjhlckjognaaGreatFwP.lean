/- Make, string iterators, calls; every operation in one theorem. -/
import Derived.Test.YtdfpjhlckjognaaGreatFwK
import Derived.Orders
set_option linter.unusedSimpArgs false
set_option linter.unusedVariables false
namespace Go.Proofs.YtdfpjhlckjognaaGreat.Fw
open Go
section ops
variable {P : Program} {T : TTab} {o : Oper} {e : List AV} {C : Ora} {n : Nat} {H : AH} {f : AV → Tree} {r : Res}
theorem wrap_i64 (x : Int) (h1 : 0 ≤ x) (h2 : x ≤ 9223372036854775807) : IntKind.i64.wrap x = x := by
  simp [IntKind.wrap, IntKind.bits, IntKind.signed]; omega
theorem op_makeSlice (hT : TOk P T) {t : Nat} {x y : Operand} (ho : o.op = .makeSlice t x y) (h : run C n (opK T e o f) H = some r) : DoneA P o e C n H f r := by
  simp only [opK, ho] at h
  split at h
  case h_2 => simp [run] at h
  rename_i i k1 m1 k2 m2 hg hx hy
  split at h
  case h_2 => simp [run] at h
  rename_i el hel
  split at h
  case h_2 => simp [run] at h
  rename_i ie hie
  split at h
  case isTrue => simp [run] at h
  rename_i hnt
  have hnt : notTup ie.d = true := by simpa using hnt
  simp only [run] at h
  split at h
  case isFalse => simp at h
  rename_i hc
  simp only [Bool.and_eq_true, decide_eq_true_eq] at hc
  obtain ⟨⟨⟨c1, c2⟩, c3⟩, c4⟩ := hc
  refine alloc_done (v := fun id => .sc (.sl (some ⟨id, 0, m1.toNat, m2.toNat, ie.size⟩))) h fun ι a w he hh => ?_
  obtain ⟨d1, hu1, hm1⟩ := TI.und (hT _ _ hg)
  rw [hel] at hm1; cases tdm_slice hm1
  obtain ⟨inf, hinf, hisz, hib⟩ := TI.inf (hT _ _ hie)
  obtain ⟨z, hz, hzc, hzl⟩ := TI.zero_run hT hie (notTup_ne hnt) w
  have hzs : z.cells.size = ie.size := by have := (constScs_sound hzc ι).length; simpa [hzl] using this
  have w1 := wrap_i64 m1 c1 (by omega)
  have w2 := wrap_i64 m2 (by omega) (by omega)
  have b1 : (inf.bytes : Int) * m2 ≤ 281474976710656 := by rw [hib, Int.mul_comm]; omega
  have hti : (typeInfo el).run P w = .ok inf w := by simp [typeInfo, hinf]
  have hlen : (zeros ie.zero m2.toNat).length = m2.toNat * ie.size := by rw [zeros_length, hzl]
  have main : ∀ zc : Array Value, LR ι (zeros ie.zero m2.toNat) ((Array.range (m2.toNat * ie.size)).map (zc[· % zc.size]!)).toList → (m2.toNat * ie.size = 0 ∧ zc = #[] ∨ ¬ m2.toNat * ie.size = 0 ∧ zc = z.cells) →
      ∃ (vs : List Value) (ty : TypeId) (w1 : World) (v' : Value), SameW w1 w ∧ LR ι (zeros ie.zero m2.toNat) vs ∧ (execOp a.eval o).run P w = .ok (.value v') (w1.alloc (.cells ⟨vs⟩ ty)) ∧
        ∀ ι' : Inj, ι' H.next = some ⟨w.heap.size, 0, (zeros ie.zero m2.toNat).length, false⟩ → VR ι' (.sc (.sl (some ⟨H.next, 0, m1.toNat, m2.toNat, ie.size⟩))) v' := by
    intro zc hL hzc'
    refine ⟨((Array.range (m2.toNat * ie.size)).map (zc[· % zc.size]!)).toList, el, w, .slice (some ⟨w.heap.size, 0, none⟩) m1.toNat m2.toNat, ⟨rfl, rfl, rfl, rfl⟩, hL, ?_, fun ι' h => ⟨_, ⟨w.heap.size, 0, none⟩, m2.toNat, h, rfl, by simp only []; omega, Nat.le_refl _, .inr rfl, .inl rfl⟩⟩
    have hcond : ((decide (m2 < 0) || decide ((inf.bytes : Int) * m2 > 2 ^ 48)) || decide (m1 < 0) || decide (m1 > m2)) = false := by
      simp; omega
    rcases hzc' with ⟨h0, rfl⟩ | ⟨h0, rfl⟩
    · simp only [execOp, ho, Instr.makeSlice, ev_int he hx, ev_int he hy, asInt, asIntOf, Sem.run_bind, Sem.run_pure, Result.andThen_ok, run_underlying hu1, hti, w1, w2, hcond, Bool.false_eq_true, if_false, run_askRoom, TI.run_size (hT _ _ hie), if_pos h0, newRow, run_newObj, World.alloc_eq]
    · simp only [execOp, ho, Instr.makeSlice, ev_int he hx, ev_int he hy, asInt, asIntOf, Sem.run_bind, Sem.run_pure, Result.andThen_ok, run_underlying hu1, hti, w1, w2, hcond, Bool.false_eq_true, if_false, run_askRoom, TI.run_size (hT _ _ hie), if_neg h0, hz, newRow, run_newObj, World.alloc_eq]
  by_cases h0 : m2.toNat * ie.size = 0
  · refine main #[] ?_ (.inl ⟨h0, rfl⟩)
    have : zeros ie.zero m2.toNat = [] := List.eq_nil_of_length_eq_zero (by rw [hlen]; exact h0)
    rw [this, h0]; simp [LR, All2]
  · exact main z.cells (zeros_LR (constScs_sound hzc ι) _ _ (by rw [hzs])) (.inr ⟨h0, rfl⟩)
theorem op_range (hT : TOk P T) {t : Nat} {x : Operand} (ho : o.op = .range t x) (h : run C n (opK T e o f) H = some r) : Done P o e C n H f r := by
  simp only [opK, ho] at h
  split at h
  case h_2 => simp [run] at h
  rename_i i s hg hx
  split at h
  case h_2 => simp [run] at h
  rename_i hd
  simp only [run] at h
  refine ⟨_, _, h, Grow.new _ _, fun ι a w he hh g next Q k => ?_⟩
  obtain ⟨d1, hu1, hm1⟩ := TI.und (hT _ _ hg)
  rw [hd] at hm1; cases tdm_str hm1
  have hn : ι H.next = none := g H.next (Nat.le_refl _) (by simp [AH.new])
  have hOR : OR (ι.add H.next ⟨w.heap.size, 0, 0, false⟩) ⟨w.heap.size, 0, 0, false⟩ (w.alloc (.stringIter s 0)) (.iter s 0) := by
    refine ⟨rfl, ?_⟩
    simp only [World.alloc]
    simp
  obtain ⟨m1, m2⟩ := hh.make (d := ⟨w.heap.size, 0, 0, false⟩) hn rfl rfl hOR
  unfold Oper.wp
  have : (execOp a.eval o).run P w = .ok (.value (.pointer (some ⟨w.heap.size, 0, none⟩))) (w.alloc (.stringIter s 0)) := by
    simp [execOp, ho, ev_str he hx, Instr.range, run_underlying hu1]
  rw [this]
  exact k _ _ _ ⟨_, Inj.add_at _ _ _, rfl⟩ m1 m2
theorem op_next (hT : TOk P T) {x : Operand} (ho : o.op = .next x true) (h : run C n (opK T e o f) H = some r) : Done P o e C n H f r := by
  simp only [opK, ho] at h
  split at h
  case h_2 => simp [run] at h
  rename_i id hx
  simp only [run, obind_eq] at h
  obtain ⟨q, hq, h⟩ := h
  have hobj : H.obj id = some (.iter q.1 q.2) := by
    unfold AH.it at hq
    split at hq
    · rename_i s pos hs; cases hq; exact hs
    · cases hq
  split at h
  · rename_i hlt
    refine ⟨_, _, h, Grow.put _ _ _ (.inl (by rw [hobj]; simp)), fun ι a w he hh g next Q k => ?_⟩
    have hv := ev_sound he x; rw [hx] at hv
    obtain ⟨d, hd, ea⟩ := hv
    obtain ⟨hro, hb⟩ := hh.obj id d _ hd hobj
    have hidlt : id < H.next := hh.live_lt (by rw [hobj]; simp)
    have hblt := hh.lt id d hd
    unfold Oper.wp
    have hrun : (execOp a.eval o).run P w = .ok (.value (.tuple #[.bool true, goInt q.2, .int .i32 (Utf8.decode q.1 q.2).1])) { w with heap := w.heap.setIfInBounds d.blk (.stringIter q.1 (q.2 + (Utf8.decode q.1 q.2).2)) } := by
      have hg : (getObj d.blk).run P w = .ok (.stringIter q.1 q.2) w := by simp only [getObj, Sem.run, hb]
      have hs : (setObj d.blk (.stringIter q.1 (q.2 + (Utf8.decode q.1 q.2).2))).run P w = .ok () { w with heap := w.heap.setIfInBounds d.blk (.stringIter q.1 (q.2 + (Utf8.decode q.1 q.2).2)) } := by simp only [setObj, Sem.run, hb]
      simp only [execOp, ho, ea, Instr.next, Sem.run_bind, hg, Result.andThen_ok, if_pos hlt, hs, Sem.run_pure]
    rw [hrun]
    have hset : ∀ b, b ≠ d.blk → (w.heap.setIfInBounds d.blk (.stringIter q.1 (q.2 + (Utf8.decode q.1 q.2).2)))[b]? = w.heap[b]? := by
      intro b hb; simp [Array.getElem?_setIfInBounds, Ne.symm hb]
    have hself : (w.heap.setIfInBounds d.blk (.stringIter q.1 (q.2 + (Utf8.decode q.1 q.2).2)))[d.blk]? = some (.stringIter q.1 (q.2 + (Utf8.decode q.1 q.2).2)) := by
      simp [Array.getElem?_setIfInBounds, hblt]
    have halive : Alive H id := .inr (by rw [hobj]; simp)
    have al : ∀ j, Alive (H.put id (some (.iter q.1 (q.2 + (Utf8.decode q.1 q.2).2)))) j → Alive H j := by
      intro j ha
      rcases ha with ha | ha
      · exact .inl ha
      · unfold AH.put at ha; dsimp only at ha
        split at ha
        · rename_i e; subst e; exact halive
        · exact .inr ha
    refine k _ _ ι ⟨[.bool true, .int .i64 q.2, .int .i32 (Utf8.decode q.1 q.2).1], ⟨_, _, rfl, rfl, _, _, rfl, rfl, _, _, rfl, rfl, rfl⟩, rfl⟩ ⟨?_, ?_, ?_, ?_⟩ ⟨fun _ _ h => h, fun _ _ h h' => (by rw [h] at h'; cases h'), Nat.le_refl _, ?_, ?_, by simp, ?_, rfl, rfl, rfl⟩
    · intro j dj oj hj hoj
      unfold AH.put at hoj; dsimp only at hoj
      split at hoj
      · rename_i e; subst e; cases hoj
        rw [hd] at hj; cases hj
        exact ⟨hro, hself⟩
      · rename_i hne
        refine (hh.obj j dj oj hj hoj).mono (fun _ _ h => h) (hset _ ?_)
        rcases hh.inj j id dj d hne hj hd (.inr (by rw [hoj]; simp)) halive with ⟨_, h2⟩ | h2
        · rw [hro] at h2; cases h2
        · exact h2
    · intro a' b' da db hn ha hb h1 h2
      exact hh.inj a' b' da db hn ha hb (al a' h1) (al b' h2)
    · intro j dj hj; simp; exact hh.lt j dj hj
    · intro j hj
      have hj' : H.next ≤ j := hj
      unfold AH.put; dsimp only
      rw [if_neg (by omega)]; exact hh.fut j hj
    · intro j hj hn
      unfold AH.put; dsimp only
      rw [if_neg (by rintro rfl; rw [hobj] at hn; cases hn)]; exact hn
    · intro j hj hn
      unfold AH.put; dsimp only
      rw [if_neg (by rintro rfl; rw [hd] at hn; cases hn)]
    · intro b hb hno
      exact hset b (fun e => hno (e ▸ ⟨id, d, hd, hidlt, by rw [hobj]; simp, hro, rfl⟩))
  · rename_i hge
    refine Done.pure h fun ι a w he hh => ?_
    have hv := ev_sound he x; rw [hx] at hv
    obtain ⟨d, hd, ea⟩ := hv
    obtain ⟨hro, hb⟩ := hh.obj id d _ hd hobj
    refine ⟨.tuple #[.bool false], ?_, [.bool false], ⟨_, _, rfl, rfl, rfl⟩, rfl⟩
    have hg : (getObj d.blk).run P w = .ok (.stringIter q.1 q.2) w := by simp only [getObj, Sem.run, hb]
    simp only [execOp, ho, ea, Instr.next, Sem.run_bind, hg, Result.andThen_ok, if_neg hge, Sem.run_pure]
theorem decTu_run (hT : TOk P T) {l : List CV} : ∀ (ts : List Nat) (j : Nat) (f : List CV → Tree), run C n (decTu T l j ts f) H = some r → run C n (f ((l.drop j).take ts.length)) H = some r ∧ (ts = [] ∨ j + ts.length ≤ l.length)
  | [], j, f, h => ⟨by simpa [decTu] using h, .inl rfl⟩
  | t :: ts, j, f, h => by
    simp only [decTu, run, obind_eq] at h
    obtain ⟨c, hc, h⟩ := h
    have hj : j < l.length := by
      rcases Nat.lt_or_ge j l.length with h' | h'
      · exact h'
      · simp [List.getElem?_eq_none h'] at hc
    have hce : l[j] = c := by simpa [List.getElem?_eq_getElem hj] using hc
    split at h
    case h_2 => simp [run] at h
    rename_i i hg
    split at h
    case isTrue => simp [run] at h
    rename_i hnt
    have h := decA_run (hT _ _ hg) (notTup_ne (by simpa using hnt)) h
    obtain ⟨h, h2⟩ := decTu_run hT ts (j + 1) _ h
    refine ⟨?_, .inr (by rcases h2 with h2 | h2
                         · subst h2; simp; omega
                         · simp; omega)⟩
    rw [List.drop_eq_getElem_cons hj, List.length_cons, List.take_succ_cons, hce]
    cases c with
    | sc x => exact h
    | ag x => exact h
theorem decR_run (hT : TOk P T) {t : Nat} {v : AV} {f : AV → Tree} (h : run C n (decR T t v f) H = some r) : ∃ v', run C n (f v') H = some r ∧ ∀ ι x, VR ι v x → VR ι v' x := by
  unfold decR at h
  split at h
  case h_2 => simp [run] at h
  rename_i i hg
  split at h
  · exact ⟨.un, h, fun _ _ _ => trivial⟩
  · rename_i ts hne hts
    simp only [run, obind_eq] at h
    obtain ⟨l, hl, h⟩ := h
    obtain ⟨rfl, hlen⟩ := asT_eq hl
    obtain ⟨h, _⟩ := decTu_run hT ts 0 _ h
    refine ⟨_, h, fun ι x hx => ?_⟩
    have : (l.drop 0).take ts.length = l := by simp [← hlen]
    rw [this]; exact hx
  · rename_i h1 h2
    exact ⟨v, decA_run (hT _ _ hg) (fun ts hts => by
      cases ts with
      | nil => exact h1 hts
      | cons a b => exact h2 _ hts) h, fun _ _ h => h⟩
theorem ptrs_VR {ι : Inj} : ∀ {l : List (Nat × Nat)} {vs : List Value}, All2 (PtR ι) l vs → All2 (VR ι) (ptrs l) vs
  | [], _, h => h
  | _ :: _, _, ⟨y, l', e, hr, ht⟩ => ⟨y, l', e, hr, ptrs_VR ht⟩
theorem op_callv (hT : TOk P T) (hC : OraOk P C) {c : Call} {g : Operand} (ho : o.op = .call c) (hc : c.callee = .value g) (h : run C n (opK T e o f) H = some r) : Done P o e C n H f r := by
  simp only [opK, ho, hc] at h
  have key : ∀ (g' : FuncId) (fs cs : List (Nat × Nat)) (v : AV) (H1 : AH), ev e g = .sc (.fn g' fs cs) → C g' (ptrs fs ++ evs e c.args.toList ++ ptrs cs) H = some (v, H1) → run C n (decR T o.type v f) H1 = some r → Done P o e C n H f r := by
    intro g' fs cs v H1 hg hcall h
    obtain ⟨v', hv', hm⟩ := decR_run hT h
    obtain ⟨hnx, ⟨hS, fn, hfn, hbody, hname⟩ | ⟨rfl, fn, s, hfn, hbody, hname, hfx, hext, rfl⟩⟩ := hC _ _ _ _ _ hcall
    case inr =>
      refine ⟨v', H1, hv', hnx, fun ι a w he hh gp next Q k => ?_⟩
      have hv := ev_sound he g; rw [hg] at hv
      obtain ⟨l, l', p1, p2, ea⟩ := hv
      obtain ⟨ex, x, h1, h2, h3⟩ := ext_run (P := P) hext (All2.append (All2.append (ptrs_VR p1) (evs_all he _)) (ptrs_VR p2)) w
      unfold Oper.wp
      have hargs : (⟨l ++ (c.args.toList.map a.eval) ++ l'⟩ : Array Value) = l.toArray ++ c.args.map a.eval ++ l'.toArray := by apply Array.ext'; simp
      have hrun : (execOp a.eval o).run P w = .ok (.value x) w := by
        simp only [execOp, ho, resolve, hc, Deferred.ofValue, ea, Sem.run_bind, Sem.run_pure, Result.andThen_ok, invoke, callFunc, run_program, hfn, hname, Bool.false_eq_true, if_false, hbody, Option.isNone_none, if_true, hfx, h1]
        rw [← hargs]
        simp only [mark, Sem.run, h2, Result.andThen_ok]
      rw [hrun]
      exact k x w ι (hm ι x h3) hh (Stp.refl _ _ _)
    refine ⟨v', H1, hv', hnx, fun ι a w he hh gp next Q k => ?_⟩
    have hv := ev_sound he g; rw [hg] at hv
    obtain ⟨l, l', p1, p2, ea⟩ := hv
    unfold Oper.wp
    have hb : fn.body.isNone = false := by cases hb : fn.body <;> simp_all
    have hrun : (execOp a.eval o).run P w = .ok (.enter g' ⟨l ++ (c.args.toList.map a.eval) ++ l'⟩) w := by
      simp only [execOp, ho, resolve, hc, Deferred.ofValue, ea, Sem.run_bind, Sem.run_pure, Result.andThen_ok, invoke, callFunc, run_program, hfn, hname, Bool.false_eq_true, if_false, hb]
      congr 2
      apply Array.ext'; simp
    rw [hrun]
    have hcl := hS ι w (l ++ (c.args.toList.map a.eval) ++ l') (All2.append (All2.append (ptrs_VR p1) (evs_all he _)) (ptrs_VR p2)) hh gp
    refine Calls.mono hcl fun e' w' hpost => ?_
    obtain ⟨ι', v2, rfl, hv2, hh2, hs2⟩ := hpost
    exact k v2 w' ι' (hm ι' v2 hv2) hh2 hs2
  split at h
  · rename_i g'
    simp only [run, obind_eq] at h
    obtain ⟨q, hq, h⟩ := h
    exact key g' [] [] q.1 q.2 rfl (by simpa [ptrs] using hq) h
  · simp only [run, obind_eq] at h
    obtain ⟨q, hq, q2, hq2, h⟩ := h
    have : ev e g = .sc (.fn q.1 q.2.1 q.2.2) := by
      unfold AV.asFn at hq
      split at hq
      · rename_i hh; cases hq; exact hh
      · cases hq
    exact key q.1 q.2.1 q.2.2 q2.1 q2.2 this hq2 h
theorem opP_sound (hT : TOk P T) (hc : clsOf o = .pure) (h : run C n (opK T e o f) H = some r) : DoneP P o e C n H f r := by
  cases ho : o.op with
  | move x => exact op_move ho h
  | assign x => exact op_assign ho h
  | pick c a b => exact op_pick ho h
  | build t ps => exact op_build hT ho h
  | nilCheck x => exact op_nilCheck ho h
  | binOp op t x y t' => exact op_binOp hT ho h
  | unOp op t x => exact op_unOp ho h
  | convert s d x => exact op_convert hT ho h
  | makeFunc fn fs cs =>
    cases fn with
    | func g => exact op_makeFunc ho h
    | _ => simp only [opK, ho] at h; simp [run] at h
  | slice t x lo hi mx => exact op_slice hT ho h
  | fieldAddr t x j => exact op_fieldAddr hT ho h
  | field t x j => exact op_field hT ho h
  | indexAddr t x j => exact op_indexAddr hT ho h
  | index t x j => exact op_index hT ho h
  | extract x j => exact op_extract ho h
  | call c =>
    cases hcc : c.callee with
    | builtin b =>
      have hb : b = .len ∨ b = .min ∨ b = .max := by
        simp only [clsOf, ho, hcc] at hc
        cases b <;> simp_all
      exact op_builtin_pure hT hb ho hcc (by simpa only [opK, ho, hcc] using h)
    | value g => simp [clsOf, ho, hcc] at hc
    | invoke a b => simp [clsOf, ho, hcc] at hc
  | _ => simp [clsOf, ho] at hc
theorem opA_sound (hT : TOk P T) (hc : clsOf o = .alloc) (h : run C n (opK T e o f) H = some r) : DoneA P o e C n H f r := by
  cases ho : o.op with
  | alloc t => exact op_alloc hT ho h
  | box t x => exact op_box ho h
  | buildSlice t m ps => exact op_buildSlice hT ho h
  | makeSlice t l c => exact op_makeSlice hT ho h
  | call c => 
    exfalso
    simp only [clsOf, ho] at hc
    split at hc <;> cases hc
  | _ => simp [clsOf, ho] at hc
theorem opK_sound (hT : TOk P T) (hC : OraOk P C) (h : run C n (opK T e o f) H = some r) : Done P o e C n H f r := by
  by_cases hp : clsOf o = .pure
  · exact (opP_sound hT hp h).done
  by_cases ha : clsOf o = .alloc
  · exact (opA_sound hT ha h).done
  cases ho : o.op with
  | load t a => exact op_load hT ho h
  | store t a x => exact op_store hT ho h
  | range t x => exact op_range hT ho h
  | next x b =>
    cases b with
    | true => exact op_next hT ho h
    | false => simp only [opK, ho] at h; simp [run] at h
  | call c =>
    cases hc : c.callee with
    | builtin b => exact op_builtin hT ho hc (by simpa only [opK, ho, hc] using h)
    | value g => exact op_callv hT hC ho hc h
    | invoke a b => simp only [opK, ho, hc] at h; simp [run] at h
  | _ => first | (simp [clsOf, ho] at hp; done) | (simp [clsOf, ho] at ha; done) | (simp only [opK, ho] at h; simp [run] at h)
theorem baOf_run {ι : Inj} {w : World} (g : Value → ByteArray → Sem (ForInStep ByteArray)) (hg : ∀ (n : Int) (s : ByteArray), g (.int .u8 n) s = pure (.yield (s.push (UInt8.ofNat n.toNat)))) :
    ∀ (l : List Sc) (vs : List Value) (s s' : ByteArray), LR ι l vs → baOf l s = some s' → (forIn vs s g).run P w = .ok s' w
  | [], vs, s, s', hl, h => by cases hl; simp [baOf] at h; subst h; simp
  | x :: l, vs, s, s', ⟨v, l', e, hx, ht⟩, h => by
    subst e
    unfold baOf at h
    split at h
    · rename_i e; cases e
    · rename_i n l2 s2 e
      cases e
      cases hx
      rw [List.forIn_cons, hg]
      simp only [pure_bind]
      exact baOf_run g hg l l' _ s' ht h
    · cases h
theorem opX_sound (hT : TOk P T) (hC : OraOk P C) (h : run C n (opX T e o f) H = some r) : Done P o e C n H f r := by
  unfold opX at h
  split at h
  case h_2 => exact opK_sound hT hC h
  rename_i s d x ho
  split at h
  case h_2 => exact opK_sound hT hC h
  rename_i j i v hs hd hx
  split at h
  case h_2 => simp [run] at h
  rename_i el hj hi
  split at h
  case h_2 => simp [run] at h
  rename_i ie hie
  split at h
  case h_2 => simp [run] at h
  rename_i hu8
  simp only [run, obind_eq] at h
  obtain ⟨l, hl, b, hb, h⟩ := h
  have hsz : ie.size = 1 := by
    obtain ⟨_, h1, _⟩ := TI.more (hT _ _ hie) (by intro ts e; rw [hu8] at e; cases e)
    rcases h1 with h1 | h1
    · rw [hu8] at h1; cases h1
    · exact h1
  refine Done.pure h fun ι a w he hh => ?_
  have hv := ev_sound he x; rw [hx] at hv
  obtain ⟨d1, hu1, hm1⟩ := TI.und (hT _ _ hs)
  rw [hj] at hm1; cases tdm_slice hm1
  obtain ⟨d2, hu2, hm2⟩ := TI.und (hT _ _ hd)
  rw [hi] at hm2; cases tdm_str hm2
  obtain ⟨d3, hu3, hm3⟩ := TI.und (hT _ _ hie)
  rw [hu8] at hm3; cases tdm_int hm3
  obtain ⟨bx, cx, news, ea, hnl, hnlen, hnrun⟩ := rds_run (P := P) hT hie hh hl hv
  have hnr := hnrun w rfl
  rw [ea] at hnr
  refine ⟨.string b, ?_, rfl⟩
  have hc : (Conv.bytesToString (a.eval x)).run P w = .ok (.string b) w := by
    rw [ea]
    cases bx with
    | none =>
      simp [Builtin.firstCells] at hnr
      subst hnr
      cases l with
      | nil => simp [baOf] at hb; subst hb; rfl
      | cons y l => obtain ⟨_, _, e, _⟩ := hnl; cases e
    | some ad =>
      simp [Builtin.firstCells] at hnr
      rw [hsz, Nat.mul_one] at hnr
      unfold Conv.bytesToString
      simp only [Sem.run_bind, hnr, Result.andThen_ok]
      rw [← Array.forIn_toList, baOf_run _ (fun n s => rfl) l news .empty b hnl hb]
      rfl
  rw [ea] at hc
  simp [execOp, ho, convert, run_underlying hu1, run_underlying hu2, run_underlying hu3, ea, hc]
end ops
end Go.Proofs.YtdfpjhlckjognaaGreat.Fw
set_option linter.unusedSimpArgs false
set_option linter.unusedVariables false
namespace Go.Proofs.YtdfpjhlckjognaaGreat.Fw
open Go
section ops
variable {P : Program} {T : TTab} {C : Ora} {n : Nat}
theorem wantedA_sound {ops : Array Oper} {e : List AV} {o : Oper} {b : Bool} (h : wantedA ops.toList e o = some b) {ι : Inj} {a : Act} (he : ER ι e a.tmps) : Region.wanted o (yielded ops a.tmps) = b := by
  unfold wantedA at h
  unfold Region.wanted
  split at h
  · rename_i hg; cases h; rw [hg]
  · rename_i j want hg
    rw [hg]
    dsimp only
    unfold dstOf at h
    unfold yielded
    have hx : ops.toList[j]? = ops[j]? := by simp
    rw [hx] at h
    cases hd : (ops[j]?).bind (·.dst) with
    | none => rw [hd] at h; cases h
    | some t =>
      rw [hd] at h; dsimp only at h
      have hv := he.get t
      have hsz : ∀ v, a.tmps.getD t undef = v → v ≠ undef → a.tmps[t]? = some v := by
        intro v hv hne
        by_cases hlt : t < a.tmps.size
        · simp [Array.getD, hlt] at hv; simp [hlt, hv]
        · simp [Array.getD, hlt] at hv; exact absurd hv.symm hne
      split at h
      · rename_i e1; rw [e1] at hv; cases h
        have := hsz (.bool true) hv (by simp [undef])
        simp [this] <;> cases want <;> rfl
      · rename_i e1; rw [e1] at hv; cases h
        have := hsz (.bool false) hv (by simp [undef])
        simp [this] <;> cases want <;> rfl
      · rename_i e1; rw [e1] at hv; cases h
        obtain ⟨vs, h1, h2⟩ := hv
        cases h1
        simp only [Option.bind_some]
        by_cases hlt : t < a.tmps.size
        · have : a.tmps[t]? = some (.tuple #[]) := by simp [Array.getD, hlt] at h2; simp [hlt, h2]
          rw [this]; rfl
        · rw [Array.getElem?_eq_none (Nat.le_of_not_lt hlt)]; rfl
      · cases h
theorem guardK_run {g : Bool} {v : AV} {go : AV → Tree} {H : AH} {r : Res} (h : run C n (guardK g v go) H = some r) : run C n (go v) H = some r := by
  unfold guardK at h
  split at h
  · exact h
  · split at h
    · rename_i b
      cases b
      · simpa using h
      · simpa using h
    · simp [run] at h
theorem opsK_sound (hT : TOk P T) (hC : OraOk P C) (ops : Array Oper) : ∀ (os : List Oper) (j : Nat) (e : List AV) (H : AH) (f : List AV → Tree) (r : Res), run C n (opsK T ops.toList j os e f) H = some r →
    ∃ e1 H1, run C n (f e1) H1 = some r ∧ Grow H H1 ∧ ∀ (ι : Inj) (a : Act) (w : World), ER ι e a.tmps → HR ι H w → Gap ι H H1 → ∀ (Q : Exit → Act → World → Prop),
      (∀ a' w' ι', AEq a a' → ER ι' e1 a'.tmps → HR ι' H1 w' → Stp ι H w ι' H1 w' → Q .normal a' w') → wpList P ops Q os a w := by
  intro os
  induction os with
  | nil =>
    intro j e H f r h
    exact ⟨e, H, h, Grow.refl _, fun ι a w he hh _ Q k => k a w ι (AEq.refl _) he hh (Stp.refl _ _ _)⟩
  | cons o os ih =>
    intro j e H f r h
    simp only [opsK, frc_eq] at h
    split at h
    · rename_i hw
      obtain ⟨v, H1, h1, hnx, hS⟩ := opX_sound hT hC h
      have rest : ∀ v1 : AV, (∀ ι x, VR ι v x → VR ι v1 x) → run C n (opsK T ops.toList (j + 1) os (putE e o.dst v1) f) H1 = some r →
          ∃ e1 H2, run C n (f e1) H2 = some r ∧ Grow H H2 ∧ ∀ (ι : Inj) (a : Act) (w : World), ER ι e a.tmps → HR ι H w → Gap ι H H2 → ∀ (Q : Exit → Act → World → Prop),
            (∀ a' w' ι', AEq a a' → ER ι' e1 a'.tmps → HR ι' H2 w' → Stp ι H w ι' H2 w' → Q .normal a' w') → wpList P ops Q (o :: os) a w := by
        intro v1 hv1 h2
        obtain ⟨e1, H2, h3, hnx2, hk⟩ := ih (j + 1) _ H1 f r h2
        refine ⟨e1, H2, h3, hnx.trans hnx2, fun ι a w he hh g Q k => ?_⟩
        unfold wpList
        rw [if_pos (wantedA_sound hw he)]
        refine .inl (hS ι a w he hh (g.left hnx2.nx) _ Q fun v' w' ι' hvr hh' hs' => ?_)
        have he' : ER ι' (putE e o.dst v1) (a.put o.dst v').tmps := (he.mono hs'.ext).put o.dst (hv1 _ _ hvr)
        refine hk ι' (a.put o.dst v') w' he' hh' (g.right hs') Q fun a2 w2 ι2 hd2 he2 hh2 hs2 => ?_
        exact k a2 w2 ι2 ((AEq.put a o.dst v').trans hd2) he2 hh2 (hs'.trans hs2 g)
      exact rest v (fun _ _ h => h) (guardK_run h1)
    · rename_i hw
      obtain ⟨e1, H2, h3, hnx2, hk⟩ := ih (j + 1) _ H f r h
      refine ⟨e1, H2, h3, hnx2, fun ι a w he hh g Q k => ?_⟩
      unfold wpList
      rw [if_neg (by rw [wantedA_sound hw he]; simp)]
      have he' : ER ι (putE e o.dst (.tu [])) (a.put o.dst undef).tmps := he.put o.dst ⟨[], rfl, rfl⟩
      refine hk ι (a.put o.dst undef) w he' hh g Q fun a2 w2 ι2 hd2 he2 hh2 hs2 => ?_
      exact k a2 w2 ι2 ((AEq.put a o.dst undef).trans hd2) he2 hh2 hs2
    · simp [run] at h
end ops
end Go.Proofs.YtdfpjhlckjognaaGreat.Fw
set_option linter.unusedSimpArgs false
set_option linter.unusedVariables false
namespace Go.Proofs.YtdfpjhlckjognaaGreat.Fw
open Go
def maskE (S : List Nat) (e : List AV) : List AV := (List.range e.length).map fun t => if S.contains t then e.getD t .un else .un
theorem maskE_length (S : List Nat) (e : List AV) : (maskE S e).length = e.length := by simp [maskE]
theorem maskE_get (S : List Nat) (e : List AV) (t : Nat) : (maskE S e).getD t .un = if S.contains t then e.getD t .un else .un := by
  by_cases h : t < e.length
  · simp [maskE, List.getD, h]
  · have h1 : (maskE S e).getD t .un = .un := by rw [List.getD, List.getElem?_eq_none (by rw [maskE_length]; omega)]; rfl
    have h2 : e.getD t .un = .un := by rw [List.getD, List.getElem?_eq_none (by omega)]; rfl
    rw [h1, h2]; simp
theorem opK_congr {T : TTab} {e e' : List AV} {o : Oper} (h : ∀ x ∈ o.op.operands.toList, ev e x = ev e' x) (f : AV → Tree) : opK T e o f = opK T e' o f := by
  have hl : ∀ l : List Operand, (∀ x ∈ l, ev e x = ev e' x) → evs e l = evs e' l := fun l hl => List.map_congr_left hl
  have hp : ∀ ps : Array (Nat × Operand), (∀ x ∈ ps.toList.map (·.2), ev e x = ev e' x) → (ps.toList.map fun p => (p.1, ev e p.2)) = (ps.toList.map fun p => (p.1, ev e' p.2)) := by
    intro ps hps
    apply List.map_congr_left
    intro p hp
    rw [hps p.2 (List.mem_map.2 ⟨p, hp, rfl⟩)]
  have ho : ∀ x : Option Operand, (∀ y ∈ x.toList, ev e y = ev e' y) → optI e x = optI e' x := by
    intro x hx
    cases x with
    | none => rfl
    | some y => simp only [optI, hx y (by simp)]
  cases hop : o.op with
  | move x => simp only [hop, Op.operands] at h; simp only [opK, hop]; rw [h x (by simp)]
  | assign x => simp only [hop, Op.operands] at h; simp only [opK, hop]; rw [h x (by simp)]
  | pick c a b => simp only [hop, Op.operands] at h; simp only [opK, hop]; rw [h c (by simp), h a (by simp), h b (by simp)]
  | box t x => simp only [hop, Op.operands] at h; simp only [opK, hop]; rw [h x (by simp)]
  | build t ps =>
    simp only [hop, Op.operands] at h
    have := hp ps (fun x hx => h x (by simpa using hx))
    simp only [opK, hop]; rw [this]
  | buildSlice t n ps =>
    simp only [hop, Op.operands] at h
    have := hp ps (fun x hx => h x (by simpa using hx))
    simp only [opK, hop]; rw [this]
  | load t a => simp only [hop, Op.operands] at h; simp only [opK, hop]; rw [h a (by simp)]
  | store t a x => simp only [hop, Op.operands] at h; simp only [opK, hop]; rw [h a (by simp), h x (by simp)]
  | nilCheck x => simp only [hop, Op.operands] at h; simp only [opK, hop]; rw [h x (by simp)]
  | binOp op t x y t' => simp only [hop, Op.operands] at h; simp only [opK, hop]; rw [h x (by simp), h y (by simp)]
  | unOp op t x => simp only [hop, Op.operands] at h; simp only [opK, hop]; rw [h x (by simp)]
  | convert s d x => simp only [hop, Op.operands] at h; simp only [opK, hop]; rw [h x (by simp)]
  | makeFunc fn fs cs =>
    simp only [hop, Op.operands] at h
    cases fn <;> simp only [opK, hop]
    rw [hl fs.toList (fun x hx => h x (by simp; left; simpa using hx)), hl cs.toList (fun x hx => h x (by simp; right; simpa using hx))]
  | makeSlice t l c => simp only [hop, Op.operands] at h; simp only [opK, hop]; rw [h l (by simp), h c (by simp)]
  | slice t x lo hi mx =>
    simp only [hop, Op.operands] at h
    simp only [opK, hop]
    rw [h x (by simp), ho lo (fun y hy => h y (by simp at hy ⊢; simp [hy])), ho hi (fun y hy => h y (by simp at hy ⊢; simp [hy])), ho mx (fun y hy => h y (by simp at hy ⊢; simp [hy]))]
  | fieldAddr t x j => simp only [hop, Op.operands] at h; simp only [opK, hop]; rw [h x (by simp)]
  | field t x j => simp only [hop, Op.operands] at h; simp only [opK, hop]; rw [h x (by simp)]
  | indexAddr t x j => simp only [hop, Op.operands] at h; simp only [opK, hop]; rw [h x (by simp), h j (by simp)]
  | index t x j => simp only [hop, Op.operands] at h; simp only [opK, hop]; rw [h x (by simp), h j (by simp)]
  | extract x j => simp only [hop, Op.operands] at h; simp only [opK, hop]; rw [h x (by simp)]
  | range t x => simp only [hop, Op.operands] at h; simp only [opK, hop]; rw [h x (by simp)]
  | next x b =>
    simp only [hop, Op.operands] at h
    cases b
    · simp only [opK, hop]
    · simp only [opK, hop]; rw [h x (by simp)]
  | call c =>
    simp only [hop, Op.operands, Call.operands] at h
    have ha : evs e c.args.toList = evs e' c.args.toList := hl _ (fun x hx => h x (by simp; right; simpa using hx))
    cases hc : c.callee with
    | builtin b => simp only [opK, hop, hc]; rw [ha]
    | value g => rw [hc] at h; simp only [opK, hop, hc]; rw [ha, h g (by simp)]
    | invoke a b => simp only [opK, hop, hc]
  | _ => simp only [opK, hop]
theorem ev_mask {ops : List Oper} {o : Oper} {e : List AV} : ∀ x ∈ o.op.operands.toList, ev e x = ev (maskE (readsG ops o) e) x := by
  intro x hx
  cases x with
  | tmp t =>
    simp only [ev]
    rw [maskE_get, if_pos]
    have : t ∈ readsG ops o := by
      unfold readsG readsOf
      exact List.mem_append.2 (.inl (List.mem_filterMap.2 ⟨.tmp t, hx, rfl⟩))
    simpa using this
  | _ => rfl
theorem wantedA_mask {ops : List Oper} {o : Oper} {e : List AV} : wantedA ops (maskE (readsG ops o) e) o = wantedA ops e o := by
  unfold wantedA
  cases hg : o.guard with
  | none => rfl
  | some g =>
    dsimp only
    cases hd : dstOf ops g.1 with
    | none => rfl
    | some t =>
      dsimp only
      rw [maskE_get, if_pos]
      unfold readsG
      rw [hg]; simp [hd]
end Go.Proofs.YtdfpjhlckjognaaGreat.Fw
set_option linter.unusedSimpArgs false
set_option linter.unusedVariables false
namespace Go.Proofs.YtdfpjhlckjognaaGreat.Fw
open Go
section tr
variable {P : Program} {T : TTab} {C : Ora} {n : Nat}
structure StepF (P : Program) (ops : List Oper) (o : Oper) (H H' : AH) (e e' : List AV) (v : AV) (wd : Bool) : Prop where
  w : wantedA ops e o = some wd
  en : e' = putE e o.dst v
  skip : wd = false → v = .tu [] ∧ H' = H
  pur : wd = true → clsOf o = .pure → H' = H ∧ PureS P o (maskE (readsG ops o) e) v
  load : wd = true → clsOf o = .load → H' = H ∧ ∃ q l x, ev (maskE (readsG ops o) e) x = .sc (.p (some q)) ∧ H.rd q.1 q.2 l.length = some l ∧ LoadS P o (maskE (readsG ops o) e) q l v
  alloc : wd = true → clsOf o = .alloc → ∃ l, H' = H.new (.cells false l) ∧ AllocS P o (maskE (readsG ops o) e) H.next l v
  eff : wd = true → clsOf o = .eff → Grow H H' ∧ OpS P o (maskE (readsG ops o) e) H v H'
theorem sames_run {A : List Nat} {j : Nat} {t : Tree} {H : AH} {r : Res} : ∀ {ls : Loads}, run C n (sames A j ls t) H = some r → run C n t H = some r ∧ ∀ x ∈ ls, tied A x.1 j = false → H.rd x.2.1 x.2.2.1 x.2.2.2.length = some x.2.2.2
  | [], h => ⟨h, by simp⟩
  | (i, id, off, l) :: ls, h => by
    simp only [sames] at h
    split at h
    · rename_i ht
      obtain ⟨h1, h2⟩ := sames_run h
      refine ⟨h1, fun x hx htx => ?_⟩
      cases hx with
      | head => rw [ht] at htx; cases htx
      | tail _ hm => exact h2 x hm htx
    · simp only [run] at h
      split at h
      case isFalse => cases h
      rename_i hrd
      obtain ⟨h1, h2⟩ := sames_run h
      refine ⟨h1, fun x hx htx => ?_⟩
      cases hx with
      | head => exact hrd
      | tail _ hm => exact h2 x hm htx
def Again (A : List Nat) (js : List Nat) (ops : List Oper) (Hs : Nat → AH) (wd : Nat → Bool) (x : Nat × Nat × Nat × List Sc) : Prop :=
  ∀ p j o, js[p]? = some j → ops[j]? = some o → wd p = true → clsOf o = .eff → tied A x.1 j = false → (Hs (p + 1)).rd x.2.1 x.2.2.1 x.2.2.2.length = some x.2.2.2
theorem opsD_run (hT : TOk P T) (hC : OraOk P C) {ops : List Oper} {A : List Nat} {f : List AV → Tree} {r : Res} : ∀ (js : List Nat) (ls : Loads) (e : List AV) (H : AH), run C n (opsD T ops A js ls e f) H = some r →
    ∃ (Hs : Nat → AH) (es : Nat → List AV) (vs : Nat → AV) (wd : Nat → Bool), Hs 0 = H ∧ es 0 = e ∧ run C n (f (es js.length)) (Hs js.length) = some r ∧
      (∀ p j, js[p]? = some j → ∃ o, ops[j]? = some o ∧ StepF P ops o (Hs p) (Hs (p + 1)) (es p) (es (p + 1)) (vs p) (wd p)) ∧
      (∀ x ∈ ls, Again A js ops Hs wd x) ∧
      (∀ p j o, js[p]? = some j → ops[j]? = some o → wd p = true → clsOf o = .load → ∃ q l x, ev (maskE (readsG ops o) (es p)) x = .sc (.p (some q)) ∧ (Hs p).rd q.1 q.2 l.length = some l ∧ LoadS P o (maskE (readsG ops o) (es p)) q l (vs p) ∧
        ∀ p' j' o', p < p' → js[p']? = some j' → ops[j']? = some o' → wd p' = true → clsOf o' = .eff → tied A j j' = false → (Hs (p' + 1)).rd q.1 q.2 l.length = some l) := by
  intro js
  induction js with
  | nil =>
    intro ls e H h
    exact ⟨fun _ => H, fun _ => e, fun _ => .un, fun _ => false, rfl, rfl, h, by simp, fun x hx p j o hj => by simp at hj, by simp⟩
  | cons j js ih =>
    intro ls e H h
    simp only [opsD, frc_eq] at h
    split at h
    case h_1 => simp [run] at h
    rename_i o ho
    have hm : ∀ g : AV → Tree, opK T e o g = opK T (maskE (readsG ops o) e) o g := fun g => opK_congr ev_mask g
    have fin : ∀ (v : AV) (H1 : AH) (wd0 : Bool) (ls' : Loads), run C n (opsD T ops A js ls' (putE e o.dst v) f) H1 = some r →
        StepF P ops o H H1 e (putE e o.dst v) v wd0 → (∀ x ∈ ls, x ∈ ls') → (wd0 = true → clsOf o = .eff → ∀ x ∈ ls, tied A x.1 j = false → H1.rd x.2.1 x.2.2.1 x.2.2.2.length = some x.2.2.2) →
        (wd0 = true → clsOf o = .load → ∃ q l x, ev (maskE (readsG ops o) e) x = .sc (.p (some q)) ∧ H.rd q.1 q.2 l.length = some l ∧ LoadS P o (maskE (readsG ops o) e) q l v ∧ (j, q.1, q.2, l) ∈ ls') →
        ∃ (Hs : Nat → AH) (es : Nat → List AV) (vs : Nat → AV) (wd : Nat → Bool), Hs 0 = H ∧ es 0 = e ∧ run C n (f (es (j :: js).length)) (Hs (j :: js).length) = some r ∧
          (∀ p j', (j :: js)[p]? = some j' → ∃ o, ops[j']? = some o ∧ StepF P ops o (Hs p) (Hs (p + 1)) (es p) (es (p + 1)) (vs p) (wd p)) ∧
          (∀ x ∈ ls, Again A (j :: js) ops Hs wd x) ∧
          (∀ p j' o, (j :: js)[p]? = some j' → ops[j']? = some o → wd p = true → clsOf o = .load → ∃ q l x, ev (maskE (readsG ops o) (es p)) x = .sc (.p (some q)) ∧ (Hs p).rd q.1 q.2 l.length = some l ∧ LoadS P o (maskE (readsG ops o) (es p)) q l (vs p) ∧
            ∀ p' j'' o', p < p' → (j :: js)[p']? = some j'' → ops[j'']? = some o' → wd p' = true → clsOf o' = .eff → tied A j' j'' = false → (Hs (p' + 1)).rd q.1 q.2 l.length = some l) := by
      intro v H1 wd0 ls' hrest hst hsub hsame hload
      obtain ⟨Hs, es, vs, wd, h0, h0', hr, h1, h2, h3⟩ := ih ls' _ H1 hrest
      refine ⟨fun p => match p with | 0 => H | p + 1 => Hs p, fun p => match p with | 0 => e | p + 1 => es p, fun p => match p with | 0 => v | p + 1 => vs p, fun p => match p with | 0 => wd0 | p + 1 => wd p, rfl, rfl, hr, ?_, ?_, ?_⟩
      · intro p j' hj
        cases p with
        | zero => simp at hj; subst hj; exact ⟨o, ho, by simpa only [h0, h0'] using hst⟩
        | succ p => exact h1 p j' (by simpa using hj)
      · intro x hx p j' o' hj ho' hw hc ht
        cases p with
        | zero =>
          simp at hj; subst hj
          rw [ho] at ho'; cases ho'
          dsimp only at hw ⊢
          rw [h0]; exact hsame hw hc x hx ht
        | succ p => exact h2 x (hsub x hx) p j' o' (by simpa using hj) ho' hw hc ht
      · intro p j' o' hj ho' hw hc
        cases p with
        | zero =>
          simp at hj; subst hj
          rw [ho] at ho'; cases ho'
          obtain ⟨q, l, x, a1, a2, a3, a4⟩ := hload hw hc
          refine ⟨q, l, x, a1, a2, a3, fun p' j'' o' hp hj' ho' hw' hc' ht => ?_⟩
          cases p' with
          | zero => omega
          | succ p' => exact h2 _ a4 p' j'' o' (by simpa using hj') ho' hw' hc' ht
        | succ p =>
          obtain ⟨q, l, x, a1, a2, a3, a4⟩ := h3 p j' o' (by simpa using hj) ho' hw hc
          refine ⟨q, l, x, a1, a2, a3, fun p' j'' o'' hp hj' ho' hw' hc' ht => ?_⟩
          cases p' with
          | zero => omega
          | succ p' => exact a4 p' j'' o'' (by omega) (by simpa using hj') ho' hw' hc' ht
    split at h
    · rename_i hw
      rw [hm] at h
      have tail : ∀ (v : AV) (H1 : AH), run C n (effK (clsOf o) (fun t => sames A j ls t) (guardK (guards ops j) v fun v => opsD T ops A js (noteLoad e j o v ls) (putE e o.dst v) f)) H1 = some r →
          run C n (opsD T ops A js (noteLoad e j o v ls) (putE e o.dst v) f) H1 = some r ∧ (clsOf o = .eff → ∀ x ∈ ls, tied A x.1 j = false → H1.rd x.2.1 x.2.2.1 x.2.2.2.length = some x.2.2.2) := by
        intro v H1 h
        unfold effK at h
        split at h
        · obtain ⟨h1, h2⟩ := sames_run h
          exact ⟨guardK_run h1, fun _ => h2⟩
        · rename_i hc
          exact ⟨guardK_run h, fun hc' => absurd hc' hc⟩
      have hsub : ∀ (v : AV), ∀ x ∈ ls, x ∈ noteLoad e j o v ls := by
        intro v x hx
        unfold noteLoad
        split
        · split
          · exact List.mem_cons_of_mem _ hx
          · exact hx
        · exact hx
      cases hcls : clsOf o with
      | pure =>
        obtain ⟨v, h1, hp⟩ := opP_sound hT hcls h
        obtain ⟨h2, _⟩ := tail v H h1
        refine fin v H true _ h2 ⟨hw, rfl, fun h => (by cases h), fun _ _ => ⟨rfl, hp⟩, fun _ h => (by rw [hcls] at h; cases h), fun _ h => (by rw [hcls] at h; cases h), fun _ h => (by rw [hcls] at h; cases h)⟩ (hsub v) (fun _ h => (by rw [hcls] at h; cases h)) (fun _ h => (by rw [hcls] at h; cases h))
      | load =>
        have hop : ∃ t x, o.op = .load t x := by
          unfold clsOf at hcls
          split at hcls <;> first | (exact ⟨_, _, by assumption⟩) | (split at hcls <;> cases hcls) | cases hcls
        obtain ⟨t, x, hop⟩ := hop
        obtain ⟨q, l, v, h1, hx, hl, hvc, hs⟩ := op_loadL hT hop h
        obtain ⟨h2, _⟩ := tail v H h1
        have hx' : ev e x = .sc (.p (some q)) := by rw [ev_mask (ops := ops) (o := o) x (by simp [hop, Op.operands])]; exact hx
        refine fin v H true _ h2 ⟨hw, rfl, fun h => (by cases h), fun _ h => (by rw [hcls] at h; cases h), fun _ _ => ⟨rfl, q, l, x, hx, hl, hs⟩, fun _ h => (by rw [hcls] at h; cases h), fun _ h => (by rw [hcls] at h; cases h)⟩ (hsub v) (fun _ h => (by rw [hcls] at h; cases h)) (fun _ _ => ⟨q, l, x, hx, hl, hs, ?_⟩)
        unfold noteLoad
        rw [hop]; simp only [hx', hvc]; exact List.mem_cons_self ..
      | alloc =>
        obtain ⟨l, v, h1, hs⟩ := opA_sound hT hcls h
        obtain ⟨h2, _⟩ := tail v _ h1
        exact fin v _ true _ h2 ⟨hw, rfl, fun h => (by cases h), fun _ h => (by rw [hcls] at h; cases h), fun _ h => (by rw [hcls] at h; cases h), fun _ _ => ⟨l, rfl, hs⟩, fun _ h => (by rw [hcls] at h; cases h)⟩ (hsub v) (fun _ h => (by rw [hcls] at h; cases h)) (fun _ h => (by rw [hcls] at h; cases h))
      | eff =>
        obtain ⟨v, H1, h1, hnx, hs⟩ := opK_sound hT hC h
        obtain ⟨h2, h3⟩ := tail v H1 h1
        exact fin v H1 true _ h2 ⟨hw, rfl, fun h => (by cases h), fun _ h => (by rw [hcls] at h; cases h), fun _ h => (by rw [hcls] at h; cases h), fun _ h => (by rw [hcls] at h; cases h), fun _ _ => ⟨hnx, hs⟩⟩ (hsub v) (fun _ _ => h3 hcls) (fun _ h => (by rw [hcls] at h; cases h))
    · rename_i hw
      exact fin (.tu []) H false _ h ⟨hw, rfl, fun _ => ⟨rfl, rfl⟩, fun h => (by cases h), fun h => (by cases h), fun h => (by cases h), fun h => (by cases h)⟩ (fun x hx => hx) (fun h => (by cases h)) (fun h => (by cases h))
    · simp [run] at h
end tr
end Go.Proofs.YtdfpjhlckjognaaGreat.Fw
set_option linter.unusedSimpArgs false
set_option linter.unusedVariables false
namespace Go.Proofs.YtdfpjhlckjognaaGreat.Fw
open Go
theorem nodupB_get : ∀ {l : List Nat} {p q x : Nat}, nodupB l = true → l[p]? = some x → l[q]? = some x → p = q
  | [], p, q, x, _, h, _ => by simp at h
  | y :: l, p, q, x, h, hp, hq => by
    simp only [nodupB, Bool.and_eq_true, Bool.not_eq_true'] at h
    have hmem : ∀ k : Nat, l[k]? = some y → False := by
      intro k hk
      have : y ∈ l := List.mem_of_getElem? hk
      have : l.contains y = true := by simpa using this
      rw [h.1] at this; cases this
    cases p with
    | zero =>
      simp at hp; subst hp
      cases q with
      | zero => rfl
      | succ q => exact (hmem q (by simpa using hq)).elim
    | succ p =>
      cases q with
      | zero => simp at hq; subst hq; exact (hmem p (by simpa using hp)).elim
      | succ q =>
        have : p = q := nodupB_get (x := x) h.2 (by simpa using hp) (by simpa using hq)
        rw [this]
theorem idxOf_get {l : List Nat} {p x : Nat} (h : nodupB l = true) (hp : l[p]? = some x) : l.idxOf x = p := by
  have hm : x ∈ l := List.mem_of_getElem? hp
  have h1 : l.idxOf x < l.length := List.idxOf_lt_length_of_mem hm
  have h2 : l[l.idxOf x]? = some x := by rw [List.getElem?_eq_getElem h1]; simp
  exact nodupB_get h h2 hp
structure OkD (A : List Nat) (ops : Array Oper) (L : List Nat) : Prop where
  len : L.length = ops.size
  nd : ∀ p q j : Nat, L[p]? = some j → L[q]? = some j → p = q
  mem : ∀ j : Nat, j < ops.size → ∃ p : Nat, L[p]? = some j
  lt : ∀ p j : Nat, L[p]? = some j → j < ops.size
  direct : ∀ (j : Nat) o e, ops[j]? = some o → e ∈ o.after.toList → bindsA e = true → isAhead A e.on j = true ∧ e.on < ops.size ∧ e.on ≠ j
  guard : ∀ (j : Nat) o g b, ops[j]? = some o → o.guard = some (g, b) → isAhead A g j = true
  back : ∀ (i j : Nat) o, ops[j]? = some o → i < ops.size → i ≠ j → isAhead A i j = true → ∃ e ∈ o.after.toList, bindsA e = true ∧ (e.on = i ∨ isAhead A i e.on = true)
  pos : ∀ p q i j : Nat, L[p]? = some i → L[q]? = some j → i ≠ j → isAhead A i j = true → p < q
  clash : ∀ (i j : Nat) o o', ops[i]? = some o → ops[j]? = some o' → i ≠ j → clashG ops.toList o o' = true → tied A i j = true
  eff : ∀ (i j : Nat) o o', ops[i]? = some o → ops[j]? = some o' → i ≠ j → clsOf o = .eff → clsOf o' = .eff → tied A i j = true
  load : ∀ (p q i j : Nat) o o', L[p]? = some i → L[q]? = some j → ops[i]? = some o → ops[j]? = some o' → i ≠ j → clsOf o = .load → clsOf o' = .eff → tied A i j = true ∨ p < q
theorem OkD.of {A : List Nat} {ops : Array Oper} {L : List Nat} (h : okDraw A ops.toList L = true) : OkD A ops L := by
  simp only [okDraw, Bool.and_eq_true, beq_iff_eq, Array.length_toList] at h
  obtain ⟨⟨⟨hlen, hnd⟩, hlt⟩, hall⟩ := h
  have hj := fun (j : Nat) (o : Oper) (ho : ops[j]? = some o) => List.all_eq_true.1 hall j (by
    have : j < ops.size := by
      rcases Nat.lt_or_ge j ops.size with h' | h'
      · exact h'
      · simp [Array.getElem?_eq_none h'] at ho
    simpa using this)
  have hsz : ∀ (j : Nat) o, ops[j]? = some o → j < ops.size := by
    intro j o ho
    rcases Nat.lt_or_ge j ops.size with h' | h'
    · exact h'
    · simp [Array.getElem?_eq_none h'] at ho
  have hget : ∀ (j : Nat) o, ops[j]? = some o → ops.toList[j]? = some o := fun j o ho => by simpa using ho
  have pair : ∀ (i j : Nat) o o', ops[i]? = some o → ops[j]? = some o' → i ≠ j →
      ((!isAhead A i j || (decide (L.idxOf i < L.idxOf j) && o'.after.toList.any fun e => bindsA e && (e.on == i || isAhead A i e.on))) = true ∧
       (!(clashG ops.toList o o') || tied A i j) = true ∧ (!(clsOf o == .eff && clsOf o' == .eff) || tied A i j) = true ∧
       (!(clsOf o == .load && clsOf o' == .eff) || tied A i j || decide (L.idxOf i < L.idxOf j)) = true) := by
    intro i j o o' hi hj' hne
    have h1 := hj j o' hj'
    rw [hget j o' hj'] at h1
    simp only [Bool.and_eq_true] at h1
    have h2 := List.all_eq_true.1 h1.2 i (by simpa using hsz i o hi)
    rw [hget i o hi] at h2
    simp only [Bool.or_eq_true, beq_iff_eq, hne, false_or, Bool.and_eq_true] at h2
    simp only [Bool.or_eq_true, Bool.and_eq_true]
    exact ⟨h2.1.1.1, h2.1.1.2, h2.1.2, h2.2⟩
  refine ⟨hlen, fun p q j => nodupB_get hnd, ?_, ?_, ?_, ?_, ?_, ?_, ?_, ?_, ?_⟩
  · intro j hjl
    obtain ⟨o, ho⟩ : ∃ o, ops[j]? = some o := ⟨ops[j], by simp [hjl]⟩
    have h1 := hj j o ho
    rw [hget j o ho] at h1
    simp only [Bool.and_eq_true] at h1
    have : j ∈ L := by simpa using h1.1.1.1
    exact List.mem_iff_getElem?.1 this
  · intro p j hp
    have := List.all_eq_true.1 hlt j (List.mem_of_getElem? hp)
    simpa using this
  · intro j o e ho he hb
    have h1 := hj j o ho
    rw [hget j o ho] at h1
    simp only [Bool.and_eq_true] at h1
    have := List.all_eq_true.1 h1.1.1.2 e he
    simp [hb] at this
    exact ⟨this.1.1, this.1.2, this.2⟩
  · intro j o g b ho hg
    have h1 := hj j o ho
    rw [hget j o ho] at h1
    simp only [Bool.and_eq_true, hg] at h1
    exact h1.1.2
  · intro i j o ho hi hne ha
    obtain ⟨o', ho'⟩ : ∃ o, ops[i]? = some o := ⟨ops[i], by simp [hi]⟩
    have := (pair i j o' o ho' ho hne).1
    simp only [ha, Bool.not_true, Bool.false_or, Bool.and_eq_true, List.any_eq_true, Bool.or_eq_true, beq_iff_eq] at this
    obtain ⟨_, e, he, hb, h3⟩ := this
    exact ⟨e, he, hb, h3⟩
  · intro p q i j hp hq hne ha
    have hi : i < ops.size := by have := List.all_eq_true.1 hlt i (List.mem_of_getElem? hp); simpa using this
    have hj2 : j < ops.size := by have := List.all_eq_true.1 hlt j (List.mem_of_getElem? hq); simpa using this
    have := (pair i j ops[i] ops[j] (by simp [hi]) (by simp [hj2]) hne).1
    simp only [ha, Bool.not_true, Bool.false_or, Bool.and_eq_true, decide_eq_true_eq] at this
    have h1 := this.1
    rwa [idxOf_get hnd hp, idxOf_get hnd hq] at h1
  · intro i j o o' hi hj' hne hc
    have := (pair i j o o' hi hj' hne).2.1
    simpa [hc] using this
  · intro i j o o' hi hj' hne h1 h2
    have := (pair i j o o' hi hj' hne).2.2.1
    simpa [h1, h2] using this
  · intro p q i j o o' hp hq hi hj' hne h1 h2
    have := (pair i j o o' hi hj' hne).2.2.2
    simp only [h1, h2, Bool.or_eq_true, decide_eq_true_eq] at this
    rw [idxOf_get hnd hp, idxOf_get hnd hq] at this
    simpa using this
theorem HR.grow {ι : Inj} {H H' : AH} {w : World} (h : HR ι H w) (hn : H.next ≤ H'.next) (ho : ∀ id, id < H.next → H'.obj id = H.obj id) (hf : ∀ id, H'.next ≤ id → H'.obj id = none)
    (hm : ∀ id d o, ι id = some d → H.next ≤ id → H'.obj id = some o → OR ι d w o) : HR ι H' w := by
  refine ⟨?_, ?_, h.lt, hf⟩
  · intro id d o hd hob
    by_cases hlt : id < H.next
    · rw [ho id hlt] at hob; exact h.obj id d o hd hob
    · exact hm id d o hd (by omega) hob
  · intro a b da db hne ha hb h1 h2
    have al : ∀ id, Alive H' id → Alive H id := by
      intro id hal
      by_cases hlt : id < H.next
      · rcases hal with hal | hal
        · omega
        · rw [ho id hlt] at hal; exact .inr hal
      · exact .inl (by omega)
    exact h.inj a b da db hne ha hb (al a h1) (al b h2)
theorem HR.link {ι : Inj} {H : AH} {w : World} (h : HR ι H w) {id : Nat} {ob : Obj} {d : IB} (g : ι id = none) (hb : d.blk = w.heap.size)
    (ho : ∀ o, H.obj id = some o → OR (ι.add id d) d (w.alloc ob) o) : HR (ι.add id d) H (w.alloc ob) := by
  have old : ∀ b, b < w.heap.size → (w.alloc ob).heap[b]? = w.heap[b]? := by
    intro b hb; show (w.heap.push ob)[b]? = _; rw [Array.getElem?_push, if_neg (by omega)]
  have hle := Inj.le_add (d := d) g
  refine ⟨?_, ?_, ?_, h.fut⟩
  · intro j dj oj hj hoj
    unfold Inj.add at hj
    split at hj
    · rename_i e; cases hj; subst e; exact ho oj hoj
    · exact (h.obj j dj oj hj hoj).mono hle (old _ (h.lt j dj hj))
  · intro a b da db hne ha hb' h1 h2
    unfold Inj.add at ha hb'
    by_cases ea : a = id
    · rw [if_pos ea] at ha; cases ha
      rw [if_neg (fun e => hne (ea.trans e.symm))] at hb'
      have := h.lt b db hb'; right; omega
    · rw [if_neg ea] at ha
      by_cases eb : b = id
      · rw [if_pos eb] at hb'; cases hb'
        have := h.lt a da ha; right; omega
      · rw [if_neg eb] at hb'
        exact h.inj a b da db hne ha hb' h1 h2
  · intro a da ha
    unfold Inj.add at ha
    split at ha
    · cases ha; simp; omega
    · have := h.lt a da ha; simp; omega
theorem Inj.add_ne {ι : Inj} {id j : Nat} {d : IB} (h : j ≠ id) : ι.add id d j = ι j := by simp [Inj.add, h]
end Go.Proofs.YtdfpjhlckjognaaGreat.Fw
