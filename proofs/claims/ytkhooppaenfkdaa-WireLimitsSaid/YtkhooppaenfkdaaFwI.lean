/- What is built out of parts; rows of zeros; appending. -/
import Derived.Test.YtkhooppaenfkdaaFwH
import Derived.Laws.CopyRow
import Derived.Laws.AppendOwn
set_option linter.unusedSimpArgs false
namespace Go.Proofs.Ytkhooppaenfkdaa.Fw
open Go

theorem zeros_length (z : List Sc) : ∀ n, (zeros z n).length = n * z.length
  | 0 => by simp [zeros]
  | n + 1 => by simp [zeros, zeros_length z n, Nat.add_mul, Nat.add_comm]
theorem zeros_get (z : List Sc) : ∀ (n i : Nat), i < n * z.length → (zeros z n)[i]? = z[i % z.length]?
  | 0, i, h => by simp at h
  | n + 1, i, h => by
    rw [zeros]
    by_cases hi : i < z.length
    · rw [List.getElem?_append_left hi, Nat.mod_eq_of_lt hi]
    · have h' : i < n * z.length + z.length := by rw [Nat.add_mul, Nat.one_mul] at h; exact h
      have e : i % z.length = (i - z.length) % z.length := Nat.mod_eq_sub_mod (by omega)
      rw [List.getElem?_append_right (by omega), zeros_get z n (i - z.length) (by omega), e]
theorem zeros_LR {ι : Inj} {z : List Sc} {zv : Array Value} (h : LR ι z zv.toList) (n m : Nat) (hm : m = n * zv.size) :
    LR ι (zeros z n) ((Array.range m).map fun i => zv[i % zv.size]!).toList := by
  have hl : zv.size = z.length := by have := h.length; simpa using this
  subst hm
  apply All2.of_get
  · simp [zeros_length, hl]
  · intro j x y hx hy
    simp only [Array.toList_map, Array.toList_range, List.getElem?_map, Option.map_eq_some_iff] at hy
    obtain ⟨k, hk, rfl⟩ := hy
    have hj : j < n * zv.size ∧ k = j := by
      obtain ⟨h1, h2⟩ := List.getElem?_eq_some_iff.1 hk
      simp at h1 h2
      exact ⟨h1, h2.symm⟩
    obtain ⟨hj, rfl⟩ := hj
    rw [zeros_get z n k (by rw [← hl]; exact hj), ← hl] at hx
    obtain ⟨v, hv, hs⟩ := h.get _ x hx
    have : zv[k % zv.size]? = some v := by simpa using hv
    simp [getElem!_def, this]; exact hs

theorem fill_fold (off : Nat) : ∀ (l : List Value) (k : Nat) (cs : Array Value), off + k + l.length ≤ cs.size →
    ((l.zipIdx k).foldl (fun cs p => cs.setIfInBounds (off + p.2) p.1) cs).toList = cs.toList.take (off + k) ++ l ++ cs.toList.drop (off + k + l.length)
  | [], k, cs, _ => by simp
  | v :: l, k, cs, h => by
    rw [List.zipIdx_cons, List.foldl_cons, fill_fold off l (k + 1) _ (by simp at h ⊢; omega)]
    have := list_seg_step cs.toList (off + k) v l (by simp at h ⊢; omega)
    simp only [Array.toList_setIfInBounds, List.length_cons]
    rw [show off + (k + 1) = off + k + 1 by omega]
    exact this

theorem All2.splice {ι : Inj} {l m : List Sc} {l' m' : List Value} (off size : Nat) (h : LR ι l l') (hm : LR ι m m') (_ : m.length = size) : LR ι (l.take off ++ m ++ l.drop (off + size)) (l'.take off ++ m' ++ l'.drop (off + size)) :=
  All2.append (All2.append (h.take off) hm) (h.drop _)

theorem fill_sound {ι : Inj} {e : List AV} {a : Act} (he : ER ι e a.tmps) {placeA place : Nat → Option (Nat × Nat)} : ∀ (ps : List (Nat × Operand)) (c l : List Sc) (c' : Array Value),
    (∀ p ∈ ps, ∀ q, placeA p.1 = some q → place p.1 = some q) → LR ι c c'.toList → fillA placeA c (ps.map fun p => (p.1, ev e p.2)) = some l →
    ∃ l' : Array Value, Instr.fill place c' (ps.map fun p => (p.1, a.eval p.2)) = some l' ∧ LR ι l l'.toList
  | [], c, l, c', _, hc, h => by simp [fillA] at h; subst h; exact ⟨c', rfl, hc⟩
  | p :: ps, c, l, c', hpl, hc, h => by
    simp only [List.map_cons, fillA] at h
    split at h
    case h_2 => cases h
    rename_i off size m hp hm
    split at h
    case isFalse => cases h
    rename_i hsz
    have hL := VR.cells hm (ev_sound he p.2)
    have hsz' : (a.eval p.2).cells.size = size := by have := hL.length; simp at this; omega
    have hcl : c'.size = c.length := by have := hc.length; simpa using this
    have hf := fill_fold off (a.eval p.2).cells.toList 0 c' (by simp; omega)
    have hnew : LR ι (c.take off ++ m ++ c.drop (off + size)) (((a.eval p.2).cells.zipIdx.foldl (fun cs p => cs.setIfInBounds (off + p.2) p.1) c').toList) := by
      rw [← Array.foldl_toList, Array.toList_zipIdx, hf]
      have := All2.splice off size hc hL hsz.1
      simpa [hsz'] using this
    obtain ⟨l', h1, h2⟩ := fill_sound he ps _ l _ (fun q hq => hpl q (by simp [hq])) hnew h
    refine ⟨l', ?_, h2⟩
    simp only [List.map_cons, Instr.fill, hpl p (by simp) _ hp]
    rw [if_neg (by simp [hsz']; omega)]
    exact h1

section ops
variable {P : Program} {T : TTab} {o : Oper} {e : List AV} {C : Ora} {n : Nat} {H : AH} {f : AV → Tree} {r : Res}

theorem notTup_ne {d : TD} (h : notTup d = true) : ∀ ts, d ≠ .tup ts := by
  intro ts e; subst e; simp [notTup] at h

theorem run_list_mapM {α β : Type} (g : α → Sem β) (k : α → β) (w : World) : ∀ (l : List α), (∀ x ∈ l, (g x).run P w = .ok (k x) w) → (l.mapM g).run P w = .ok (l.map k) w
  | [], _ => rfl
  | x :: l, h => by
    rw [List.mapM_cons, Sem.run_bind, h x (by simp), Result.andThen_ok, Sem.run_bind, run_list_mapM g k w l (fun y hy => h y (by simp [hy])), Result.andThen_ok]
    rfl

theorem op_build (hT : TOk P T) {t : Nat} {ps : Array (Nat × Operand)} (ho : o.op = .build t ps) (h : run C n (opK T e o f) H = some r) : DoneP P o e C n H f r := by
  simp only [opK, ho] at h
  split at h
  case h_2 => simp [run] at h
  rename_i i hg
  split at h
  · rename_i fs hfs
    split at h
    case isFalse => simp [run] at h
    rename_i hall
    split at h
    case h_2 => simp [run] at h
    rename_i l hl
    refine DoneP.of h fun ι a w he _ => ?_
    obtain ⟨d1, hu1, hm1⟩ := TI.und (hT _ _ hg)
    rw [hfs] at hm1
    obtain ⟨fa, rfl, hfa, _⟩ := tdm_struct hm1
    obtain ⟨z, hz, hc, _⟩ := TI.zero_run hT hg (by rw [hfs]; simp) w
    have hpl : ∀ p ∈ ps.toList, ∀ q, (fun j => (fs[j]?).map fun p => (p.1, ((T.get p.2).map (·.size)).getD 0)) p.1 = some q → (fun j => (fa.map fun fl => (fl.offset, ((T.get fl.type).map (·.size)).getD 0))[j]?) p.1 = some q := by
      intro p _ q hq
      simp only [← hfa, List.getElem?_map, Option.map_map] at hq
      simp only [Array.getElem?_map]
      rw [← hq]; simp [Function.comp_def]
    obtain ⟨l', h1, h2⟩ := fill_sound he ps.toList i.zero l z.cells hpl (constScs_sound hc ι) hl
    refine ⟨.agg l', ?_, l'.toList, h2, by simp⟩
    have hmap : (fa.mapM fun f => (do pure (f.offset, ← sizeOf f.type) : Sem (Nat × Nat))).run P w = .ok (fa.map fun fl => (fl.offset, ((T.get fl.type).map (·.size)).getD 0)) w := by
      rw [Array.mapM_eq_mapM_toList, Sem.run_map, run_list_mapM _ (fun fl => (fl.offset, ((T.get fl.type).map (·.size)).getD 0)) w]
      · simp only [Result.andThen_ok]; congr 1; apply Array.ext'; simp
      · intro fl hfl
        have : (T.get fl.type).isSome = true := by
          have := List.all_eq_true.1 hall (fl.offset, fl.type) (by rw [← hfa]; exact List.mem_map.2 ⟨fl, hfl, rfl⟩)
          exact this
        obtain ⟨fi, hfi⟩ := Option.isSome_iff_exists.1 this
        simp [TI.run_size (hT _ _ hfi), hfi]
    have hps : (ps.map fun x => (x.1, a.eval x.2)).toList = ps.toList.map fun x => (x.1, a.eval x.2) := by simp
    simp only [execOp, ho, Instr.build, Sem.run_bind, hz, Result.andThen_ok, run_underlying hu1, hmap, hps, h1, Sem.run_pure]
  · rename_i len el hel
    split at h
    case h_2 => simp [run] at h
    rename_i ie hie
    split at h
    case h_2 => simp [run] at h
    rename_i l hl
    refine DoneP.of h fun ι a w he _ => ?_
    obtain ⟨d1, hu1, hm1⟩ := TI.und (hT _ _ hg)
    rw [hel] at hm1; cases tdm_arr hm1
    obtain ⟨z, hz, hc, _⟩ := TI.zero_run hT hg (by rw [hel]; simp) w
    obtain ⟨l', h1, h2⟩ := fill_sound (place := fun j => some (j * ie.size, ie.size)) he ps.toList i.zero l z.cells (fun _ _ _ h => h) (constScs_sound hc ι) hl
    refine ⟨.agg l', ?_, l'.toList, h2, by simp⟩
    have hps : (ps.map fun x => (x.1, a.eval x.2)).toList = ps.toList.map fun x => (x.1, a.eval x.2) := by simp
    simp only [execOp, ho, Instr.build, Sem.run_bind, hz, Result.andThen_ok, run_underlying hu1, TI.run_size (hT _ _ hie), hps, h1, Sem.run_pure]
  · simp [run] at h

theorem op_buildSlice (hT : TOk P T) {t m : Nat} {ps : Array (Nat × Operand)} (ho : o.op = .buildSlice t m ps) (h : run C n (opK T e o f) H = some r) : DoneA P o e C n H f r := by
  simp only [opK, ho] at h
  split at h
  case h_2 => simp [run] at h
  rename_i i hg
  split at h
  case h_2 => simp [run] at h
  rename_i el hel
  split at h
  case h_2 => simp [run] at h
  rename_i ie hie
  split at h
  case isFalse => simp [run] at h
  rename_i hsz
  split at h
  case h_2 => simp [run] at h
  rename_i l hl
  simp only [run] at h
  refine alloc_done (v := fun id => .sc (.sl (some ⟨id, 0, m, m, ie.size⟩))) h fun ι a w he hh => ?_
  obtain ⟨d1, hu1, hm1⟩ := TI.und (hT _ _ hg)
  rw [hel] at hm1; cases tdm_slice hm1
  have hps : (ps.map fun x => (x.1, a.eval x.2)).toList = ps.toList.map fun x => (x.1, a.eval x.2) := by simp
  have hsz' : ¬ (m * ie.size > 2 ^ 24) := by have := hsz.1; omega
  obtain ⟨z, hz, hc, hzlen⟩ := TI.zero_run hT hie (notTup_ne hsz.2) w
  have hzs : z.cells.size = ie.size := by have := (constScs_sound hc ι).length; simpa [hzlen] using this
  have key : ∀ zc : Array Value, LR ι (zeros ie.zero m) ((Array.range (m * ie.size)).map (zc[· % zc.size]!)).toList → (m * ie.size = 0 ∧ zc = #[] ∨ ¬ m * ie.size = 0 ∧ zc = z.cells) → ∃ (vs : List Value) (ty : TypeId) (w1 : World) (v' : Value), SameW w1 w ∧ LR ι l vs ∧ (execOp a.eval o).run P w = .ok (.value v') (w1.alloc (.cells ⟨vs⟩ ty)) ∧
      ∀ ι' : Inj, ι' H.next = some ⟨w.heap.size, 0, l.length, false⟩ → VR ι' (.sc (.sl (some ⟨H.next, 0, m, m, ie.size⟩))) v' := by
    intro zc hzl hzc
    obtain ⟨l', h1, h2⟩ := fill_sound (placeA := fun j => some (j * ie.size, ie.size)) (place := fun j => some (j * ie.size, ie.size)) he ps.toList _ l _ (fun _ _ _ h => h) hzl hl
    refine ⟨l'.toList, el, w, .slice (some ⟨w.heap.size, 0, none⟩) m m, ⟨rfl, rfl, rfl, rfl⟩, h2, ?_, fun ι' h => ⟨_, ⟨w.heap.size, 0, none⟩, m, h, rfl, Nat.le_refl _, Nat.le_refl _, .inr rfl, .inl rfl⟩⟩
    rcases hzc with ⟨h0, rfl⟩ | ⟨h0, rfl⟩
    · simp only [execOp, ho, Instr.buildSlice, Sem.run_bind, Result.andThen_ok, run_underlying hu1, TI.run_size (hT _ _ hie), if_neg hsz', Sem.run_pure, if_pos h0, hps, h1, newRow, run_newObj, World.alloc_eq]
    · simp only [execOp, ho, Instr.buildSlice, Sem.run_bind, Result.andThen_ok, run_underlying hu1, TI.run_size (hT _ _ hie), if_neg hsz', Sem.run_pure, if_neg h0, hz, hps, h1, newRow, run_newObj, World.alloc_eq]
  by_cases h0 : m * ie.size = 0
  · refine key #[] ?_ (.inl ⟨h0, rfl⟩)
    have : zeros ie.zero m = [] := List.eq_nil_of_length_eq_zero (by rw [zeros_length, hzlen]; exact h0)
    rw [this, h0]; simp [LR, All2]
  · exact key z.cells (zeros_LR (constScs_sound hc ι) m _ (by rw [hzs])) (.inr ⟨h0, rfl⟩)

end ops
end Go.Proofs.Ytkhooppaenfkdaa.Fw
