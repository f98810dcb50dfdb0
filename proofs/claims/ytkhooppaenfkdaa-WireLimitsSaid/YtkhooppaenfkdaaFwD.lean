/- The table of types, what is read by kinds, and the operations that only compute. -/
import Derived.Test.YtkhooppaenfkdaaFwC
import Derived.Laws.Concat
import Derived.Laws.Cover1
import Derived.Laws.Slices
import Derived.Laws.StructEq
import Derived.Laws.Cover3
namespace Go.Proofs.Ytkhooppaenfkdaa.Fw
open Go

/-! #### the table -/
def tdm : TD → TypeDesc → Bool
  | .int k, .int k' => k == k'
  | .bool, .bool => true
  | .str, .string => true
  | .fl k, .float k' => k == k'
  | .cx k, .complex k' => k == k'
  | .ptr e, .pointer e' => e == e'
  | .slice e, .slice e' => e == e'
  | .arr n e, .array n' e' => n == n' && e == e'
  | .struct fs, .struct fa => fa.toList.map (fun f => (f.offset, f.type)) == fs && fa.toList.all fun f => f.name != "_"
  | .func, .func _ _ _ => true
  | .iface, .interface _ => true
  | .tup ts, .tuple ta => ta.toList == ts
  | _, _ => false
def tiOk (P : Program) (t : Nat) (i : TI) : Bool :=
  (match P.underlying t with | some d => tdm i.d d | none => false) &&
  (match P.info? t with
   | some inf => inf.size == i.size && inf.bytes == i.bytes && (match i.d with
      | .tup _ => true
      | _ => (match inf.zero with | some z => decide (constScs z.cells.toList = some i.zero) && i.zero.length == i.size | none => false) &&
        (isAggD i.d || i.size == 1) && (!(isAggD i.d && decide (i.size ≤ smallAgg)) || i.kinds.length == i.size))
   | none => false) &&
  (match i.d with | .struct _ => !P.eqGuardType P.depth t && !P.stoodInHeld t | _ => true)
def tOk (P : Program) : Nat → TTab → Bool
  | _, [] => true
  | t, o :: T => (match o with | some i => tiOk P t i | none => true) && tOk P (t + 1) T
def TOk (P : Program) (T : TTab) : Prop := ∀ t i, T.get t = some i → tiOk P t i = true

theorem tOk_get (P : Program) : ∀ (T : TTab) (s : Nat), tOk P s T = true → ∀ t i, T.getD t none = some i → tiOk P (s + t) i = true
  | [], _, _, t, i, h => by simp at h
  | o :: T, s, hT, t, i, h => by
    simp only [tOk, Bool.and_eq_true] at hT
    cases t with
    | zero => simp at h; subst h; simpa using hT.1
    | succ t => simp at h; have := tOk_get P T (s + 1) hT.2 t i (by simpa using h); rwa [show s + (t + 1) = s + 1 + t by omega]
theorem TOk.of {P : Program} {T : TTab} (h : tOk P 0 T = true) : TOk P T := fun t i hi => by have := tOk_get P T 0 h t i hi; simpa using this

theorem constSc_sound {v : Value} {x : Sc} (h : constSc v = some x) (ι : Inj) : SR ι x v := by
  unfold constSc at h
  split at h <;> first | (cases h; rfl) | cases h
theorem constScs_sound : ∀ {l : List Value} {r : List Sc}, constScs l = some r → ∀ ι : Inj, LR ι r l
  | [], r, h, ι => by cases h; rfl
  | v :: l, r, h, ι => by
    simp only [constScs] at h
    split at h
    · rename_i x r' hx hr
      cases h
      exact ⟨v, l, rfl, constSc_sound hx ι, constScs_sound hr ι⟩
    · cases h
theorem constAV_sound (v : Value) (ι : Inj) : VR ι (constAV v) v := by
  unfold constAV
  split
  · split
    · rename_i r hr; exact ⟨_, constScs_sound hr ι, rfl⟩
    · trivial
  · exact ⟨[], rfl, rfl⟩
  · split
    · rename_i x hx; exact constSc_sound hx ι
    · trivial

section table
variable {P : Program} {t : Nat} {i : TI} (h : tiOk P t i = true)
include h
theorem TI.und : ∃ d, P.underlying t = some d ∧ tdm i.d d = true := by
  simp only [tiOk, Bool.and_eq_true] at h
  cases hu : P.underlying t with
  | none => rw [hu] at h; simp at h
  | some d => rw [hu] at h; exact ⟨d, rfl, h.1.1⟩
theorem TI.inf : ∃ inf, P.info? t = some inf ∧ inf.size = i.size ∧ inf.bytes = i.bytes := by
  simp only [tiOk, Bool.and_eq_true] at h
  cases hu : P.info? t with
  | none => rw [hu] at h; simp at h
  | some d => rw [hu] at h; simp only [Bool.and_eq_true, beq_iff_eq] at h; exact ⟨d, rfl, h.1.2.1.1, h.1.2.1.2⟩
theorem TI.more (hn : ∀ ts, i.d ≠ .tup ts) : (∃ inf z, P.info? t = some inf ∧ inf.zero = some z ∧ constScs z.cells.toList = some i.zero ∧ i.zero.length = i.size) ∧
    (isAggD i.d = true ∨ i.size = 1) ∧ (isAggD i.d = true → i.size ≤ smallAgg → i.kinds.length = i.size) := by
  simp only [tiOk, Bool.and_eq_true] at h
  cases hu : P.info? t with
  | none => rw [hu] at h; simp at h
  | some d =>
    rw [hu] at h
    obtain ⟨⟨_, h⟩, _⟩ := h
    simp only [Bool.and_eq_true] at h
    obtain ⟨_, h⟩ := h
    · obtain ⟨⟨h1, h2⟩, h3⟩ := h
      refine ⟨?_, ?_, ?_⟩
      · split at h1
        · rename_i z hz
          simp only [Bool.and_eq_true, decide_eq_true_eq, beq_iff_eq] at h1
          exact ⟨d, z, rfl, hz, h1.1, h1.2⟩
        · cases h1
      · simpa using h2
      · intro a b; simpa [a, b] using h3
theorem TI.struct {fs : List (Nat × Nat)} (hd : i.d = .struct fs) : P.eqGuardType P.depth t = false ∧ P.stoodInHeld t = false := by
  simp only [tiOk, Bool.and_eq_true, hd] at h
  simpa using h.2
theorem TI.run_size (w : World) : (sizeOf t).run P w = .ok i.size w := by
  obtain ⟨inf, h1, h2, _⟩ := TI.inf h
  simp [sizeOf, typeInfo, h1, h2]
theorem TI.run_agg (w : World) : (isAgg t).run P w = .ok (isAggD i.d) w := by
  obtain ⟨d, h1, h2⟩ := TI.und h
  simp only [isAgg, Sem.run_bind, run_underlying h1, Result.andThen_ok]
  cases d <;> cases hi : i.d <;> rw [hi] at h2 <;> simp_all [tdm, isAggD]
end table

theorem tdm_slice {d : TypeDesc} {e : Nat} (h : tdm (.slice e) d = true) : d = .slice e := by
  cases d <;> simp_all [tdm]
theorem tdm_str {d : TypeDesc} (h : tdm .str d = true) : d = .string := by
  cases d <;> simp_all [tdm]
theorem tdm_int {d : TypeDesc} {k : IntKind} (h : tdm (.int k) d = true) : d = .int k := by
  cases d <;> simp_all [tdm]
theorem tdm_bool {d : TypeDesc} (h : tdm .bool d = true) : d = .bool := by
  cases d <;> simp_all [tdm]
theorem tdm_arr {d : TypeDesc} {n e : Nat} (h : tdm (.arr n e) d = true) : d = .array n e := by
  cases d <;> simp_all [tdm]
theorem tdm_struct {d : TypeDesc} {fs : List (Nat × Nat)} (h : tdm (.struct fs) d = true) : ∃ fa, d = .struct fa ∧ fa.toList.map (fun f => (f.offset, f.type)) = fs ∧ ∀ f ∈ fa.toList, f.name ≠ "_" := by
  cases d with
  | struct fa =>
    simp only [tdm, Bool.and_eq_true, beq_iff_eq, List.all_eq_true, bne_iff_ne] at h
    exact ⟨fa, rfl, h.1, h.2⟩
  | _ => simp [tdm] at h

/-! #### reading by kinds changes nothing -/
section dec
variable {C : Ora} {n : Nat} {H : AH} {r : Res}
theorem asI_eq {k : IntKind} {v : AV} {j : Int} (h : v.asI k = some j) : v = .sc (.i k j) := by
  unfold AV.asI at h; split at h
  · split at h
    · cases h; subst_vars; rfl
    · cases h
  · cases h
theorem asB_eq {v : AV} {j : Bool} (h : v.asB = some j) : v = .sc (.b j) := by unfold AV.asB at h; split at h <;> cases h; rfl
theorem asS_eq {v : AV} {j : ByteArray} (h : v.asS = some j) : v = .sc (.s j) := by unfold AV.asS at h; split at h <;> cases h; rfl
theorem asP_eq {v : AV} {j : Option (Nat × Nat)} (h : v.asP = some j) : v = .sc (.p j) := by unfold AV.asP at h; split at h <;> cases h; rfl
theorem asL_eq {v : AV} {j : Option SlD} (h : v.asL = some j) : v = .sc (.sl j) := by unfold AV.asL at h; split at h <;> cases h; rfl
theorem asIt_eq {v : AV} {j : Nat} (h : v.asIt = some j) : v = .sc (.it j) := by unfold AV.asIt at h; split at h <;> cases h; rfl
theorem asF_eq {k : FloatKind} {v : AV} {j : Nat} (h : v.asF k = some j) : v = .sc (.fl k j) := by
  unfold AV.asF at h; split at h
  · split at h
    · cases h; subst_vars; rfl
    · cases h
  · cases h
theorem asC_eq {k : FloatKind} {v : AV} {j : Nat × Nat} (h : v.asC k = some j) : v = .sc (.cx k j.1 j.2) := by
  unfold AV.asC at h; split at h
  · split at h
    · cases h; subst_vars; rfl
    · cases h
  · cases h
theorem asA_eq {n : Nat} {v : AV} {j : List Sc} (h : v.asA n = some j) : v = .ag j ∧ j.length = n := by
  unfold AV.asA at h; split at h
  · split at h
    · rename_i hl; cases h; exact ⟨rfl, hl⟩
    · cases h
  · cases h
theorem asT_eq {n : Nat} {v : AV} {j : List CV} (h : v.asT n = some j) : v = .tu j ∧ j.length = n := by
  unfold AV.asT at h; split at h
  · split at h
    · rename_i hl; cases h; exact ⟨rfl, hl⟩
    · cases h
  · cases h
theorem decV_run {c : Ck} {x : AV} {f : AV → Tree} (h : run C n (decV c x f) H = some r) : run C n (f x) H = some r := by
  cases c <;> simp only [decV, run, obind_eq] at h
  case i => obtain ⟨j, h1, h2⟩ := h; rw [asI_eq h1]; exact h2
  case b => obtain ⟨j, h1, h2⟩ := h; rw [asB_eq h1]; exact h2
  case s => obtain ⟨j, h1, h2⟩ := h; rw [asS_eq h1]; exact h2
  case p => obtain ⟨j, h1, h2⟩ := h; rw [asP_eq h1]; exact h2
  case sl => obtain ⟨j, h1, h2⟩ := h; rw [asL_eq h1]; exact h2
  case it => obtain ⟨j, h1, h2⟩ := h; rw [asIt_eq h1]; exact h2
  case fl => obtain ⟨j, h1, h2⟩ := h; rw [asF_eq h1]; exact h2
  case cx => obtain ⟨j, h1, h2⟩ := h; rw [asC_eq h1]; exact h2
  case any => exact h
  case q => obtain ⟨j, h1, ⟨a, b⟩, h2, h3⟩ := h; rw [asP_eq h1, h2]; exact h3
  case ag => obtain ⟨j, h1, h2⟩ := h; rw [(asA_eq h1).1]; exact h2
  case x =>
    obtain ⟨j, h1, h2⟩ := h
    cases x with
    | sc y => cases h1; exact h2
    | _ => cases h1
theorem decS_run {c : Ck} {x : Sc} {f : Sc → Tree} (h : run C n (decS c x f) H = some r) : run C n (f x) H = some r := by
  cases c <;> simp only [decS, run, obind_eq] at h
  case i => obtain ⟨j, h1, h2⟩ := h; cases asI_eq h1; exact h2
  case b => obtain ⟨j, h1, h2⟩ := h; cases asB_eq h1; exact h2
  case s => obtain ⟨j, h1, h2⟩ := h; cases asS_eq h1; exact h2
  case p => obtain ⟨j, h1, h2⟩ := h; cases asP_eq h1; exact h2
  case sl => obtain ⟨j, h1, h2⟩ := h; cases asL_eq h1; exact h2
  case it => obtain ⟨j, h1, h2⟩ := h; cases asIt_eq h1; exact h2
  case fl => obtain ⟨j, h1, h2⟩ := h; cases asF_eq h1; exact h2
  case cx => obtain ⟨j, h1, h2⟩ := h; cases asC_eq h1; exact h2
  case any => exact h
  case q => obtain ⟨j, h1, ⟨a, b⟩, h2, h3⟩ := h; cases asP_eq h1; cases h2; exact h3
  case x => exact h
  case ag => exact h
theorem decL_run {l : List Sc} : ∀ (cs : List Ck) (j : Nat) (f : List Sc → Tree), run C n (decL l j cs f) H = some r → run C n (f ((l.drop j).take cs.length)) H = some r ∧ j + cs.length ≤ l.length ∨ cs = [] ∧ run C n (f []) H = some r
  | [], j, f, h => .inr ⟨rfl, h⟩
  | c :: cs, j, f, h => by
    left
    simp only [decL, run, obind_eq] at h
    obtain ⟨x, hx, h⟩ := h
    have h := decS_run h
    have hj : j < l.length := by
      rcases Nat.lt_or_ge j l.length with h' | h'
      · exact h'
      · simp [List.getElem?_eq_none h'] at hx
    have hxe : l[j] = x := by simpa [List.getElem?_eq_getElem hj] using hx
    rw [List.drop_eq_getElem_cons hj, List.length_cons, List.take_succ_cons, hxe]
    rcases decL_run cs (j + 1) _ h with ⟨h1, h2⟩ | ⟨h1, h2⟩
    · exact ⟨h1, by omega⟩
    · subst h1; exact ⟨by simpa using h2, by simp; omega⟩
theorem decT_run {P : Program} {t : Nat} {i : TI} (hi : tiOk P t i = true) (hn : ∀ ts, i.d ≠ .tup ts) {l : List Sc} (hl : l.length = i.size) {f : AV → Tree} (h : run C n (decT i l f) H = some r) :
    (isAggD i.d = true ∧ run C n (f (.ag l)) H = some r) ∨ (isAggD i.d = false ∧ ∃ x, l = [x] ∧ run C n (f (.sc x)) H = some r) := by
  obtain ⟨_, h1, h2⟩ := TI.more hi hn
  unfold decT at h
  split at h
  · rename_i ha
    left
    refine ⟨ha, ?_⟩
    split at h
    · rename_i hs
      rcases decL_run _ _ _ h with ⟨h3, _⟩ | ⟨h3, h4⟩
      · rw [h2 ha hs] at h3
        have e : (l.drop 0).take i.size = l := by simp [← hl]
        rw [e] at h3; exact h3
      · have h5 := h2 ha hs
        rw [h3] at h5
        have : l = [] := List.eq_nil_of_length_eq_zero (by rw [hl, ← h5]; rfl)
        subst this; exact h4
    · exact h
  · rename_i ha
    right
    refine ⟨by simpa using ha, ?_⟩
    simp only [run, obind_eq] at h
    obtain ⟨x, hx, h⟩ := h
    have h := decS_run h
    refine ⟨x, ?_, h⟩
    have hsz : i.size = 1 := by rcases h1 with h1 | h1
                                · exact absurd h1 ha
                                · exact h1
    rw [hsz] at hl
    match l, hl, hx with
    | [y], _, hx => simp at hx; rw [hx]
theorem decA_run {P : Program} {t : Nat} {i : TI} (hi : tiOk P t i = true) (hn : ∀ ts, i.d ≠ .tup ts) {v : AV} {f : AV → Tree} (h : run C n (decA i v f) H = some r) : run C n (f v) H = some r := by
  obtain ⟨_, h1, h2⟩ := TI.more hi hn
  unfold decA at h
  split at h
  · rename_i ha
    simp only [run, obind_eq] at h
    obtain ⟨l, hl0, h⟩ := h
    obtain ⟨rfl, hl⟩ := asA_eq hl0
    clear hl0
    split at h
    · rename_i hs
      rcases decL_run _ _ _ h with ⟨h3, _⟩ | ⟨h3, h4⟩
      · rw [h2 ha hs] at h3
        have e : (l.drop 0).take i.size = l := by simp [← hl]
        rw [e] at h3; exact h3
      · have h5 := h2 ha hs
        rw [h3] at h5
        have : l = [] := List.eq_nil_of_length_eq_zero (by rw [hl, ← h5]; rfl)
        subst this; exact h4
    · exact h
  · exact decV_run h
end dec

end Go.Proofs.Ytkhooppaenfkdaa.Fw
