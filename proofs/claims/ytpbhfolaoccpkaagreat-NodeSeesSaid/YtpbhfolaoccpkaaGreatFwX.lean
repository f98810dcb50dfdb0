/- To reason on trees without fuel: what a tree surely comes to. -/
import Derived.Test.YtpbhfolaoccpkaaGreatFwA
set_option linter.unusedSimpArgs false
set_option linter.unusedVariables false
namespace Go.Proofs.YtpbhfolaoccpkaaGreat.Fw
open Go
theorem iterL_mono {b b' : List AV → AH → Option Res} (hb : ∀ l H r, b l H = some r → b' l H = some r) : ∀ {n m : Nat} {l : List AV} {H : AH} {r : Res}, n ≤ m → iterL n b l H = some r → iterL m b' l H = some r
  | 0, _, _, _, _, _, h => by simp [iterL] at h
  | n + 1, 0, _, _, _, hle, _ => by omega
  | n + 1, m + 1, l, H, r, hle, h => by
    simp only [iterL] at h ⊢
    split at h
    · rename_i l' H' he
      rw [hb _ _ _ he]
      exact iterL_mono hb (by omega) h
    · rename_i r' hne
      cases hbl : b l H with
      | none => rw [hbl] at h; cases h
      | some x =>
        rw [hbl] at h
        rw [hb _ _ _ hbl, ← h]
        split
        · rename_i l' H' he
          cases he
          exact absurd hbl (hne _ _)
        · rfl

theorem run_mono {C C' : Ora} (hC : ∀ f a H r, C f a H = some r → C' f a H = some r) {n m : Nat} (hle : n ≤ m) : ∀ (t : Tree) {H : AH} {r : Res}, run C n t H = some r → run C' m t H = some r := by
  intro t
  induction t with
  | ret t l => exact fun h => h
  | fail => exact fun h => h
  | br b t f ht hf => intro H r h; simp only [run] at h ⊢; split at h <;> rename_i hb
                      · rw [if_pos hb]; exact ht h
                      · rw [if_neg hb]; exact hf h
  | tg x m t f ht hf => intro H r h; simp only [run] at h ⊢; split at h <;> rename_i hb
                        · rw [if_pos hb]; exact ht h
                        · rw [if_neg hb]; exact hf h
  | asI k v f ih => intro H r h; simp only [run, obind_eq] at h ⊢; obtain ⟨a, h1, h2⟩ := h; exact ⟨a, h1, ih _ h2⟩
  | asB v f ih => intro H r h; simp only [run, obind_eq] at h ⊢; obtain ⟨a, h1, h2⟩ := h; exact ⟨a, h1, ih _ h2⟩
  | asS v f ih => intro H r h; simp only [run, obind_eq] at h ⊢; obtain ⟨a, h1, h2⟩ := h; exact ⟨a, h1, ih _ h2⟩
  | asP v f ih => intro H r h; simp only [run, obind_eq] at h ⊢; obtain ⟨a, h1, h2⟩ := h; exact ⟨a, h1, ih _ h2⟩
  | asL v f ih => intro H r h; simp only [run, obind_eq] at h ⊢; obtain ⟨a, h1, h2⟩ := h; exact ⟨a, h1, ih _ h2⟩
  | asF k v f ih => intro H r h; simp only [run, obind_eq] at h ⊢; obtain ⟨a, h1, h2⟩ := h; exact ⟨a, h1, ih _ h2⟩
  | asC k v f ih => intro H r h; simp only [run, obind_eq] at h ⊢; obtain ⟨a, h1, h2⟩ := h; exact ⟨a, h1, ih _ _ h2⟩
  | asX v f ih => intro H r h; simp only [run, obind_eq] at h ⊢; obtain ⟨a, h1, h2⟩ := h; exact ⟨a, h1, ih _ h2⟩
  | asBy v f ih => intro H r h; simp only [run, obind_eq] at h ⊢; obtain ⟨a, h1, h2⟩ := h; exact ⟨a, h1, ih _ h2⟩
  | asIt v f ih => intro H r h; simp only [run, obind_eq] at h ⊢; obtain ⟨a, h1, h2⟩ := h; exact ⟨a, h1, ih _ h2⟩
  | asA k v f ih => intro H r h; simp only [run, obind_eq] at h ⊢; obtain ⟨a, h1, h2⟩ := h; exact ⟨a, h1, ih _ h2⟩
  | asT k v f ih => intro H r h; simp only [run, obind_eq] at h ⊢; obtain ⟨a, h1, h2⟩ := h; exact ⟨a, h1, ih _ h2⟩
  | nn o f ih => intro H r h; simp only [run, obind_eq] at h ⊢; obtain ⟨a, h1, h2⟩ := h; exact ⟨a, h1, ih _ _ h2⟩
  | nth l j f ih => intro H r h; simp only [run, obind_eq] at h ⊢; obtain ⟨a, h1, h2⟩ := h; exact ⟨a, h1, ih _ h2⟩
  | nthC l j f ih => intro H r h; simp only [run, obind_eq] at h ⊢; obtain ⟨a, h1, h2⟩ := h; exact ⟨a, h1, ih _ h2⟩
  | ixS z s j f ih => intro H r h; simp only [run, obind_eq] at h ⊢; obtain ⟨a, h1, h2⟩ := h; exact ⟨a, h1, ih _ _ _ h2⟩
  | ld id off n f ih => intro H r h; simp only [run, obind_eq] at h ⊢; obtain ⟨a, h1, h2⟩ := h; exact ⟨a, h1, ih _ h2⟩
  | st id off l t ih => intro H r h; simp only [run, obind_eq] at h ⊢; obtain ⟨a, h1, h2⟩ := h; exact ⟨a, h1, ih h2⟩
  | same id off l t ih => intro H r h; simp only [run] at h ⊢; split at h <;> rename_i hb
                          · rw [if_pos hb]; exact ih h
                          · cases h
  | al l f ih => intro H r h; simp only [run] at h ⊢; exact ih _ h
  | lds z s n f ih => intro H r h; simp only [run, obind_eq] at h ⊢; obtain ⟨a, h1, h2⟩ := h; exact ⟨a, h1, ih _ h2⟩
  | sts z s l t ih => intro H r h; simp only [run, obind_eq] at h ⊢; obtain ⟨a, h1, h2⟩ := h; exact ⟨a, h1, ih h2⟩
  | app z eb s l n f ih => intro H r h; simp only [run, obind_eq] at h ⊢; obtain ⟨a, h1, h2⟩ := h; exact ⟨a, h1, ih _ h2⟩
  | slc z s lo hi mx f ih => intro H r h; simp only [run, obind_eq] at h ⊢; obtain ⟨a, h1, h2⟩ := h; exact ⟨a, h1, ih _ h2⟩
  | call f args k ih => intro H r h; simp only [run, obind_eq] at h ⊢; obtain ⟨a, h1, h2⟩ := h; exact ⟨a, hC _ _ _ _ h1, ih _ h2⟩
  | callv v args k ih => intro H r h; simp only [run, obind_eq] at h ⊢; obtain ⟨g, h0, a, h1, h2⟩ := h; exact ⟨g, h0, a, hC _ _ _ _ h1, ih _ h2⟩
  | itn s f ih => intro H r h; simp only [run] at h ⊢; exact ih _ h
  | itx id f ih => intro H r h; simp only [run, obind_eq] at h ⊢; obtain ⟨a, h1, h2⟩ := h; refine ⟨a, h1, ?_⟩
                   split at h2 <;> rename_i hb
                   · rw [if_pos hb]; exact ih _ h2
                   · rw [if_neg hb]; exact ih _ h2
  | join t k iht ihk => intro H r h; simp only [run, obind_eq] at h ⊢; obtain ⟨a, h1, h2⟩ := h; exact ⟨a, iht h1, ihk _ _ h2⟩
  | loop b l k ihb ihk => intro H r h; simp only [run, obind_eq] at h ⊢; obtain ⟨a, h1, h2⟩ := h
                          exact ⟨a, iterL_mono (fun l H r h => ihb l h) hle h1, ihk _ _ h2⟩

theorem callA_mono {P : Program} {T : TTab} {hs : Nat → Hints} : ∀ {n m : Nat} {f : FuncId} {a : List AV} {H : AH} {r : AV × AH}, n ≤ m → callA P T hs n f a H = some r → callA P T hs m f a H = some r
  | 0, _, _, _, _, _, _, h => by simp [callA] at h
  | n + 1, 0, _, _, _, _, hle, _ => by omega
  | n + 1, m + 1, f, a, H, r, hle, h => by
    simp only [callA] at h ⊢
    split at h
    case h_2 => cases h
    split at h
    case h_2 => cases h
    rename_i v' H' hrun
    rw [run_mono (fun f a H r h => callA_mono (by omega) h) (by omega : n ≤ m) _ hrun]
    exact h

/-- the program, its type table, its hints -/
structure Env where
  P : Program
  T : TTab
  hs : Nat → Hints

def CallWp (E : Env) (f : FuncId) (args : List AV) (H : AH) (R : AV → AH → Prop) : Prop := ∃ n v H', callA E.P E.T E.hs n f args H = some (v, H') ∧ R v H'
def iterW : Nat → (List AV → AH → (Res → Prop) → Prop) → List AV → AH → (Res → Prop) → Prop
  | 0, _, _, _, _ => False
  | n + 1, B, l, H, Q => B l H fun r => match r with
    | ((0, l'), H') => iterW n B l' H' Q
    | r => Q r
def LoopWp (B : List AV → AH → (Res → Prop) → Prop) (l : List AV) (H : AH) (Q : Res → Prop) : Prop := ∃ n, iterW n B l H Q

def Wp (E : Env) : Tree → AH → (Res → Prop) → Prop
  | .ret t l, H, Q => Q ((t, l), H)
  | .fail, _, _ => False
  | .br b t f, H, Q => if b = true then Wp E t H Q else Wp E f H Q
  | .tg x m t f, H, Q => if x = m then Wp E t H Q else Wp E f H Q
  | .asI k v f, H, Q => ∃ j, v.asI k = some j ∧ Wp E (f j) H Q
  | .asB v f, H, Q => ∃ j, v.asB = some j ∧ Wp E (f j) H Q
  | .asS v f, H, Q => ∃ j, v.asS = some j ∧ Wp E (f j) H Q
  | .asP v f, H, Q => ∃ j, v.asP = some j ∧ Wp E (f j) H Q
  | .asL v f, H, Q => ∃ j, v.asL = some j ∧ Wp E (f j) H Q
  | .asF k v f, H, Q => ∃ j, v.asF k = some j ∧ Wp E (f j) H Q
  | .asC k v f, H, Q => ∃ j, v.asC k = some j ∧ Wp E (f j.1 j.2) H Q
  | .asX v f, H, Q => ∃ j, v.asX = some j ∧ Wp E (f j) H Q
  | .asBy v f, H, Q => ∃ j, baOf v .empty = some j ∧ Wp E (f j) H Q
  | .asIt v f, H, Q => ∃ j, v.asIt = some j ∧ Wp E (f j) H Q
  | .asA m v f, H, Q => ∃ j, v.asA m = some j ∧ Wp E (f j) H Q
  | .asT m v f, H, Q => ∃ j, v.asT m = some j ∧ Wp E (f j) H Q
  | .nn o f, H, Q => ∃ a, o = some a ∧ Wp E (f a.1 a.2) H Q
  | .nth l j f, H, Q => ∃ x, l[j]? = some x ∧ Wp E (f x) H Q
  | .nthC l j f, H, Q => ∃ x, l[j]? = some x ∧ Wp E (f x) H Q
  | .ixS z s j f, H, Q => ∃ a, ixIn z s j = some a ∧ Wp E (f a.1 a.2.1 a.2.2) H Q
  | .ld id off m f, H, Q => ∃ l, H.rd id off m = some l ∧ Wp E (f l) H Q
  | .st id off l t, H, Q => ∃ H', H.wr id off l = some H' ∧ Wp E t H' Q
  | .same id off l t, H, Q => H.rd id off l.length = some l ∧ Wp E t H Q
  | .al l f, H, Q => Wp E (f H.next) (H.new (.cells false l)) Q
  | .lds z s m f, H, Q => ∃ l, H.rds z s m = some l ∧ Wp E (f l) H Q
  | .sts z s l t, H, Q => ∃ H', H.wrs z s l = some H' ∧ Wp E t H' Q
  | .app z eb s l m f, H, Q => ∃ a, H.app z eb s l m = some a ∧ Wp E (f a.1) a.2 Q
  | .slc z s lo hi mx f, H, Q => ∃ s', slcIn s z lo hi mx = some s' ∧ Wp E (f s') H Q
  | .call g args k, H, Q => CallWp E g args H fun v H' => Wp E (k v) H' Q
  | .callv v args k, H, Q => ∃ g, v.asFn = some g ∧ CallWp E g.1 (ptrs g.2.1 ++ args ++ ptrs g.2.2) H fun v H' => Wp E (k v) H' Q
  | .itn s f, H, Q => Wp E (f H.next) (H.new (.iter s 0)) Q
  | .itx id f, H, Q => ∃ q, H.it id = some q ∧
      if q.2 < q.1.size then Wp E (f (some (q.2, ((Utf8.decode q.1 q.2).1 : Int)))) (H.put id (some (.iter q.1 (q.2 + (Utf8.decode q.1 q.2).2)))) Q else Wp E (f none) H Q
  | .join t k, H, Q => Wp E t H fun a => Wp E (k a.1.1 a.1.2) a.2 Q
  | .loop b l k, H, Q => LoopWp (fun l H Q => Wp E (b l) H Q) l H fun a => Wp E (k a.1.1 a.1.2) a.2 Q

section
variable {E : Env}
def Runs (E : Env) (t : Tree) (H : AH) (Q : Res → Prop) : Prop := ∃ n r, run (callA E.P E.T E.hs n) n t H = some r ∧ Q r
theorem run_up {n m : Nat} (h : n ≤ m) {t : Tree} {H : AH} {r : Res} (hr : run (callA E.P E.T E.hs n) n t H = some r) : run (callA E.P E.T E.hs m) m t H = some r :=
  run_mono (fun _ _ _ _ h' => callA_mono h h') h t hr

theorem Wp.runs : ∀ (t : Tree) {H : AH} {Q : Res → Prop}, Wp E t H Q → Runs E t H Q := by
  have one : ∀ {α : Type} {o : Option α} {g : α → Nat → Option Res} {Q : Res → Prop}, (∃ a, o = some a ∧ ∃ n r, g a n = some r ∧ Q r) → ∃ n r, (obind o fun a => g a n) = some r ∧ Q r := by
    rintro α o g Q ⟨a, rfl, n, r, h1, h2⟩
    exact ⟨n, r, h1, h2⟩
  intro t
  induction t with
  | ret t l => exact fun h => ⟨0, _, rfl, h⟩
  | fail => exact fun h => h.elim
  | br b t f ht hf => intro H Q h; simp only [Wp] at h; simp only [Runs, run]; split at h <;> rename_i hb
                      · simp only [if_pos hb]; exact ht h
                      · simp only [if_neg hb]; exact hf h
  | tg x m t f ht hf => intro H Q h; simp only [Wp] at h; simp only [Runs, run]; split at h <;> rename_i hb
                        · simp only [if_pos hb]; exact ht h
                        · simp only [if_neg hb]; exact hf h
  | asI k v f ih => intro H Q h; simp only [Wp] at h; simp only [Runs, run]; obtain ⟨a, h1, h2⟩ := h; exact one ⟨a, h1, ih _ h2⟩
  | asB v f ih => intro H Q h; simp only [Wp] at h; simp only [Runs, run]; obtain ⟨a, h1, h2⟩ := h; exact one ⟨a, h1, ih _ h2⟩
  | asS v f ih => intro H Q h; simp only [Wp] at h; simp only [Runs, run]; obtain ⟨a, h1, h2⟩ := h; exact one ⟨a, h1, ih _ h2⟩
  | asP v f ih => intro H Q h; simp only [Wp] at h; simp only [Runs, run]; obtain ⟨a, h1, h2⟩ := h; exact one ⟨a, h1, ih _ h2⟩
  | asL v f ih => intro H Q h; simp only [Wp] at h; simp only [Runs, run]; obtain ⟨a, h1, h2⟩ := h; exact one ⟨a, h1, ih _ h2⟩
  | asF k v f ih => intro H Q h; simp only [Wp] at h; simp only [Runs, run]; obtain ⟨a, h1, h2⟩ := h; exact one ⟨a, h1, ih _ h2⟩
  | asC k v f ih => intro H Q h; simp only [Wp] at h; simp only [Runs, run]; obtain ⟨a, h1, h2⟩ := h; obtain ⟨n, r, h3, h4⟩ := ih _ _ h2; exact ⟨n, r, by rw [h1]; exact h3, h4⟩
  | asX v f ih => intro H Q h; simp only [Wp] at h; simp only [Runs, run]; obtain ⟨a, h1, h2⟩ := h; exact one ⟨a, h1, ih _ h2⟩
  | asBy v f ih => intro H Q h; simp only [Wp] at h; simp only [Runs, run]; obtain ⟨a, h1, h2⟩ := h; exact one ⟨a, h1, ih _ h2⟩
  | asIt v f ih => intro H Q h; simp only [Wp] at h; simp only [Runs, run]; obtain ⟨a, h1, h2⟩ := h; exact one ⟨a, h1, ih _ h2⟩
  | asA k v f ih => intro H Q h; simp only [Wp] at h; simp only [Runs, run]; obtain ⟨a, h1, h2⟩ := h; exact one ⟨a, h1, ih _ h2⟩
  | asT k v f ih => intro H Q h; simp only [Wp] at h; simp only [Runs, run]; obtain ⟨a, h1, h2⟩ := h; exact one ⟨a, h1, ih _ h2⟩
  | nn o f ih => intro H Q h; simp only [Wp] at h; simp only [Runs, run]; obtain ⟨a, h1, h2⟩ := h; obtain ⟨n, r, h3, h4⟩ := ih _ _ h2; exact ⟨n, r, by rw [h1]; exact h3, h4⟩
  | nth l j f ih => intro H Q h; simp only [Wp] at h; simp only [Runs, run]; obtain ⟨a, h1, h2⟩ := h; exact one ⟨a, h1, ih _ h2⟩
  | nthC l j f ih => intro H Q h; simp only [Wp] at h; simp only [Runs, run]; obtain ⟨a, h1, h2⟩ := h; exact one ⟨a, h1, ih _ h2⟩
  | ixS z s j f ih => intro H Q h; simp only [Wp] at h; simp only [Runs, run]; obtain ⟨a, h1, h2⟩ := h; obtain ⟨n, r, h3, h4⟩ := ih _ _ _ h2; exact ⟨n, r, by rw [h1]; exact h3, h4⟩
  | ld id off n f ih => intro H Q h; simp only [Wp] at h; simp only [Runs, run]; obtain ⟨a, h1, h2⟩ := h; exact one ⟨a, h1, ih _ h2⟩
  | st id off l t ih => intro H Q h; simp only [Wp] at h; simp only [Runs, run]; obtain ⟨a, h1, h2⟩ := h; exact one ⟨a, h1, ih h2⟩
  | same id off l t ih => intro H Q h; simp only [Wp] at h; simp only [Runs, run]; obtain ⟨h1, h2⟩ := h; simp only [if_pos h1]; exact ih h2
  | al l f ih => intro H Q h; simp only [Wp] at h; simp only [Runs, run]; exact ih _ h
  | lds z s n f ih => intro H Q h; simp only [Wp] at h; simp only [Runs, run]; obtain ⟨a, h1, h2⟩ := h; exact one ⟨a, h1, ih _ h2⟩
  | sts z s l t ih => intro H Q h; simp only [Wp] at h; simp only [Runs, run]; obtain ⟨a, h1, h2⟩ := h; exact one ⟨a, h1, ih h2⟩
  | app z eb s l n f ih => intro H Q h; simp only [Wp] at h; simp only [Runs, run]; obtain ⟨a, h1, h2⟩ := h; obtain ⟨n, r, h3, h4⟩ := ih _ h2; exact ⟨n, r, by rw [h1]; exact h3, h4⟩
  | slc z s lo hi mx f ih => intro H Q h; simp only [Wp] at h; simp only [Runs, run]; obtain ⟨a, h1, h2⟩ := h; exact one ⟨a, h1, ih _ h2⟩
  | call f args k ih =>
    intro H Q h
    obtain ⟨n, v, H', h1, h2⟩ := h
    obtain ⟨m, r, h3, h4⟩ := ih _ h2
    refine ⟨max n m, r, ?_, h4⟩
    simp only [run, obind_eq]
    exact ⟨_, callA_mono (Nat.le_max_left n m) h1, run_up (Nat.le_max_right n m) h3⟩
  | callv v args k ih =>
    intro H Q h
    obtain ⟨g, h0, n, v, H', h1, h2⟩ := h
    obtain ⟨m, r, h3, h4⟩ := ih _ h2
    refine ⟨max n m, r, ?_, h4⟩
    simp only [run, obind_eq]
    exact ⟨g, h0, _, callA_mono (Nat.le_max_left n m) h1, run_up (Nat.le_max_right n m) h3⟩
  | itn s f ih => intro H Q h; simp only [Wp] at h; simp only [Runs, run]; exact ih _ h
  | itx id f ih =>
    intro H Q h; simp only [Wp] at h; simp only [Runs, run]; obtain ⟨a, h1, h2⟩ := h
    split at h2 <;> rename_i hb
    · obtain ⟨n, r, h3, h4⟩ := ih _ h2
      exact ⟨n, r, by rw [h1, obind_some, if_pos hb]; exact h3, h4⟩
    · obtain ⟨n, r, h3, h4⟩ := ih _ h2
      exact ⟨n, r, by rw [h1, obind_some, if_neg hb]; exact h3, h4⟩
  | join t k iht ihk =>
    intro H Q h
    obtain ⟨n, r, h1, h2⟩ := iht (Q := fun a => Wp E (k a.1.1 a.1.2) a.2 Q) h
    obtain ⟨m, r2, h3, h4⟩ := ihk _ _ h2
    refine ⟨max n m, r2, ?_, h4⟩
    simp only [run, obind_eq]
    exact ⟨_, run_up (Nat.le_max_left n m) h1, run_up (Nat.le_max_right n m) h3⟩
  | loop b l k ihb ihk =>
    intro H Q h
    obtain ⟨n0, h⟩ := h
    have rounds : ∀ (n0 : Nat) (l : List AV) (H : AH), iterW n0 (fun l H Q => Wp E (b l) H Q) l H (fun a => Wp E (k a.1.1 a.1.2) a.2 Q) →
        ∃ n r, iterL n (fun l H => run (callA E.P E.T E.hs n) n (b l) H) l H = some r ∧ Wp E (k r.1.1 r.1.2) r.2 Q := by
      intro n0
      induction n0 with
      | zero => intro l H h; exact h.elim
      | succ n0 ih =>
        intro l H h
        simp only [iterW] at h
        obtain ⟨n, r, h1, h2⟩ := ihb l h
        obtain ⟨⟨t, l'⟩, H'⟩ := r
        cases t with
        | zero =>
          obtain ⟨m, r2, h3, h4⟩ := ih l' H' h2
          refine ⟨max n m + 1, r2, ?_, h4⟩
          simp only [iterL]
          rw [run_up (by omega) h1]
          exact iterL_mono (fun l H r h => run_up (by omega : m ≤ max n m + 1) h) (Nat.le_max_right n m) h3
        | succ t =>
          refine ⟨n + 1, ((t + 1, l'), H'), ?_, h2⟩
          simp only [iterL, run_up (by omega : n ≤ n + 1) h1]
    obtain ⟨n, r, h1, h2⟩ := rounds n0 l H h
    obtain ⟨m, r2, h3, h4⟩ := ihk _ _ h2
    refine ⟨max n m, r2, ?_, h4⟩
    simp only [run, obind_eq]
    exact ⟨_, iterL_mono (fun l H r h => run_up (Nat.le_max_left n m) h) (Nat.le_max_left n m) h1, run_up (Nat.le_max_right n m) h3⟩

/-- what a function's body hands back -/
def RetQ (R : AV → AH → Prop) : Res → Prop
  | ((0, [v]), H) => R v H
  | _ => False
theorem CallWp.of {f : FuncId} {fn : Func} (hf : E.P.funcs[f]? = some fn) {args : List AV} {t : Tree} (ht : bodyK E.T (E.hs f) fn args = t) {H : AH} {R : AV → AH → Prop} (h : Wp E t H (RetQ R)) : CallWp E f args H R := by
  subst ht
  obtain ⟨n, r, h1, h2⟩ := h.runs
  unfold RetQ at h2
  split at h2
  · rename_i v H'
    exact ⟨n + 1, v, H', by simp only [callA, hf, h1], h2⟩
  · exact h2.elim
theorem CallWp.mono {f : FuncId} {args : List AV} {H : AH} {R R' : AV → AH → Prop} (h : CallWp E f args H R) (hr : ∀ v H', R v H' → R' v H') : CallWp E f args H R' := by
  obtain ⟨n, v, H', h1, h2⟩ := h
  exact ⟨n, v, H', h1, hr _ _ h2⟩

/-- a loop, by what holds at its head and what falls -/
theorem LoopWp.inv {B : List AV → AH → (Res → Prop) → Prop} (hB : ∀ l H (Q Q' : Res → Prop), (∀ r, Q r → Q' r) → B l H Q → B l H Q') (I : Nat → List AV → AH → Prop) {Q : Res → Prop} (step : ∀ m l H, I m l H → B l H fun r => match r with
      | ((0, l'), H') => ∃ m', m' < m ∧ I m' l' H'
      | r => Q r) {m : Nat} {l : List AV} {H : AH} (h : I m l H) : LoopWp B l H Q := by
  have : ∀ (k m : Nat) l H, m < k → I m l H → iterW k B l H Q := by
    intro k
    induction k with
    | zero => intro m l H hm; omega
    | succ k ih =>
      intro m l H hm h
      simp only [iterW]
      refine hB _ _ _ _ (fun r hr => ?_) (step m l H h)
      obtain ⟨⟨t, l'⟩, H'⟩ := r
      cases t with
      | zero => obtain ⟨m', h1, h2⟩ := hr; exact ih m' l' H' (by omega) h2
      | succ t => exact hr
  exact ⟨m + 1, this (m + 1) m l H (by omega) h⟩
theorem LoopWp.mono {B : List AV → AH → (Res → Prop) → Prop} (hB : ∀ l H (Q Q' : Res → Prop), (∀ r, Q r → Q' r) → B l H Q → B l H Q') {l : List AV} {H : AH} {Q Q' : Res → Prop} (hq : ∀ r, Q r → Q' r) (h : LoopWp B l H Q) : LoopWp B l H Q' := by
  obtain ⟨n, h⟩ := h
  refine ⟨n, ?_⟩
  induction n generalizing l H with
  | zero => exact h
  | succ n ih =>
    simp only [iterW] at h ⊢
    refine hB _ _ _ _ (fun r hr => ?_) h
    obtain ⟨⟨t, l'⟩, H'⟩ := r
    cases t with
    | zero => exact ih hr
    | succ t => exact hq _ hr

theorem Wp.mono : ∀ (t : Tree) {H : AH} {Q Q' : Res → Prop}, (∀ r, Q r → Q' r) → Wp E t H Q → Wp E t H Q' := by
  intro t
  induction t with
  | ret t l => exact fun hq h => hq _ h
  | fail => exact fun hq h => h
  | br b t f ht hf => intro H Q Q' hq h; simp only [Wp] at h ⊢; split at h <;> rename_i hb
                      · rw [if_pos hb]; exact ht hq h
                      · rw [if_neg hb]; exact hf hq h
  | tg b m t f ht hf => intro H Q Q' hq h; simp only [Wp] at h ⊢; split at h <;> rename_i hb
                        · rw [if_pos hb]; exact ht hq h
                        · rw [if_neg hb]; exact hf hq h
  | asI _ _ _ ih | asB _ _ ih | asS _ _ ih | asP _ _ ih | asL _ _ ih | asF _ _ _ ih | asX _ _ ih | asBy _ _ ih | asIt _ _ ih | asA _ _ _ ih | asT _ _ _ ih | nth _ _ _ ih | nthC _ _ _ ih | ld _ _ _ _ ih | lds _ _ _ _ ih | app _ _ _ _ _ _ ih | slc _ _ _ _ _ _ ih =>
    intro H Q Q' hq h; simp only [Wp] at h ⊢; obtain ⟨a, h1, h2⟩ := h; exact ⟨a, h1, ih _ hq h2⟩
  | asC _ _ _ ih | nn _ _ ih => intro H Q Q' hq h; simp only [Wp] at h ⊢; obtain ⟨a, h1, h2⟩ := h; exact ⟨a, h1, ih _ _ hq h2⟩
  | ixS _ _ _ _ ih => intro H Q Q' hq h; simp only [Wp] at h ⊢; obtain ⟨a, h1, h2⟩ := h; exact ⟨a, h1, ih _ _ _ hq h2⟩
  | st _ _ _ _ ih | sts _ _ _ _ ih => intro H Q Q' hq h; simp only [Wp] at h ⊢; obtain ⟨a, h1, h2⟩ := h; exact ⟨a, h1, ih hq h2⟩
  | same _ _ _ _ ih => intro H Q Q' hq h; simp only [Wp] at h ⊢; exact ⟨h.1, ih hq h.2⟩
  | al _ _ ih | itn _ _ ih => intro H Q Q' hq h; simp only [Wp] at h ⊢; exact ih _ hq h
  | call _ _ _ ih => intro H Q Q' hq h; simp only [Wp] at h ⊢; exact h.mono fun v H' h => ih _ hq h
  | callv _ _ _ ih => intro H Q Q' hq h; simp only [Wp] at h ⊢; obtain ⟨a, h1, h2⟩ := h; exact ⟨a, h1, h2.mono fun v H' h => ih _ hq h⟩
  | itx _ _ ih =>
    intro H Q Q' hq h; simp only [Wp] at h ⊢; obtain ⟨a, h1, h2⟩ := h; refine ⟨a, h1, ?_⟩
    split at h2 <;> rename_i hb
    · rw [if_pos hb]; exact ih _ hq h2
    · rw [if_neg hb]; exact ih _ hq h2
  | join _ _ iht ihk => intro H Q Q' hq h; simp only [Wp] at h ⊢; exact iht (fun r hr => ihk _ _ hq hr) h
  | loop b l k ihb ihk => intro H Q Q' hq h; simp only [Wp] at h ⊢; exact LoopWp.mono (B := fun l H Q => Wp E (b l) H Q) (fun l H Q Q' hq h => ihb l hq h) (fun r hr => ihk r.1.1 r.1.2 hq hr) h

theorem Wp.loopI {b : List AV → Tree} {l : List AV} {k : Nat → List AV → Tree} {H : AH} {Q : Res → Prop} (I : Nat → List AV → AH → Prop) {m : Nat} (h : I m l H)
    (step : ∀ m l H, I m l H → Wp E (b l) H fun r => match r with
      | ((0, l'), H') => ∃ m', m' < m ∧ I m' l' H'
      | r => Wp E (k r.1.1 r.1.2) r.2 Q) : Wp E (.loop b l k) H Q := by
  simp only [Wp]
  exact LoopWp.inv (B := fun l H Q => Wp E (b l) H Q) (Q := fun r => Wp E (k r.1.1 r.1.2) r.2 Q) (fun l H Q Q' hq h => Wp.mono _ hq h) I step h
end
end Go.Proofs.YtpbhfolaoccpkaaGreat.Fw
