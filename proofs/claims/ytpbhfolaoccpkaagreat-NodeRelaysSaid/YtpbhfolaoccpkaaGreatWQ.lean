/- A tree's one path, by what it is fed: for a function whose whole tree is too large to be written out. -/
import Derived.Test.YtpbhfolaoccpkaaGreatWP
import Derived.Test.YtpbhfolaoccpkaaGreatTreeY
namespace Go.Proofs.YtpbhfolaoccpkaaGreat
open Go Go.Proofs.YtpbhfolaoccpkaaGreat.Fw
set_option linter.unusedVariables false
set_option linter.unusedSimpArgs false
set_option maxRecDepth 20000
inductive Fd where
  | a (x : Nat)
  | l (l : List Sc)
  | v (x : AV)
  | g
/-- what stands behind the steps that are fed -/
def fd : Tree → List Fd → Tree
  | t, [] => t
  | .al _ f, .a x :: r => fd (f x) r
  | .ld _ _ _ f, .l x :: r => fd (f x) r
  | .call _ _ k, .v x :: r => fd (k x) r
  | .asI k v f, e :: r => match v.asI k with | some j => fd (f j) (e :: r) | none => .fail
  | .asB v f, e :: r => match v.asB with | some j => fd (f j) (e :: r) | none => .fail
  | .asS v f, e :: r => match v.asS with | some j => fd (f j) (e :: r) | none => .fail
  | .asL v f, e :: r => match v.asL with | some j => fd (f j) (e :: r) | none => .fail
  | .asP v f, e :: r => match v.asP with | some j => fd (f j) (e :: r) | none => .fail
  | .asC k v f, e :: r => match v.asC k with | some j => fd (f j.1 j.2) (e :: r) | none => .fail
  | .asT m v f, e :: r => match v.asT m with | some j => fd (f j) (e :: r) | none => .fail
  | .nth l j f, e :: r => match l[j]? with | some x => fd (f x) (e :: r) | none => .fail
  | .nthC l j f, e :: r => match l[j]? with | some x => fd (f x) (e :: r) | none => .fail
  | t, .g :: _ => t
  | _, _ => .fail

section
variable {L R F P : List Assn} {Q : Post}
theorem Tri_fail {t : Tree} (h : Tri E L .fail Q) : Tri E L t Q := .mk fun H hs => (h.go H hs).elim
theorem fd_nil (t : Tree) : fd t [] = t := by cases t <;> rfl
/-- the plain steps ahead of the next one are done -/
theorem fd_g : ∀ (t : Tree) (fs : List Fd), Tri E L (fd t (fs ++ [.g])) Q → Tri E L (fd t fs) Q := by
  intro t
  induction t with
  | asI k v f ih => intro fs h; cases fs with
    | nil => simp only [List.nil_append, fd] at h; split at h
             · rename_i j hj; exact .mk fun H hs => ⟨j, hj, by have g := (ih j [] h).go H hs; rw [fd_nil] at g; exact g⟩
             · exact Tri_fail h
    | cons e r => simp only [List.cons_append, fd] at h ⊢; split at h
                  · rename_i j hj; exact ih j (e :: r) h
                  · exact h
  | asB v f ih => intro fs h; cases fs with
    | nil => simp only [List.nil_append, fd] at h; split at h
             · rename_i j hj; exact .mk fun H hs => ⟨j, hj, by have g := (ih j [] h).go H hs; rw [fd_nil] at g; exact g⟩
             · exact Tri_fail h
    | cons e r => simp only [List.cons_append, fd] at h ⊢; split at h
                  · rename_i j hj; exact ih j (e :: r) h
                  · exact h
  | asS v f ih => intro fs h; cases fs with
    | nil => simp only [List.nil_append, fd] at h; split at h
             · rename_i j hj; exact .mk fun H hs => ⟨j, hj, by have g := (ih j [] h).go H hs; rw [fd_nil] at g; exact g⟩
             · exact Tri_fail h
    | cons e r => simp only [List.cons_append, fd] at h ⊢; split at h
                  · rename_i j hj; exact ih j (e :: r) h
                  · exact h
  | asL v f ih => intro fs h; cases fs with
    | nil => simp only [List.nil_append, fd] at h; split at h
             · rename_i j hj; exact .mk fun H hs => ⟨j, hj, by have g := (ih j [] h).go H hs; rw [fd_nil] at g; exact g⟩
             · exact Tri_fail h
    | cons e r => simp only [List.cons_append, fd] at h ⊢; split at h
                  · rename_i j hj; exact ih j (e :: r) h
                  · exact h
  | asP v f ih => intro fs h; cases fs with
    | nil => simp only [List.nil_append, fd] at h; split at h
             · rename_i j hj; exact .mk fun H hs => ⟨j, hj, by have g := (ih j [] h).go H hs; rw [fd_nil] at g; exact g⟩
             · exact Tri_fail h
    | cons e r => simp only [List.cons_append, fd] at h ⊢; split at h
                  · rename_i j hj; exact ih j (e :: r) h
                  · exact h
  | asC k v f ih => intro fs h; cases fs with
    | nil => simp only [List.nil_append, fd] at h; split at h
             · rename_i j hj; exact .mk fun H hs => ⟨j, hj, by have g := (ih j.1 j.2 [] h).go H hs; rw [fd_nil] at g; exact g⟩
             · exact Tri_fail h
    | cons e r => simp only [List.cons_append, fd] at h ⊢; split at h
                  · rename_i j hj; exact ih j.1 j.2 (e :: r) h
                  · exact h
  | asT m v f ih => intro fs h; cases fs with
    | nil => simp only [List.nil_append, fd] at h; split at h
             · rename_i j hj; exact .mk fun H hs => ⟨j, hj, by have g := (ih j [] h).go H hs; rw [fd_nil] at g; exact g⟩
             · exact Tri_fail h
    | cons e r => simp only [List.cons_append, fd] at h ⊢; split at h
                  · rename_i j hj; exact ih j (e :: r) h
                  · exact h
  | nth l j f ih => intro fs h; cases fs with
    | nil => simp only [List.nil_append, fd] at h; split at h
             · rename_i x hx; exact .mk fun H hs => ⟨x, hx, by have g := (ih x [] h).go H hs; rw [fd_nil] at g; exact g⟩
             · exact Tri_fail h
    | cons e r => simp only [List.cons_append, fd] at h ⊢; split at h
                  · rename_i x hx; exact ih x (e :: r) h
                  · exact h
  | nthC l j f ih => intro fs h; cases fs with
    | nil => simp only [List.nil_append, fd] at h; split at h
             · rename_i x hx; exact .mk fun H hs => ⟨x, hx, by have g := (ih x [] h).go H hs; rw [fd_nil] at g; exact g⟩
             · exact Tri_fail h
    | cons e r => simp only [List.cons_append, fd] at h ⊢; split at h
                  · rename_i x hx; exact ih x (e :: r) h
                  · exact h
  | al l f ih => intro fs h; cases fs with
    | nil => exact h
    | cons e r => cases e with
      | a x => exact ih x r h
      | _ => exact h
  | ld id off n f ih => intro fs h; cases fs with
    | nil => exact h
    | cons e r => cases e with
      | l x => exact ih x r h
      | _ => exact h
  | call g args k ih => intro fs h; cases fs with
    | nil => exact h
    | cons e r => cases e with
      | v x => exact ih x r h
      | _ => exact h
  | _ => intro fs h; cases fs with
    | nil => exact h
    | cons e r => cases e <;> exact h
/-- one step each: the step's head is told by an equation -/
theorem Fd_al {T : Tree} {fs : List Fd} {l : List Sc} (e : fd T (fs ++ [.g]) = .al l fun x => fd T (fs ++ [.a x])) (h : ∀ a, Tri E (pt a l :: L) (fd T (fs ++ [.a a])) Q) : Tri E L (fd T fs) Q := fd_g _ _ (by rw [e]; exact wq h)
theorem Fd_ld {T : Tree} {fs : List Fd} {id off n : Nat} {c l : List Sc} (e : fd T (fs ++ [.g]) = .ld id off n fun x => fd T (fs ++ [.l x])) (p : Pick L (pt id c) R) (hl : (c.drop off).take n = l) (hn : off + n ≤ c.length)
    (h : Tri E L (fd T (fs ++ [.l l])) Q) : Tri E L (fd T fs) Q := fd_g _ _ (by rw [e]; exact Tri.ldE p hl hn h)
theorem Fd_call {T : Tree} {fs : List Fd} {g : FuncId} {args : List AV} {v0 : AV} {RR : AV → List Assn → Prop} (e : fd T (fs ++ [.g]) = .call g args fun x => fd T (fs ++ [.v x])) (hf : FSpec E g args [] RR) (hr : ∀ v L', RR v L' → v = v0 ∧ L' = [])
    (h : Tri E L (fd T (fs ++ [.v v0])) Q) : Tri E L (fd T fs) Q := by
  refine fd_g _ _ ?_
  rw [e]
  refine Tri.call hf Picks.nil ?_
  intro v L' hv
  obtain ⟨rfl, rfl⟩ := hr v L' hv
  exact h
end
/-! ref06.Right of a relay's bytes -/
def kOk (k : Int) : Prop := k = 2 ∨ k = 3 ∨ k = 4 ∨ k = 5
def mB (k : Int) (X : ByteArray) : List Sc := [.i .i64 5, .i .i64 9, .i .u32 0, .i .i64 k, .i .u32 0, .i .u16 0, .cx .f64 0 0, .b false, .s X, .sl none]
noncomputable def T91 (k : Int) (X : ByteArray) : Tree := bodyK T (hs 91) Tryz.f91 [.ag (mB k X)]
theorem s91_0 (X : ByteArray) {k : Int} (hk : kOk k) : fd (T91 k X) ([] ++ [.g]) = .al (mB k X) fun x => fd (T91 k X) ([] ++ [.a x]) := by kernel_rfl
theorem s91_1 (X : ByteArray) {k : Int} (hk : kOk k) (a : Nat) : fd (T91 k X) ([.a a] ++ [.g]) = .ld a 0 1 fun x => fd (T91 k X) ([.a a] ++ [.l x]) := by kernel_rfl
theorem s91_2 (X : ByteArray) {k : Int} (hk : kOk k) (a : Nat) : fd (T91 k X) ([.a a, .l [.i .i64 5]] ++ [.g]) = .call 92 [.sc (.i .i64 5)] fun x => fd (T91 k X) ([.a a, .l [.i .i64 5]] ++ [.v x]) := by kernel_rfl
theorem s91_3 (X : ByteArray) {k : Int} (hk : kOk k) (a : Nat) : fd (T91 k X) ([.a a, .l [.i .i64 5], .v (.tu [.sc (.s ⟨⟨[110, 98]⟩⟩), .sc (.b true)])] ++ [.g]) = .ld a 1 1 fun x => fd (T91 k X) ([.a a, .l [.i .i64 5], .v (.tu [.sc (.s ⟨⟨[110, 98]⟩⟩), .sc (.b true)])] ++ [.l x]) := by kernel_rfl
theorem s91_4 (X : ByteArray) {k : Int} (hk : kOk k) (a : Nat) : fd (T91 k X) ([.a a, .l [.i .i64 5], .v (.tu [.sc (.s ⟨⟨[110, 98]⟩⟩), .sc (.b true)]), .l [.i .i64 9]] ++ [.g]) = .ld a 1 1 fun x => fd (T91 k X) ([.a a, .l [.i .i64 5], .v (.tu [.sc (.s ⟨⟨[110, 98]⟩⟩), .sc (.b true)]), .l [.i .i64 9]] ++ [.l x]) := by kernel_rfl
theorem s91_5 (X : ByteArray) {k : Int} (hk : kOk k) (a : Nat) : fd (T91 k X) ([.a a, .l [.i .i64 5], .v (.tu [.sc (.s ⟨⟨[110, 98]⟩⟩), .sc (.b true)]), .l [.i .i64 9], .l [.i .i64 9]] ++ [.g]) = .call 186 [.sc (.s ⟨⟨[110, 98]⟩⟩), .sc (.i .u8 110)] fun x => fd (T91 k X) ([.a a, .l [.i .i64 5], .v (.tu [.sc (.s ⟨⟨[110, 98]⟩⟩), .sc (.b true)]), .l [.i .i64 9], .l [.i .i64 9]] ++ [.v x]) := by kernel_rfl
theorem s91_6 (X : ByteArray) {k : Int} (hk : kOk k) (a : Nat) : fd (T91 k X) ([.a a, .l [.i .i64 5], .v (.tu [.sc (.s ⟨⟨[110, 98]⟩⟩), .sc (.b true)]), .l [.i .i64 9], .l [.i .i64 9], .v (.sc (.b true))] ++ [.g]) = .call 186 [.sc (.s ⟨⟨[110, 98]⟩⟩), .sc (.i .u8 97)] fun x => fd (T91 k X) ([.a a, .l [.i .i64 5], .v (.tu [.sc (.s ⟨⟨[110, 98]⟩⟩), .sc (.b true)]), .l [.i .i64 9], .l [.i .i64 9], .v (.sc (.b true))] ++ [.v x]) := by kernel_rfl
theorem s91_7 (X : ByteArray) {k : Int} (hk : kOk k) (a : Nat) : fd (T91 k X) ([.a a, .l [.i .i64 5], .v (.tu [.sc (.s ⟨⟨[110, 98]⟩⟩), .sc (.b true)]), .l [.i .i64 9], .l [.i .i64 9], .v (.sc (.b true)), .v (.sc (.b false))] ++ [.g]) = .call 186 [.sc (.s ⟨⟨[110, 98]⟩⟩), .sc (.i .u8 112)] fun x => fd (T91 k X) ([.a a, .l [.i .i64 5], .v (.tu [.sc (.s ⟨⟨[110, 98]⟩⟩), .sc (.b true)]), .l [.i .i64 9], .l [.i .i64 9], .v (.sc (.b true)), .v (.sc (.b false))] ++ [.v x]) := by kernel_rfl
theorem s91_8 (X : ByteArray) {k : Int} (hk : kOk k) (a : Nat) : fd (T91 k X) ([.a a, .l [.i .i64 5], .v (.tu [.sc (.s ⟨⟨[110, 98]⟩⟩), .sc (.b true)]), .l [.i .i64 9], .l [.i .i64 9], .v (.sc (.b true)), .v (.sc (.b false)), .v (.sc (.b false))] ++ [.g]) = .call 186 [.sc (.s ⟨⟨[110, 98]⟩⟩), .sc (.i .u8 102)] fun x => fd (T91 k X) ([.a a, .l [.i .i64 5], .v (.tu [.sc (.s ⟨⟨[110, 98]⟩⟩), .sc (.b true)]), .l [.i .i64 9], .l [.i .i64 9], .v (.sc (.b true)), .v (.sc (.b false)), .v (.sc (.b false))] ++ [.v x]) := by kernel_rfl
theorem s91_9 (X : ByteArray) {k : Int} (hk : kOk k) (a : Nat) : fd (T91 k X) ([.a a, .l [.i .i64 5], .v (.tu [.sc (.s ⟨⟨[110, 98]⟩⟩), .sc (.b true)]), .l [.i .i64 9], .l [.i .i64 9], .v (.sc (.b true)), .v (.sc (.b false)), .v (.sc (.b false)), .v (.sc (.b false))] ++ [.g]) = .call 186 [.sc (.s ⟨⟨[110, 98]⟩⟩), .sc (.i .u8 98)] fun x => fd (T91 k X) ([.a a, .l [.i .i64 5], .v (.tu [.sc (.s ⟨⟨[110, 98]⟩⟩), .sc (.b true)]), .l [.i .i64 9], .l [.i .i64 9], .v (.sc (.b true)), .v (.sc (.b false)), .v (.sc (.b false)), .v (.sc (.b false))] ++ [.v x]) := by kernel_rfl
theorem s91_10 (X : ByteArray) {k : Int} (hk : kOk k) (a : Nat) : fd (T91 k X) ([.a a, .l [.i .i64 5], .v (.tu [.sc (.s ⟨⟨[110, 98]⟩⟩), .sc (.b true)]), .l [.i .i64 9], .l [.i .i64 9], .v (.sc (.b true)), .v (.sc (.b false)), .v (.sc (.b false)), .v (.sc (.b false)), .v (.sc (.b true))] ++ [.g]) = .call 186 [.sc (.s ⟨⟨[110, 98]⟩⟩), .sc (.i .u8 114)] fun x => fd (T91 k X) ([.a a, .l [.i .i64 5], .v (.tu [.sc (.s ⟨⟨[110, 98]⟩⟩), .sc (.b true)]), .l [.i .i64 9], .l [.i .i64 9], .v (.sc (.b true)), .v (.sc (.b false)), .v (.sc (.b false)), .v (.sc (.b false)), .v (.sc (.b true))] ++ [.v x]) := by kernel_rfl
theorem s91_11 (X : ByteArray) {k : Int} (hk : kOk k) (a : Nat) : fd (T91 k X) ([.a a, .l [.i .i64 5], .v (.tu [.sc (.s ⟨⟨[110, 98]⟩⟩), .sc (.b true)]), .l [.i .i64 9], .l [.i .i64 9], .v (.sc (.b true)), .v (.sc (.b false)), .v (.sc (.b false)), .v (.sc (.b false)), .v (.sc (.b true)), .v (.sc (.b false))] ++ [.g]) = .ld a 3 1 fun x => fd (T91 k X) ([.a a, .l [.i .i64 5], .v (.tu [.sc (.s ⟨⟨[110, 98]⟩⟩), .sc (.b true)]), .l [.i .i64 9], .l [.i .i64 9], .v (.sc (.b true)), .v (.sc (.b false)), .v (.sc (.b false)), .v (.sc (.b false)), .v (.sc (.b true)), .v (.sc (.b false))] ++ [.l x]) := by kernel_rfl
theorem s91_12 (X : ByteArray) {k : Int} (hk : kOk k) (a : Nat) : fd (T91 k X) ([.a a, .l [.i .i64 5], .v (.tu [.sc (.s ⟨⟨[110, 98]⟩⟩), .sc (.b true)]), .l [.i .i64 9], .l [.i .i64 9], .v (.sc (.b true)), .v (.sc (.b false)), .v (.sc (.b false)), .v (.sc (.b false)), .v (.sc (.b true)), .v (.sc (.b false)), .l [.i .i64 k]] ++ [.g]) = .ld a 3 1 fun x => fd (T91 k X) ([.a a, .l [.i .i64 5], .v (.tu [.sc (.s ⟨⟨[110, 98]⟩⟩), .sc (.b true)]), .l [.i .i64 9], .l [.i .i64 9], .v (.sc (.b true)), .v (.sc (.b false)), .v (.sc (.b false)), .v (.sc (.b false)), .v (.sc (.b true)), .v (.sc (.b false)), .l [.i .i64 k]] ++ [.l x]) := by rcases hk with rfl | rfl | rfl | rfl <;> kernel_rfl
theorem s91_13 (X : ByteArray) {k : Int} (hk : kOk k) (a : Nat) : fd (T91 k X) ([.a a, .l [.i .i64 5], .v (.tu [.sc (.s ⟨⟨[110, 98]⟩⟩), .sc (.b true)]), .l [.i .i64 9], .l [.i .i64 9], .v (.sc (.b true)), .v (.sc (.b false)), .v (.sc (.b false)), .v (.sc (.b false)), .v (.sc (.b true)), .v (.sc (.b false)), .l [.i .i64 k], .l [.i .i64 k]] ++ [.g]) = .ld a 4 2 fun x => fd (T91 k X) ([.a a, .l [.i .i64 5], .v (.tu [.sc (.s ⟨⟨[110, 98]⟩⟩), .sc (.b true)]), .l [.i .i64 9], .l [.i .i64 9], .v (.sc (.b true)), .v (.sc (.b false)), .v (.sc (.b false)), .v (.sc (.b false)), .v (.sc (.b true)), .v (.sc (.b false)), .l [.i .i64 k], .l [.i .i64 k]] ++ [.l x]) := by rcases hk with rfl | rfl | rfl | rfl <;> kernel_rfl
theorem s91_14 (X : ByteArray) {k : Int} (hk : kOk k) (a : Nat) : fd (T91 k X) ([.a a, .l [.i .i64 5], .v (.tu [.sc (.s ⟨⟨[110, 98]⟩⟩), .sc (.b true)]), .l [.i .i64 9], .l [.i .i64 9], .v (.sc (.b true)), .v (.sc (.b false)), .v (.sc (.b false)), .v (.sc (.b false)), .v (.sc (.b true)), .v (.sc (.b false)), .l [.i .i64 k], .l [.i .i64 k], .l [.i .u32 0, .i .u16 0]] ++ [.g]) = .call 120 [.ag [.i .u32 0, .i .u16 0]] fun x => fd (T91 k X) ([.a a, .l [.i .i64 5], .v (.tu [.sc (.s ⟨⟨[110, 98]⟩⟩), .sc (.b true)]), .l [.i .i64 9], .l [.i .i64 9], .v (.sc (.b true)), .v (.sc (.b false)), .v (.sc (.b false)), .v (.sc (.b false)), .v (.sc (.b true)), .v (.sc (.b false)), .l [.i .i64 k], .l [.i .i64 k], .l [.i .u32 0, .i .u16 0]] ++ [.v x]) := by rcases hk with rfl | rfl | rfl | rfl <;> kernel_rfl
theorem s91_15 (X : ByteArray) {k : Int} (hk : kOk k) (a : Nat) : fd (T91 k X) ([.a a, .l [.i .i64 5], .v (.tu [.sc (.s ⟨⟨[110, 98]⟩⟩), .sc (.b true)]), .l [.i .i64 9], .l [.i .i64 9], .v (.sc (.b true)), .v (.sc (.b false)), .v (.sc (.b false)), .v (.sc (.b false)), .v (.sc (.b true)), .v (.sc (.b false)), .l [.i .i64 k], .l [.i .i64 k], .l [.i .u32 0, .i .u16 0], .v (.sc (.b true))] ++ [.g]) = .ld a 4 2 fun x => fd (T91 k X) ([.a a, .l [.i .i64 5], .v (.tu [.sc (.s ⟨⟨[110, 98]⟩⟩), .sc (.b true)]), .l [.i .i64 9], .l [.i .i64 9], .v (.sc (.b true)), .v (.sc (.b false)), .v (.sc (.b false)), .v (.sc (.b false)), .v (.sc (.b true)), .v (.sc (.b false)), .l [.i .i64 k], .l [.i .i64 k], .l [.i .u32 0, .i .u16 0], .v (.sc (.b true))] ++ [.l x]) := by rcases hk with rfl | rfl | rfl | rfl <;> kernel_rfl
theorem s91_16 (X : ByteArray) {k : Int} (hk : kOk k) (a : Nat) : fd (T91 k X) ([.a a, .l [.i .i64 5], .v (.tu [.sc (.s ⟨⟨[110, 98]⟩⟩), .sc (.b true)]), .l [.i .i64 9], .l [.i .i64 9], .v (.sc (.b true)), .v (.sc (.b false)), .v (.sc (.b false)), .v (.sc (.b false)), .v (.sc (.b true)), .v (.sc (.b false)), .l [.i .i64 k], .l [.i .i64 k], .l [.i .u32 0, .i .u16 0], .v (.sc (.b true)), .l [.i .u32 0, .i .u16 0]] ++ [.g]) = .ld a 6 1 fun x => fd (T91 k X) ([.a a, .l [.i .i64 5], .v (.tu [.sc (.s ⟨⟨[110, 98]⟩⟩), .sc (.b true)]), .l [.i .i64 9], .l [.i .i64 9], .v (.sc (.b true)), .v (.sc (.b false)), .v (.sc (.b false)), .v (.sc (.b false)), .v (.sc (.b true)), .v (.sc (.b false)), .l [.i .i64 k], .l [.i .i64 k], .l [.i .u32 0, .i .u16 0], .v (.sc (.b true)), .l [.i .u32 0, .i .u16 0]] ++ [.l x]) := by rcases hk with rfl | rfl | rfl | rfl <;> kernel_rfl
theorem s91_17 (X : ByteArray) {k : Int} (hk : kOk k) (a : Nat) : fd (T91 k X) ([.a a, .l [.i .i64 5], .v (.tu [.sc (.s ⟨⟨[110, 98]⟩⟩), .sc (.b true)]), .l [.i .i64 9], .l [.i .i64 9], .v (.sc (.b true)), .v (.sc (.b false)), .v (.sc (.b false)), .v (.sc (.b false)), .v (.sc (.b true)), .v (.sc (.b false)), .l [.i .i64 k], .l [.i .i64 k], .l [.i .u32 0, .i .u16 0], .v (.sc (.b true)), .l [.i .u32 0, .i .u16 0], .l [.cx .f64 0 0]] ++ [.g]) = .call 121 [.sc (.cx .f64 0 0)] fun x => fd (T91 k X) ([.a a, .l [.i .i64 5], .v (.tu [.sc (.s ⟨⟨[110, 98]⟩⟩), .sc (.b true)]), .l [.i .i64 9], .l [.i .i64 9], .v (.sc (.b true)), .v (.sc (.b false)), .v (.sc (.b false)), .v (.sc (.b false)), .v (.sc (.b true)), .v (.sc (.b false)), .l [.i .i64 k], .l [.i .i64 k], .l [.i .u32 0, .i .u16 0], .v (.sc (.b true)), .l [.i .u32 0, .i .u16 0], .l [.cx .f64 0 0]] ++ [.v x]) := by rcases hk with rfl | rfl | rfl | rfl <;> kernel_rfl
theorem s91_18 (X : ByteArray) {k : Int} (hk : kOk k) (a : Nat) : fd (T91 k X) ([.a a, .l [.i .i64 5], .v (.tu [.sc (.s ⟨⟨[110, 98]⟩⟩), .sc (.b true)]), .l [.i .i64 9], .l [.i .i64 9], .v (.sc (.b true)), .v (.sc (.b false)), .v (.sc (.b false)), .v (.sc (.b false)), .v (.sc (.b true)), .v (.sc (.b false)), .l [.i .i64 k], .l [.i .i64 k], .l [.i .u32 0, .i .u16 0], .v (.sc (.b true)), .l [.i .u32 0, .i .u16 0], .l [.cx .f64 0 0], .v (.sc (.b true))] ++ [.g]) = .ld a 6 1 fun x => fd (T91 k X) ([.a a, .l [.i .i64 5], .v (.tu [.sc (.s ⟨⟨[110, 98]⟩⟩), .sc (.b true)]), .l [.i .i64 9], .l [.i .i64 9], .v (.sc (.b true)), .v (.sc (.b false)), .v (.sc (.b false)), .v (.sc (.b false)), .v (.sc (.b true)), .v (.sc (.b false)), .l [.i .i64 k], .l [.i .i64 k], .l [.i .u32 0, .i .u16 0], .v (.sc (.b true)), .l [.i .u32 0, .i .u16 0], .l [.cx .f64 0 0], .v (.sc (.b true))] ++ [.l x]) := by rcases hk with rfl | rfl | rfl | rfl <;> kernel_rfl
theorem s91_19 (X : ByteArray) {k : Int} (hk : kOk k) (a : Nat) : fd (T91 k X) ([.a a, .l [.i .i64 5], .v (.tu [.sc (.s ⟨⟨[110, 98]⟩⟩), .sc (.b true)]), .l [.i .i64 9], .l [.i .i64 9], .v (.sc (.b true)), .v (.sc (.b false)), .v (.sc (.b false)), .v (.sc (.b false)), .v (.sc (.b true)), .v (.sc (.b false)), .l [.i .i64 k], .l [.i .i64 k], .l [.i .u32 0, .i .u16 0], .v (.sc (.b true)), .l [.i .u32 0, .i .u16 0], .l [.cx .f64 0 0], .v (.sc (.b true)), .l [.cx .f64 0 0]] ++ [.g]) = .call 187 [.sc (.cx .f64 0 0)] fun x => fd (T91 k X) ([.a a, .l [.i .i64 5], .v (.tu [.sc (.s ⟨⟨[110, 98]⟩⟩), .sc (.b true)]), .l [.i .i64 9], .l [.i .i64 9], .v (.sc (.b true)), .v (.sc (.b false)), .v (.sc (.b false)), .v (.sc (.b false)), .v (.sc (.b true)), .v (.sc (.b false)), .l [.i .i64 k], .l [.i .i64 k], .l [.i .u32 0, .i .u16 0], .v (.sc (.b true)), .l [.i .u32 0, .i .u16 0], .l [.cx .f64 0 0], .v (.sc (.b true)), .l [.cx .f64 0 0]] ++ [.v x]) := by rcases hk with rfl | rfl | rfl | rfl <;> kernel_rfl
theorem s91_20 (X : ByteArray) {k : Int} (hk : kOk k) (a : Nat) : fd (T91 k X) ([.a a, .l [.i .i64 5], .v (.tu [.sc (.s ⟨⟨[110, 98]⟩⟩), .sc (.b true)]), .l [.i .i64 9], .l [.i .i64 9], .v (.sc (.b true)), .v (.sc (.b false)), .v (.sc (.b false)), .v (.sc (.b false)), .v (.sc (.b true)), .v (.sc (.b false)), .l [.i .i64 k], .l [.i .i64 k], .l [.i .u32 0, .i .u16 0], .v (.sc (.b true)), .l [.i .u32 0, .i .u16 0], .l [.cx .f64 0 0], .v (.sc (.b true)), .l [.cx .f64 0 0], .v (.sc (.b true))] ++ [.g]) = .ld a 6 1 fun x => fd (T91 k X) ([.a a, .l [.i .i64 5], .v (.tu [.sc (.s ⟨⟨[110, 98]⟩⟩), .sc (.b true)]), .l [.i .i64 9], .l [.i .i64 9], .v (.sc (.b true)), .v (.sc (.b false)), .v (.sc (.b false)), .v (.sc (.b false)), .v (.sc (.b true)), .v (.sc (.b false)), .l [.i .i64 k], .l [.i .i64 k], .l [.i .u32 0, .i .u16 0], .v (.sc (.b true)), .l [.i .u32 0, .i .u16 0], .l [.cx .f64 0 0], .v (.sc (.b true)), .l [.cx .f64 0 0], .v (.sc (.b true))] ++ [.l x]) := by rcases hk with rfl | rfl | rfl | rfl <;> kernel_rfl
theorem s91_21 (X : ByteArray) {k : Int} (hk : kOk k) (a : Nat) : fd (T91 k X) ([.a a, .l [.i .i64 5], .v (.tu [.sc (.s ⟨⟨[110, 98]⟩⟩), .sc (.b true)]), .l [.i .i64 9], .l [.i .i64 9], .v (.sc (.b true)), .v (.sc (.b false)), .v (.sc (.b false)), .v (.sc (.b false)), .v (.sc (.b true)), .v (.sc (.b false)), .l [.i .i64 k], .l [.i .i64 k], .l [.i .u32 0, .i .u16 0], .v (.sc (.b true)), .l [.i .u32 0, .i .u16 0], .l [.cx .f64 0 0], .v (.sc (.b true)), .l [.cx .f64 0 0], .v (.sc (.b true)), .l [.cx .f64 0 0]] ++ [.g]) = .ld a 7 1 fun x => fd (T91 k X) ([.a a, .l [.i .i64 5], .v (.tu [.sc (.s ⟨⟨[110, 98]⟩⟩), .sc (.b true)]), .l [.i .i64 9], .l [.i .i64 9], .v (.sc (.b true)), .v (.sc (.b false)), .v (.sc (.b false)), .v (.sc (.b false)), .v (.sc (.b true)), .v (.sc (.b false)), .l [.i .i64 k], .l [.i .i64 k], .l [.i .u32 0, .i .u16 0], .v (.sc (.b true)), .l [.i .u32 0, .i .u16 0], .l [.cx .f64 0 0], .v (.sc (.b true)), .l [.cx .f64 0 0], .v (.sc (.b true)), .l [.cx .f64 0 0]] ++ [.l x]) := by rcases hk with rfl | rfl | rfl | rfl <;> kernel_rfl
theorem s91_22 (X : ByteArray) {k : Int} (hk : kOk k) (a : Nat) : fd (T91 k X) ([.a a, .l [.i .i64 5], .v (.tu [.sc (.s ⟨⟨[110, 98]⟩⟩), .sc (.b true)]), .l [.i .i64 9], .l [.i .i64 9], .v (.sc (.b true)), .v (.sc (.b false)), .v (.sc (.b false)), .v (.sc (.b false)), .v (.sc (.b true)), .v (.sc (.b false)), .l [.i .i64 k], .l [.i .i64 k], .l [.i .u32 0, .i .u16 0], .v (.sc (.b true)), .l [.i .u32 0, .i .u16 0], .l [.cx .f64 0 0], .v (.sc (.b true)), .l [.cx .f64 0 0], .v (.sc (.b true)), .l [.cx .f64 0 0], .l [.b false]] ++ [.g]) = .ld a 8 1 fun x => fd (T91 k X) ([.a a, .l [.i .i64 5], .v (.tu [.sc (.s ⟨⟨[110, 98]⟩⟩), .sc (.b true)]), .l [.i .i64 9], .l [.i .i64 9], .v (.sc (.b true)), .v (.sc (.b false)), .v (.sc (.b false)), .v (.sc (.b false)), .v (.sc (.b true)), .v (.sc (.b false)), .l [.i .i64 k], .l [.i .i64 k], .l [.i .u32 0, .i .u16 0], .v (.sc (.b true)), .l [.i .u32 0, .i .u16 0], .l [.cx .f64 0 0], .v (.sc (.b true)), .l [.cx .f64 0 0], .v (.sc (.b true)), .l [.cx .f64 0 0], .l [.b false]] ++ [.l x]) := by rcases hk with rfl | rfl | rfl | rfl <;> kernel_rfl
def t91z_b25  : List AV → Tree := fun l26 =>
  .asP (l26.getD 0 .un) fun o27 =>
  .nn o27 fun a28 a29 =>
  .asI .i64 (l26.getD 1 .un) fun n30 =>
  .ld a28 (a29 + 9) 1 fun l31 =>
  .nth l31 0 fun v32 =>
  .asL (.sc v32) fun o33 =>
  cond (decide (n30 < (slLen o33)))
    (.ld a28 (a29 + 9) 1 fun l34 =>
    .nth l34 0 fun v35 =>
    .asL (.sc v35) fun o36 =>
    .ixS 5 o36 n30 fun a37 a38 a39 =>
    .ld a37 (a38 + (a39 * 5)) 5 fun l40 =>
    .nth l40 0 fun v41 =>
    .asI .i64 (.sc v41) fun n42 =>
    .nth l40 1 fun v43 =>
    .asI .i64 (.sc v43) fun n44 =>
    .nth l40 2 fun v45 =>
    .asI .u32 (.sc v45) fun n46 =>
    .nth l40 3 fun v47 =>
    .asI .u32 (.sc v47) fun n48 =>
    .nth l40 4 fun v49 =>
    .asI .u16 (.sc v49) fun n50 =>
    .call 122 [(.ag [(.i .i64 n42), (.i .i64 n44), (.i .u32 n46), (.i .u32 n48), (.i .u16 n50)])] fun v51 =>
    .asB v51 fun b52 =>
    cond (!b52)
      (.ret 1 [(.sc (.b .false))])
      (.ret 0 [(.sc (.p (.some (a28, a29)))), (.sc (.i .i64 (IntKind.wrap .i64 (n30 + (1 : Int)))))]))
    (.ret 2 [])
def t91z_k25  : Nat → List AV → Tree := fun a53 l54 =>
  .tg a53 2
    (.ret 0 [(.sc (.b .true))])
    (.tg a53 1
      (.asB (l54.getD 0 .un) fun b55 =>
      .ret 0 [(.sc (.b b55))])
      (.fail))
def t91z_k15  : Nat → List AV → Tree := fun a16 l17 =>
  .tg a16 0
    (.asP (l17.getD 0 .un) fun o18 =>
    .nn o18 fun a19 a20 =>
    .asI .i64 (l17.getD 1 .un) fun n21 =>
    .ld a19 (a20 + 9) 1 fun l22 =>
    .nth l22 0 fun v23 =>
    .asL (.sc v23) fun o24 =>
    cond (decide ((slLen o24) > n21))
      (.ret 0 [(.sc (.b .false))])
      (.loop t91z_b25 [(.sc (.p (.some (a19, a20)))), (.sc (.i .i64 (0 : Int)))] t91z_k25))
    (.fail)
def t91z_b69  : List AV → Tree := fun l70 =>
  .asP (l70.getD 0 .un) fun o71 =>
  .nn o71 fun a72 a73 =>
  .asI .i64 (l70.getD 1 .un) fun n74 =>
  .ld a72 (a73 + 9) 1 fun l75 =>
  .nth l75 0 fun v76 =>
  .asL (.sc v76) fun o77 =>
  cond (decide (n74 < (slLen o77)))
    (.ld a72 (a73 + 9) 1 fun l78 =>
    .nth l78 0 fun v79 =>
    .asL (.sc v79) fun o80 =>
    .ixS 5 o80 n74 fun a81 a82 a83 =>
    .ld a81 (a82 + (a83 * 5)) 5 fun l84 =>
    .nth l84 0 fun v85 =>
    .asI .i64 (.sc v85) fun n86 =>
    .nth l84 1 fun v87 =>
    .asI .i64 (.sc v87) fun n88 =>
    .nth l84 2 fun v89 =>
    .asI .u32 (.sc v89) fun n90 =>
    .nth l84 3 fun v91 =>
    .asI .u32 (.sc v91) fun n92 =>
    .nth l84 4 fun v93 =>
    .asI .u16 (.sc v93) fun n94 =>
    .call 122 [(.ag [(.i .i64 n86), (.i .i64 n88), (.i .u32 n90), (.i .u32 n92), (.i .u16 n94)])] fun v95 =>
    .asB v95 fun b96 =>
    cond (!b96)
      (.ret 1 [(.sc (.b .false))])
      (.ret 0 [(.sc (.p (.some (a72, a73)))), (.sc (.i .i64 (IntKind.wrap .i64 (n74 + (1 : Int)))))]))
    (.ret 2 [])
def t91z_k69  : Nat → List AV → Tree := fun a97 l98 =>
  .tg a97 2
    (.ret 0 [(.sc (.b .true))])
    (.tg a97 1
      (.asB (l98.getD 0 .un) fun b99 =>
      .ret 0 [(.sc (.b b99))])
      (.fail))
def t91z_k59  : Nat → List AV → Tree := fun a60 l61 =>
  .tg a60 0
    (.asP (l61.getD 0 .un) fun o62 =>
    .nn o62 fun a63 a64 =>
    .asI .i64 (l61.getD 1 .un) fun n65 =>
    .ld a63 (a64 + 9) 1 fun l66 =>
    .nth l66 0 fun v67 =>
    .asL (.sc v67) fun o68 =>
    cond (decide ((slLen o68) > n65))
      (.ret 0 [(.sc (.b .false))])
      (.loop t91z_b69 [(.sc (.p (.some (a63, a64)))), (.sc (.i .i64 (0 : Int)))] t91z_k69))
    (.fail)
def t91z_k5  : Nat → List AV → Tree := fun a6 l7 =>
  .tg a6 0
    (.asP (l7.getD 0 .un) fun o8 =>
    .nn o8 fun a9 a10 =>
    .asI .i64 (l7.getD 1 .un) fun n11 =>
    .ld a9 (a10 + 0) 1 fun l12 =>
    .nth l12 0 fun v13 =>
    .asI .i64 (.sc v13) fun n14 =>
    cond (n14 == (13 : Int))
      (.join (
        .ret 0 [(.sc (.p (.some (a9, a10)))), (.sc (.i .i64 (32 : Int)))]) t91z_k15)
      (.ld a9 (a10 + 0) 1 fun l56 =>
      .nth l56 0 fun v57 =>
      .asI .i64 (.sc v57) fun n58 =>
      .join (
        cond (n58 == (15 : Int))
          (.ret 0 [(.sc (.p (.some (a9, a10)))), (.sc (.i .i64 (32 : Int)))])
          (.ret 0 [(.sc (.p (.some (a9, a10)))), (.sc (.i .i64 n11))])) t91z_k59))
    (.fail)
def t91z (X : ByteArray) (a : Nat) : Tree :=
  .nth [(.s X)] 0 fun v0 =>
  .asS (.sc v0) fun x1 =>
  cond (decide ((((ByteArray.size x1) : Nat) : Int) < (1 : Int)))
    (.ret 0 [(.sc (.b .false))])
    (.ld a (0 + 8) 1 fun l2 =>
    .nth l2 0 fun v3 =>
    .asS (.sc v3) fun x4 =>
    cond (decide ((((ByteArray.size x4) : Nat) : Int) > (900 : Int)))
      (.ret 0 [(.sc (.b .false))])
      (.join (
        .ret 0 [(.sc (.p (.some (a, 0)))), (.sc (.i .i64 (0 : Int)))]) t91z_k5))
theorem s91_z (X : ByteArray) {k : Int} (hk : kOk k) (a : Nat) : fd (T91 k X) [.a a, .l [.i .i64 5], .v (.tu [.sc (.s ⟨⟨[110, 98]⟩⟩), .sc (.b true)]), .l [.i .i64 9], .l [.i .i64 9], .v (.sc (.b true)), .v (.sc (.b false)), .v (.sc (.b false)), .v (.sc (.b false)), .v (.sc (.b true)), .v (.sc (.b false)), .l [.i .i64 k], .l [.i .i64 k], .l [.i .u32 0, .i .u16 0], .v (.sc (.b true)), .l [.i .u32 0, .i .u16 0], .l [.cx .f64 0 0], .v (.sc (.b true)), .l [.cx .f64 0 0], .v (.sc (.b true)), .l [.cx .f64 0 0], .l [.b false], .l [.s X]] = t91z X a := by rcases hk with rfl | rfl | rfl | rfl <;> kernel_rfl

end Go.Proofs.YtpbhfolaoccpkaaGreat
