/- The abstract machine over a heap that is data (a tree by the object's number), for long runs by the kernel. -/
import Derived.Test.YtpbhfolaoccpkaaGreatFwX
set_option linter.unusedVariables false
set_option linter.unusedSimpArgs false
namespace Go.Proofs.YtpbhfolaoccpkaaGreat.Fw
open Go
inductive Tr where
  | lf
  | nd (l r : Tr) (v : Option AO)
def Tr.get : Tr → Nat → Option AO
  | .lf, _ => none
  | .nd l r v, i => if i = 0 then v else if i % 2 = 1 then l.get ((i - 1) / 2) else r.get ((i - 2) / 2)
def Tr.set : Nat → Tr → Nat → Option AO → Tr
  | 0, t, _, _ => t
  | k + 1, .lf, i, x => if i = 0 then .nd .lf .lf x else if i % 2 = 1 then .nd (Tr.set k .lf ((i - 1) / 2) x) .lf none else .nd .lf (Tr.set k .lf ((i - 2) / 2) x) none
  | k + 1, .nd l r v, i, x => if i = 0 then .nd l r x else if i % 2 = 1 then .nd (Tr.set k l ((i - 1) / 2) x) r v else .nd l (Tr.set k r ((i - 2) / 2) x) v
theorem Tr.get_set (x : Option AO) : ∀ (k : Nat) (t : Tr) (i : Nat), i + 1 < 2 ^ k → ∀ j, (Tr.set k t i x).get j = if j = i then x else t.get j
  | 0, t, i, h, j => by simp at h
  | k + 1, .lf, i, h, j => by
    unfold Tr.set
    have hk : (2 : Nat) ^ (k + 1) = 2 * 2 ^ k := by rw [Nat.pow_succ]; omega
    by_cases hi : i = 0
    · subst hi
      rw [if_pos rfl]
      unfold Tr.get
      by_cases hj : j = 0
      · rw [if_pos hj, if_pos hj]
      · rw [if_neg hj, if_neg hj]; split <;> rfl
    · rw [if_neg hi]
      by_cases ho : i % 2 = 1
      · rw [if_pos ho]
        have ih := Tr.get_set x k .lf ((i - 1) / 2) (by omega)
        unfold Tr.get
        by_cases hj : j = 0
        · rw [if_pos hj, if_neg (by omega)]
        · rw [if_neg hj]
          by_cases hjo : j % 2 = 1
          · rw [if_pos hjo, ih]
            by_cases e : j = i
            · subst e; rw [if_pos rfl, if_pos rfl]
            · rw [if_neg (by omega), if_neg e]; rfl
          · rw [if_neg hjo, if_neg (by omega)]; rfl
      · rw [if_neg ho]
        have ih := Tr.get_set x k .lf ((i - 2) / 2) (by omega)
        unfold Tr.get
        by_cases hj : j = 0
        · rw [if_pos hj, if_neg (by omega)]
        · rw [if_neg hj]
          by_cases hjo : j % 2 = 1
          · rw [if_pos hjo, if_neg (by omega)]; rfl
          · rw [if_neg hjo, ih]
            by_cases e : j = i
            · subst e; rw [if_pos rfl, if_pos rfl]
            · rw [if_neg (by omega), if_neg e]; rfl
  | k + 1, .nd l r v, i, h, j => by
    unfold Tr.set
    have hk : (2 : Nat) ^ (k + 1) = 2 * 2 ^ k := by rw [Nat.pow_succ]; omega
    by_cases hi : i = 0
    · subst hi
      rw [if_pos rfl]
      unfold Tr.get
      by_cases hj : j = 0
      · rw [if_pos hj, if_pos hj]
      · rw [if_neg hj, if_neg hj, if_neg hj]
    · rw [if_neg hi]
      by_cases ho : i % 2 = 1
      · rw [if_pos ho]
        have ih := Tr.get_set x k l ((i - 1) / 2) (by omega)
        unfold Tr.get
        by_cases hj : j = 0
        · rw [if_pos hj, if_neg (by omega), if_pos hj]
        · rw [if_neg hj, if_neg hj]
          by_cases hjo : j % 2 = 1
          · rw [if_pos hjo, if_pos hjo, ih]
            by_cases e : j = i
            · subst e; rw [if_pos rfl, if_pos rfl]
            · rw [if_neg (by omega), if_neg e]
          · rw [if_neg hjo, if_neg hjo, if_neg (by omega)]
      · rw [if_neg ho]
        have ih := Tr.get_set x k r ((i - 2) / 2) (by omega)
        unfold Tr.get
        by_cases hj : j = 0
        · rw [if_pos hj, if_neg (by omega), if_pos hj]
        · rw [if_neg hj, if_neg hj]
          by_cases hjo : j % 2 = 1
          · rw [if_pos hjo, if_pos hjo, if_neg (by omega)]
          · rw [if_neg hjo, if_neg hjo, ih]
            by_cases e : j = i
            · subst e; rw [if_pos rfl, if_pos rfl]
            · rw [if_neg (by omega), if_neg e]

structure HT where
  next : Nat
  t : Tr
def HT.rep (h : HT) : AH := ⟨h.next, h.t.get⟩
def htMax : Nat := 1099511627774
def HT.put (h : HT) (id : Nat) (o : Option AO) : Option HT := if id ≤ htMax then some ⟨h.next, h.t.set 40 id o⟩ else none
def HT.new (h : HT) (o : AO) : Option HT := if h.next ≤ htMax then some ⟨h.next + 1, h.t.set 40 h.next (some o)⟩ else none
theorem HT.put_rep {h h' : HT} {id : Nat} {o : Option AO} (e : h.put id o = some h') : h.rep.put id o = h'.rep := by
  unfold HT.put at e
  split at e
  case isFalse => cases e
  rename_i hi
  cases e
  unfold HT.rep AH.put
  congr 1
  funext j
  rw [Tr.get_set _ 40 h.t id (by unfold htMax at hi; omega) j]
theorem HT.new_rep {h h' : HT} {o : AO} (e : h.new o = some h') : h.rep.new o = h'.rep := by
  unfold HT.new at e
  split at e
  case isFalse => cases e
  rename_i hi
  cases e
  unfold HT.rep AH.new
  congr 1
  funext j
  rw [Tr.get_set _ 40 h.t h.next (by unfold htMax at hi; omega) j]
def HT.rd (H : HT) (id off n : Nat) : Option (List Sc) :=
  match H.t.get id with
  | some (.cells _ l) => if off + n ≤ l.length then some ((l.drop off).take n) else none
  | _ => none
def HT.wr (H : HT) (id off : Nat) (vs : List Sc) : Option HT :=
  match H.t.get id with
  | some (.cells false l) => if off + vs.length ≤ l.length then H.put id (some (.cells false (l.take off ++ vs ++ l.drop (off + vs.length)))) else none
  | _ => none
def HT.app (H : HT) (z eb : Nat) (s : Option SlD) (l : List Sc) (n : Nat) : Option (Option SlD × HT) :=
  if l.length = n * z ∧ 0 < eb ∧ eb ≤ appBytes then
    match s with
    | none => if n = 0 then some (none, H) else if n * eb ≤ appBound then obind (H.new (.cells false l)) fun H' => some (some ⟨H.next, 0, n, n, z⟩, H') else none
    | some d =>
      if d.z = z then
        if d.len + n ≤ d.cap then
          if n = 0 then some (some d, H) else obind (H.wr d.id (d.off + d.len * z) l) fun H' => some (some ⟨d.id, d.off, d.len + n, d.cap, z⟩, H')
        else if (d.len + n) * eb ≤ appBound then
          match H.t.get d.id with
          | some (.cells false c) =>
            if d.off + d.len * z ≤ c.length then
              obind (H.put d.id none) fun H1 => obind (H1.new (.cells false ((c.drop d.off).take (d.len * z) ++ l))) fun H2 => some (some ⟨H.next, 0, d.len + n, d.len + n, z⟩, H2)
            else none
          | _ => none
        else none
      else none
  else none
def HT.rds (H : HT) (z : Nat) (s : Option SlD) (n : Nat) : Option (List Sc) :=
  match s with
  | none => if n = 0 then some [] else none
  | some d => if n = 0 then some [] else if n ≤ d.len ∧ d.z = z then H.rd d.id d.off (n * z) else none
def HT.wrs (H : HT) (z : Nat) (s : Option SlD) (l : List Sc) : Option HT :=
  match l with
  | [] => some H
  | _ => match s with
    | none => none
    | some d => if l.length ≤ d.len * z ∧ d.z = z then H.wr d.id d.off l else none
def HT.it (H : HT) (id : Nat) : Option (ByteArray × Nat) :=
  match H.t.get id with
  | some (.iter s pos) => some (s, pos)
  | _ => none
theorem HT.wr_rep {h h' : HT} {id off : Nat} {vs : List Sc} (e : h.wr id off vs = some h') : h.rep.wr id off vs = some h'.rep := by
  unfold HT.wr at e
  split at e
  case h_2 => cases e
  rename_i l hl
  split at e
  case isFalse => cases e
  rename_i hle
  have hl' : h.rep.obj id = some (.cells false l) := hl
  unfold AH.wr
  rw [hl']
  simp only [if_pos hle]
  rw [HT.put_rep e]
theorem HT.wrs_rep {h h' : HT} {z : Nat} {s : Option SlD} {l : List Sc} (e : h.wrs z s l = some h') : h.rep.wrs z s l = some h'.rep := by
  cases l with
  | nil => cases e; rfl
  | cons x l =>
    cases s with
    | none => cases e
    | some d =>
      simp only [HT.wrs] at e
      simp only [AH.wrs]
      split at e
      · rename_i hc; rw [if_pos hc]; exact HT.wr_rep e
      · cases e
theorem HT.app_rep {h : HT} {z eb : Nat} {s : Option SlD} {l : List Sc} {n : Nat} {r : Option SlD × HT} (e : h.app z eb s l n = some r) : h.rep.app z eb s l n = some (r.1, r.2.rep) := by
  unfold HT.app at e
  unfold AH.app
  split at e
  case isFalse => cases e
  rename_i h0
  rw [if_pos h0]
  cases s with
  | none =>
    simp only at e ⊢
    split at e
    · rename_i h1; cases e; rw [if_pos h1]
    · rename_i h1
      rw [if_neg h1]
      split at e
      · rename_i h2
        rw [if_pos h2]
        obtain ⟨H', h3, h4⟩ := obind_eq.1 e
        cases h4
        rw [HT.new_rep h3]; rfl
      · cases e
  | some d =>
    simp only at e ⊢
    split at e
    case isFalse => cases e
    rename_i hz
    rw [if_pos hz]
    split at e
    · rename_i hc
      rw [if_pos hc]
      split at e
      · rename_i h1; cases e; rw [if_pos h1]
      · rename_i h1
        rw [if_neg h1]
        obtain ⟨H', h3, h4⟩ := obind_eq.1 e
        cases h4
        rw [HT.wr_rep h3]; rfl
    · rename_i hc
      rw [if_neg hc]
      split at e
      case isFalse => cases e
      rename_i hb
      rw [if_pos hb]
      split at e
      case h_2 => cases e
      rename_i c hg
      have hg' : h.rep.obj d.id = some (.cells false c) := hg
      rw [hg']
      simp only
      split at e
      case isFalse => cases e
      rename_i hle
      rw [if_pos hle]
      obtain ⟨H1, h3, e⟩ := obind_eq.1 e
      obtain ⟨H2, h4, e⟩ := obind_eq.1 e
      cases e
      rw [HT.put_rep h3, HT.new_rep h4]; rfl

abbrev ResD := (Nat × List AV) × HT
abbrev OraD := FuncId → List AV → HT → Option (AV × HT)
def iterD : Nat → (List AV → HT → Option ResD) → List AV → HT → Option ResD
  | 0, _, _, _ => none
  | n + 1, b, l, H =>
    match b l H with
    | some ((0, l'), H') => iterD n b l' H'
    | r => r
def runD (C : OraD) (n : Nat) : Tree → HT → Option ResD
  | .ret t l, H => some ((t, l), H)
  | .fail, _ => none
  | .br b t f, H => if b = true then runD C n t H else runD C n f H
  | .tg x m t f, H => if x = m then runD C n t H else runD C n f H
  | .asI k v f, H => obind (v.asI k) fun j => runD C n (f j) H
  | .asB v f, H => obind v.asB fun j => runD C n (f j) H
  | .asS v f, H => obind v.asS fun j => runD C n (f j) H
  | .asP v f, H => obind v.asP fun j => runD C n (f j) H
  | .asL v f, H => obind v.asL fun j => runD C n (f j) H
  | .asF k v f, H => obind (v.asF k) fun j => runD C n (f j) H
  | .asC k v f, H => obind (v.asC k) fun j => runD C n (f j.1 j.2) H
  | .asX v f, H => obind v.asX fun j => runD C n (f j) H
  | .asBy l f, H => obind (baOf l .empty) fun j => runD C n (f j) H
  | .asIt v f, H => obind v.asIt fun j => runD C n (f j) H
  | .asA m v f, H => obind (v.asA m) fun j => runD C n (f j) H
  | .asT m v f, H => obind (v.asT m) fun j => runD C n (f j) H
  | .nn o f, H => obind o fun a => runD C n (f a.1 a.2) H
  | .nth l j f, H => obind l[j]? fun x => runD C n (f x) H
  | .nthC l j f, H => obind l[j]? fun x => runD C n (f x) H
  | .ixS z s j f, H => obind (ixIn z s j) fun a => runD C n (f a.1 a.2.1 a.2.2) H
  | .ld id off m f, H => obind (H.rd id off m) fun l => runD C n (f l) H
  | .st id off l t, H => obind (H.wr id off l) fun H' => runD C n t H'
  | .same id off l t, H => if H.rd id off l.length = some l then runD C n t H else none
  | .al l f, H => obind (H.new (.cells false l)) fun H' => runD C n (f H.next) H'
  | .lds z s m f, H => obind (H.rds z s m) fun l => runD C n (f l) H
  | .sts z s l t, H => obind (H.wrs z s l) fun H' => runD C n t H'
  | .app z eb s l m f, H => obind (H.app z eb s l m) fun a => runD C n (f a.1) a.2
  | .slc z s lo hi mx f, H => obind (slcIn s z lo hi mx) fun s' => runD C n (f s') H
  | .call g args k, H => obind (C g args H) fun a => runD C n (k a.1) a.2
  | .callv v args k, H => obind v.asFn fun g => obind (C g.1 (ptrs g.2.1 ++ args ++ ptrs g.2.2) H) fun a => runD C n (k a.1) a.2
  | .itn s f, H => obind (H.new (.iter s 0)) fun H' => runD C n (f H.next) H'
  | .itx id f, H => obind (H.it id) fun q =>
      if q.2 < q.1.size then obind (H.put id (some (.iter q.1 (q.2 + (Utf8.decode q.1 q.2).2)))) fun H' => runD C n (f (some (q.2, ((Utf8.decode q.1 q.2).1 : Int)))) H' else runD C n (f none) H
  | .join t k, H => obind (runD C n t H) fun a => runD C n (k a.1.1 a.1.2) a.2
  | .loop b l k, H => obind (iterD n (fun l H => runD C n (b l) H) l H) fun a => runD C n (k a.1.1 a.1.2) a.2

/-! runs by a table of trees -/
abbrev Tbl := List (Nat × (List AV → Tree))
/-- a tree that is the function's wherever it ends -/
def TrOk (E : Env) (f : Nat) (t : List AV → Tree) : Prop := ∃ fn, E.P.funcs[f]? = some fn ∧ ∀ (args : List AV) (C : Ora) (n : Nat) (H : AH) (r : Res), run C n (t args) H = some r → t args = bodyK E.T (E.hs f) fn args
def TbOk (E : Env) : Tbl → Prop
  | [] => True
  | x :: r => TrOk E x.1 x.2 ∧ TbOk E r
theorem TbOk.look {E : Env} : ∀ {tb : Tbl}, TbOk E tb → ∀ {f : Nat} {t : List AV → Tree}, lookN tb f = some t → TrOk E f t
  | [], _, f, t, h => by cases h
  | x :: r, h, f, t, hl => by
    obtain ⟨a, y⟩ := x
    simp only [lookN] at hl
    split at hl
    · rename_i e; subst e; cases hl; exact h.1
    · exact TbOk.look h.2 hl
end Go.Proofs.YtpbhfolaoccpkaaGreat.Fw
set_option linter.unusedVariables false
set_option linter.unusedSimpArgs false
namespace Go.Proofs.YtpbhfolaoccpkaaGreat.Fw
open Go
/-- a heap's part: as many objects, some of them not told -/
def SubH (H G : AH) : Prop := H.next = G.next ∧ ∀ i o, H.obj i = some o → G.obj i = some o
theorem SubH.trans {H G K : AH} (h : SubH H G) (g : SubH G K) : SubH H K := ⟨h.1.trans g.1, fun i o x => g.2 i o (h.2 i o x)⟩
theorem SubH.put {H G : AH} (h : SubH H G) (id : Nat) (o : Option AO) : SubH (H.put id o) (G.put id o) := by
  refine ⟨h.1, fun i x hx => ?_⟩
  simp only [AH.put] at hx ⊢
  split at hx <;> rename_i hi
  · rw [if_pos hi]; exact hx
  · rw [if_neg hi]; exact h.2 i x hx
theorem SubH.new {H G : AH} (h : SubH H G) (o : AO) : SubH (H.new o) (G.new o) := by
  refine ⟨by simp only [AH.new]; rw [h.1], fun i x hx => ?_⟩
  simp only [AH.new] at hx ⊢
  rw [← h.1]
  split at hx <;> rename_i hi
  · rw [if_pos hi]; exact hx
  · rw [if_neg hi]; exact h.2 i x hx
theorem SubH.rd {H G : AH} (h : SubH H G) {id off n : Nat} {l : List Sc} (e : H.rd id off n = some l) : G.rd id off n = some l := by
  unfold AH.rd at e ⊢
  cases ho : H.obj id with
  | none => rw [ho] at e; cases e
  | some x => rw [ho] at e; rw [h.2 _ _ ho]; exact e
theorem SubH.wr {H G : AH} (h : SubH H G) {id off : Nat} {l : List Sc} {H' : AH} (e : H.wr id off l = some H') : ∃ G', G.wr id off l = some G' ∧ SubH H' G' := by
  unfold AH.wr at e ⊢
  cases ho : H.obj id with
  | none => rw [ho] at e; cases e
  | some x =>
    rw [ho] at e; rw [h.2 _ _ ho]
    cases x with
    | iter s p => cases e
    | cells ro c =>
      cases ro with
      | true => cases e
      | false =>
        simp only at e ⊢
        split at e <;> rename_i hc
        · cases e; rw [if_pos hc]; exact ⟨_, rfl, h.put _ _⟩
        · cases e
theorem SubH.rds {H G : AH} (h : SubH H G) {z : Nat} {s : Option SlD} {n : Nat} {l : List Sc} (e : H.rds z s n = some l) : G.rds z s n = some l := by
  unfold AH.rds at e ⊢
  cases s with
  | none => exact e
  | some d =>
    simp only at e ⊢
    split at e <;> rename_i hc
    · rw [if_pos hc]; exact e
    · rw [if_neg hc]
      split at e <;> rename_i hd
      · rw [if_pos hd]; exact h.rd e
      · cases e
theorem SubH.wrs {H G : AH} (h : SubH H G) {z : Nat} {s : Option SlD} {l : List Sc} {H' : AH} (e : H.wrs z s l = some H') : ∃ G', G.wrs z s l = some G' ∧ SubH H' G' := by
  cases l with
  | nil => cases e; exact ⟨G, rfl, h⟩
  | cons x l =>
    cases s with
    | none => cases e
    | some d =>
      simp only [AH.wrs] at e ⊢
      split at e <;> rename_i hd
      · rw [if_pos hd]; exact h.wr e
      · cases e
theorem SubH.it {H G : AH} (h : SubH H G) {id : Nat} {q : ByteArray × Nat} (e : H.it id = some q) : G.it id = some q := by
  unfold AH.it at e ⊢
  cases ho : H.obj id with
  | none => rw [ho] at e; cases e
  | some x => rw [ho] at e; rw [h.2 _ _ ho]; exact e
theorem SubH.app {H G : AH} (h : SubH H G) {z eb : Nat} {s : Option SlD} {l : List Sc} {n : Nat} {r : Option SlD × AH} (e : H.app z eb s l n = some r) : ∃ G', G.app z eb s l n = some (r.1, G') ∧ SubH r.2 G' := by
  unfold AH.app at e ⊢
  split at e
  case isFalse => cases e
  rename_i h0
  rw [if_pos h0]
  cases s with
  | none =>
    simp only at e ⊢
    split at e <;> rename_i h1
    · rw [if_pos h1]; cases e; exact ⟨_, rfl, h⟩
    · rw [if_neg h1]
      split at e <;> rename_i h2
      · rw [if_pos h2]; cases e; rw [← h.1]; exact ⟨_, rfl, h.new _⟩
      · cases e
  | some d =>
    simp only at e ⊢
    split at e
    case isFalse => cases e
    rename_i hz
    rw [if_pos hz]
    split at e
    · rename_i hc
      rw [if_pos hc]
      split at e <;> rename_i h1
      · rw [if_pos h1]; cases e; exact ⟨_, rfl, h⟩
      · rw [if_neg h1]
        obtain ⟨H1, h2, h3⟩ := obind_eq.1 e
        cases h3
        obtain ⟨G', g1, g2⟩ := h.wr h2
        rw [g1]
        exact ⟨G', rfl, g2⟩
    · rename_i hc
      rw [if_neg hc]
      split at e
      case isFalse => cases e
      rename_i hb
      rw [if_pos hb]
      cases ho : H.obj d.id with
      | none => rw [ho] at e; cases e
      | some x =>
        rw [ho] at e; rw [h.2 _ _ ho]
        cases x with
        | iter s p => cases e
        | cells ro c =>
          cases ro with
          | true => cases e
          | false =>
            simp only at e ⊢
            split at e <;> rename_i hle
            · rw [if_pos hle]; cases e; rw [← h.1]; exact ⟨_, rfl, (h.put _ _).new _⟩
            · cases e

theorem iterD_sub {b : List AV → HT → Option ResD} {b' : List AV → AH → Option Res} (hb : ∀ l h G r, b l h = some r → SubH h.rep G → ∃ G', b' l G = some (r.1, G') ∧ SubH r.2.rep G') : ∀ (n : Nat) (l : List AV) (h : HT) (G : AH) (r : ResD), iterD n b l h = some r → SubH h.rep G → ∃ G', iterL n b' l G = some (r.1, G') ∧ SubH r.2.rep G'
  | 0, l, h, G, r, e, _ => by cases e
  | n + 1, l, h, G, r, e, s => by
    unfold iterD at e
    unfold iterL
    split at e
    · rename_i l' H' e1
      obtain ⟨G', g1, g2⟩ := hb _ _ _ _ e1 s
      rw [g1]
      exact iterD_sub hb n l' H' G' r e g2
    · rename_i hne
      obtain ⟨⟨tag, l1⟩, H1⟩ := r
      obtain ⟨G', g1, g2⟩ := hb _ _ _ _ e s
      rw [g1]
      cases tag with
      | zero => exact absurd e (hne l1 H1)
      | succ tag => exact ⟨G', rfl, g2⟩

theorem runD_sub {C : OraD} {C' : Ora} (hC : ∀ f a h G r, C f a h = some r → SubH h.rep G → ∃ G', C' f a G = some (r.1, G') ∧ SubH r.2.rep G') {n : Nat} : ∀ (t : Tree) {h : HT} {G : AH} {r : ResD}, runD C n t h = some r → SubH h.rep G → ∃ G', run C' n t G = some (r.1, G') ∧ SubH r.2.rep G' := by
  intro t
  induction t with
  | ret t l => intro h G r e s; simp only [runD, run] at e ⊢; cases e; exact ⟨G, rfl, s⟩
  | fail => intro h G r e s; simp [runD] at e
  | br b t f ht hf => intro h G r e s; simp only [runD, run] at e ⊢; split at e <;> rename_i hb
                      · simp only [if_pos hb]; exact ht e s
                      · simp only [if_neg hb]; exact hf e s
  | tg x m t f ht hf => intro h G r e s; simp only [runD, run] at e ⊢; split at e <;> rename_i hb
                        · simp only [if_pos hb]; exact ht e s
                        · simp only [if_neg hb]; exact hf e s
  | asI k v f ih => intro h G r e s; simp only [runD, run] at e ⊢; obtain ⟨a, h1, h2⟩ := obind_eq.1 e; simp only [h1, obind]; exact ih _ h2 s
  | asB v f ih => intro h G r e s; simp only [runD, run] at e ⊢; obtain ⟨a, h1, h2⟩ := obind_eq.1 e; simp only [h1, obind]; exact ih _ h2 s
  | asS v f ih => intro h G r e s; simp only [runD, run] at e ⊢; obtain ⟨a, h1, h2⟩ := obind_eq.1 e; simp only [h1, obind]; exact ih _ h2 s
  | asP v f ih => intro h G r e s; simp only [runD, run] at e ⊢; obtain ⟨a, h1, h2⟩ := obind_eq.1 e; simp only [h1, obind]; exact ih _ h2 s
  | asL v f ih => intro h G r e s; simp only [runD, run] at e ⊢; obtain ⟨a, h1, h2⟩ := obind_eq.1 e; simp only [h1, obind]; exact ih _ h2 s
  | asF k v f ih => intro h G r e s; simp only [runD, run] at e ⊢; obtain ⟨a, h1, h2⟩ := obind_eq.1 e; simp only [h1, obind]; exact ih _ h2 s
  | asC k v f ih => intro h G r e s; simp only [runD, run] at e ⊢; obtain ⟨a, h1, h2⟩ := obind_eq.1 e; simp only [h1, obind]; exact ih _ _ h2 s
  | asX v f ih => intro h G r e s; simp only [runD, run] at e ⊢; obtain ⟨a, h1, h2⟩ := obind_eq.1 e; simp only [h1, obind]; exact ih _ h2 s
  | asBy v f ih => intro h G r e s; simp only [runD, run] at e ⊢; obtain ⟨a, h1, h2⟩ := obind_eq.1 e; simp only [h1, obind]; exact ih _ h2 s
  | asIt v f ih => intro h G r e s; simp only [runD, run] at e ⊢; obtain ⟨a, h1, h2⟩ := obind_eq.1 e; simp only [h1, obind]; exact ih _ h2 s
  | asA k v f ih => intro h G r e s; simp only [runD, run] at e ⊢; obtain ⟨a, h1, h2⟩ := obind_eq.1 e; simp only [h1, obind]; exact ih _ h2 s
  | asT k v f ih => intro h G r e s; simp only [runD, run] at e ⊢; obtain ⟨a, h1, h2⟩ := obind_eq.1 e; simp only [h1, obind]; exact ih _ h2 s
  | nn o f ih => intro h G r e s; simp only [runD, run] at e ⊢; obtain ⟨a, h1, h2⟩ := obind_eq.1 e; simp only [h1, obind]; exact ih _ _ h2 s
  | nth l j f ih => intro h G r e s; simp only [runD, run] at e ⊢; obtain ⟨a, h1, h2⟩ := obind_eq.1 e; simp only [h1, obind]; exact ih _ h2 s
  | nthC l j f ih => intro h G r e s; simp only [runD, run] at e ⊢; obtain ⟨a, h1, h2⟩ := obind_eq.1 e; simp only [h1, obind]; exact ih _ h2 s
  | ixS z s' j f ih => intro h G r e s; simp only [runD, run] at e ⊢; obtain ⟨a, h1, h2⟩ := obind_eq.1 e; simp only [h1, obind]; exact ih _ _ _ h2 s
  | ld id off n f ih => intro h G r e s; simp only [runD, run] at e ⊢; obtain ⟨a, h1, h2⟩ := obind_eq.1 e; simp only [s.rd (show h.rep.rd id off n = some a from h1), obind]; exact ih _ h2 s
  | st id off l t ih => intro h G r e s; simp only [runD, run] at e ⊢; obtain ⟨a, h1, h2⟩ := obind_eq.1 e; obtain ⟨G', g1, g2⟩ := s.wr (HT.wr_rep h1); simp only [g1, obind]; exact ih h2 g2
  | same id off l t ih => intro h G r e s; simp only [runD, run] at e ⊢; split at e <;> rename_i hb
                          · simp only [if_pos (s.rd (show h.rep.rd id off l.length = some l from hb))]; exact ih e s
                          · cases e
  | al l f ih => intro h G r e s; simp only [runD, run] at e ⊢; obtain ⟨a, h1, h2⟩ := obind_eq.1 e; have g := s.new (.cells false l); rw [HT.new_rep h1] at g; rw [show h.next = G.next from s.1] at h2; exact ih _ h2 g
  | lds z s' n f ih => intro h G r e s; simp only [runD, run] at e ⊢; obtain ⟨a, h1, h2⟩ := obind_eq.1 e; simp only [s.rds (show h.rep.rds z s' n = some a from h1), obind]; exact ih _ h2 s
  | sts z s' l t ih => intro h G r e s; simp only [runD, run] at e ⊢; obtain ⟨a, h1, h2⟩ := obind_eq.1 e; obtain ⟨G', g1, g2⟩ := s.wrs (HT.wrs_rep h1); simp only [g1, obind]; exact ih h2 g2
  | app z eb s' l n f ih => intro h G r e s; simp only [runD, run] at e ⊢; obtain ⟨a, h1, h2⟩ := obind_eq.1 e; obtain ⟨G', g1, g2⟩ := s.app (HT.app_rep h1); simp only [g1, obind]; exact ih _ h2 g2
  | slc z s' lo hi mx f ih => intro h G r e s; simp only [runD, run] at e ⊢; obtain ⟨a, h1, h2⟩ := obind_eq.1 e; simp only [h1, obind]; exact ih _ h2 s
  | call f args k ih => intro h G r e s; simp only [runD, run] at e ⊢; obtain ⟨a, h1, h2⟩ := obind_eq.1 e; obtain ⟨G', g1, g2⟩ := hC _ _ _ _ _ h1 s; simp only [g1, obind]; exact ih _ h2 g2
  | callv v args k ih => intro h G r e s; simp only [runD, run] at e ⊢; obtain ⟨g, h0, e⟩ := obind_eq.1 e; obtain ⟨a, h1, h2⟩ := obind_eq.1 e; obtain ⟨G', g1, g2⟩ := hC _ _ _ _ _ h1 s; simp only [h0, obind, g1]; exact ih _ h2 g2
  | itn s' f ih => intro h G r e s; simp only [runD, run] at e ⊢; obtain ⟨a, h1, h2⟩ := obind_eq.1 e; have g := s.new (.iter s' 0); rw [HT.new_rep h1] at g; rw [show h.next = G.next from s.1] at h2; exact ih _ h2 g
  | itx id f ih => intro h G r e s; simp only [runD, run] at e ⊢; obtain ⟨a, h1, h2⟩ := obind_eq.1 e; simp only [s.it (show h.rep.it id = some a from h1), obind]
                   split at h2 <;> rename_i hb
                   · simp only [if_pos hb]; obtain ⟨H', h3, h4⟩ := obind_eq.1 h2; have g := s.put id (some (.iter a.1 (a.2 + (Utf8.decode a.1 a.2).2))); rw [HT.put_rep h3] at g; exact ih _ h4 g
                   · simp only [if_neg hb]; exact ih _ h2 s
  | join t k iht ihk => intro h G r e s; simp only [runD, run] at e ⊢; obtain ⟨a, h1, h2⟩ := obind_eq.1 e; obtain ⟨G', g1, g2⟩ := iht h1 s; simp only [g1, obind]; exact ihk _ _ h2 g2
  | loop b l k ihb ihk => intro h G r e s; simp only [runD, run] at e ⊢; obtain ⟨a, h1, h2⟩ := obind_eq.1 e
                          obtain ⟨G', g1, g2⟩ := iterD_sub (fun l h G r e s => ihb l e s) _ _ _ _ _ h1 s
                          simp only [g1, obind]; exact ihk _ _ h2 g2

/-! heaps written down -/
def aoEq : AO → AO → Bool
  | .cells r l, .cells r' l' => r == r' && decide (l = l')
  | .iter s p, .iter s' p' => decide (s = s') && p == p'
  | _, _ => false
theorem aoEq_eq {a b : AO} (h : aoEq a b = true) : a = b := by
  cases a <;> cases b <;> simp only [aoEq, Bool.and_eq_true, decide_eq_true_eq, beq_iff_eq] at h
  · rw [h.1, h.2]
  · cases h
  · cases h
  · rw [h.1, h.2]
def trL : List (Nat × AO) → Tr
  | [] => .lf
  | p :: l => (trL l).set 40 p.1 (some p.2)
def ofL (n : Nat) (l : List (Nat × AO)) : HT := ⟨n, trL l⟩
def okL (l : List (Nat × AO)) : Bool := l.all fun p => decide (p.1 ≤ htMax)
/-- what the list tells is so there -/
def subL (l : List (Nat × AO)) (t : Tr) : Bool := l.all fun p => decide (p.1 ≤ htMax) && match t.get p.1 with | some o => aoEq o p.2 | none => false
theorem trL_get : ∀ {l : List (Nat × AO)}, okL l = true → ∀ {i : Nat} {o : AO}, (trL l).get i = some o → (i, o) ∈ l
  | [], _, i, o, h => by cases h
  | p :: l, hk, i, o, h => by
    simp only [okL, List.all_cons, Bool.and_eq_true, decide_eq_true_eq] at hk
    have hb : p.1 + 1 < 2 ^ 40 := by have := hk.1; unfold htMax at this; omega
    unfold trL at h
    rw [Tr.get_set _ 40 _ _ hb] at h
    split at h <;> rename_i hi
    · cases h; subst hi; exact List.mem_cons_self ..
    · exact List.mem_cons_of_mem _ (trL_get (show okL l = true from hk.2) h)
theorem subL_sub {n : Nat} {l : List (Nat × AO)} {H : HT} (h : subL l H.t = true) (hn : n = H.next) : SubH (ofL n l).rep H.rep := by
  refine ⟨hn, fun i o ho => ?_⟩
  have h' : ∀ p ∈ l, p.1 ≤ htMax ∧ H.t.get p.1 = some p.2 := by
    intro p hp
    have := (List.all_eq_true.1 h) p hp
    simp only [Bool.and_eq_true, decide_eq_true_eq] at this
    refine ⟨this.1, ?_⟩
    have h2 := this.2
    split at h2
    · rename_i o' e; rw [e, aoEq_eq h2]
    · cases h2
  have hk : okL l = true := List.all_eq_true.2 fun p hp => by simpa using (h' p hp).1
  exact (h' _ (trL_get hk ho)).2

structure Fact where
  f : Nat
  args : List AV
  n0 : Nat
  l0 : List (Nat × AO)
  v : AV
  n1 : Nat
  l1 : List (Nat × AO)
/-- so it is, on all that has that part -/
def Fact.ok (E : Env) (x : Fact) : Prop := ∃ n, ∀ G, SubH (ofL x.n0 x.l0).rep G → ∃ G', callA E.P E.T E.hs n x.f x.args G = some (x.v, G') ∧ SubH (ofL x.n1 x.l1).rep G'
def findF : List Fact → Nat → List AV → HT → Option (AV × HT)
  | [], _, _, _ => none
  | x :: r, f, args, H => if (x.f == f && decide (x.n0 = H.next) && decide (x.args = args) && subL x.l0 H.t) = true then some (x.v, ofL x.n1 x.l1) else findF r f args H
def AllF (E : Env) : List Fact → Prop
  | [] => True
  | x :: r => x.ok E ∧ AllF E r
def AllN (E : Env) (N : Nat) : List Fact → Prop
  | [] => True
  | x :: r => (∀ G, SubH (ofL x.n0 x.l0).rep G → ∃ G', callA E.P E.T E.hs N x.f x.args G = some (x.v, G') ∧ SubH (ofL x.n1 x.l1).rep G') ∧ AllN E N r
theorem AllN.mono {E : Env} {N M : Nat} (h : N ≤ M) : ∀ {l : List Fact}, AllN E N l → AllN E M l
  | [], _ => trivial
  | x :: r, hx => ⟨fun G s => by obtain ⟨G', g1, g2⟩ := hx.1 G s; exact ⟨G', callA_mono h g1, g2⟩, AllN.mono h hx.2⟩
theorem AllF.toN {E : Env} : ∀ {l : List Fact}, AllF E l → ∃ N, AllN E N l
  | [], _ => ⟨0, trivial⟩
  | x :: r, h => by
    obtain ⟨n, hn⟩ := h.1
    obtain ⟨N, hN⟩ := AllF.toN h.2
    exact ⟨max n N, fun G s => by obtain ⟨G', g1, g2⟩ := hn G s; exact ⟨G', callA_mono (Nat.le_max_left ..) g1, g2⟩, hN.mono (Nat.le_max_right ..)⟩
theorem findF_sound {E : Env} {N : Nat} : ∀ {l : List Fact}, AllN E N l → ∀ {f : Nat} {args : List AV} {H : HT} {G : AH} {r : AV × HT}, findF l f args H = some r → SubH H.rep G → ∃ G', callA E.P E.T E.hs N f args G = some (r.1, G') ∧ SubH r.2.rep G'
  | [], _, f, args, H, G, r, h, s => by cases h
  | x :: l, hx, f, args, H, G, r, h, s => by
    unfold findF at h
    split at h
    · rename_i hc
      simp only [Bool.and_eq_true, decide_eq_true_eq, beq_iff_eq] at hc
      obtain ⟨⟨⟨h1, h2⟩, h3⟩, h4⟩ := hc
      cases h
      subst h1; subst h3
      exact hx.1 G ((subL_sub h4 h2).trans s)
    · exact findF_sound hx.2 h s
def callF (tb : Tbl) (fs : List Fact) : Nat → OraD
  | 0, _, _, _ => none
  | n + 1, f, args, H => match findF fs f args H with
    | some r => some r
    | none => match lookN tb f with
      | some t => match runD (callF tb fs n) n (t args) H with
        | some ((0, [v]), H') => some (v, H')
        | _ => none
      | none => none
theorem callF_sound {E : Env} {tb : Tbl} (h : TbOk E tb) {fs : List Fact} {N : Nat} (hf : AllN E N fs) : ∀ (n : Nat) (f : FuncId) (args : List AV) (H : HT) (G : AH) (r : AV × HT), callF tb fs n f args H = some r → SubH H.rep G → ∃ G', callA E.P E.T E.hs (N + n) f args G = some (r.1, G') ∧ SubH r.2.rep G'
  | 0, _, _, _, _, _, hr, _ => by cases hr
  | n + 1, f, args, H, G, r, hr, s => by
    simp only [callF] at hr
    split at hr
    · rename_i r' hr'
      cases hr
      obtain ⟨G', g1, g2⟩ := findF_sound hf hr' s
      exact ⟨G', callA_mono (by omega) g1, g2⟩
    · split at hr
      · rename_i t ht
        split at hr
        · rename_i v H' hv
          cases hr
          obtain ⟨fn, h1, h2⟩ := h.look ht
          obtain ⟨G', g1, g2⟩ := runD_sub (C' := callA E.P E.T E.hs (N + n)) (fun f a h' G r hc s => callF_sound h hf n f a h' G r hc s) _ hv s
          have g3 := run_mono (C' := callA E.P E.T E.hs (N + n)) (fun _ _ _ _ hc => hc) (by omega : n ≤ N + n) _ g1
          rw [h2 args _ _ _ _ g3] at g3
          refine ⟨G', ?_, g2⟩
          show callA E.P E.T E.hs (N + n + 1) f args G = _
          simp only [callA, h1, g3]
        · cases hr
      · cases hr
/-- the kernel's look at a fact -/
def facB (tb : Tbl) (fs : List Fact) (n : Nat) (x : Fact) : Bool :=
  match callF tb fs n x.f x.args (ofL x.n0 x.l0) with
  | some (v, H') => decide (v = x.v) && decide (x.n1 = H'.next) && subL x.l1 H'.t
  | none => false
theorem facB_ok {E : Env} {tb : Tbl} (h : TbOk E tb) {fs : List Fact} (hf : AllF E fs) {n : Nat} {x : Fact} (hb : facB tb fs n x = true) : x.ok E := by
  obtain ⟨N, hN⟩ := hf.toN
  unfold facB at hb
  split at hb
  · rename_i v H' hv
    simp only [Bool.and_eq_true, decide_eq_true_eq] at hb
    obtain ⟨⟨h1, h2⟩, h3⟩ := hb
    refine ⟨N + n, fun G s => ?_⟩
    obtain ⟨G', g1, g2⟩ := callF_sound h hN n _ _ _ _ _ hv s
    rw [h1] at g1
    exact ⟨G', g1, (subL_sub h3 h2).trans g2⟩
  · cases hb
theorem Fact.call {E : Env} {x : Fact} (h : x.ok E) {G : AH} (s : SubH (ofL x.n0 x.l0).rep G) {R : AV → AH → Prop} (k : ∀ G', SubH (ofL x.n1 x.l1).rep G' → R x.v G') : CallWp E x.f x.args G R := by
  obtain ⟨n, hn⟩ := h
  obtain ⟨G', g1, g2⟩ := hn G s
  exact ⟨n, _, G', g1, k G' g2⟩
end Go.Proofs.YtpbhfolaoccpkaaGreat.Fw
set_option linter.unusedVariables false
set_option linter.unusedSimpArgs false
namespace Go.Proofs.YtpbhfolaoccpkaaGreat.Fw
open Go
inductive Ob where
  | a (x y : List AV)
  | b (x y : Bool)
  | l (x y : Option (List Sc))
  | o (x y : Option AO)
def Ob.ok : Ob → Prop
  | .a x y => x = y
  | .b x y => x = y
  | .l x y => x = y
  | .o x y => x = y
def Ob.self : Ob → Ob
  | .a _ y => .a y y
  | .b _ y => .b y y
  | .l _ y => .l y y
  | .o _ y => .o y y
def obsOk : List Ob → Prop
  | [] => True
  | o :: r => o.ok ∧ obsOk r
theorem Ob.self_ok {o : Ob} (h : o = o.self) : o.ok := by cases o <;> simp only [Ob.self, Ob.a.injEq, Ob.b.injEq, Ob.l.injEq, Ob.o.injEq] at h <;> exact h.1
theorem obsOk_self : ∀ {l : List Ob}, l = l.map Ob.self → obsOk l
  | [], _ => trivial
  | o :: r, h => by
    simp only [List.map_cons, List.cons.injEq] at h
    exact ⟨Ob.self_ok h.1, obsOk_self h.2⟩
theorem obsOk_append : ∀ {l m : List Ob}, obsOk (l ++ m) → obsOk l ∧ obsOk m
  | [], m, h => ⟨trivial, h⟩
  | o :: r, m, h => ⟨⟨h.1, (obsOk_append h.2).1⟩, (obsOk_append h.2).2⟩

/-- advice: so many tests are skipped, then the test is as told, and has that answer -/
abbrev Adv := List (Nat × Bool × Bool)
def advOk : Adv → Prop
  | [] => True
  | x :: r => x.2.1 = x.2.2 ∧ advOk r
abbrev ResB := ResD × Adv × List Ob
abbrev OraB := FuncId → List AV → HT → Option ((AV × HT) × List Ob)
def addO (os : List Ob) : Option ResB → Option ResB
  | some r => some (r.1, r.2.1, os ++ r.2.2)
  | none => none
theorem addO_eq {os : List Ob} {x : Option ResB} {r : ResB} (h : addO os x = some r) : ∃ o', x = some (r.1, r.2.1, o') ∧ r.2.2 = os ++ o' := by
  cases x with
  | none => cases h
  | some y => cases h; exact ⟨_, rfl, rfl⟩
def iterB : Nat → (List AV → Adv → HT → Option ResB) → List AV → Adv → HT → Option ResB
  | 0, _, _, _, _ => none
  | n + 1, b, l, A, H =>
    match b l A H with
    | some (((0, l'), H'), A', os) => addO os (iterB n b l' A' H')
    | r => r
def runB (C : OraB) (n : Nat) : Tree → Adv → HT → Option ResB
  | .ret t l, A, H => some (((t, l), H), A, [])
  | .fail, _, _ => none
  | .br b t f, A, H => match A with
    | [] => if b = true then runB C n t [] H else runB C n f [] H
    | (0, e, bit) :: A' => addO [.b b e] (if bit = true then runB C n t A' H else runB C n f A' H)
    | (k + 1, x) :: A' => if b = true then runB C n t ((k, x) :: A') H else runB C n f ((k, x) :: A') H
  | .tg x m t f, A, H => if x = m then runB C n t A H else runB C n f A H
  | .asI k v f, A, H => obind (v.asI k) fun j => runB C n (f j) A H
  | .asB v f, A, H => obind v.asB fun j => runB C n (f j) A H
  | .asS v f, A, H => obind v.asS fun j => runB C n (f j) A H
  | .asP v f, A, H => obind v.asP fun j => runB C n (f j) A H
  | .asL v f, A, H => obind v.asL fun j => runB C n (f j) A H
  | .asF k v f, A, H => obind (v.asF k) fun j => runB C n (f j) A H
  | .asC k v f, A, H => obind (v.asC k) fun j => runB C n (f j.1 j.2) A H
  | .asX v f, A, H => obind v.asX fun j => runB C n (f j) A H
  | .asBy l f, A, H => obind (baOf l .empty) fun j => runB C n (f j) A H
  | .asIt v f, A, H => obind v.asIt fun j => runB C n (f j) A H
  | .asA m v f, A, H => obind (v.asA m) fun j => runB C n (f j) A H
  | .asT m v f, A, H => obind (v.asT m) fun j => runB C n (f j) A H
  | .nn o f, A, H => obind o fun j => runB C n (f j.1 j.2) A H
  | .nth l i f, A, H => obind l[i]? fun j => runB C n (f j) A H
  | .nthC l i f, A, H => obind l[i]? fun j => runB C n (f j) A H
  | .ixS z s i f, A, H => obind (ixIn z s i) fun j => runB C n (f j.1 j.2.1 j.2.2) A H
  | .ld id off m f, A, H => obind (H.rd id off m) fun j => runB C n (f j) A H
  | .lds z s m f, A, H => obind (H.rds z s m) fun j => runB C n (f j) A H
  | .slc z s lo hi mx f, A, H => obind (slcIn s z lo hi mx) fun j => runB C n (f j) A H
  | .st id off l t, A, H => obind (H.wr id off l) fun H' => runB C n t A H'
  | .same id off l t, A, H => addO [.l (H.rd id off l.length) (some l)] (runB C n t A H)
  | .al l f, A, H => obind (H.new (.cells false l)) fun H' => runB C n (f H.next) A H'
  | .sts z s l t, A, H => obind (H.wrs z s l) fun H' => runB C n t A H'
  | .app z eb s l m f, A, H => obind (H.app z eb s l m) fun a => runB C n (f a.1) A a.2
  | .call g args k, A, H => obind (C g args H) fun a => addO a.2 (runB C n (k a.1.1) A a.1.2)
  | .callv v args k, A, H => obind v.asFn fun g => obind (C g.1 (ptrs g.2.1 ++ args ++ ptrs g.2.2) H) fun a => addO a.2 (runB C n (k a.1.1) A a.1.2)
  | .itn s f, A, H => obind (H.new (.iter s 0)) fun H' => runB C n (f H.next) A H'
  | .itx id f, A, H => obind (H.it id) fun q =>
      if q.2 < q.1.size then obind (H.put id (some (.iter q.1 (q.2 + (Utf8.decode q.1 q.2).2)))) fun H' => runB C n (f (some (q.2, ((Utf8.decode q.1 q.2).1 : Int)))) A H' else runB C n (f none) A H
  | .join t k, A, H => obind (runB C n t A H) fun a => addO a.2.2 (runB C n (k a.1.1.1 a.1.1.2) a.2.1 a.1.2)
  | .loop b l k, A, H => obind (iterB n (fun l A H => runB C n (b l) A H) l A H) fun a => addO a.2.2 (runB C n (k a.1.1.1 a.1.1.2) a.2.1 a.1.2)

theorem iterB_sub {b : List AV → Adv → HT → Option ResB} {b' : List AV → AH → Option Res} (hb : ∀ l A h G r, b l A h = some r → obsOk r.2.2 → advOk A → SubH h.rep G → advOk r.2.1 ∧ ∃ G', b' l G = some (r.1.1, G') ∧ SubH r.1.2.rep G') : ∀ (n : Nat) (l : List AV) (A : Adv) (h : HT) (G : AH) (r : ResB), iterB n b l A h = some r → obsOk r.2.2 → advOk A → SubH h.rep G → advOk r.2.1 ∧ ∃ G', iterL n b' l G = some (r.1.1, G') ∧ SubH r.1.2.rep G'
  | 0, l, A, h, G, r, e, _, _, _ => by cases e
  | n + 1, l, A, h, G, r, e, ho, ha, s => by
    unfold iterB at e
    unfold iterL
    split at e
    · rename_i l' H' A' os e1
      obtain ⟨o', e2, e3⟩ := addO_eq e
      rw [e3] at ho
      obtain ⟨o1, o2⟩ := obsOk_append ho
      obtain ⟨ha', G', g1, g2⟩ := hb _ _ _ _ _ e1 o1 ha s
      rw [g1]
      exact iterB_sub hb n l' A' H' G' (r.1, r.2.1, o') e2 o2 ha' g2
    · rename_i hne
      obtain ⟨⟨⟨tag, l1⟩, H1⟩, A1, os1⟩ := r
      obtain ⟨ha', G', g1, g2⟩ := hb _ _ _ _ _ e ho ha s
      rw [g1]
      cases tag with
      | zero => exact absurd e (hne l1 H1 A1 os1)
      | succ tag => exact ⟨ha', G', rfl, g2⟩

theorem runB_sub {C : OraB} {C' : Ora} (hC : ∀ f a h G r, C f a h = some r → obsOk r.2 → SubH h.rep G → ∃ G', C' f a G = some (r.1.1, G') ∧ SubH r.1.2.rep G') {n : Nat} : ∀ (t : Tree) {A : Adv} {h : HT} {G : AH} {r : ResB}, runB C n t A h = some r → obsOk r.2.2 → advOk A → SubH h.rep G → advOk r.2.1 ∧ ∃ G', run C' n t G = some (r.1.1, G') ∧ SubH r.1.2.rep G' := by
  intro t
  induction t with
  | ret t l => intro A h G r e ho ha s; simp only [runB, run] at e ⊢; cases e; exact ⟨ha, G, rfl, s⟩
  | fail => intro A h G r e ho ha s; simp [runB] at e
  | br b t f ht hf =>
    intro A h G r e ho ha s
    simp only [runB, run] at e ⊢
    split at e
    · split at e <;> rename_i hb
      · simp only [if_pos hb]; exact ht e ho ha s
      · simp only [if_neg hb]; exact hf e ho ha s
    · rename_i e' bit A'
      obtain ⟨o', e2, e3⟩ := addO_eq e
      rw [e3] at ho
      obtain ⟨o1, o2⟩ := obsOk_append ho
      have hb : b = bit := (show b = e' from o1.1).trans (show e' = bit from ha.1)
      split at e2 <;> rename_i hbit
      · simp only [hb, if_pos hbit]; have q := ht e2 o2 ha.2 s; exact q
      · simp only [hb, if_neg hbit]; have q := hf e2 o2 ha.2 s; exact q
    · rename_i k x A'
      have ha' : advOk ((k, x) :: A') := ⟨ha.1, ha.2⟩
      split at e <;> rename_i hb
      · simp only [if_pos hb]; exact ht e ho ha' s
      · simp only [if_neg hb]; exact hf e ho ha' s
  | tg x m t f ht hf => intro A h G r e ho ha s; simp only [runB, run] at e ⊢; split at e <;> rename_i hb
                        · simp only [if_pos hb]; exact ht e ho ha s
                        · simp only [if_neg hb]; exact hf e ho ha s
  | asI k v f ih => intro A h G r e ho ha s; simp only [runB, run] at e ⊢; obtain ⟨a, h1, h2⟩ := obind_eq.1 e; simp only [h1, obind]; exact ih _ h2 ho ha s
  | asB v f ih => intro A h G r e ho ha s; simp only [runB, run] at e ⊢; obtain ⟨a, h1, h2⟩ := obind_eq.1 e; simp only [h1, obind]; exact ih _ h2 ho ha s
  | asS v f ih => intro A h G r e ho ha s; simp only [runB, run] at e ⊢; obtain ⟨a, h1, h2⟩ := obind_eq.1 e; simp only [h1, obind]; exact ih _ h2 ho ha s
  | asP v f ih => intro A h G r e ho ha s; simp only [runB, run] at e ⊢; obtain ⟨a, h1, h2⟩ := obind_eq.1 e; simp only [h1, obind]; exact ih _ h2 ho ha s
  | asL v f ih => intro A h G r e ho ha s; simp only [runB, run] at e ⊢; obtain ⟨a, h1, h2⟩ := obind_eq.1 e; simp only [h1, obind]; exact ih _ h2 ho ha s
  | asF k v f ih => intro A h G r e ho ha s; simp only [runB, run] at e ⊢; obtain ⟨a, h1, h2⟩ := obind_eq.1 e; simp only [h1, obind]; exact ih _ h2 ho ha s
  | asC k v f ih => intro A h G r e ho ha s; simp only [runB, run] at e ⊢; obtain ⟨a, h1, h2⟩ := obind_eq.1 e; simp only [h1, obind]; exact ih _ _ h2 ho ha s
  | asX v f ih => intro A h G r e ho ha s; simp only [runB, run] at e ⊢; obtain ⟨a, h1, h2⟩ := obind_eq.1 e; simp only [h1, obind]; exact ih _ h2 ho ha s
  | asBy l f ih => intro A h G r e ho ha s; simp only [runB, run] at e ⊢; obtain ⟨a, h1, h2⟩ := obind_eq.1 e; simp only [h1, obind]; exact ih _ h2 ho ha s
  | asIt v f ih => intro A h G r e ho ha s; simp only [runB, run] at e ⊢; obtain ⟨a, h1, h2⟩ := obind_eq.1 e; simp only [h1, obind]; exact ih _ h2 ho ha s
  | asA m v f ih => intro A h G r e ho ha s; simp only [runB, run] at e ⊢; obtain ⟨a, h1, h2⟩ := obind_eq.1 e; simp only [h1, obind]; exact ih _ h2 ho ha s
  | asT m v f ih => intro A h G r e ho ha s; simp only [runB, run] at e ⊢; obtain ⟨a, h1, h2⟩ := obind_eq.1 e; simp only [h1, obind]; exact ih _ h2 ho ha s
  | nn o f ih => intro A h G r e ho ha s; simp only [runB, run] at e ⊢; obtain ⟨a, h1, h2⟩ := obind_eq.1 e; simp only [h1, obind]; exact ih _ _ h2 ho ha s
  | nth l i f ih => intro A h G r e ho ha s; simp only [runB, run] at e ⊢; obtain ⟨a, h1, h2⟩ := obind_eq.1 e; simp only [h1, obind]; exact ih _ h2 ho ha s
  | nthC l i f ih => intro A h G r e ho ha s; simp only [runB, run] at e ⊢; obtain ⟨a, h1, h2⟩ := obind_eq.1 e; simp only [h1, obind]; exact ih _ h2 ho ha s
  | ixS z s' i f ih => intro A h G r e ho ha s; simp only [runB, run] at e ⊢; obtain ⟨a, h1, h2⟩ := obind_eq.1 e; simp only [h1, obind]; exact ih _ _ _ h2 ho ha s
  | ld id off m f ih => intro A h G r e ho ha s; simp only [runB, run] at e ⊢; obtain ⟨a, h1, h2⟩ := obind_eq.1 e; simp only [s.rd (show h.rep.rd id off m = some a from h1), obind]; exact ih _ h2 ho ha s
  | lds z s' m f ih => intro A h G r e ho ha s; simp only [runB, run] at e ⊢; obtain ⟨a, h1, h2⟩ := obind_eq.1 e; simp only [s.rds (show h.rep.rds z s' m = some a from h1), obind]; exact ih _ h2 ho ha s
  | slc z s' lo hi mx f ih => intro A h G r e ho ha s; simp only [runB, run] at e ⊢; obtain ⟨a, h1, h2⟩ := obind_eq.1 e; simp only [h1, obind]; exact ih _ h2 ho ha s
  | st id off l t ih => intro A h G r e ho ha s; simp only [runB, run] at e ⊢; obtain ⟨a, h1, h2⟩ := obind_eq.1 e; obtain ⟨G', g1, g2⟩ := s.wr (HT.wr_rep h1); simp only [g1, obind]; exact ih h2 ho ha g2
  | same id off l t ih =>
    intro A h G r e ho ha s
    simp only [runB, run] at e ⊢
    obtain ⟨o', e2, e3⟩ := addO_eq e
    rw [e3] at ho
    obtain ⟨o1, o2⟩ := obsOk_append ho
    simp only [if_pos (s.rd (show h.rep.rd id off l.length = some l from o1.1))]
    have q := ih e2 o2 ha s; exact q
  | al l f ih => intro A h G r e ho ha s; simp only [runB, run] at e ⊢; obtain ⟨a, h1, h2⟩ := obind_eq.1 e; have g := s.new (.cells false l); rw [HT.new_rep h1] at g; rw [show h.next = G.next from s.1] at h2; exact ih _ h2 ho ha g
  | sts z s' l t ih => intro A h G r e ho ha s; simp only [runB, run] at e ⊢; obtain ⟨a, h1, h2⟩ := obind_eq.1 e; obtain ⟨G', g1, g2⟩ := s.wrs (HT.wrs_rep h1); simp only [g1, obind]; exact ih h2 ho ha g2
  | app z eb s' l n f ih => intro A h G r e ho ha s; simp only [runB, run] at e ⊢; obtain ⟨a, h1, h2⟩ := obind_eq.1 e; obtain ⟨G', g1, g2⟩ := s.app (HT.app_rep h1); simp only [g1, obind]; exact ih _ h2 ho ha g2
  | call f args k ih =>
    intro A h G r e ho ha s
    simp only [runB, run] at e ⊢
    obtain ⟨a, h1, h2⟩ := obind_eq.1 e
    obtain ⟨o', e2, e3⟩ := addO_eq h2
    rw [e3] at ho
    obtain ⟨o1, o2⟩ := obsOk_append ho
    obtain ⟨G', g1, g2⟩ := hC _ _ _ _ _ h1 o1 s
    simp only [g1, obind]
    have q := ih _ e2 o2 ha g2; exact q
  | callv v args k ih =>
    intro A h G r e ho ha s
    simp only [runB, run] at e ⊢
    obtain ⟨g, h0, e⟩ := obind_eq.1 e
    obtain ⟨a, h1, h2⟩ := obind_eq.1 e
    obtain ⟨o', e2, e3⟩ := addO_eq h2
    rw [e3] at ho
    obtain ⟨o1, o2⟩ := obsOk_append ho
    obtain ⟨G', g1, g2⟩ := hC _ _ _ _ _ h1 o1 s
    simp only [h0, obind, g1]
    have q := ih _ e2 o2 ha g2; exact q
  | itn s' f ih => intro A h G r e ho ha s; simp only [runB, run] at e ⊢; obtain ⟨a, h1, h2⟩ := obind_eq.1 e; have g := s.new (.iter s' 0); rw [HT.new_rep h1] at g; rw [show h.next = G.next from s.1] at h2; exact ih _ h2 ho ha g
  | itx id f ih => intro A h G r e ho ha s; simp only [runB, run] at e ⊢; obtain ⟨a, h1, h2⟩ := obind_eq.1 e; simp only [s.it (show h.rep.it id = some a from h1), obind]
                   split at h2 <;> rename_i hb
                   · simp only [if_pos hb]; obtain ⟨H', h3, h4⟩ := obind_eq.1 h2; have g := s.put id (some (.iter a.1 (a.2 + (Utf8.decode a.1 a.2).2))); rw [HT.put_rep h3] at g; exact ih _ h4 ho ha g
                   · simp only [if_neg hb]; exact ih _ h2 ho ha s
  | join t k iht ihk =>
    intro A h G r e ho ha s
    simp only [runB, run] at e ⊢
    obtain ⟨a, h1, h2⟩ := obind_eq.1 e
    obtain ⟨o', e2, e3⟩ := addO_eq h2
    rw [e3] at ho
    obtain ⟨o1, o2⟩ := obsOk_append ho
    obtain ⟨ha', G', g1, g2⟩ := iht h1 o1 ha s
    simp only [g1, obind]
    have q := ihk _ _ e2 o2 ha' g2; exact q
  | loop b l k ihb ihk =>
    intro A h G r e ho ha s
    simp only [runB, run] at e ⊢
    obtain ⟨a, h1, h2⟩ := obind_eq.1 e
    obtain ⟨o', e2, e3⟩ := addO_eq h2
    rw [e3] at ho
    obtain ⟨o1, o2⟩ := obsOk_append ho
    obtain ⟨ha', G', g1, g2⟩ := iterB_sub (fun l A h G r e ho ha s => ihb l e ho ha s) _ _ _ _ _ _ h1 o1 ha s
    simp only [g1, obind]
    have q := ihk _ _ e2 o2 ha' g2; exact q

/-- a call that leaves the heap as it is; known by its number and by how many objects there are -/
structure PF where
  f : Nat
  n0 : Nat
  args : List AV
  v : AV
def PF.ok (E : Env) (x : PF) : Prop := ∃ n, ∀ G, callA E.P E.T E.hs n x.f x.args G = some (x.v, G)
def allP (E : Env) : List PF → Prop
  | [] => True
  | x :: r => x.ok E ∧ allP E r
def findP : List PF → Nat → Nat → Option PF
  | [], _, _ => none
  | x :: r, f, n => if (x.f == f && x.n0 == n) = true then some x else findP r f n
def findG : List Fact → Nat → Nat → Option Fact
  | [], _, _ => none
  | x :: r, f, n => if (x.f == f && (x.n0 == n && (okL x.l0 && okL x.l1))) = true then some x else findG r f n
theorem findP_ok {E : Env} {N : Nat} {f n : Nat} {x : PF} : ∀ {l : List PF}, (∀ y ∈ l, ∀ G, callA E.P E.T E.hs N y.f y.args G = some (y.v, G)) → findP l f n = some x → f = x.f ∧ ∀ G, callA E.P E.T E.hs N x.f x.args G = some (x.v, G)
  | [], _, h => by cases h
  | y :: r, hy, h => by
    unfold findP at h
    split at h
    · rename_i hc
      cases h
      simp only [Bool.and_eq_true, beq_iff_eq] at hc
      exact ⟨hc.1.symm, hy _ (List.mem_cons_self ..)⟩
    · exact findP_ok (fun y h' => hy y (List.mem_cons_of_mem _ h')) h
theorem findG_ok {f n : Nat} {x : Fact} : ∀ {l : List Fact}, findG l f n = some x → x ∈ l ∧ f = x.f ∧ n = x.n0 ∧ okL x.l0 = true
  | [], h => by cases h
  | y :: r, h => by
    unfold findG at h
    split at h
    · rename_i hc
      cases h
      simp only [Bool.and_eq_true, beq_iff_eq] at hc
      exact ⟨List.mem_cons_self .., hc.1.symm, hc.2.1.symm, hc.2.2.1⟩
    · have := findG_ok h; exact ⟨List.mem_cons_of_mem _ this.1, this.2⟩
theorem AllN.mem {E : Env} {N : Nat} : ∀ {l : List Fact}, AllN E N l → ∀ {x : Fact}, x ∈ l → ∀ G, SubH (ofL x.n0 x.l0).rep G → ∃ G', callA E.P E.T E.hs N x.f x.args G = some (x.v, G') ∧ SubH (ofL x.n1 x.l1).rep G'
  | [], _, x, h => by cases h
  | y :: r, hy, x, h => by
    cases h with
    | head => exact hy.1
    | tail _ h => exact AllN.mem hy.2 h
theorem allP.toN {E : Env} : ∀ {l : List PF}, allP E l → ∃ N, ∀ M, N ≤ M → ∀ y ∈ l, ∀ G, callA E.P E.T E.hs M y.f y.args G = some (y.v, G)
  | [], _ => ⟨0, fun _ _ y h => by cases h⟩
  | x :: r, h => by
    obtain ⟨n, hn⟩ := h.1
    obtain ⟨N, hN⟩ := allP.toN h.2
    refine ⟨max n N, fun M hM y hy G => ?_⟩
    cases hy with
    | head => exact callA_mono (by omega) (hn G)
    | tail _ hy => exact hN M (by omega) y hy G
def obL (l : List (Nat × AO)) (t : Tr) : List Ob := l.map fun p => .o (t.get p.1) (some p.2)
theorem obL_sub {n : Nat} {l : List (Nat × AO)} {H : HT} (hk : okL l = true) (h : obsOk (obL l H.t)) (hn : n = H.next) : SubH (ofL n l).rep H.rep := by
  refine ⟨hn, fun i o ho => ?_⟩
  have h' : ∀ {l : List (Nat × AO)}, obsOk (obL l H.t) → ∀ p ∈ l, H.t.get p.1 = some p.2 := by
    intro l
    induction l with
    | nil => intro _ p hp; cases hp
    | cons q r ih =>
      intro h p hp
      cases hp with
      | head => exact h.1
      | tail _ hp => exact ih h.2 p hp
  exact h' h _ (trL_get hk ho)
abbrev AvT := List (Nat × Nat × Adv)
def lookAv : AvT → Nat → Nat → Adv
  | [], _, _ => []
  | x :: r, f, n => if (x.1 == f && x.2.1 == n) = true then x.2.2 else lookAv r f n
def avOk : AvT → Prop
  | [] => True
  | x :: r => advOk x.2.2 ∧ avOk r
theorem lookAv_ok {f n : Nat} : ∀ {l : AvT}, avOk l → advOk (lookAv l f n)
  | [], _ => trivial
  | x :: r, h => by
    unfold lookAv
    split
    · exact h.1
    · exact lookAv_ok h.2
def callS (tb : Tbl) (ps : List PF) (gs : List Fact) (av : AvT) : Nat → OraB
  | 0, _, _, _ => none
  | n + 1, f, args, H => match findP ps f H.next with
    | some x => some ((x.v, H), [.a args x.args])
    | none => match findG gs f H.next with
      | some x => some ((x.v, ofL x.n1 x.l1), .a args x.args :: obL x.l0 H.t)
      | none => match lookN tb f with
        | some t => match runB (callS tb ps gs av n) n (t args) (lookAv av f H.next) H with
          | some (((0, [v]), H'), _, os) => some ((v, H'), os)
          | _ => none
        | none => none
/-- a tree that runs as the function's does wherever it ends -/
def TrOk2 (E : Env) (f : Nat) (t : List AV → Tree) : Prop := ∃ fn, E.P.funcs[f]? = some fn ∧ ∀ (args : List AV) (C : Ora) (n : Nat) (H : AH) (r : Res), run C n (t args) H = some r → run C n (bodyK E.T (E.hs f) fn args) H = some r
theorem TrOk.two {E : Env} {f : Nat} {t : List AV → Tree} (h : TrOk E f t) : TrOk2 E f t := by
  obtain ⟨fn, h1, h2⟩ := h
  exact ⟨fn, h1, fun args C n H r hr => by rw [← h2 args C n H r hr]; exact hr⟩
def TbOk2 (E : Env) : Tbl → Prop
  | [] => True
  | x :: r => TrOk2 E x.1 x.2 ∧ TbOk2 E r
theorem TbOk.two {E : Env} : ∀ {tb : Tbl}, TbOk E tb → TbOk2 E tb
  | [], _ => trivial
  | x :: r, h => ⟨h.1.two, TbOk.two h.2⟩
theorem TbOk2.look {E : Env} : ∀ {tb : Tbl}, TbOk2 E tb → ∀ {f : Nat} {t : List AV → Tree}, lookN tb f = some t → TrOk2 E f t
  | [], _, f, t, h => by cases h
  | x :: r, h, f, t, hl => by
    obtain ⟨a, y⟩ := x
    simp only [lookN] at hl
    split at hl
    · rename_i e; subst e; cases hl; exact h.1
    · exact TbOk2.look h.2 hl
theorem callS_sound {E : Env} {tb : Tbl} (h : TbOk2 E tb) {ps : List PF} {gs : List Fact} {av : AvT} {N : Nat} (hp : ∀ M, N ≤ M → ∀ y ∈ ps, ∀ G, callA E.P E.T E.hs M y.f y.args G = some (y.v, G)) (hg : AllN E N gs) (hav : avOk av) : ∀ (n : Nat) (f : FuncId) (args : List AV) (H : HT) (G : AH) (r : (AV × HT) × List Ob), callS tb ps gs av n f args H = some r → obsOk r.2 → SubH H.rep G → ∃ G', callA E.P E.T E.hs (N + n) f args G = some (r.1.1, G') ∧ SubH r.1.2.rep G'
  | 0, _, _, _, _, _, hr, _, _ => by cases hr
  | n + 1, f, args, H, G, r, hr, ho, s => by
    simp only [callS] at hr
    split at hr
    · rename_i x hx
      cases hr
      obtain ⟨e1, e2⟩ := findP_ok (hp (N + (n + 1)) (by omega)) hx
      subst e1
      have ea : args = x.args := ho.1
      rw [ea]
      exact ⟨G, e2 G, s⟩
    · split at hr
      · rename_i x hx
        cases hr
        obtain ⟨e0, e1, e2, e3⟩ := findG_ok hx
        subst e1
        have ea : args = x.args := ho.1
        rw [ea]
        obtain ⟨G', g1, g2⟩ := hg.mem e0 G ((obL_sub e3 ho.2 e2.symm).trans s)
        exact ⟨G', callA_mono (by omega) g1, g2⟩
      · split at hr
        · rename_i t ht
          split at hr
          · rename_i v H' A' os hv
            cases hr
            obtain ⟨fn, h1, h2⟩ := h.look ht
            obtain ⟨-, G', g1, g2⟩ := runB_sub (C' := callA E.P E.T E.hs (N + n)) (fun f a h' G r hc ho s => callS_sound h hp hg hav n f a h' G r hc ho s) _ hv ho (lookAv_ok hav) s
            have g3 := run_mono (C' := callA E.P E.T E.hs (N + n)) (fun _ _ _ _ hc => hc) (by omega : n ≤ N + n) _ g1
            have g3 := h2 args _ _ _ _ g3
            refine ⟨G', ?_, g2⟩
            show callA E.P E.T E.hs (N + n + 1) f args G = _
            simp only [callA, h1, g3]
          · cases hr
        · cases hr
/-- what is to be looked at -/
def outS (x : Fact) : Option ((AV × HT) × List Ob) → List Ob
  | none => [.b false true]
  | some r => .a [r.1.1] [x.v] :: .b (r.1.2.next == x.n1 && okL x.l1) true :: (obL x.l1 r.1.2.t ++ r.2)
theorem facS_ok {E : Env} {tb : Tbl} (h : TbOk2 E tb) {ps : List PF} {gs : List Fact} {av : AvT} (hp : allP E ps) (hg : AllF E gs) (hav : avOk av) {n : Nat} {x : Fact} (hb : outS x (callS tb ps gs av n x.f x.args (ofL x.n0 x.l0)) = (outS x (callS tb ps gs av n x.f x.args (ofL x.n0 x.l0))).map Ob.self) : x.ok E := by
  obtain ⟨N1, hN1⟩ := hp.toN
  obtain ⟨N2, hN2⟩ := hg.toN
  have ho := obsOk_self hb
  generalize hR : callS tb ps gs av n x.f x.args (ofL x.n0 x.l0) = R at ho
  cases R with
  | none => exact absurd ho.1 (by intro h; cases h)
  | some r =>
    obtain ⟨o1, o2, o3⟩ := ho
    obtain ⟨o3, o4⟩ := obsOk_append o3
    have o1' : [r.1.1] = [x.v] := o1
    have o2' : (r.1.2.next == x.n1 && okL x.l1) = true := o2
    simp only [Bool.and_eq_true, beq_iff_eq] at o2'
    refine ⟨max N1 N2 + n, fun G s => ?_⟩
    obtain ⟨G', g1, g2⟩ := callS_sound h (N := max N1 N2) (fun M hM => hN1 M (by omega)) (hN2.mono (by omega)) hav n _ _ _ _ _ hR o4 s
    simp only [List.cons.injEq, and_true] at o1'
    rw [o1'] at g1
    exact ⟨G', g1, (obL_sub o2'.2 o3 o2'.1.symm).trans g2⟩
end Go.Proofs.YtpbhfolaoccpkaaGreat.Fw
