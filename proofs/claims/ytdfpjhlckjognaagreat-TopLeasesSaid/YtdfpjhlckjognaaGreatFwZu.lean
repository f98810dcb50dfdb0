/- The abstract machine over a heap that is data (a tree by the object's number), for long runs by the kernel. -/
import Derived.Test.YtdfpjhlckjognaaGreatFwX
set_option linter.unusedVariables false
set_option linter.unusedSimpArgs false
namespace Go.Proofs.YtdfpjhlckjognaaGreat.Fw
open Go
inductive Tr where
  | lf
  | nd (l r : Tr) (v : Option AO)
def Tr.get : Tr → Nat → Option AO
  | .lf, _ => none
  | .nd l r v, i => if i = 0 then v else if i % 2 = 1 then l.get ((i - 1) / 2) else r.get ((i - 2) / 2)
def Tr.set : Nat → Tr → Nat → Option AO → Tr
  | 0, t, _, _ => t
  | k + 1, .lf, i, x => if i = 0 then .nd .lf .lf x else if i % 2 = 1 then .nd (Tr.set k .lf ((i - 1) / 2) x) .lf none else .nd .lf (Tr.set k .lf ((i - 2) / 2) x) none
  | k + 1, .nd l r v, i, x => if i = 0 then .nd l r x else if i % 2 = 1 then .nd (Tr.set k l ((i - 1) / 2) x) r v else .nd l (Tr.set k r ((i - 2) / 2) x) v
theorem Tr.get_set (x : Option AO) : ∀ (k : Nat) (t : Tr) (i : Nat), i + 1 < 2 ^ k → ∀ j, (Tr.set k t i x).get j = if j = i then x else t.get j
  | 0, t, i, h, j => by simp at h
  | k + 1, .lf, i, h, j => by
    unfold Tr.set
    have hk : (2 : Nat) ^ (k + 1) = 2 * 2 ^ k := by rw [Nat.pow_succ]; omega
    by_cases hi : i = 0
    · subst hi
      rw [if_pos rfl]
      unfold Tr.get
      by_cases hj : j = 0
      · rw [if_pos hj, if_pos hj]
      · rw [if_neg hj, if_neg hj]; split <;> rfl
    · rw [if_neg hi]
      by_cases ho : i % 2 = 1
      · rw [if_pos ho]
        have ih := Tr.get_set x k .lf ((i - 1) / 2) (by omega)
        unfold Tr.get
        by_cases hj : j = 0
        · rw [if_pos hj, if_neg (by omega)]
        · rw [if_neg hj]
          by_cases hjo : j % 2 = 1
          · rw [if_pos hjo, ih]
            by_cases e : j = i
            · subst e; rw [if_pos rfl, if_pos rfl]
            · rw [if_neg (by omega), if_neg e]; rfl
          · rw [if_neg hjo, if_neg (by omega)]; rfl
      · rw [if_neg ho]
        have ih := Tr.get_set x k .lf ((i - 2) / 2) (by omega)
        unfold Tr.get
        by_cases hj : j = 0
        · rw [if_pos hj, if_neg (by omega)]
        · rw [if_neg hj]
          by_cases hjo : j % 2 = 1
          · rw [if_pos hjo, if_neg (by omega)]; rfl
          · rw [if_neg hjo, ih]
            by_cases e : j = i
            · subst e; rw [if_pos rfl, if_pos rfl]
            · rw [if_neg (by omega), if_neg e]; rfl
  | k + 1, .nd l r v, i, h, j => by
    unfold Tr.set
    have hk : (2 : Nat) ^ (k + 1) = 2 * 2 ^ k := by rw [Nat.pow_succ]; omega
    by_cases hi : i = 0
    · subst hi
      rw [if_pos rfl]
      unfold Tr.get
      by_cases hj : j = 0
      · rw [if_pos hj, if_pos hj]
      · rw [if_neg hj, if_neg hj, if_neg hj]
    · rw [if_neg hi]
      by_cases ho : i % 2 = 1
      · rw [if_pos ho]
        have ih := Tr.get_set x k l ((i - 1) / 2) (by omega)
        unfold Tr.get
        by_cases hj : j = 0
        · rw [if_pos hj, if_neg (by omega), if_pos hj]
        · rw [if_neg hj, if_neg hj]
          by_cases hjo : j % 2 = 1
          · rw [if_pos hjo, if_pos hjo, ih]
            by_cases e : j = i
            · subst e; rw [if_pos rfl, if_pos rfl]
            · rw [if_neg (by omega), if_neg e]
          · rw [if_neg hjo, if_neg hjo, if_neg (by omega)]
      · rw [if_neg ho]
        have ih := Tr.get_set x k r ((i - 2) / 2) (by omega)
        unfold Tr.get
        by_cases hj : j = 0
        · rw [if_pos hj, if_neg (by omega), if_pos hj]
        · rw [if_neg hj, if_neg hj]
          by_cases hjo : j % 2 = 1
          · rw [if_pos hjo, if_pos hjo, if_neg (by omega)]
          · rw [if_neg hjo, if_neg hjo, ih]
            by_cases e : j = i
            · subst e; rw [if_pos rfl, if_pos rfl]
            · rw [if_neg (by omega), if_neg e]
structure HT where
  next : Nat
  t : Tr
def HT.rep (h : HT) : AH := ⟨h.next, h.t.get⟩
def htMax : Nat := 1099511627774
def HT.put (h : HT) (id : Nat) (o : Option AO) : Option HT := if id ≤ htMax then some ⟨h.next, h.t.set 40 id o⟩ else none
def HT.new (h : HT) (o : AO) : Option HT := if h.next ≤ htMax then some ⟨h.next + 1, h.t.set 40 h.next (some o)⟩ else none
theorem HT.put_rep {h h' : HT} {id : Nat} {o : Option AO} (e : h.put id o = some h') : h.rep.put id o = h'.rep := by
  unfold HT.put at e
  split at e
  case isFalse => cases e
  rename_i hi
  cases e
  unfold HT.rep AH.put
  congr 1
  funext j
  rw [Tr.get_set _ 40 h.t id (by unfold htMax at hi; omega) j]
theorem HT.new_rep {h h' : HT} {o : AO} (e : h.new o = some h') : h.rep.new o = h'.rep := by
  unfold HT.new at e
  split at e
  case isFalse => cases e
  rename_i hi
  cases e
  unfold HT.rep AH.new
  congr 1
  funext j
  rw [Tr.get_set _ 40 h.t h.next (by unfold htMax at hi; omega) j]
def HT.rd (H : HT) (id off n : Nat) : Option (List Sc) :=
  match H.t.get id with
  | some (.cells _ l) => if off + n ≤ l.length then some ((l.drop off).take n) else none
  | _ => none
def HT.wr (H : HT) (id off : Nat) (vs : List Sc) : Option HT :=
  match H.t.get id with
  | some (.cells false l) => if off + vs.length ≤ l.length then H.put id (some (.cells false (l.take off ++ vs ++ l.drop (off + vs.length)))) else none
  | _ => none
def HT.app (H : HT) (z eb : Nat) (s : Option SlD) (l : List Sc) (n : Nat) : Option (Option SlD × HT) :=
  if l.length = n * z ∧ 0 < eb ∧ eb ≤ appBytes then
    match s with
    | none => if n = 0 then some (none, H) else if n * eb ≤ appBound then obind (H.new (.cells false l)) fun H' => some (some ⟨H.next, 0, n, n, z⟩, H') else none
    | some d =>
      if d.z = z then
        if d.len + n ≤ d.cap then
          if n = 0 then some (some d, H) else obind (H.wr d.id (d.off + d.len * z) l) fun H' => some (some ⟨d.id, d.off, d.len + n, d.cap, z⟩, H')
        else if (d.len + n) * eb ≤ appBound then
          match H.t.get d.id with
          | some (.cells false c) =>
            if d.off + d.len * z ≤ c.length then
              obind (H.put d.id none) fun H1 => obind (H1.new (.cells false ((c.drop d.off).take (d.len * z) ++ l))) fun H2 => some (some ⟨H.next, 0, d.len + n, d.len + n, z⟩, H2)
            else none
          | _ => none
        else none
      else none
  else none
def HT.rds (H : HT) (z : Nat) (s : Option SlD) (n : Nat) : Option (List Sc) :=
  match s with
  | none => if n = 0 then some [] else none
  | some d => if n = 0 then some [] else if n ≤ d.len ∧ d.z = z then H.rd d.id d.off (n * z) else none
def HT.wrs (H : HT) (z : Nat) (s : Option SlD) (l : List Sc) : Option HT :=
  match l with
  | [] => some H
  | _ => match s with
    | none => none
    | some d => if l.length ≤ d.len * z ∧ d.z = z then H.wr d.id d.off l else none
def HT.it (H : HT) (id : Nat) : Option (ByteArray × Nat) :=
  match H.t.get id with
  | some (.iter s pos) => some (s, pos)
  | _ => none
theorem HT.wr_rep {h h' : HT} {id off : Nat} {vs : List Sc} (e : h.wr id off vs = some h') : h.rep.wr id off vs = some h'.rep := by
  unfold HT.wr at e
  split at e
  case h_2 => cases e
  rename_i l hl
  split at e
  case isFalse => cases e
  rename_i hle
  have hl' : h.rep.obj id = some (.cells false l) := hl
  unfold AH.wr
  rw [hl']
  simp only [if_pos hle]
  rw [HT.put_rep e]
theorem HT.wrs_rep {h h' : HT} {z : Nat} {s : Option SlD} {l : List Sc} (e : h.wrs z s l = some h') : h.rep.wrs z s l = some h'.rep := by
  cases l with
  | nil => cases e; rfl
  | cons x l =>
    cases s with
    | none => cases e
    | some d =>
      simp only [HT.wrs] at e
      simp only [AH.wrs]
      split at e
      · rename_i hc; rw [if_pos hc]; exact HT.wr_rep e
      · cases e
theorem HT.app_rep {h : HT} {z eb : Nat} {s : Option SlD} {l : List Sc} {n : Nat} {r : Option SlD × HT} (e : h.app z eb s l n = some r) : h.rep.app z eb s l n = some (r.1, r.2.rep) := by
  unfold HT.app at e
  unfold AH.app
  split at e
  case isFalse => cases e
  rename_i h0
  rw [if_pos h0]
  cases s with
  | none =>
    simp only at e ⊢
    split at e
    · rename_i h1; cases e; rw [if_pos h1]
    · rename_i h1
      rw [if_neg h1]
      split at e
      · rename_i h2
        rw [if_pos h2]
        obtain ⟨H', h3, h4⟩ := obind_eq.1 e
        cases h4
        rw [HT.new_rep h3]; rfl
      · cases e
  | some d =>
    simp only at e ⊢
    split at e
    case isFalse => cases e
    rename_i hz
    rw [if_pos hz]
    split at e
    · rename_i hc
      rw [if_pos hc]
      split at e
      · rename_i h1; cases e; rw [if_pos h1]
      · rename_i h1
        rw [if_neg h1]
        obtain ⟨H', h3, h4⟩ := obind_eq.1 e
        cases h4
        rw [HT.wr_rep h3]; rfl
    · rename_i hc
      rw [if_neg hc]
      split at e
      case isFalse => cases e
      rename_i hb
      rw [if_pos hb]
      split at e
      case h_2 => cases e
      rename_i c hg
      have hg' : h.rep.obj d.id = some (.cells false c) := hg
      rw [hg']
      simp only
      split at e
      case isFalse => cases e
      rename_i hle
      rw [if_pos hle]
      obtain ⟨H1, h3, e⟩ := obind_eq.1 e
      obtain ⟨H2, h4, e⟩ := obind_eq.1 e
      cases e
      rw [HT.put_rep h3, HT.new_rep h4]; rfl
abbrev ResD := (Nat × List AV) × HT
abbrev Tbl := List (Nat × (List AV → Tree))
def TrOk (E : Env) (f : Nat) (t : List AV → Tree) : Prop := ∃ fn, E.P.funcs[f]? = some fn ∧ ∀ (args : List AV) (C : Ora) (n : Nat) (H : AH) (r : Res), run C n (t args) H = some r → t args = bodyK E.T (E.hs f) fn args
def TbOk (E : Env) : Tbl → Prop
  | [] => True
  | x :: r => TrOk E x.1 x.2 ∧ TbOk E r
theorem TbOk.look {E : Env} : ∀ {tb : Tbl}, TbOk E tb → ∀ {f : Nat} {t : List AV → Tree}, lookN tb f = some t → TrOk E f t
  | [], _, f, t, h => by cases h
  | x :: r, h, f, t, hl => by
    obtain ⟨a, y⟩ := x
    simp only [lookN] at hl
    split at hl
    · rename_i e; subst e; cases hl; exact h.1
    · exact TbOk.look h.2 hl
end Go.Proofs.YtdfpjhlckjognaaGreat.Fw
set_option linter.unusedVariables false
set_option linter.unusedSimpArgs false
namespace Go.Proofs.YtdfpjhlckjognaaGreat.Fw
open Go
def SubH (H G : AH) : Prop := H.next = G.next ∧ ∀ i o, H.obj i = some o → G.obj i = some o
theorem SubH.trans {H G K : AH} (h : SubH H G) (g : SubH G K) : SubH H K := ⟨h.1.trans g.1, fun i o x => g.2 i o (h.2 i o x)⟩
theorem SubH.put {H G : AH} (h : SubH H G) (id : Nat) (o : Option AO) : SubH (H.put id o) (G.put id o) := by
  refine ⟨h.1, fun i x hx => ?_⟩
  simp only [AH.put] at hx ⊢
  split at hx <;> rename_i hi
  · rw [if_pos hi]; exact hx
  · rw [if_neg hi]; exact h.2 i x hx
theorem SubH.new {H G : AH} (h : SubH H G) (o : AO) : SubH (H.new o) (G.new o) := by
  refine ⟨by simp only [AH.new]; rw [h.1], fun i x hx => ?_⟩
  simp only [AH.new] at hx ⊢
  rw [← h.1]
  split at hx <;> rename_i hi
  · rw [if_pos hi]; exact hx
  · rw [if_neg hi]; exact h.2 i x hx
theorem SubH.rd {H G : AH} (h : SubH H G) {id off n : Nat} {l : List Sc} (e : H.rd id off n = some l) : G.rd id off n = some l := by
  unfold AH.rd at e ⊢
  cases ho : H.obj id with
  | none => rw [ho] at e; cases e
  | some x => rw [ho] at e; rw [h.2 _ _ ho]; exact e
theorem SubH.wr {H G : AH} (h : SubH H G) {id off : Nat} {l : List Sc} {H' : AH} (e : H.wr id off l = some H') : ∃ G', G.wr id off l = some G' ∧ SubH H' G' := by
  unfold AH.wr at e ⊢
  cases ho : H.obj id with
  | none => rw [ho] at e; cases e
  | some x =>
    rw [ho] at e; rw [h.2 _ _ ho]
    cases x with
    | iter s p => cases e
    | cells ro c =>
      cases ro with
      | true => cases e
      | false =>
        simp only at e ⊢
        split at e <;> rename_i hc
        · cases e; rw [if_pos hc]; exact ⟨_, rfl, h.put _ _⟩
        · cases e
theorem SubH.rds {H G : AH} (h : SubH H G) {z : Nat} {s : Option SlD} {n : Nat} {l : List Sc} (e : H.rds z s n = some l) : G.rds z s n = some l := by
  unfold AH.rds at e ⊢
  cases s with
  | none => exact e
  | some d =>
    simp only at e ⊢
    split at e <;> rename_i hc
    · rw [if_pos hc]; exact e
    · rw [if_neg hc]
      split at e <;> rename_i hd
      · rw [if_pos hd]; exact h.rd e
      · cases e
theorem SubH.wrs {H G : AH} (h : SubH H G) {z : Nat} {s : Option SlD} {l : List Sc} {H' : AH} (e : H.wrs z s l = some H') : ∃ G', G.wrs z s l = some G' ∧ SubH H' G' := by
  cases l with
  | nil => cases e; exact ⟨G, rfl, h⟩
  | cons x l =>
    cases s with
    | none => cases e
    | some d =>
      simp only [AH.wrs] at e ⊢
      split at e <;> rename_i hd
      · rw [if_pos hd]; exact h.wr e
      · cases e
theorem SubH.it {H G : AH} (h : SubH H G) {id : Nat} {q : ByteArray × Nat} (e : H.it id = some q) : G.it id = some q := by
  unfold AH.it at e ⊢
  cases ho : H.obj id with
  | none => rw [ho] at e; cases e
  | some x => rw [ho] at e; rw [h.2 _ _ ho]; exact e
theorem SubH.app {H G : AH} (h : SubH H G) {z eb : Nat} {s : Option SlD} {l : List Sc} {n : Nat} {r : Option SlD × AH} (e : H.app z eb s l n = some r) : ∃ G', G.app z eb s l n = some (r.1, G') ∧ SubH r.2 G' := by
  unfold AH.app at e ⊢
  split at e
  case isFalse => cases e
  rename_i h0
  rw [if_pos h0]
  cases s with
  | none =>
    simp only at e ⊢
    split at e <;> rename_i h1
    · rw [if_pos h1]; cases e; exact ⟨_, rfl, h⟩
    · rw [if_neg h1]
      split at e <;> rename_i h2
      · rw [if_pos h2]; cases e; rw [← h.1]; exact ⟨_, rfl, h.new _⟩
      · cases e
  | some d =>
    simp only at e ⊢
    split at e
    case isFalse => cases e
    rename_i hz
    rw [if_pos hz]
    split at e
    · rename_i hc
      rw [if_pos hc]
      split at e <;> rename_i h1
      · rw [if_pos h1]; cases e; exact ⟨_, rfl, h⟩
      · rw [if_neg h1]
        obtain ⟨H1, h2, h3⟩ := obind_eq.1 e
        cases h3
        obtain ⟨G', g1, g2⟩ := h.wr h2
        rw [g1]
        exact ⟨G', rfl, g2⟩
    · rename_i hc
      rw [if_neg hc]
      split at e
      case isFalse => cases e
      rename_i hb
      rw [if_pos hb]
      cases ho : H.obj d.id with
      | none => rw [ho] at e; cases e
      | some x =>
        rw [ho] at e; rw [h.2 _ _ ho]
        cases x with
        | iter s p => cases e
        | cells ro c =>
          cases ro with
          | true => cases e
          | false =>
            simp only at e ⊢
            split at e <;> rename_i hle
            · rw [if_pos hle]; cases e; rw [← h.1]; exact ⟨_, rfl, (h.put _ _).new _⟩
            · cases e
def trL : List (Nat × AO) → Tr
  | [] => .lf
  | p :: l => (trL l).set 40 p.1 (some p.2)
def ofL (n : Nat) (l : List (Nat × AO)) : HT := ⟨n, trL l⟩
def okL (l : List (Nat × AO)) : Bool := l.all fun p => decide (p.1 ≤ htMax)
theorem trL_get : ∀ {l : List (Nat × AO)}, okL l = true → ∀ {i : Nat} {o : AO}, (trL l).get i = some o → (i, o) ∈ l
  | [], _, i, o, h => by cases h
  | p :: l, hk, i, o, h => by
    simp only [okL, List.all_cons, Bool.and_eq_true, decide_eq_true_eq] at hk
    have hb : p.1 + 1 < 2 ^ 40 := by have := hk.1; unfold htMax at this; omega
    unfold trL at h
    rw [Tr.get_set _ 40 _ _ hb] at h
    split at h <;> rename_i hi
    · cases h; subst hi; exact List.mem_cons_self ..
    · exact List.mem_cons_of_mem _ (trL_get (show okL l = true from hk.2) h)
structure Fact where
  f : Nat
  args : List AV
  n0 : Nat
  l0 : List (Nat × AO)
  v : AV
  n1 : Nat
  l1 : List (Nat × AO)
def Fact.ok (E : Env) (x : Fact) : Prop := ∃ n, ∀ G, SubH (ofL x.n0 x.l0).rep G → ∃ G', callA E.P E.T E.hs n x.f x.args G = some (x.v, G') ∧ SubH (ofL x.n1 x.l1).rep G'
def AllF (E : Env) : List Fact → Prop
  | [] => True
  | x :: r => x.ok E ∧ AllF E r
def AllN (E : Env) (N : Nat) : List Fact → Prop
  | [] => True
  | x :: r => (∀ G, SubH (ofL x.n0 x.l0).rep G → ∃ G', callA E.P E.T E.hs N x.f x.args G = some (x.v, G') ∧ SubH (ofL x.n1 x.l1).rep G') ∧ AllN E N r
theorem AllN.mono {E : Env} {N M : Nat} (h : N ≤ M) : ∀ {l : List Fact}, AllN E N l → AllN E M l
  | [], _ => trivial
  | x :: r, hx => ⟨fun G s => by obtain ⟨G', g1, g2⟩ := hx.1 G s; exact ⟨G', callA_mono h g1, g2⟩, AllN.mono h hx.2⟩
theorem AllF.toN {E : Env} : ∀ {l : List Fact}, AllF E l → ∃ N, AllN E N l
  | [], _ => ⟨0, trivial⟩
  | x :: r, h => by
    obtain ⟨n, hn⟩ := h.1
    obtain ⟨N, hN⟩ := AllF.toN h.2
    exact ⟨max n N, fun G s => by obtain ⟨G', g1, g2⟩ := hn G s; exact ⟨G', callA_mono (Nat.le_max_left ..) g1, g2⟩, hN.mono (Nat.le_max_right ..)⟩
theorem Fact.call {E : Env} {x : Fact} (h : x.ok E) {G : AH} (s : SubH (ofL x.n0 x.l0).rep G) {R : AV → AH → Prop} (k : ∀ G', SubH (ofL x.n1 x.l1).rep G' → R x.v G') : CallWp E x.f x.args G R := by
  obtain ⟨n, hn⟩ := h
  obtain ⟨G', g1, g2⟩ := hn G s
  exact ⟨n, _, G', g1, k G' g2⟩
end Go.Proofs.YtdfpjhlckjognaaGreat.Fw
set_option linter.unusedVariables false
set_option linter.unusedSimpArgs false
namespace Go.Proofs.YtdfpjhlckjognaaGreat.Fw
open Go
inductive Ob where
  | a (x y : List AV)
  | b (x y : Bool)
  | l (x y : Option (List Sc))
  | o (x y : Option AO)
def Ob.ok : Ob → Prop
  | .a x y => x = y
  | .b x y => x = y
  | .l x y => x = y
  | .o x y => x = y
def Ob.self : Ob → Ob
  | .a _ y => .a y y
  | .b _ y => .b y y
  | .l _ y => .l y y
  | .o _ y => .o y y
def obsOk : List Ob → Prop
  | [] => True
  | o :: r => o.ok ∧ obsOk r
theorem Ob.self_ok {o : Ob} (h : o = o.self) : o.ok := by cases o <;> simp only [Ob.self, Ob.a.injEq, Ob.b.injEq, Ob.l.injEq, Ob.o.injEq] at h <;> exact h.1
theorem obsOk_self : ∀ {l : List Ob}, l = l.map Ob.self → obsOk l
  | [], _ => trivial
  | o :: r, h => by
    simp only [List.map_cons, List.cons.injEq] at h
    exact ⟨Ob.self_ok h.1, obsOk_self h.2⟩
theorem obsOk_append : ∀ {l m : List Ob}, obsOk (l ++ m) → obsOk l ∧ obsOk m
  | [], m, h => ⟨trivial, h⟩
  | o :: r, m, h => ⟨⟨h.1, (obsOk_append h.2).1⟩, (obsOk_append h.2).2⟩
abbrev Adv := List (Nat × Bool × Bool)
def advOk : Adv → Prop
  | [] => True
  | x :: r => x.2.1 = x.2.2 ∧ advOk r
abbrev ResB := ResD × Adv × List Ob
abbrev OraB := FuncId → List AV → HT → Option ((AV × HT) × List Ob)
def addO (os : List Ob) : Option ResB → Option ResB
  | some r => some (r.1, r.2.1, os ++ r.2.2)
  | none => none
theorem addO_eq {os : List Ob} {x : Option ResB} {r : ResB} (h : addO os x = some r) : ∃ o', x = some (r.1, r.2.1, o') ∧ r.2.2 = os ++ o' := by
  cases x with
  | none => cases h
  | some y => cases h; exact ⟨_, rfl, rfl⟩
def iterB : Nat → (List AV → Adv → HT → Option ResB) → List AV → Adv → HT → Option ResB
  | 0, _, _, _, _ => none
  | n + 1, b, l, A, H =>
    match b l A H with
    | some (((0, l'), H'), A', os) => addO os (iterB n b l' A' H')
    | r => r
def runB (C : OraB) (n : Nat) : Tree → Adv → HT → Option ResB
  | .ret t l, A, H => some (((t, l), H), A, [])
  | .fail, _, _ => none
  | .br b t f, A, H => match A with
    | [] => if b = true then runB C n t [] H else runB C n f [] H
    | (0, e, bit) :: A' => addO [.b b e] (if bit = true then runB C n t A' H else runB C n f A' H)
    | (k + 1, x) :: A' => if b = true then runB C n t ((k, x) :: A') H else runB C n f ((k, x) :: A') H
  | .tg x m t f, A, H => if x = m then runB C n t A H else runB C n f A H
  | .asI k v f, A, H => obind (v.asI k) fun j => runB C n (f j) A H
  | .asB v f, A, H => obind v.asB fun j => runB C n (f j) A H
  | .asS v f, A, H => obind v.asS fun j => runB C n (f j) A H
  | .asP v f, A, H => obind v.asP fun j => runB C n (f j) A H
  | .asL v f, A, H => obind v.asL fun j => runB C n (f j) A H
  | .asF k v f, A, H => obind (v.asF k) fun j => runB C n (f j) A H
  | .asC k v f, A, H => obind (v.asC k) fun j => runB C n (f j.1 j.2) A H
  | .asX v f, A, H => obind v.asX fun j => runB C n (f j) A H
  | .asBy l f, A, H => obind (baOf l .empty) fun j => runB C n (f j) A H
  | .asIt v f, A, H => obind v.asIt fun j => runB C n (f j) A H
  | .asA m v f, A, H => obind (v.asA m) fun j => runB C n (f j) A H
  | .asT m v f, A, H => obind (v.asT m) fun j => runB C n (f j) A H
  | .nn o f, A, H => obind o fun j => runB C n (f j.1 j.2) A H
  | .nth l i f, A, H => obind l[i]? fun j => runB C n (f j) A H
  | .nthC l i f, A, H => obind l[i]? fun j => runB C n (f j) A H
  | .ixS z s i f, A, H => obind (ixIn z s i) fun j => runB C n (f j.1 j.2.1 j.2.2) A H
  | .ld id off m f, A, H => obind (H.rd id off m) fun j => runB C n (f j) A H
  | .lds z s m f, A, H => obind (H.rds z s m) fun j => runB C n (f j) A H
  | .slc z s lo hi mx f, A, H => obind (slcIn s z lo hi mx) fun j => runB C n (f j) A H
  | .st id off l t, A, H => obind (H.wr id off l) fun H' => runB C n t A H'
  | .same id off l t, A, H => addO [.l (H.rd id off l.length) (some l)] (runB C n t A H)
  | .al l f, A, H => obind (H.new (.cells false l)) fun H' => runB C n (f H.next) A H'
  | .sts z s l t, A, H => obind (H.wrs z s l) fun H' => runB C n t A H'
  | .app z eb s l m f, A, H => obind (H.app z eb s l m) fun a => runB C n (f a.1) A a.2
  | .call g args k, A, H => obind (C g args H) fun a => addO a.2 (runB C n (k a.1.1) A a.1.2)
  | .callv v args k, A, H => obind v.asFn fun g => obind (C g.1 (ptrs g.2.1 ++ args ++ ptrs g.2.2) H) fun a => addO a.2 (runB C n (k a.1.1) A a.1.2)
  | .itn s f, A, H => obind (H.new (.iter s 0)) fun H' => runB C n (f H.next) A H'
  | .itx id f, A, H => obind (H.it id) fun q =>
      if q.2 < q.1.size then obind (H.put id (some (.iter q.1 (q.2 + (Utf8.decode q.1 q.2).2)))) fun H' => runB C n (f (some (q.2, ((Utf8.decode q.1 q.2).1 : Int)))) A H' else runB C n (f none) A H
  | .join t k, A, H => obind (runB C n t A H) fun a => addO a.2.2 (runB C n (k a.1.1.1 a.1.1.2) a.2.1 a.1.2)
  | .loop b l k, A, H => obind (iterB n (fun l A H => runB C n (b l) A H) l A H) fun a => addO a.2.2 (runB C n (k a.1.1.1 a.1.1.2) a.2.1 a.1.2)
structure PF where
  f : Nat
  n0 : Nat
  args : List AV
  v : AV
def PF.ok (E : Env) (x : PF) : Prop := ∃ n, ∀ G, callA E.P E.T E.hs n x.f x.args G = some (x.v, G)
def allP (E : Env) : List PF → Prop
  | [] => True
  | x :: r => x.ok E ∧ allP E r
def findP : List PF → Nat → Nat → Option PF
  | [], _, _ => none
  | x :: r, f, n => if (x.f == f && x.n0 == n) = true then some x else findP r f n
theorem findP_ok {E : Env} {N : Nat} {f n : Nat} {x : PF} : ∀ {l : List PF}, (∀ y ∈ l, ∀ G, callA E.P E.T E.hs N y.f y.args G = some (y.v, G)) → findP l f n = some x → f = x.f ∧ ∀ G, callA E.P E.T E.hs N x.f x.args G = some (x.v, G)
  | [], _, h => by cases h
  | y :: r, hy, h => by
    unfold findP at h
    split at h
    · rename_i hc
      cases h
      simp only [Bool.and_eq_true, beq_iff_eq] at hc
      exact ⟨hc.1.symm, hy _ (List.mem_cons_self ..)⟩
    · exact findP_ok (fun y h' => hy y (List.mem_cons_of_mem _ h')) h
theorem AllN.mem {E : Env} {N : Nat} : ∀ {l : List Fact}, AllN E N l → ∀ {x : Fact}, x ∈ l → ∀ G, SubH (ofL x.n0 x.l0).rep G → ∃ G', callA E.P E.T E.hs N x.f x.args G = some (x.v, G') ∧ SubH (ofL x.n1 x.l1).rep G'
  | [], _, x, h => by cases h
  | y :: r, hy, x, h => by
    cases h with
    | head => exact hy.1
    | tail _ h => exact AllN.mem hy.2 h
theorem allP.toN {E : Env} : ∀ {l : List PF}, allP E l → ∃ N, ∀ M, N ≤ M → ∀ y ∈ l, ∀ G, callA E.P E.T E.hs M y.f y.args G = some (y.v, G)
  | [], _ => ⟨0, fun _ _ y h => by cases h⟩
  | x :: r, h => by
    obtain ⟨n, hn⟩ := h.1
    obtain ⟨N, hN⟩ := allP.toN h.2
    refine ⟨max n N, fun M hM y hy G => ?_⟩
    cases hy with
    | head => exact callA_mono (by omega) (hn G)
    | tail _ hy => exact hN M (by omega) y hy G
def obL (l : List (Nat × AO)) (t : Tr) : List Ob := l.map fun p => .o (t.get p.1) (some p.2)
theorem obL_sub {n : Nat} {l : List (Nat × AO)} {H : HT} (hk : okL l = true) (h : obsOk (obL l H.t)) (hn : n = H.next) : SubH (ofL n l).rep H.rep := by
  refine ⟨hn, fun i o ho => ?_⟩
  have h' : ∀ {l : List (Nat × AO)}, obsOk (obL l H.t) → ∀ p ∈ l, H.t.get p.1 = some p.2 := by
    intro l
    induction l with
    | nil => intro _ p hp; cases hp
    | cons q r ih =>
      intro h p hp
      cases hp with
      | head => exact h.1
      | tail _ hp => exact ih h.2 p hp
  exact h' h _ (trL_get hk ho)
abbrev AvT := List (Nat × Nat × Adv)
def lookAv : AvT → Nat → Nat → Adv
  | [], _, _ => []
  | x :: r, f, n => if (x.1 == f && x.2.1 == n) = true then x.2.2 else lookAv r f n
def avOk : AvT → Prop
  | [] => True
  | x :: r => advOk x.2.2 ∧ avOk r
theorem lookAv_ok {f n : Nat} : ∀ {l : AvT}, avOk l → advOk (lookAv l f n)
  | [], _ => trivial
  | x :: r, h => by
    unfold lookAv
    split
    · exact h.1
    · exact lookAv_ok h.2
def TrOk2 (E : Env) (f : Nat) (t : List AV → Tree) : Prop := ∃ fn, E.P.funcs[f]? = some fn ∧ ∀ (args : List AV) (C : Ora) (n : Nat) (H : AH) (r : Res), run C n (t args) H = some r → run C n (bodyK E.T (E.hs f) fn args) H = some r
theorem TrOk.two {E : Env} {f : Nat} {t : List AV → Tree} (h : TrOk E f t) : TrOk2 E f t := by
  obtain ⟨fn, h1, h2⟩ := h
  exact ⟨fn, h1, fun args C n H r hr => by rw [← h2 args C n H r hr]; exact hr⟩
def TbOk2 (E : Env) : Tbl → Prop
  | [] => True
  | x :: r => TrOk2 E x.1 x.2 ∧ TbOk2 E r
theorem TbOk.two {E : Env} : ∀ {tb : Tbl}, TbOk E tb → TbOk2 E tb
  | [], _ => trivial
  | x :: r, h => ⟨h.1.two, TbOk.two h.2⟩
theorem TbOk2.look {E : Env} : ∀ {tb : Tbl}, TbOk2 E tb → ∀ {f : Nat} {t : List AV → Tree}, lookN tb f = some t → TrOk2 E f t
  | [], _, f, t, h => by cases h
  | x :: r, h, f, t, hl => by
    obtain ⟨a, y⟩ := x
    simp only [lookN] at hl
    split at hl
    · rename_i e; subst e; cases hl; exact h.1
    · exact TbOk2.look h.2 hl
def outS (x : Fact) : Option ((AV × HT) × List Ob) → List Ob
  | none => [.b false true]
  | some r => .a [r.1.1] [x.v] :: .b (r.1.2.next == x.n1 && okL x.l1) true :: (obL x.l1 r.1.2.t ++ r.2)
end Go.Proofs.YtdfpjhlckjognaaGreat.Fw
set_option linter.unusedVariables false
set_option linter.unusedSimpArgs false
namespace Go.Proofs.YtdfpjhlckjognaaGreat.Fw
open Go
def Kp (h h' : HT) (G G' : AH) : Prop := h.next ≤ h'.next ∧ ∀ i, h.t.get i = none → (i < h.next ∨ h'.next ≤ i) → h'.t.get i = none ∧ G'.obj i = G.obj i
theorem Kp.refl (h : HT) (G : AH) : Kp h h G G := ⟨Nat.le_refl _, fun i hi _ => ⟨hi, rfl⟩⟩
theorem Kp.trans {h h1 h2 : HT} {G G1 G2 : AH} (a : Kp h h1 G G1) (b : Kp h1 h2 G1 G2) : Kp h h2 G G2 := by
  refine ⟨Nat.le_trans a.1 b.1, fun i hi hr => ?_⟩
  have ha := a.1
  have hb := b.1
  have h1 := a.2 i hi (by omega)
  have h2 := b.2 i h1.1 (by omega)
  exact ⟨h2.1, h2.2.trans h1.2⟩
theorem Kp.put {h h' : HT} {G : AH} {id : Nat} {o : Option AO} (e : h.put id o = some h') (hp : h.t.get id ≠ none) : Kp h h' G (G.put id o) := by
  unfold HT.put at e
  split at e
  case isFalse => cases e
  rename_i hi
  cases e
  refine ⟨Nat.le_refl _, fun i hi' _ => ?_⟩
  have hne : i ≠ id := fun e => hp (e ▸ hi')
  constructor
  · show (h.t.set 40 id o).get i = none
    rw [Tr.get_set _ 40 h.t id (by unfold htMax at hi; omega) i, if_neg hne]; exact hi'
  · simp only [AH.put]; rw [if_neg hne]
theorem Kp.new {h h' : HT} {G : AH} {o : AO} (e : h.new o = some h') (hn : h.next = G.next) : Kp h h' G (G.new o) := by
  unfold HT.new at e
  split at e
  case isFalse => cases e
  rename_i hi
  cases e
  refine ⟨Nat.le_succ _, fun i hi' hr => ?_⟩
  have hne : i ≠ h.next := by
    rcases hr with hr | hr
    · omega
    · have : h.next + 1 ≤ i := hr
      omega
  constructor
  · show (h.t.set 40 h.next (some o)).get i = none
    rw [Tr.get_set _ 40 h.t h.next (by unfold htMax at hi; omega) i, if_neg hne]; exact hi'
  · simp only [AH.new]; rw [if_neg (by rw [← hn]; exact hne)]
theorem Kp.wr {h h' : HT} {G G' : AH} {id off : Nat} {l : List Sc} (s : SubH h.rep G) (e : h.wr id off l = some h') (g : G.wr id off l = some G') : Kp h h' G G' := by
  unfold HT.wr at e
  split at e
  case h_2 => cases e
  rename_i c hc
  split at e
  case isFalse => cases e
  rename_i hl
  have hG : G.obj id = some (.cells false c) := s.2 _ _ hc
  unfold AH.wr at g
  rw [hG] at g
  simp only at g
  rw [if_pos hl] at g
  cases g
  exact Kp.put e (by rw [hc]; simp)
theorem Kp.wrs {h h' : HT} {G G' : AH} {z : Nat} {sl : Option SlD} {l : List Sc} (s : SubH h.rep G) (e : h.wrs z sl l = some h') (g : G.wrs z sl l = some G') : Kp h h' G G' := by
  cases l with
  | nil => cases e; cases g; exact Kp.refl _ _
  | cons x l =>
    cases sl with
    | none => cases e
    | some d =>
      simp only [HT.wrs] at e
      simp only [AH.wrs] at g
      split at e
      · rename_i hc; rw [if_pos hc] at g; exact Kp.wr s e g
      · cases e
theorem Kp.app {h : HT} {G G' : AH} {z eb : Nat} {sl : Option SlD} {l : List Sc} {n : Nat} {r : Option SlD × HT} {v : Option SlD} (s : SubH h.rep G) (e : h.app z eb sl l n = some r) (g : G.app z eb sl l n = some (v, G')) : Kp h r.2 G G' := by
  unfold HT.app at e
  unfold AH.app at g
  split at e
  case isFalse => cases e
  rename_i h0
  rw [if_pos h0] at g
  cases sl with
  | none =>
    simp only at e g
    split at e
    · rename_i h1; rw [if_pos h1] at g; cases e; cases g; exact Kp.refl _ _
    · rename_i h1
      rw [if_neg h1] at g
      split at e
      · rename_i h2
        rw [if_pos h2] at g
        obtain ⟨H', h3, h4⟩ := obind_eq.1 e
        cases h4; cases g
        exact Kp.new h3 s.1
      · cases e
  | some d =>
    simp only at e g
    split at e
    case isFalse => cases e
    rename_i hz
    rw [if_pos hz] at g
    split at e
    · rename_i hc
      rw [if_pos hc] at g
      split at e
      · rename_i h1; rw [if_pos h1] at g; cases e; cases g; exact Kp.refl _ _
      · rename_i h1
        rw [if_neg h1] at g
        obtain ⟨H', h3, h4⟩ := obind_eq.1 e
        obtain ⟨G1, g3, g4⟩ := obind_eq.1 g
        cases h4; cases g4
        exact Kp.wr s h3 g3
    · rename_i hc
      rw [if_neg hc] at g
      split at e
      case isFalse => cases e
      rename_i hb
      rw [if_pos hb] at g
      split at e
      case h_2 => cases e
      rename_i c hg
      have hG : G.obj d.id = some (.cells false c) := s.2 _ _ hg
      rw [hG] at g
      simp only at g
      split at e
      case isFalse => cases e
      rename_i hle
      rw [if_pos hle] at g
      obtain ⟨H1, h3, e⟩ := obind_eq.1 e
      obtain ⟨H2, h4, e⟩ := obind_eq.1 e
      cases e; cases g
      have p := Kp.put (G := G) h3 (by rw [hg]; simp)
      have q := Kp.new (G := G.put d.id none) h4 (by
        have : H1.next = h.next := by unfold HT.put at h3; split at h3 <;> cases h3; rfl
        rw [this]; exact s.1)
      exact p.trans q
theorem iterB_fr {b : List AV → Adv → HT → Option ResB} {b' : List AV → AH → Option Res} (hb : ∀ l A h G r, b l A h = some r → obsOk r.2.2 → advOk A → SubH h.rep G → advOk r.2.1 ∧ ∃ G', b' l G = some (r.1.1, G') ∧ SubH r.1.2.rep G' ∧ Kp h r.1.2 G G') : ∀ (n : Nat) (l : List AV) (A : Adv) (h : HT) (G : AH) (r : ResB), iterB n b l A h = some r → obsOk r.2.2 → advOk A → SubH h.rep G → advOk r.2.1 ∧ ∃ G', iterL n b' l G = some (r.1.1, G') ∧ SubH r.1.2.rep G' ∧ Kp h r.1.2 G G'
  | 0, l, A, h, G, r, e, _, _, _ => by cases e
  | n + 1, l, A, h, G, r, e, ho, ha, s => by
    unfold iterB at e
    unfold iterL
    split at e
    · rename_i l' H' A' os e1
      obtain ⟨o', e2, e3⟩ := addO_eq e
      rw [e3] at ho
      obtain ⟨o1, o2⟩ := obsOk_append ho
      obtain ⟨ha', G', g1, g2, g3⟩ := hb _ _ _ _ _ e1 o1 ha s
      rw [g1]
      obtain ⟨q1, G2, q2, q3, q4⟩ := iterB_fr hb n l' A' H' G' (r.1, r.2.1, o') e2 o2 ha' g2
      exact ⟨q1, G2, q2, q3, g3.trans q4⟩
    · rename_i hne
      obtain ⟨⟨⟨tag, l1⟩, H1⟩, A1, os1⟩ := r
      obtain ⟨ha', G', g1, g2⟩ := hb _ _ _ _ _ e ho ha s
      rw [g1]
      cases tag with
      | zero => exact absurd e (hne l1 H1 A1 os1)
      | succ tag => exact ⟨ha', G', rfl, g2⟩
theorem runB_fr {C : OraB} {C' : Ora} (hC : ∀ f a h G r, C f a h = some r → obsOk r.2 → SubH h.rep G → ∃ G', C' f a G = some (r.1.1, G') ∧ SubH r.1.2.rep G' ∧ Kp h r.1.2 G G') {n : Nat} : ∀ (t : Tree) {A : Adv} {h : HT} {G : AH} {r : ResB}, runB C n t A h = some r → obsOk r.2.2 → advOk A → SubH h.rep G → advOk r.2.1 ∧ ∃ G', run C' n t G = some (r.1.1, G') ∧ SubH r.1.2.rep G' ∧ Kp h r.1.2 G G' := by
  intro t
  induction t with
  | ret t l => intro A h G r e ho ha s; simp only [runB, run] at e ⊢; cases e; exact ⟨ha, G, rfl, s, Kp.refl _ _⟩
  | fail => intro A h G r e ho ha s; simp [runB] at e
  | br b t f ht hf =>
    intro A h G r e ho ha s
    simp only [runB, run] at e ⊢
    split at e
    · split at e <;> rename_i hb
      · simp only [if_pos hb]; exact ht e ho ha s
      · simp only [if_neg hb]; exact hf e ho ha s
    · rename_i e' bit A'
      obtain ⟨o', e2, e3⟩ := addO_eq e
      rw [e3] at ho
      obtain ⟨o1, o2⟩ := obsOk_append ho
      have hb : b = bit := (show b = e' from o1.1).trans (show e' = bit from ha.1)
      split at e2 <;> rename_i hbit
      · simp only [hb, if_pos hbit]; have q := ht e2 o2 ha.2 s; exact q
      · simp only [hb, if_neg hbit]; have q := hf e2 o2 ha.2 s; exact q
    · rename_i k x A'
      have ha' : advOk ((k, x) :: A') := ⟨ha.1, ha.2⟩
      split at e <;> rename_i hb
      · simp only [if_pos hb]; exact ht e ho ha' s
      · simp only [if_neg hb]; exact hf e ho ha' s
  | tg x m t f ht hf => intro A h G r e ho ha s; simp only [runB, run] at e ⊢; split at e <;> rename_i hb
                        · simp only [if_pos hb]; exact ht e ho ha s
                        · simp only [if_neg hb]; exact hf e ho ha s
  | asI k v f ih => intro A h G r e ho ha s; simp only [runB, run] at e ⊢; obtain ⟨a, h1, h2⟩ := obind_eq.1 e; simp only [h1, obind]; exact ih _ h2 ho ha s
  | asB v f ih => intro A h G r e ho ha s; simp only [runB, run] at e ⊢; obtain ⟨a, h1, h2⟩ := obind_eq.1 e; simp only [h1, obind]; exact ih _ h2 ho ha s
  | asS v f ih => intro A h G r e ho ha s; simp only [runB, run] at e ⊢; obtain ⟨a, h1, h2⟩ := obind_eq.1 e; simp only [h1, obind]; exact ih _ h2 ho ha s
  | asP v f ih => intro A h G r e ho ha s; simp only [runB, run] at e ⊢; obtain ⟨a, h1, h2⟩ := obind_eq.1 e; simp only [h1, obind]; exact ih _ h2 ho ha s
  | asL v f ih => intro A h G r e ho ha s; simp only [runB, run] at e ⊢; obtain ⟨a, h1, h2⟩ := obind_eq.1 e; simp only [h1, obind]; exact ih _ h2 ho ha s
  | asF k v f ih => intro A h G r e ho ha s; simp only [runB, run] at e ⊢; obtain ⟨a, h1, h2⟩ := obind_eq.1 e; simp only [h1, obind]; exact ih _ h2 ho ha s
  | asC k v f ih => intro A h G r e ho ha s; simp only [runB, run] at e ⊢; obtain ⟨a, h1, h2⟩ := obind_eq.1 e; simp only [h1, obind]; exact ih _ _ h2 ho ha s
  | asX v f ih => intro A h G r e ho ha s; simp only [runB, run] at e ⊢; obtain ⟨a, h1, h2⟩ := obind_eq.1 e; simp only [h1, obind]; exact ih _ h2 ho ha s
  | asBy l f ih => intro A h G r e ho ha s; simp only [runB, run] at e ⊢; obtain ⟨a, h1, h2⟩ := obind_eq.1 e; simp only [h1, obind]; exact ih _ h2 ho ha s
  | asIt v f ih => intro A h G r e ho ha s; simp only [runB, run] at e ⊢; obtain ⟨a, h1, h2⟩ := obind_eq.1 e; simp only [h1, obind]; exact ih _ h2 ho ha s
  | asA m v f ih => intro A h G r e ho ha s; simp only [runB, run] at e ⊢; obtain ⟨a, h1, h2⟩ := obind_eq.1 e; simp only [h1, obind]; exact ih _ h2 ho ha s
  | asT m v f ih => intro A h G r e ho ha s; simp only [runB, run] at e ⊢; obtain ⟨a, h1, h2⟩ := obind_eq.1 e; simp only [h1, obind]; exact ih _ h2 ho ha s
  | nn o f ih => intro A h G r e ho ha s; simp only [runB, run] at e ⊢; obtain ⟨a, h1, h2⟩ := obind_eq.1 e; simp only [h1, obind]; exact ih _ _ h2 ho ha s
  | nth l i f ih => intro A h G r e ho ha s; simp only [runB, run] at e ⊢; obtain ⟨a, h1, h2⟩ := obind_eq.1 e; simp only [h1, obind]; exact ih _ h2 ho ha s
  | nthC l i f ih => intro A h G r e ho ha s; simp only [runB, run] at e ⊢; obtain ⟨a, h1, h2⟩ := obind_eq.1 e; simp only [h1, obind]; exact ih _ h2 ho ha s
  | ixS z s' i f ih => intro A h G r e ho ha s; simp only [runB, run] at e ⊢; obtain ⟨a, h1, h2⟩ := obind_eq.1 e; simp only [h1, obind]; exact ih _ _ _ h2 ho ha s
  | ld id off m f ih => intro A h G r e ho ha s; simp only [runB, run] at e ⊢; obtain ⟨a, h1, h2⟩ := obind_eq.1 e; simp only [s.rd (show h.rep.rd id off m = some a from h1), obind]; exact ih _ h2 ho ha s
  | lds z s' m f ih => intro A h G r e ho ha s; simp only [runB, run] at e ⊢; obtain ⟨a, h1, h2⟩ := obind_eq.1 e; simp only [s.rds (show h.rep.rds z s' m = some a from h1), obind]; exact ih _ h2 ho ha s
  | slc z s' lo hi mx f ih => intro A h G r e ho ha s; simp only [runB, run] at e ⊢; obtain ⟨a, h1, h2⟩ := obind_eq.1 e; simp only [h1, obind]; exact ih _ h2 ho ha s
  | st id off l t ih => intro A h G r e ho ha s; simp only [runB, run] at e ⊢; obtain ⟨a, h1, h2⟩ := obind_eq.1 e; obtain ⟨G', g1, g2⟩ := s.wr (HT.wr_rep h1); simp only [g1, obind]; obtain ⟨q1, G2, q2, q3, q4⟩ := ih h2 ho ha g2; exact ⟨q1, G2, q2, q3, (Kp.wr s h1 g1).trans q4⟩
  | same id off l t ih =>
    intro A h G r e ho ha s
    simp only [runB, run] at e ⊢
    obtain ⟨o', e2, e3⟩ := addO_eq e
    rw [e3] at ho
    obtain ⟨o1, o2⟩ := obsOk_append ho
    simp only [if_pos (s.rd (show h.rep.rd id off l.length = some l from o1.1))]
    have q := ih e2 o2 ha s; exact q
  | al l f ih => intro A h G r e ho ha s; simp only [runB, run] at e ⊢; obtain ⟨a, h1, h2⟩ := obind_eq.1 e; have g := s.new (.cells false l); rw [HT.new_rep h1] at g; have k := Kp.new (G := G) h1 s.1; rw [show h.next = G.next from s.1] at h2; obtain ⟨q1, G2, q2, q3, q4⟩ := ih _ h2 ho ha g; exact ⟨q1, G2, q2, q3, k.trans q4⟩
  | sts z s' l t ih => intro A h G r e ho ha s; simp only [runB, run] at e ⊢; obtain ⟨a, h1, h2⟩ := obind_eq.1 e; obtain ⟨G', g1, g2⟩ := s.wrs (HT.wrs_rep h1); simp only [g1, obind]; obtain ⟨q1, G2, q2, q3, q4⟩ := ih h2 ho ha g2; exact ⟨q1, G2, q2, q3, (Kp.wrs s h1 g1).trans q4⟩
  | app z eb s' l n f ih => intro A h G r e ho ha s; simp only [runB, run] at e ⊢; obtain ⟨a, h1, h2⟩ := obind_eq.1 e; obtain ⟨G', g1, g2⟩ := s.app (HT.app_rep h1); simp only [g1, obind]; obtain ⟨q1, G2, q2, q3, q4⟩ := ih _ h2 ho ha g2; exact ⟨q1, G2, q2, q3, (Kp.app s h1 g1).trans q4⟩
  | call f args k ih =>
    intro A h G r e ho ha s
    simp only [runB, run] at e ⊢
    obtain ⟨a, h1, h2⟩ := obind_eq.1 e
    obtain ⟨o', e2, e3⟩ := addO_eq h2
    rw [e3] at ho
    obtain ⟨o1, o2⟩ := obsOk_append ho
    obtain ⟨G', g1, g2, g3⟩ := hC _ _ _ _ _ h1 o1 s
    simp only [g1, obind]
    obtain ⟨q1, G2, q2, q3, q4⟩ := ih _ e2 o2 ha g2
    exact ⟨q1, G2, q2, q3, g3.trans q4⟩
  | callv v args k ih =>
    intro A h G r e ho ha s
    simp only [runB, run] at e ⊢
    obtain ⟨g, h0, e⟩ := obind_eq.1 e
    obtain ⟨a, h1, h2⟩ := obind_eq.1 e
    obtain ⟨o', e2, e3⟩ := addO_eq h2
    rw [e3] at ho
    obtain ⟨o1, o2⟩ := obsOk_append ho
    obtain ⟨G', g1, g2, g3⟩ := hC _ _ _ _ _ h1 o1 s
    simp only [h0, obind, g1]
    obtain ⟨q1, G2, q2, q3, q4⟩ := ih _ e2 o2 ha g2
    exact ⟨q1, G2, q2, q3, g3.trans q4⟩
  | itn s' f ih => intro A h G r e ho ha s; simp only [runB, run] at e ⊢; obtain ⟨a, h1, h2⟩ := obind_eq.1 e; have g := s.new (.iter s' 0); rw [HT.new_rep h1] at g; have k := Kp.new (G := G) h1 s.1; rw [show h.next = G.next from s.1] at h2; obtain ⟨q1, G2, q2, q3, q4⟩ := ih _ h2 ho ha g; exact ⟨q1, G2, q2, q3, k.trans q4⟩
  | itx id f ih => intro A h G r e ho ha s; simp only [runB, run] at e ⊢; obtain ⟨a, h1, h2⟩ := obind_eq.1 e; simp only [s.it (show h.rep.it id = some a from h1), obind]
                   split at h2 <;> rename_i hb
                   · simp only [if_pos hb]; obtain ⟨H', h3, h4⟩ := obind_eq.1 h2; have g := s.put id (some (.iter a.1 (a.2 + (Utf8.decode a.1 a.2).2))); rw [HT.put_rep h3] at g
                     have hp : h.t.get id ≠ none := by
                       intro hn
                       unfold HT.it at h1
                       rw [hn] at h1
                       cases h1
                     obtain ⟨q1, G2, q2, q3, q4⟩ := ih _ h4 ho ha g
                     exact ⟨q1, G2, q2, q3, (Kp.put (G := G) h3 hp).trans q4⟩
                   · simp only [if_neg hb]; exact ih _ h2 ho ha s
  | join t k iht ihk =>
    intro A h G r e ho ha s
    simp only [runB, run] at e ⊢
    obtain ⟨a, h1, h2⟩ := obind_eq.1 e
    obtain ⟨o', e2, e3⟩ := addO_eq h2
    rw [e3] at ho
    obtain ⟨o1, o2⟩ := obsOk_append ho
    obtain ⟨ha', G', g1, g2, g3⟩ := iht h1 o1 ha s
    simp only [g1, obind]
    obtain ⟨q1, G2, q2, q3, q4⟩ := ihk _ _ e2 o2 ha' g2
    exact ⟨q1, G2, q2, q3, g3.trans q4⟩
  | loop b l k ihb ihk =>
    intro A h G r e ho ha s
    simp only [runB, run] at e ⊢
    obtain ⟨a, h1, h2⟩ := obind_eq.1 e
    obtain ⟨o', e2, e3⟩ := addO_eq h2
    rw [e3] at ho
    obtain ⟨o1, o2⟩ := obsOk_append ho
    obtain ⟨ha', G', g1, g2, g3⟩ := iterB_fr (fun l A h G r e ho ha s => ihb l e ho ha s) _ _ _ _ _ _ h1 o1 ha s
    simp only [g1, obind]
    obtain ⟨q1, G2, q2, q3, q4⟩ := ihk _ _ e2 o2 ha' g2
    exact ⟨q1, G2, q2, q3, g3.trans q4⟩
def idIn (l : List (Nat × AO)) (i : Nat) : Bool := l.any fun p => p.1 == i
def wfF (x : Fact) : Bool := okL x.l0 && (okL x.l1 && (decide (x.n0 ≤ x.n1) && x.l1.all fun p => idIn x.l0 p.1 || (decide (x.n0 ≤ p.1) && decide (p.1 < x.n1))))
def Fact.okF (E : Env) (x : Fact) : Prop := ∃ n, ∀ G, SubH (ofL x.n0 x.l0).rep G → ∃ G', callA E.P E.T E.hs n x.f x.args G = some (x.v, G') ∧ SubH (ofL x.n1 x.l1).rep G' ∧
  ∀ i, idIn x.l0 i = false → (i < x.n0 ∨ x.n1 ≤ i) → G'.obj i = G.obj i
def allF (E : Env) : List Fact → Prop
  | [] => True
  | x :: r => x.okF E ∧ allF E r
theorem allF.toN {E : Env} : ∀ {l : List Fact}, allF E l → ∃ N, ∀ M, N ≤ M → ∀ y ∈ l, ∀ G, SubH (ofL y.n0 y.l0).rep G → ∃ G', callA E.P E.T E.hs M y.f y.args G = some (y.v, G') ∧ SubH (ofL y.n1 y.l1).rep G' ∧ ∀ i, idIn y.l0 i = false → (i < y.n0 ∨ y.n1 ≤ i) → G'.obj i = G.obj i
  | [], _ => ⟨0, fun _ _ y h => by cases h⟩
  | x :: r, h => by
    obtain ⟨n, hn⟩ := h.1
    obtain ⟨N, hN⟩ := allF.toN h.2
    refine ⟨max n N, fun M hM y hy G s => ?_⟩
    cases hy with
    | head =>
      obtain ⟨G', g1, g2, g3⟩ := hn G s
      exact ⟨G', callA_mono (by omega) g1, g2, g3⟩
    | tail _ hy => exact hN M (by omega) y hy G s
def findV : List Fact → Nat → Nat → Option Fact
  | [], _, _ => none
  | x :: r, f, n => if (x.f == f && (x.n0 == n && wfF x)) = true then some x else findV r f n
theorem findV_ok {f n : Nat} {x : Fact} : ∀ {l : List Fact}, findV l f n = some x → x ∈ l ∧ f = x.f ∧ n = x.n0 ∧ wfF x = true
  | [], h => by cases h
  | y :: r, h => by
    unfold findV at h
    split at h
    · rename_i hc
      cases h
      simp only [Bool.and_eq_true, beq_iff_eq] at hc
      exact ⟨List.mem_cons_self .., hc.1.symm, hc.2.1.symm, hc.2.2⟩
    · have := findV_ok h; exact ⟨List.mem_cons_of_mem _ this.1, this.2⟩
def dropT : List (Nat × AO) → Tr → Tr
  | [], t => t
  | p :: l, t => dropT l (t.set 40 p.1 none)
def setT : List (Nat × AO) → Tr → Tr
  | [], t => t
  | p :: l, t => (setT l t).set 40 p.1 (some p.2)
def freeT (t : Tr) (n : Nat) : Nat → Bool
  | 0 => true
  | k + 1 => (match t.get (n + k) with | none => true | some _ => false) && freeT t n k
theorem freeT_get {t : Tr} {n : Nat} : ∀ {k : Nat}, freeT t n k = true → ∀ i, n ≤ i → i < n + k → t.get i = none
  | 0, _, i, h1, h2 => by omega
  | k + 1, h, i, h1, h2 => by
    simp only [freeT, Bool.and_eq_true] at h
    by_cases e : i = n + k
    · subst e
      have := h.1
      split at this
      · assumption
      · cases this
    · exact freeT_get h.2 i h1 (by omega)
theorem dropT_get : ∀ {l : List (Nat × AO)} {t : Tr}, okL l = true → ∀ i, (dropT l t).get i = if idIn l i = true then none else t.get i
  | [], t, _, i => by simp [dropT, idIn]
  | p :: l, t, hk, i => by
    simp only [okL, List.all_cons, Bool.and_eq_true, decide_eq_true_eq] at hk
    have hb : p.1 + 1 < 2 ^ 40 := by have := hk.1; unfold htMax at this; omega
    unfold dropT
    rw [dropT_get (show okL l = true from hk.2) i, Tr.get_set _ 40 _ _ hb]
    by_cases e : idIn l i = true
    · rw [if_pos e, if_pos (by simp only [idIn, List.any_cons, Bool.or_eq_true] at e ⊢; exact .inr e)]
    · rw [if_neg e]
      by_cases e2 : i = p.1
      · rw [if_pos e2, if_pos (by simp [idIn, e2])]
      · rw [if_neg e2, if_neg]
        simp only [idIn, List.any_cons, Bool.or_eq_true, beq_iff_eq] at e ⊢
        rintro (h | h)
        · exact e2 h.symm
        · exact e h
theorem setT_none : ∀ {l : List (Nat × AO)} {t : Tr}, okL l = true → ∀ i, idIn l i = false → (setT l t).get i = t.get i
  | [], t, _, i, _ => rfl
  | p :: l, t, hk, i, h => by
    simp only [okL, List.all_cons, Bool.and_eq_true, decide_eq_true_eq] at hk
    have hb : p.1 + 1 < 2 ^ 40 := by have := hk.1; unfold htMax at this; omega
    simp only [idIn, List.any_cons, Bool.or_eq_false_iff] at h
    unfold setT
    rw [Tr.get_set _ 40 _ _ hb, if_neg (by have := h.1; simp at this; exact fun e => this e.symm)]
    exact setT_none (show okL l = true from hk.2) i h.2
def useV (x : Fact) (H : HT) : HT := ⟨x.n1, setT x.l1 (dropT x.l0 H.t)⟩
def callV (tb : Tbl) (ps : List PF) (gs : List Fact) (av : AvT) : Nat → OraB
  | 0, _, _, _ => none
  | n + 1, f, args, H => match findP ps f H.next with
    | some x => some ((x.v, H), [.a args x.args])
    | none => match findV gs f H.next with
      | some x => if freeT H.t x.n0 (x.n1 - x.n0) = true then some ((x.v, useV x H), .a args x.args :: obL x.l0 H.t) else none
      | none => match lookN tb f with
        | some t => match runB (callV tb ps gs av n) n (t args) (lookAv av f H.next) H with
          | some (((0, [v]), H'), _, os) => some ((v, H'), os)
          | _ => none
        | none => none
theorem idIn_mem {l : List (Nat × AO)} {i : Nat} (h : idIn l i = true) : ∃ o, (i, o) ∈ l := by
  simp only [idIn, List.any_eq_true, beq_iff_eq] at h
  obtain ⟨p, hp, rfl⟩ := h
  exact ⟨p.2, hp⟩
theorem mem_idIn {l : List (Nat × AO)} {i : Nat} {o : AO} (h : (i, o) ∈ l) : idIn l i = true := by
  simp only [idIn, List.any_eq_true, beq_iff_eq]; exact ⟨_, h, rfl⟩
theorem obL_mem {l : List (Nat × AO)} {t : Tr} (h : obsOk (obL l t)) : ∀ p ∈ l, t.get p.1 = some p.2 := by
  induction l with
  | nil => intro p hp; cases hp
  | cons q r ih =>
    intro p hp
    cases hp with
    | head => exact h.1
    | tail _ hp => exact ih h.2 p hp
theorem trL_mem {l : List (Nat × AO)} (hk : okL l = true) {i : Nat} (h : idIn l i = true) : ∃ o, (trL l).get i = some o ∧ (i, o) ∈ l := by
  induction l with
  | nil => cases h
  | cons p l ih =>
    have hk' := hk
    simp only [okL, List.all_cons, Bool.and_eq_true, decide_eq_true_eq] at hk
    have hb : p.1 + 1 < 2 ^ 40 := by have := hk.1; unfold htMax at this; omega
    unfold trL
    rw [Tr.get_set _ 40 _ _ hb]
    by_cases e : i = p.1
    · rw [if_pos e]; subst e; exact ⟨_, rfl, List.mem_cons_self ..⟩
    · rw [if_neg e]
      simp only [idIn, List.any_cons, Bool.or_eq_true, beq_iff_eq] at h
      rcases h with h | h
      · exact absurd h.symm e
      · obtain ⟨o, h1, h2⟩ := ih (show okL l = true from hk.2) h
        exact ⟨o, h1, List.mem_cons_of_mem _ h2⟩
theorem useV_ok {x : Fact} {H : HT} {G G' : AH} (hw : wfF x = true) (hn : H.next = x.n0) (hf : freeT H.t x.n0 (x.n1 - x.n0) = true) (ho : obsOk (obL x.l0 H.t)) (s : SubH H.rep G)
    (g2 : SubH (ofL x.n1 x.l1).rep G') (g3 : ∀ i, idIn x.l0 i = false → (i < x.n0 ∨ x.n1 ≤ i) → G'.obj i = G.obj i) : SubH (useV x H).rep G' ∧ Kp H (useV x H) G G' := by
  simp only [wfF, Bool.and_eq_true, decide_eq_true_eq] at hw
  obtain ⟨k0, k1, hle, hin⟩ := hw
  have free := freeT_get hf
  have hm := obL_mem ho
  have l1n : ∀ i, idIn x.l1 i = true → idIn x.l0 i = true ∨ (x.n0 ≤ i ∧ i < x.n1) := by
    intro i hi
    obtain ⟨o, hp⟩ := idIn_mem hi
    have := List.all_eq_true.1 hin _ hp
    simpa using this
  constructor
  · refine ⟨g2.1, fun i o hi => ?_⟩
    have hi' : (setT x.l1 (dropT x.l0 H.t)).get i = some o := hi
    by_cases hd : idIn x.l1 i = true
    · obtain ⟨o1, t1, t2⟩ := trL_mem k1 hd
      have : (setT x.l1 (dropT x.l0 H.t)).get i = (trL x.l1).get i := by
        clear hi hi' hin l1n t1 t2
        have : ∀ (l : List (Nat × AO)), okL l = true → idIn l i = true → (setT l (dropT x.l0 H.t)).get i = (trL l).get i := by
          intro l
          induction l with
          | nil => intro _ h; cases h
          | cons p l ih =>
            intro hk h
            simp only [okL, List.all_cons, Bool.and_eq_true, decide_eq_true_eq] at hk
            have hb : p.1 + 1 < 2 ^ 40 := by have := hk.1; unfold htMax at this; omega
            unfold setT trL
            rw [Tr.get_set _ 40 _ _ hb, Tr.get_set _ 40 _ _ hb]
            by_cases e : i = p.1
            · rw [if_pos e, if_pos e]
            · rw [if_neg e, if_neg e]
              simp only [idIn, List.any_cons, Bool.or_eq_true, beq_iff_eq] at h
              rcases h with h | h
              · exact absurd h.symm e
              · exact ih (show okL l = true from hk.2) h
        exact this x.l1 k1 hd
      rw [this] at hi'
      exact g2.2 i o hi'
    · have hd : idIn x.l1 i = false := by simpa using hd
      rw [setT_none k1 i hd, dropT_get k0 i] at hi'
      split at hi'
      · cases hi'
      · rename_i h0
        have h0 : idIn x.l0 i = false := by simpa using h0
        have hr : i < x.n0 ∨ x.n1 ≤ i := by
          by_cases h1 : i < x.n0
          · exact .inl h1
          · by_cases h2 : x.n1 ≤ i
            · exact .inr h2
            · rw [free i (by omega) (by omega)] at hi'; cases hi'
        rw [g3 i h0 hr]
        exact s.2 i o hi'
  · refine ⟨by rw [hn]; exact hle, fun i hi hr => ?_⟩
    have hr : i < x.n0 ∨ x.n1 ≤ i := by rw [hn] at hr; exact hr
    have h0 : idIn x.l0 i = false := by
      cases hb : idIn x.l0 i with
      | false => rfl
      | true =>
        obtain ⟨o, hp⟩ := idIn_mem hb
        have := hm _ hp
        rw [hi] at this; cases this
    have h1 : idIn x.l1 i = false := by
      cases hb : idIn x.l1 i with
      | false => rfl
      | true =>
        rcases l1n i hb with h | h
        · rw [h0] at h; cases h
        · omega
    refine ⟨?_, g3 i h0 hr⟩
    show (setT x.l1 (dropT x.l0 H.t)).get i = none
    rw [setT_none k1 i h1, dropT_get k0 i, h0]
    simpa using hi
theorem callV_sound {E : Env} {tb : Tbl} (h : TbOk2 E tb) {ps : List PF} {gs : List Fact} {av : AvT} {N : Nat} (hp : ∀ M, N ≤ M → ∀ y ∈ ps, ∀ G, callA E.P E.T E.hs M y.f y.args G = some (y.v, G))
    (hg : ∀ M, N ≤ M → ∀ y ∈ gs, ∀ G, SubH (ofL y.n0 y.l0).rep G → ∃ G', callA E.P E.T E.hs M y.f y.args G = some (y.v, G') ∧ SubH (ofL y.n1 y.l1).rep G' ∧ ∀ i, idIn y.l0 i = false → (i < y.n0 ∨ y.n1 ≤ i) → G'.obj i = G.obj i) (hav : avOk av) :
    ∀ (n : Nat) (f : FuncId) (args : List AV) (H : HT) (G : AH) (r : (AV × HT) × List Ob), callV tb ps gs av n f args H = some r → obsOk r.2 → SubH H.rep G → ∃ G', callA E.P E.T E.hs (N + n) f args G = some (r.1.1, G') ∧ SubH r.1.2.rep G' ∧ Kp H r.1.2 G G'
  | 0, _, _, _, _, _, hr, _, _ => by cases hr
  | n + 1, f, args, H, G, r, hr, ho, s => by
    simp only [callV] at hr
    split at hr
    · rename_i x hx
      cases hr
      obtain ⟨e1, e2⟩ := findP_ok (hp (N + (n + 1)) (by omega)) hx
      subst e1
      have ea : args = x.args := ho.1
      rw [ea]
      exact ⟨G, e2 G, s, Kp.refl _ _⟩
    · split at hr
      · rename_i x hx
        split at hr
        case isFalse => cases hr
        rename_i hfr
        cases hr
        obtain ⟨e0, e1, e2, e3⟩ := findV_ok hx
        subst e1
        have ea : args = x.args := ho.1
        rw [ea]
        have hw := e3
        simp only [wfF, Bool.and_eq_true] at hw
        obtain ⟨G', g1, g2, g3⟩ := hg (N + (n + 1)) (by omega) x e0 G ((obL_sub hw.1 ho.2 e2.symm).trans s)
        exact ⟨G', g1, useV_ok e3 e2 hfr ho.2 s g2 g3⟩
      · split at hr
        · rename_i t ht
          split at hr
          · rename_i v H' A' os hv
            cases hr
            obtain ⟨fn, h1, h2⟩ := h.look ht
            obtain ⟨-, G', g1, g2, g4⟩ := runB_fr (C' := callA E.P E.T E.hs (N + n)) (fun f a h' G r hc ho s => callV_sound h hp hg hav n f a h' G r hc ho s) _ hv ho (lookAv_ok hav) s
            have g3 := run_mono (C' := callA E.P E.T E.hs (N + n)) (fun _ _ _ _ hc => hc) (by omega : n ≤ N + n) _ g1
            have g3 := h2 args _ _ _ _ g3
            refine ⟨G', ?_, g2, g4⟩
            show callA E.P E.T E.hs (N + n + 1) f args G = _
            simp only [callA, h1, g3]
          · cases hr
        · cases hr
theorem facV_ok {E : Env} {tb : Tbl} (h : TbOk2 E tb) {ps : List PF} {gs : List Fact} {av : AvT} (hp : allP E ps) (hg : allF E gs) (hav : avOk av) {n : Nat} {x : Fact} (hw : wfF x = true)
    (hb : outS x (callV tb ps gs av n x.f x.args (ofL x.n0 x.l0)) = (outS x (callV tb ps gs av n x.f x.args (ofL x.n0 x.l0))).map Ob.self) : x.okF E := by
  obtain ⟨N1, hN1⟩ := hp.toN
  obtain ⟨N2, hN2⟩ := hg.toN
  have ho := obsOk_self hb
  generalize hR : callV tb ps gs av n x.f x.args (ofL x.n0 x.l0) = R at ho
  cases R with
  | none => exact absurd ho.1 (by intro h; cases h)
  | some r =>
    obtain ⟨o1, o2, o3⟩ := ho
    obtain ⟨o3, o4⟩ := obsOk_append o3
    have o1' : [r.1.1] = [x.v] := o1
    have o2' : (r.1.2.next == x.n1 && okL x.l1) = true := o2
    simp only [Bool.and_eq_true, beq_iff_eq] at o2'
    refine ⟨max N1 N2 + n, fun G s => ?_⟩
    obtain ⟨G', g1, g2, g3⟩ := callV_sound h (N := max N1 N2) (fun M hM => hN1 M (by omega)) (fun M hM => hN2 M (by omega)) hav n _ _ _ _ _ hR o4 s
    simp only [List.cons.injEq, and_true] at o1'
    rw [o1'] at g1
    refine ⟨G', g1, (obL_sub o2'.2 o3 o2'.1.symm).trans g2, fun i hi hr => ?_⟩
    refine (g3.2 i ?_ ?_).2
    · cases hb : (ofL x.n0 x.l0).t.get i with
      | none => rfl
      | some o =>
        have hk : okL x.l0 = true := by simp only [wfF, Bool.and_eq_true] at hw; exact hw.1
        have := mem_idIn (trL_get hk (show (trL x.l0).get i = some o from hb))
        rw [hi] at this; cases this
    · rw [o2'.1]; exact hr
theorem Fact.okF.ok {E : Env} {x : Fact} (h : x.okF E) : x.ok E := by
  obtain ⟨n, hn⟩ := h
  refine ⟨n, fun G s => ?_⟩
  obtain ⟨G', g1, g2, _⟩ := hn G s
  exact ⟨G', g1, g2⟩
end Go.Proofs.YtdfpjhlckjognaaGreat.Fw
set_option linter.unusedVariables false
set_option linter.unusedSimpArgs false
namespace Go.Proofs.YtdfpjhlckjognaaGreat.Fw
open Go
def outT : Option ResB → List Ob
  | none => [.b false true]
  | some r => .a r.1.1.2 [.sc (.b true)] :: .b (r.1.1.1 == 0) true :: r.2.2
theorem treeV_ok {E : Env} {tb : Tbl} (h : TbOk2 E tb) {ps : List PF} {gs : List Fact} {av : AvT} (hp : allP E ps) (hg : allF E gs) (hav : avOk av) {n : Nat} {t : Tree} {A : Adv} (hA : advOk A) {f : FuncId} {fn : Func} {args : List AV} (hf : E.P.funcs[f]? = some fn) (ht : bodyK E.T (E.hs f) fn args = t)
    (hb : outT (runB (callV tb ps gs av n) n t A ⟨0, .lf⟩) = (outT (runB (callV tb ps gs av n) n t A ⟨0, .lf⟩)).map Ob.self) : ∃ m H1, callA E.P E.T E.hs m f args ⟨0, fun _ => none⟩ = some (.sc (.b true), H1) := by
  obtain ⟨N1, hN1⟩ := hp.toN
  obtain ⟨N2, hN2⟩ := hg.toN
  have ho := obsOk_self hb
  generalize hR : runB (callV tb ps gs av n) n t A ⟨0, .lf⟩ = R at ho
  cases R with
  | none => exact absurd ho.1 (by intro h; cases h)
  | some r =>
    obtain ⟨o1, o2, o3⟩ := ho
    have o1' : r.1.1.2 = [.sc (.b true)] := o1
    have o2' : (r.1.1.1 == 0) = true := o2
    have s0 : SubH (⟨0, .lf⟩ : HT).rep ⟨0, fun _ => none⟩ := ⟨rfl, fun i o h => by cases h⟩
    obtain ⟨-, G', g1, -⟩ := runB_fr (C' := callA E.P E.T E.hs (max N1 N2 + n)) (fun f a h' G r hc ho s => callV_sound h (N := max N1 N2) (fun M hM => hN1 M (by omega)) (fun M hM => hN2 M (by omega)) hav n f a h' G r hc ho s) t hR o3 hA s0
    have g3 := run_mono (C' := callA E.P E.T E.hs (max N1 N2 + n)) (fun _ _ _ _ hc => hc) (by omega : n ≤ max N1 N2 + n) _ g1
    refine ⟨max N1 N2 + n + 1, G', ?_⟩
    obtain ⟨⟨⟨tag, l⟩, H1⟩, A1, os⟩ := r
    simp only at o1' o2'
    have e2 : tag = 0 := by simpa using o2'
    subst o1' e2
    show callA E.P E.T E.hs (max N1 N2 + n + 1) f args _ = _
    simp only [callA, hf, ht, g3]
end Go.Proofs.YtdfpjhlckjognaaGreat.Fw
namespace Go.Proofs.YtdfpjhlckjognaaGreat.Fw
open Go
abbrev iI (n : Int) : Sc := .i .i64 n
abbrev sI (n : Int) : AV := .sc (.i .i64 n)
abbrev wIk (n : Int) : Int := IntKind.wrap .i64 n
abbrev nI (l : List Sc) (j : Nat) (f : Int → Tree) : Tree := .nth l j fun v => .asI .i64 (.sc v) f
abbrev gI (l : List AV) (j : Nat) (f : Int → Tree) : Tree := .asI .i64 (l.getD j .un) f
abbrev iU (n : Int) : Sc := .i .u64 n
abbrev sU (n : Int) : AV := .sc (.i .u64 n)
abbrev wUk (n : Int) : Int := IntKind.wrap .u64 n
abbrev nU (l : List Sc) (j : Nat) (f : Int → Tree) : Tree := .nth l j fun v => .asI .u64 (.sc v) f
abbrev gU (l : List AV) (j : Nat) (f : Int → Tree) : Tree := .asI .u64 (l.getD j .un) f
abbrev iV (n : Int) : Sc := .i .u32 n
abbrev sV (n : Int) : AV := .sc (.i .u32 n)
abbrev wVk (n : Int) : Int := IntKind.wrap .u32 n
abbrev nV (l : List Sc) (j : Nat) (f : Int → Tree) : Tree := .nth l j fun v => .asI .u32 (.sc v) f
abbrev gV (l : List AV) (j : Nat) (f : Int → Tree) : Tree := .asI .u32 (l.getD j .un) f
abbrev iH (n : Int) : Sc := .i .u16 n
abbrev sH (n : Int) : AV := .sc (.i .u16 n)
abbrev wHk (n : Int) : Int := IntKind.wrap .u16 n
abbrev nH (l : List Sc) (j : Nat) (f : Int → Tree) : Tree := .nth l j fun v => .asI .u16 (.sc v) f
abbrev gH (l : List AV) (j : Nat) (f : Int → Tree) : Tree := .asI .u16 (l.getD j .un) f
abbrev iY (n : Int) : Sc := .i .u8 n
abbrev sY (n : Int) : AV := .sc (.i .u8 n)
abbrev wYk (n : Int) : Int := IntKind.wrap .u8 n
abbrev nY (l : List Sc) (j : Nat) (f : Int → Tree) : Tree := .nth l j fun v => .asI .u8 (.sc v) f
abbrev gY (l : List AV) (j : Nat) (f : Int → Tree) : Tree := .asI .u8 (l.getD j .un) f
abbrev nL (l : List Sc) (j : Nat) (f : Option SlD → Tree) : Tree := .nth l j fun v => .asL (.sc v) f
abbrev gL (l : List AV) (j : Nat) (f : Option SlD → Tree) : Tree := .asL (l.getD j .un) f
abbrev nB (l : List Sc) (j : Nat) (f : Bool → Tree) : Tree := .nth l j fun v => .asB (.sc v) f
abbrev gB (l : List AV) (j : Nat) (f : Bool → Tree) : Tree := .asB (l.getD j .un) f
abbrev nS (l : List Sc) (j : Nat) (f : ByteArray → Tree) : Tree := .nth l j fun v => .asS (.sc v) f
abbrev gS (l : List AV) (j : Nat) (f : ByteArray → Tree) : Tree := .asS (l.getD j .un) f
abbrev nP (l : List Sc) (j : Nat) (f : Option (Nat × Nat) → Tree) : Tree := .nth l j fun v => .asP (.sc v) f
abbrev gP (l : List AV) (j : Nat) (f : Option (Nat × Nat) → Tree) : Tree := .asP (l.getD j .un) f
abbrev nX (l : List Sc) (j : Nat) (f : Sc → Tree) : Tree := .nth l j fun v => .asX (.sc v) f
abbrev gX (l : List AV) (j : Nat) (f : Sc → Tree) : Tree := .asX (l.getD j .un) f
abbrev sL (x : Option SlD) : AV := .sc (.sl x)
abbrev sB (x : Bool) : AV := .sc (.b x)
abbrev sS (x : ByteArray) : AV := .sc (.s x)
abbrev sP (x : Option (Nat × Nat)) : AV := .sc (.p x)
abbrev nN (p q : Nat) (f : Nat → Nat → Tree) : Tree := .nn (.some (p, q)) f
abbrev pQ (p q : Nat) : Sc := .p (some (p, q))
abbrev sQ (p q : Nat) : AV := .sc (.p (some (p, q)))
abbrev sl5 (a b c e z : Nat) : Sc := .sl (some ⟨a, b, c, e, z⟩)
abbrev cZ : Sc := .cx .f64 0 0
abbrev cF (l : List Sc) : AO := .cells false l
abbrev fS (f : Nat) (a : List AV) (n : Nat) (l : List (Nat × AO)) (v : AV) (m : Nat) : Fact := ⟨f, a, n, l, v, m, l⟩
end Go.Proofs.YtdfpjhlckjognaaGreat.Fw
