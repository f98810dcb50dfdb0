/- Builtins: len, min, max, append, clear, copy; make. -/
import Derived.Test.YtdfpjhlckjognaaGreatFwI
set_option linter.unusedSimpArgs false
set_option linter.unusedVariables false
namespace Go.Proofs.YtdfpjhlckjognaaGreat.Fw
open Go
theorem HR.kill {ι : Inj} {H : AH} {w : World} (h : HR ι H w) (id : Nat) (hm : ι id ≠ none) : HR ι (H.put id none) w ∧ Stp ι H w ι (H.put id none) w := by
  have al : ∀ j, Alive (H.put id none) j → Alive H j := by
    intro j ha
    rcases ha with ha | ha
    · exact .inl ha
    · unfold AH.put at ha; dsimp only at ha
      split at ha
      · exact absurd rfl ha
      · exact .inr ha
  refine ⟨⟨?_, ?_, h.lt, ?_⟩, ⟨fun _ _ h => h, fun _ _ h h' => (by rw [h] at h'; cases h'), Nat.le_refl _, ?_, ?_, Nat.le_refl _, fun _ _ _ => rfl, rfl, rfl, rfl⟩⟩
  · intro j d o hd ho
    unfold AH.put at ho; dsimp only at ho
    split at ho
    · cases ho
    · exact h.obj j d o hd ho
  · intro a b da db hn ha hb h1 h2
    exact h.inj a b da db hn ha hb (al a h1) (al b h2)
  · intro j hj
    unfold AH.put; dsimp only
    split
    · rfl
    · exact h.fut j hj
  · intro j hj hn
    unfold AH.put; dsimp only
    split
    · rfl
    · exact hn
  · intro j hj hn
    unfold AH.put; dsimp only
    rw [if_neg (by rintro rfl; exact hm hn)]
theorem HR.scratch {ι : Inj} {H : AH} {w : World} (h : HR ι H w) (b o : Nat) (vs : List Value) (hb : ∀ j d, ι j = some d → Alive H j → d.blk ≠ b) : HR ι H (w.setCells b o vs) := by
  refine ⟨?_, h.inj, fun j d hd => by rw [setCells_size]; exact h.lt j d hd, h.fut⟩
  intro j d ob hd ho
  exact (h.obj j d ob hd ho).mono (fun _ _ h => h) (setCells_heap _ _ _ _ _ (hb j d hd (.inr (by rw [ho]; simp))))
theorem HR.adopt {ι : Inj} {H : AH} {w : World} (h : HR ι H w) {d : IB} {o : AO} (g : ι H.next = none) (hb : ∀ j dj, ι j = some dj → Alive H j → dj.blk ≠ d.blk) (hlt : d.blk < w.heap.size)
    (ho : OR (ι.add H.next d) d w o) : HR (ι.add H.next d) (H.new o) w := by
  have hle := Inj.le_add (d := d) g
  have al : ∀ j, j ≠ H.next → Alive (H.new o) j → Alive H j := by
    intro j hne ha
    rcases ha with ha | ha
    · have : H.next + 1 ≤ j := ha
      exact .inl (by omega)
    · unfold AH.new at ha; dsimp only at ha; rw [if_neg hne] at ha; exact .inr ha
  refine ⟨?_, ?_, ?_, ?_⟩
  · intro j dj oj hdj hoj
    unfold AH.new at hoj; dsimp only at hoj
    unfold Inj.add at hdj
    split at hoj
    · rename_i e; subst e; rw [if_pos rfl] at hdj; cases hdj; cases hoj; exact ho
    · rename_i hn
      rw [if_neg hn] at hdj
      exact (h.obj j dj oj hdj hoj).mono hle rfl
  · intro a b da db hn ha hb' h1 h2
    unfold Inj.add at ha hb'
    by_cases ea : a = H.next
    · rw [if_pos ea] at ha; cases ha
      have eb : b ≠ H.next := fun e => hn (ea.trans e.symm)
      rw [if_neg eb] at hb'
      right; exact fun e => hb b db hb' (al b eb h2) e.symm
    · rw [if_neg ea] at ha
      by_cases eb : b = H.next
      · rw [if_pos eb] at hb'; cases hb'
        right; exact hb a da ha (al a ea h1)
      · rw [if_neg eb] at hb'
        exact h.inj a b da db hn ha hb' (al a ea h1) (al b eb h2)
  · intro a da ha
    unfold Inj.add at ha
    split at ha
    · cases ha; exact hlt
    · exact h.lt a da ha
  · intro a ha
    have ha' : H.next + 1 ≤ a := ha
    unfold AH.new; dsimp only
    rw [if_neg (by omega)]; exact h.fut a (by omega)
theorem nextcap_bound (need c eb : Nat) (h : c < need) (h1 : need * eb ≤ appBound) (h2 : eb ≤ appBytes) : Builtin.nextslicecap need c * eb ≤ 281474976710656 := by
  unfold appBound at h1; unfold appBytes at h2
  have key : Builtin.nextslicecap need c ≤ 2 * need + 192 := by
    unfold Builtin.nextslicecap
    split
    · omega
    · split
      · omega
      · simp only [Builtin.growBy]
        split <;> (try split) <;> (try split) <;> (try split) <;> omega
  have : Builtin.nextslicecap need c * eb ≤ (2 * need + 192) * eb := Nat.mul_le_mul_right _ key
  have e : (2 * need + 192) * eb = 2 * (need * eb) + 192 * eb := by rw [Nat.add_mul, Nat.mul_assoc]
  omega
section ops
variable {P : Program} {T : TTab} {H : AH}
theorem rds_run (hT : TOk P T) {el : Nat} {ie : TI} (hie : T.get el = some ie) {ι : Inj} {w : World} (hh : HR ι H w) {x : Option SlD} {l : List Sc} {m : Nat} (hl : H.rds ie.size x m = some l) {v : Value} (hv : SR ι (.sl x) v) :
    ∃ b c news, v = .slice b (slN x) c ∧ LR ι l news ∧ news.length = m * ie.size ∧ ∀ w1 : World, w1.heap = w.heap → (Builtin.firstCells ie.size m v).run P w1 = .ok ⟨news⟩ w1 := by
  cases x with
  | none =>
    cases hv
    simp only [AH.rds] at hl
    split at hl
    case isFalse => cases hl
    rename_i hm
    cases hl
    exact ⟨none, 0, [], rfl, rfl, by simp [hm], fun w1 _ => by simp [Builtin.firstCells]⟩
  | some d =>
    obtain ⟨db, a, c, hd, rfl, hlc, hcc, had, _⟩ := hv
    refine ⟨some a, c, ?_⟩
    simp only [AH.rds] at hl
    split at hl
    · rename_i hm
      cases hl
      refine ⟨[], rfl, rfl, by simp [hm], fun w1 _ => ?_⟩
      simp [Builtin.firstCells, hm, loadCells, loadCellsFrom]
    · rename_i hm
      split at hl
      case isFalse => cases hl
      rename_i hle
      obtain ⟨vs, h1, h2, h3, h4⟩ := hh.read hd hl
      refine ⟨vs, rfl, h1, h2, fun w1 hw1 => ?_⟩
      have had := had.resolve_left (by omega)
      subst had
      have := run_loadCells_list (P := P) w1 ⟨db.blk, db.base + d.off, none⟩ vs (fun j v hj => by
        rw [addr_add, cell?_heap (w := w) (by rw [hw1])]; exact h4 j v hj)
      rw [h2] at this
      simp [Builtin.firstCells, this]
theorem append_run (hT : TOk P T) {t0 t1 el el' ty : Nat} {i j ie : TI} (h0 : T.get t0 = some i) (h1 : T.get t1 = some j) (hi : i.d = .slice el) (hj : j.d = .slice el') (hie : T.get el = some ie) (hnt : notTup ie.d = true)
    {ι : Inj} {w : World} (hh : HR ι H w) {s x s' : Option SlD} {l : List Sc} {H' : AH} (hl : H.rds ie.size x (slN x) = some l) (ha : H.app ie.size ie.bytes s l (slN x) = some (s', H')) (g : Gap ι H H')
    {vs vx : Value} (hs : SR ι (.sl s) vs) (hx : SR ι (.sl x) vx) :
    ∃ v' w' ι', (Builtin.append_ #[t0, t1] ty #[vs, vx]).run P w = .ok v' w' ∧ SR ι' (.sl s') v' ∧ HR ι' H' w' ∧ Stp ι H w ι' H' w' := by
  obtain ⟨bx, cx, news, rfl, hnl, hnlen, hnrun⟩ := rds_run hT hie hh hl hx
  obtain ⟨d0, hu0, hm0⟩ := TI.und (hT _ _ h0)
  rw [hi] at hm0; cases tdm_slice hm0
  obtain ⟨d1, hu1, hm1⟩ := TI.und (hT _ _ h1)
  rw [hj] at hm1; cases tdm_slice hm1
  obtain ⟨inf, hinf, hisz, hib⟩ := TI.inf (hT _ _ hie)
  obtain ⟨⟨inf2, z, hinf2, hzz, hzc, hzl⟩, _⟩ := TI.more (hT _ _ hie) (notTup_ne hnt)
  rw [hinf] at hinf2; cases hinf2
  have hzs : z.cells.size = ie.size := by have := (constScs_sound hzc ι).length; simpa [hzl] using this
  generalize slN x = n at *
  unfold AH.app at ha
  split at ha
  case isFalse => cases ha
  rename_i hlen
  obtain ⟨hlen, hpos, heb⟩ := hlen
  have grow : ∀ (b : Option Addr) (sLen c : Nat) (olds : List Value), c < sLen + n → (sLen + n) * ie.bytes ≤ appBound → (∀ w1 : World, w1.heap = w.heap → (Builtin.firstCells ie.size sLen (.slice b sLen c)).run P w1 = .ok ⟨olds⟩ w1) →
      ∃ junk : List Value, (Builtin.append_ #[t0, t1] ty #[.slice b sLen c, .slice bx n cx]).run P w = .ok (.slice (some ⟨w.heap.size, 0, none⟩) (sLen + n) ((Question.appendCap (sLen + n) c el).cut (w.tape w.drawn (.appendCap (sLen + n) c el)))) (w.drew.alloc (.cells ⟨olds ++ news ++ junk⟩ el)) ∧
        junk.length = ((Question.appendCap (sLen + n) c el).cut (w.tape w.drawn (.appendCap (sLen + n) c el)) - (sLen + n)) * ie.size := by
    intro b sLen c olds hlt hbd hold
    have hnn : ¬ (sLen + n ≤ c) := by omega
    have hb63 : ((sLen + n : Nat) : Int) ≤ 9223372036854775807 := by
      have : sLen + n ≤ (sLen + n) * ie.bytes := Nat.le_mul_of_pos_right _ hpos
      unfold appBound at hbd; omega
    have h63' : ¬ (9223372036854775807 < ((sLen : Int) + (n : Int))) := by omega
    have hcap := nextcap_bound (sLen + n) c ie.bytes hlt hbd heb
    have h48' : ¬ (281474976710656 < Builtin.nextslicecap (sLen + n) c * inf.bytes) := by rw [hib]; omega
    have ho := hold w.drew rfl
    have hn' := hnrun w.drew rfl
    refine ⟨(Builtin.zeroCells z.cells ((Question.appendCap (sLen + n) c el).cut (w.tape w.drawn (.appendCap (sLen + n) c el)) - (sLen + n))).toList, ?_, ?_⟩
    · simp [Builtin.append_, run_underlying hu0, run_underlying hu1, sizeOf, typeInfo, zeroValue, hinf, hzz, Builtin.lenOf, hnn, h63', h48', Question.forced, hisz, ho, hn', newRow]
      congr 2
      apply Array.ext'
      simp
    · have : z.cells.size = ie.size := hzs
      simp [size_zeroCells, this]
  cases s with
  | none =>
    cases hs
    dsimp only at ha
    split at ha
    · rename_i hn0
      cases ha
      refine ⟨.slice none 0 0, w, ι, ?_, rfl, hh, Stp.refl _ _ _⟩
      have hn' := hnrun w rfl
      subst hn0
      simp [Builtin.append_, run_underlying hu0, run_underlying hu1, sizeOf, typeInfo, hinf, hisz, Builtin.lenOf, hn']
    · rename_i hn0
      split at ha
      case isFalse => cases ha
      rename_i hbd
      cases ha
      obtain ⟨junk, hrun, hjl⟩ := grow none 0 0 [] (by omega) (by simpa using hbd) (fun w1 _ => by simp [Builtin.firstCells])
      have hn := g H.next (Nat.le_refl _) (by simp [AH.new])
      have hh1 : HR ι H w.drew := hh.same_heap rfl
      have ho := OR.cells_new (w := w.drew) (e := el) (c := ⟨[] ++ news ++ junk⟩) (hnl.mono fun _ _ => SR.mono (Inj.le_add (d := ⟨w.drew.heap.size, 0, (Array.mk ([] ++ news ++ junk)).size, false⟩) hn)) (fun j v hj => by
        simp only [List.nil_append, List.getElem?_toArray]
        rw [List.getElem?_append_left (by
          rcases Nat.lt_or_ge j news.length with h' | h'
          · exact h'
          · simp [List.getElem?_eq_none h'] at hj)]
        exact hj) (by have := hnl.length; simp; omega)
      obtain ⟨m1, m2⟩ := hh1.make (d := ⟨w.drew.heap.size, 0, (Array.mk ([] ++ news ++ junk)).size, false⟩) hn rfl rfl ho
      simp only [Nat.zero_add] at hrun hjl
      refine ⟨_, _, _, hrun, ?_, m1, (Stp.same_heap (w := w) (w' := w.drew) ⟨rfl, rfl, rfl, rfl⟩).trans m2 g⟩
      refine ⟨_, _, _, Inj.add_at _ _ _, rfl, Nat.le_refl _, ?_, .inr rfl, ?_⟩
      · simp only [Question.cut]; omega
      · right
        simp only [Question.cut] at hjl ⊢
        have hnl' : news.length = n * ie.size := hnlen
        simp only [List.nil_append, List.size_toArray, List.length_append, hjl, hnl', Nat.zero_add]
        rw [← Nat.add_mul]
        apply Nat.mul_le_mul_right; omega
  | some d =>
    dsimp only at ha
    split at ha
    case isFalse => cases ha
    rename_i hz
    obtain ⟨db, a, c, hd, rfl, hlc, hcc, had, hjk⟩ := hs
    split at ha
    · rename_i hin
      split at ha
      · rename_i hn0
        cases ha
        subst hn0
        have hn' := hnrun w rfl
        have hnews : news = [] := List.eq_nil_of_length_eq_zero (by simpa using hnlen)
        subst hnews
        refine ⟨.slice (some a) d.len c, w, ι, ?_, ⟨db, a, c, hd, rfl, hlc, hcc, had, hjk⟩, hh, Stp.refl _ _ _⟩
        have : d.len ≤ c := by omega
        simp [Builtin.append_, run_underlying hu0, run_underlying hu1, sizeOf, typeInfo, hinf, hisz, Builtin.lenOf, this, hn', storeCells]
      · rename_i hn0
        simp only [obind_eq] at ha
        obtain ⟨H1, hw, ha⟩ := ha
        cases ha
        have had := had.resolve_left (by omega)
        subst had
        have hn' := hnrun w rfl
        obtain ⟨w1, w2, w3⟩ := hh.write P hd hw hnl
        rw [← Nat.add_assoc] at w1 w2 w3
        refine ⟨.slice (some ⟨db.blk, db.base + d.off, none⟩) (d.len + n) c, _, ι, ?_, ⟨db, _, c, hd, rfl, hin, hcc, .inr rfl, by rw [← hz]; exact hjk⟩, w2, w3⟩
        have : d.len + n ≤ c := by omega
        simp [Builtin.append_, run_underlying hu0, run_underlying hu1, sizeOf, typeInfo, hinf, hisz, Builtin.lenOf, this, hn', addr_add, w1]
    · rename_i hout
      split at ha
      case isFalse => cases ha
      rename_i hbd
      split at ha
      case h_2 => cases ha
      rename_i cl hcl
      split at ha
      case isFalse => cases ha
      rename_i hfit
      cases ha
      have hidlt : d.id < H.next := hh.live_lt (by rw [hcl]; simp)
      obtain ⟨hro, hbs, hcell, hsome, hfro⟩ := hh.obj _ _ _ hd hcl
      have hrd : H.rd d.id d.off (d.len * ie.size) = some ((cl.drop d.off).take (d.len * ie.size)) := by
        unfold AH.rd; rw [hcl]; simp [hfit]
      obtain ⟨olds, o1, o2, o3, o4⟩ := hh.read hd hrd
      obtain ⟨k1, k2⟩ := hh.kill d.id (by rw [hd]; simp)
      have hnx : (H.put d.id none).next = H.next := rfl
      have hn : ι (H.put d.id none).next = none := g H.next (Nat.le_refl _) (by simp [AH.new, AH.put])
      have oldrun : ∀ w1 : World, w1.heap = w.heap → (Builtin.firstCells ie.size d.len (.slice (some a) d.len c)).run P w1 = .ok ⟨olds⟩ w1 := by
        intro w1 hw1
        by_cases hc0 : c = 0
        · have : d.len = 0 := by omega
          have ho : olds = [] := List.eq_nil_of_length_eq_zero (by rw [o2, this]; simp)
          subst ho
          simp [Builtin.firstCells, this, loadCells, loadCellsFrom]
        · have had := had.resolve_left hc0
          subst had
          have := run_loadCells_list (P := P) w1 ⟨db.blk, db.base + d.off, none⟩ olds (fun j v hj => by
            rw [addr_add, cell?_heap (w := w) (by rw [hw1])]; exact o4 j v hj)
          rw [o2] at this
          simp [Builtin.firstCells, this]
      by_cases hroom : d.len + n ≤ c
      · -- the array has room behind what is known
        have had := had.resolve_left (by omega)
        subst had
        have hjk := hjk.resolve_left (by omega)
        rw [hz] at hjk
        have hn' := hnrun w rfl
        have hfree : ∀ j dj, ι j = some dj → Alive (H.put d.id none) j → dj.blk ≠ db.blk := by
          intro j dj hj ha
          have hja : Alive H j ∧ j ≠ d.id := by
            rcases ha with ha | ha
            · exact ⟨.inl ha, by intro e; subst e; have : H.next ≤ d.id := ha; omega⟩
            · unfold AH.put at ha; dsimp only at ha
              split at ha
              · exact absurd rfl ha
              · rename_i e; exact ⟨.inr ha, e⟩
          rcases hh.inj j d.id dj db hja.2 hj hd hja.1 (.inr (by rw [hcl]; simp)) with ⟨_, h2⟩ | h2
          · rw [← hro] at h2; cases h2
          · exact h2
        have hb : ∀ k, k < news.length → db.base + d.off + d.len * ie.size + k < db.bs := by
          intro k hk
          have : (d.len + n) * ie.size ≤ c * ie.size := Nat.mul_le_mul_right _ hroom
          rw [Nat.add_mul, ← hnlen] at this
          omega
        have hs' : ∀ k, k < news.length → (w.cell? ⟨db.blk, db.base + d.off + d.len * ie.size + k, none⟩).isSome = true := fun k hk => hsome _ (hb k hk)
        have hstore := run_storeCells_cells (P := P) db.blk (db.base + d.off + d.len * ie.size) news 0 w (by simpa using hs') (by intro k hk; exact hfro rfl _ (by have := hb k hk; omega)) (LR.oneCell hnl)
        have k3 := k1.scratch db.blk (db.base + d.off + d.len * ie.size) news hfree
        have hlt : db.blk < (w.setCells db.blk (db.base + d.off + d.len * ie.size) news).heap.size := by rw [setCells_size]; exact hh.lt _ _ hd
        have hle := Inj.le_add (d := (⟨db.blk, db.base + d.off, db.bs, false⟩ : IB)) hn
        have hOR : OR (ι.add (H.put d.id none).next ⟨db.blk, db.base + d.off, db.bs, false⟩) ⟨db.blk, db.base + d.off, db.bs, false⟩ (w.setCells db.blk (db.base + d.off + d.len * ie.size) news) (.cells false ((cl.drop d.off).take (d.len * ie.size) ++ l)) := by
          have hol : ((cl.drop d.off).take (d.len * ie.size)).length = d.len * ie.size := o3
          have hll : l.length = news.length := hnl.length.symm
          refine ⟨rfl, ?_, fun k x hk => ?_, fun o ho => ?_, fun _ o ho => ?_⟩
          · rw [List.length_append, hol]
            dsimp only
            have : (d.len + n) * ie.size ≤ c * ie.size := Nat.mul_le_mul_right _ hroom
            rw [Nat.add_mul] at this
            omega
          · dsimp only
            by_cases hk0 : k < d.len * ie.size
            · rw [List.getElem?_append_left (by omega)] at hk
              obtain ⟨v, hv, hsx⟩ := o1.get k x hk
              refine ⟨v, ?_, SR.mono hle hsx⟩
              rw [setCells_far _ _ _ _ _ (by omega)]
              exact o4 k v hv
            · rw [List.getElem?_append_right (by omega), hol] at hk
              obtain ⟨v, hv, hsx⟩ := hnl.get _ x hk
              refine ⟨v, ?_, SR.mono hle hsx⟩
              have := setCells_at db.blk news (db.base + d.off + d.len * ie.size) w (k - d.len * ie.size) v hv hs'
              rwa [show db.base + d.off + d.len * ie.size + (k - d.len * ie.size) = db.base + d.off + k by omega] at this
          · by_cases hin : db.base + d.off + d.len * ie.size ≤ o ∧ o < db.base + d.off + d.len * ie.size + news.length
            · have hj : o - (db.base + d.off + d.len * ie.size) < news.length := by omega
              have := setCells_at db.blk news (db.base + d.off + d.len * ie.size) w (o - (db.base + d.off + d.len * ie.size)) news[o - (db.base + d.off + d.len * ie.size)] (by simp [hj]) hs'
              rw [show db.base + d.off + d.len * ie.size + (o - (db.base + d.off + d.len * ie.size)) = o by omega] at this
              rw [this]; rfl
            · rw [setCells_far _ _ _ _ _ (by omega)]; exact hsome o ho
          · rw [setCells_frozen]; exact hfro rfl o ho
        have k4 := k3.adopt (d := ⟨db.blk, db.base + d.off, db.bs, false⟩) hn hfree hlt hOR
        refine ⟨.slice (some ⟨db.blk, db.base + d.off, none⟩) (d.len + n) c, _, _, ?_, ?_, k4, ?_⟩
        · have : (storeCells ⟨db.blk, db.base + d.off + d.len * ie.size, none⟩ news).run P w = .ok () (w.setCells db.blk (db.base + d.off + d.len * ie.size) news) := by simpa using hstore
          simp [Builtin.append_, run_underlying hu0, run_underlying hu1, sizeOf, typeInfo, hinf, hisz, Builtin.lenOf, hroom, hn', addr_add, this]
        · exact ⟨_, _, _, Inj.add_at _ _ _, rfl, Nat.le_refl _, hroom, .inr rfl, .inr hjk⟩
        · refine ⟨hle, ?_, by simp [AH.new, AH.put], ?_, ?_, by rw [setCells_size]; exact Nat.le_refl _, ?_, setCells_io _ _ _ _⟩
          · intro j dj hj hjn
            unfold Inj.add at hj
            split at hj
            · rename_i e; cases hj; subst e
              exact ⟨Nat.le_refl _, by simp [AH.new, AH.put], rfl, .inr ⟨d.id, db, hd, hidlt, by rw [hcl]; simp, hro.symm, rfl⟩⟩
            · rw [hjn] at hj; cases hj
          · intro j hj hjn
            unfold AH.new AH.put; dsimp only
            rw [if_neg (by omega)]
            split
            · rfl
            · exact hjn
          · intro j hj hjn
            unfold AH.new AH.put; dsimp only
            rw [if_neg (by omega), if_neg (by rintro rfl; rw [hd] at hjn; cases hjn)]
          · intro b hb hno
            exact setCells_heap _ _ _ _ _ (fun e => hno (e ▸ ⟨d.id, db, hd, hidlt, by rw [hcl]; simp, hro.symm, rfl⟩))
      · obtain ⟨junk, hrun, hjl⟩ := grow (some a) d.len c olds (by omega) hbd oldrun
        have k1' : HR ι (H.put d.id none) w.drew := k1.same_heap rfl
        have hall : LR ι ((cl.drop d.off).take (d.len * ie.size) ++ l) (olds ++ news) := All2.append o1 hnl
        have ho := OR.cells_new (w := w.drew) (e := el) (c := ⟨olds ++ news ++ junk⟩) (hall.mono fun _ _ => SR.mono (Inj.le_add (d := ⟨w.drew.heap.size, 0, (Array.mk (olds ++ news ++ junk)).size, false⟩) hn)) (fun j v hj => by
          simp only [List.getElem?_toArray]
          rw [List.getElem?_append_left (by
            rcases Nat.lt_or_ge j (olds ++ news).length with h' | h'
            · exact h'
            · simp [List.getElem?_eq_none h'] at hj)]
          exact hj) (by have := hall.length; simp at this ⊢; omega)
        obtain ⟨m1, m2⟩ := k1'.make (d := ⟨w.drew.heap.size, 0, (Array.mk (olds ++ news ++ junk)).size, false⟩) hn rfl rfl ho
        refine ⟨_, _, _, hrun, ?_, m1, k2.trans ((Stp.same_heap (w := w) (w' := w.drew) ⟨rfl, rfl, rfl, rfl⟩).trans m2 (fun a b c => g a b c)) g⟩
        refine ⟨_, _, _, Inj.add_at _ _ _, rfl, Nat.le_refl _, ?_, .inr rfl, ?_⟩
        · simp only [Question.cut]; omega
        · right
          simp only [Question.cut] at hjl ⊢
          simp only [List.size_toArray, List.length_append, hjl, hnlen, o2, Nat.zero_add]
          rw [← Nat.add_mul, ← Nat.add_mul]
          apply Nat.mul_le_mul_right; omega
end ops
end Go.Proofs.YtdfpjhlckjognaaGreat.Fw
set_option linter.unusedSimpArgs false
set_option linter.unusedVariables false
namespace Go.Proofs.YtdfpjhlckjognaaGreat.Fw
open Go
def VRs (ι : Inj) : List AV → List Value → Prop := All2 (VR ι)
def CallS (P : Program) (f : FuncId) (args : List AV) (H : AH) (v : AV) (H1 : AH) : Prop :=
  ∀ (ι : Inj) (w : World) (args' : List Value), VRs ι args args' → HR ι H w → Gap ι H H1 →
    Calls P f ⟨args'⟩ w fun e w' => ∃ ι' v', e = .returned v' ∧ VR ι' v v' ∧ HR ι' H1 w' ∧ Stp ι H w ι' H1 w'
def ExtS (P : Program) (f : FuncId) (args : List AV) (H : AH) (v : AV) (H1 : AH) : Prop :=
  H1 = H ∧ ∃ fn s, P.funcs[f]? = some fn ∧ fn.body = none ∧ (fn.name == "runtime.NumGoroutine") = false ∧ Extern.findNext fn = none ∧ extA fn.name args = some s ∧ v = .sc s
def OraOk (P : Program) (C : Ora) : Prop := ∀ f args H v H1, C f args H = some (v, H1) → Grow H H1 ∧ ((CallS P f args H v H1 ∧ (∃ fn, P.funcs[f]? = some fn ∧ fn.body.isSome = true ∧ (fn.name == "runtime.NumGoroutine") = false)) ∨ ExtS P f args H v H1)
theorem find_floor {fn : Func} (h : fn.name = "math.archFloor") : Extern.find fn = some (Extern.MathFloor.toIntegral "math.archFloor" .down) := by
  cases fn; subst h; kernel_rfl
theorem find_bits {fn : Func} (h : fn.name = "math.Float64bits") : Extern.find fn = some Extern.MathFloatBits.float64bits := by
  cases fn; subst h; kernel_rfl
theorem find_frombits {fn : Func} (h : fn.name = "math.Float64frombits") : Extern.find fn = some Extern.MathFloatBits.float64frombits := by
  cases fn; subst h; kernel_rfl
theorem find_index {fn : Func} (h : fn.name = "internal/bytealg.IndexByteString") : Extern.find fn = some Extern.BytealgIndexByte.indexByte := by
  cases fn; subst h; kernel_rfl
theorem extA_names {name : String} {args : List AV} {s : Sc} (h : extA name args = some s) : name ∈ extNames := by
  unfold extA at h
  split at h
  · rename_i e; simp [extNames, e]
  split at h
  · rename_i e; simp [extNames, e]
  split at h
  · rename_i e; simp [extNames, e]
  split at h
  · rename_i e; simp [extNames, e]
  · cases h
theorem extA_nb {name : String} {args : List AV} {b : Bool} : extA name args ≠ some (.b b) := by
  intro h
  unfold extA at h
  repeat' split at h
  all_goals cases h
theorem toInt_eq (n : String) (way : Ieee.Toward) (x : Nat) : ∃ g : Bool → Nat → Sem Value, Extern.MathFloor.toIntegral n way #[.float .f64 x] = (match FloatKind.f64.decode x with
    | .nan s t => g s t
    | d => pure (.float .f64 (FloatKind.f64.encode (d.integral way)))) := ⟨_, rfl⟩
theorem ext_run {P : Program} {fn : Func} {args : List AV} {s : Sc} (h : extA fn.name args = some s) {ι : Inj} {args' : List Value} (hv : VRs ι args args') (w : World) :
    ∃ e x, Extern.find fn = some e ∧ (e ⟨args'⟩).run P w = .ok x w ∧ VR ι (.sc s) x := by
  unfold extA at h
  split at h
  · rename_i hn
    split at h
    case h_2 => cases h
    rename_i x
    obtain ⟨y, l, rfl, hy, hl⟩ := hv
    cases hl; cases hy
    split at h
    case h_1 => cases h
    rename_i d hd
    cases h
    refine ⟨_, _, find_floor hn, ?_, rfl⟩
    obtain ⟨g, hg⟩ := toInt_eq "math.archFloor" .down x
    rw [hg]
    split
    · rename_i s t e; exact (hd _ _ e).elim
    · rfl
  split at h
  · rename_i hn
    split at h
    case h_2 => cases h
    rename_i x
    obtain ⟨y, l, rfl, hy, hl⟩ := hv
    cases hl; cases hy
    cases h
    exact ⟨_, _, find_bits hn, rfl, rfl⟩
  split at h
  · rename_i hn
    split at h
    case h_2 => cases h
    rename_i x
    obtain ⟨y, l, rfl, hy, hl⟩ := hv
    cases hl; cases hy
    cases h
    exact ⟨_, _, find_frombits hn, rfl, rfl⟩
  split at h
  · rename_i hn
    split at h
    case h_2 => cases h
    rename_i x y
    obtain ⟨y1, l, rfl, hy, hl⟩ := hv
    obtain ⟨y2, l, rfl, hy2, hl⟩ := hl
    cases hl; cases hy; cases hy2
    have hidx : ∀ (o : Option Nat), ((List.range x.size).find? fun i => x[i]! == y.toNat.toUInt8) = o → (Extern.BytealgIndexByte.indexByte ⟨[.string x, .int .u8 y]⟩).run P w = .ok (match o with | some i => goInt i | none => goInt (-1)) w := by
      intro o ho
      subst ho
      have e : Extern.BytealgIndexByte.indexByte ⟨[.string x, .int .u8 y]⟩ = (do
        let b ← Extern.Bytes.bytesOf (.string x)
        let c ← Extern.Bytes.asByte (.int .u8 y)
        match (List.range b.size).find? fun i => b[i]! == c with
        | some i => pure (goInt i)
        | none => pure (goInt (-1))) := rfl
      rw [e]
      simp only [Extern.Bytes.bytesOf, Extern.Bytes.asByte, pure_bind]
      split
      · rfl
      · rfl
    split at h
    · rename_i i hi
      cases h
      exact ⟨_, _, find_index hn, hidx _ hi, rfl⟩
    · rename_i hi
      cases h
      exact ⟨_, _, find_index hn, hidx _ hi, rfl⟩
  · cases h
section ops
variable {P : Program} {T : TTab} {o : Oper} {e : List AV} {C : Ora} {n : Nat} {H : AH} {f : AV → Tree} {r : Res}
theorem wrs_run (hT : TOk P T) {ι : Inj} {w : World} (hh : HR ι H w) {z : Nat} {s : Option SlD} {l : List Sc} {H' : AH} (hw : H.wrs z s l = some H') {vs : List Value} (hl : LR ι l vs) {v : Value} (hv : SR ι (.sl s) v) :
    ∃ b c w', v = .slice b (slN s) c ∧ (b = none → vs = []) ∧ (∀ a, b = some a → (storeCells a vs).run P w = .ok () w') ∧ (b = none → w' = w) ∧ HR ι H' w' ∧ Stp ι H w ι H' w' := by
  cases s with
  | none =>
    cases hv
    cases l with
    | nil => cases hw; cases hl; exact ⟨none, 0, w, rfl, fun _ => rfl, fun a h => (by cases h), fun _ => rfl, hh, Stp.refl _ _ _⟩
    | cons x l => simp [AH.wrs] at hw
  | some d =>
    obtain ⟨db, a, c, hd, rfl, hlc, hcc, had, _⟩ := hv
    cases l with
    | nil => cases hw; cases hl; exact ⟨some a, c, w, rfl, fun h => (by cases h), fun a' h => rfl, fun h => (by cases h), hh, Stp.refl _ _ _⟩
    | cons x l =>
      simp only [AH.wrs] at hw
      split at hw
      case isFalse => cases hw
      rename_i hle
      have had := had.resolve_left (by
        intro h0
        have : d.len = 0 := by omega
        have h1 := hle.1
        rw [this] at h1; simp at h1)
      subst had
      obtain ⟨w1, w2, w3⟩ := hh.write P hd hw hl
      exact ⟨_, c, _, rfl, fun h => (by cases h), fun a' h => (by cases h; exact w1), fun h => (by cases h), w2, w3⟩
theorem builtin_done {b : Builtin} {c : Call} {v : AV} {H1 : AH} (ho : o.op = .call c) (hc : c.callee = .builtin b) (h : run C n (f v) H1 = some r) (hnx : Grow H H1)
    (hp : ∀ ι (a : Act) (w : World), ER ι e a.tmps → HR ι H w → Gap ι H H1 → ∃ v' w' ι', (builtin b c.argTypes o.type (c.args.map fun x => match x with | .const _ => true | _ => false) (c.args.map a.eval)).run P w = .ok (.value v') w' ∧ VR ι' v v' ∧ HR ι' H1 w' ∧ Stp ι H w ι' H1 w') :
    Done P o e C n H f r := by
  refine ⟨v, H1, h, hnx, fun ι a w he hh g next Q k => ?_⟩
  obtain ⟨v', w', ι', h1, h2, h3, h4⟩ := hp ι a w he hh g
  unfold Oper.wp
  have : (execOp a.eval o).run P w = .ok (.value v') w' := by
    simp only [execOp, ho, resolve, hc, Sem.run_bind, Sem.run_pure, Result.andThen_ok, invoke]
    exact h1
  rw [this]
  exact k v' w' ι' h2 h3 h4
theorem args_one {args : Array Operand} {x : AV} (h : evs e args.toList = [x]) : ∃ a, args = #[a] ∧ ev e a = x := by
  obtain ⟨l⟩ := args
  match l, h with
  | [a], h => simp [evs] at h; exact ⟨a, rfl, h⟩
theorem args_two {args : Array Operand} {x y : AV} (h : evs e args.toList = [x, y]) : ∃ a b, args = #[a, b] ∧ ev e a = x ∧ ev e b = y := by
  obtain ⟨l⟩ := args
  match l, h with
  | [a, b], h => simp [evs] at h; exact ⟨a, b, rfl, h.1, h.2⟩
theorem ats_get {ats : Array TypeId} {k : Nat} {i : TI} (h : (ats.toList[k]?).bind T.get = some i) : ∃ t, ats[k]? = some t ∧ T.get t = some i := by
  cases hk : ats.toList[k]? with
  | none => rw [hk] at h; cases h
  | some t => rw [hk] at h; exact ⟨t, by simpa using hk, h⟩
theorem foldI_run {g : Int → Int → Int} {b : Value → Value → Sem Value} (hb : ∀ k x y (w : World), (b (.int k x) (.int k y)).run P w = .ok (.int k (g x y)) w) {k : IntKind} : ∀ (l : List AV) (x r : Int), foldI g k x l = some r → ∀ (ι : Inj) (l' : List Value) (w : World), All2 (VR ι) l l' → (l'.foldlM b (.int k x)).run P w = .ok (.int k r) w
  | [], x, r, h, ι, l', w, hl => by cases hl; simp [foldI] at h; subst h; rfl
  | y :: l, x, r, h, ι, l', w, ⟨v, l2, e, hv, ht⟩ => by
    subst e
    unfold foldI at h
    split at h
    · rename_i e; cases e
    · rename_i k' b' l3 e
      cases e
      split at h
      · rename_i hk
        subst hk
        cases hv
        rw [List.foldlM_cons, Sem.run_bind, hb, Result.andThen_ok]
        exact foldI_run hb l _ r h ι l2 w ht
      · cases h
    · cases h
theorem evs_all {ι : Inj} {a : Act} (he : ER ι e a.tmps) : ∀ l : List Operand, All2 (VR ι) (evs e l) (l.map a.eval)
  | [] => rfl
  | x :: l => ⟨_, _, rfl, ev_sound he x, evs_all he l⟩
theorem builtin_pure {b : Builtin} {c : Call} {v : AV} (ho : o.op = .call c) (hc : c.callee = .builtin b) (h : run C n (f v) H = some r)
    (hp : ∀ ι (a : Act) (w : World), ER ι e a.tmps → ∃ v', (builtin b c.argTypes o.type (c.args.map fun x => match x with | .const _ => true | _ => false) (c.args.map a.eval)).run P w = .ok (.value v') w ∧ VR ι v v') :
    DoneP P o e C n H f r := by
  refine DoneP.of h fun ι a w he _ => ?_
  obtain ⟨v', h1, h2⟩ := hp ι a w he
  refine ⟨v', ?_, h2⟩
  simp only [execOp, ho, resolve, hc, Sem.run_bind, Sem.run_pure, Result.andThen_ok, invoke]
  exact h1
theorem op_builtin_pure (hT : TOk P T) {b : Builtin} {c : Call} (hb : b = .len ∨ b = .min ∨ b = .max) (ho : o.op = .call c) (hc : c.callee = .builtin b) (h : run C n (builtinK T b c.argTypes.toList (evs e c.args.toList) f) H = some r) : DoneP P o e C n H f r := by
  unfold builtinK at h
  split at h
  · -- len of a string
    rename_i s hs
    obtain ⟨x, hx, hxe⟩ := args_one hs
    split at h
    case h_2 => simp [run] at h
    rename_i i hg
    obtain ⟨t, ht, hti⟩ := ats_get hg
    split at h
    case h_2 => simp [run] at h
    rename_i hd
    refine builtin_pure ho hc h fun ι a w he => ?_
    obtain ⟨d1, hu1, hm1⟩ := TI.und (hT _ _ hti)
    rw [hd] at hm1; cases tdm_str hm1
    refine ⟨.int .i64 s.size, ?_, rfl⟩
    simp [builtin, hx, ev_str he hxe, Builtin.len_, ht, run_underlying hu1, goInt]
  · rename_i s hs
    obtain ⟨x, hx, hxe⟩ := args_one hs
    split at h
    case h_2 => simp [run] at h
    rename_i i hg
    obtain ⟨t, ht, hti⟩ := ats_get hg
    split at h
    case h_2 => simp [run] at h
    rename_i el hd
    refine builtin_pure ho hc h fun ι a w he => ?_
    obtain ⟨d1, hu1, hm1⟩ := TI.und (hT _ _ hti)
    rw [hd] at hm1; cases tdm_slice hm1
    have hv := ev_sound he x; rw [hxe] at hv
    have : ∃ b c, a.eval x = .slice b (slN s) c := by
      cases s with
      | none => exact ⟨none, 0, hv⟩
      | some d => obtain ⟨_, ad, c, _, e, _⟩ := hv; exact ⟨some ad, c, e⟩
    obtain ⟨b, cc, ea⟩ := this
    refine ⟨.int .i64 (slLen s), ?_, rfl⟩
    simp [builtin, hx, ea, Builtin.len_, ht, run_underlying hu1, goInt]
    cases s <;> rfl
  · rename_i l hs
    obtain ⟨x, hx, hxe⟩ := args_one hs
    split at h
    case h_2 => simp [run] at h
    rename_i i hg
    obtain ⟨t, ht, hti⟩ := ats_get hg
    split at h
    case h_2 => simp [run] at h
    rename_i m el hd
    refine builtin_pure ho hc h fun ι a w he => ?_
    obtain ⟨d1, hu1, hm1⟩ := TI.und (hT _ _ hti)
    rw [hd] at hm1; cases tdm_arr hm1
    refine ⟨.int .i64 m, ?_, rfl⟩
    simp [builtin, hx, Builtin.len_, ht, run_underlying hu1, goInt]
  · -- min
    rename_i k x l hs
    split at h
    case h_2 => simp [run] at h
    rename_i m hm
    refine builtin_pure ho hc h fun ι a w he => ?_
    have hall := evs_all he c.args.toList
    rw [hs] at hall
    obtain ⟨v, l2, e1, hv, ht⟩ := hall
    cases hv
    refine ⟨.int k m, ?_, rfl⟩
    have := foldI_run (P := P) (b := Builtin.min2) (g := minI) (fun k x y w => by simp [Builtin.min2, minI]) l x m hm ι l2 w ht
    simp only [builtin, Builtin.min_, Array.toList_map, e1, Sem.run_bind, this, Result.andThen_ok]
    rfl
  · rename_i k x l hs
    split at h
    case h_2 => simp [run] at h
    rename_i m hm
    refine builtin_pure ho hc h fun ι a w he => ?_
    have hall := evs_all he c.args.toList
    rw [hs] at hall
    obtain ⟨v, l2, e1, hv, ht⟩ := hall
    cases hv
    refine ⟨.int k m, ?_, rfl⟩
    have := foldI_run (P := P) (b := Builtin.max2) (g := maxI) (fun k x y w => by simp [Builtin.max2, maxI]) l x m hm ι l2 w ht
    simp only [builtin, Builtin.max_, Array.toList_map, e1, Sem.run_bind, this, Result.andThen_ok]
    rfl
  all_goals first | (simp [run] at h; done) | (rcases hb with h1 | h1 | h1 <;> cases h1)
theorem run_real (ats : Array TypeId) (ty : TypeId) (k : FloatKind) (x y : Nat) (w : World) : (Builtin.real_ ats ty #[.complex k x y]).run P w = .ok (.float k x) w := rfl
theorem run_imag (ats : Array TypeId) (ty : TypeId) (k : FloatKind) (x y : Nat) (w : World) : (Builtin.imag_ ats ty #[.complex k x y]).run P w = .ok (.float k y) w := rfl
theorem run_cx (ats : Array TypeId) (ty : TypeId) (k : FloatKind) (x y : Nat) (w : World) : (Builtin.complex_ ats ty #[.float k x, .float k y]).run P w = .ok (.complex k x y) w := by
  show Sem.run P (if k = k then pure (Value.complex k x y) else _) w = _
  rw [if_pos rfl]; rfl
theorem op_builtin (hT : TOk P T) {b : Builtin} {c : Call} (ho : o.op = .call c) (hc : c.callee = .builtin b) (h : run C n (builtinK T b c.argTypes.toList (evs e c.args.toList) f) H = some r) : Done P o e C n H f r := by
  by_cases hb : b = .len ∨ b = .min ∨ b = .max
  · exact (op_builtin_pure hT hb ho hc h).done
  unfold builtinK at h
  split at h
  · exact absurd (.inl rfl) hb
  · exact absurd (.inl rfl) hb
  · exact absurd (.inl rfl) hb
  · exact absurd (.inr (.inl rfl)) hb
  · exact absurd (.inr (.inr rfl)) hb
  · rename_i k x y hs
    obtain ⟨o1, hargs, h1⟩ := args_one hs
    refine (builtin_pure ho hc h fun ι a w he => ?_).done
    have e : a.eval o1 = .complex k x y := by have := ev_sound he o1; rw [h1] at this; exact this
    exact ⟨.float k x, by simp [builtin, hargs, e, run_real], rfl⟩
  · rename_i k x y hs
    obtain ⟨o1, hargs, h1⟩ := args_one hs
    refine (builtin_pure ho hc h fun ι a w he => ?_).done
    have e : a.eval o1 = .complex k x y := by have := ev_sound he o1; rw [h1] at this; exact this
    exact ⟨.float k y, by simp [builtin, hargs, e, run_imag], rfl⟩
  · rename_i k x k' y hs
    split at h
    case isFalse => simp [run] at h
    rename_i hk
    subst hk
    obtain ⟨o1, o2, hargs, h1, h2⟩ := args_two hs
    refine (builtin_pure ho hc h fun ι a w he => ?_).done
    have e1 : a.eval o1 = .float k x := by have := ev_sound he o1; rw [h1] at this; exact this
    have e2 : a.eval o2 = .float k y := by have := ev_sound he o2; rw [h2] at this; exact this
    exact ⟨.complex k x y, by simp [builtin, hargs, e1, e2, run_cx], rfl⟩
  · -- append
    rename_i s x hs
    obtain ⟨o1, o2, hargs, h1, h2⟩ := args_two hs
    split at h
    case h_2 => simp [run] at h
    rename_i i j hg0 hg1
    obtain ⟨t0, ht0, hti0⟩ := ats_get hg0
    obtain ⟨t1, ht1, hti1⟩ := ats_get hg1
    split at h
    case h_2 => simp [run] at h
    rename_i el el' hd0 hd1
    split at h
    case h_2 => simp [run] at h
    rename_i ie hie
    split at h
    case isTrue => simp [run] at h
    rename_i hnt
    simp only [run, obind_eq] at h
    obtain ⟨l, hl, q, hq, h⟩ := h
    refine builtin_done ho hc h (app_grow hq) fun ι a w he hh g => ?_
    have hv1 := ev_sound he o1; rw [h1] at hv1
    have hv2 := ev_sound he o2; rw [h2] at hv2
    obtain ⟨v', w', ι', r1, r2, r3, r4⟩ := append_run (ty := o.type) hT hti0 hti1 hd0 hd1 hie (by simpa using hnt) hh hl hq g hv1 hv2
    refine ⟨v', w', ι', ?_, r2, r3, r4⟩
    have hrun : (Builtin.append_ c.argTypes o.type #[a.eval o1, a.eval o2]).run P w = .ok v' w' := by
      rw [← r1]; simp only [Builtin.append_, ht0, ht1]; rfl
    simp only [builtin, hargs, List.map_toArray, List.map_cons, List.map_nil, Sem.run_bind, hrun, Result.andThen_ok]
    rfl
  · -- clear
    rename_i s hs
    obtain ⟨o1, hargs, h1⟩ := args_one hs
    split at h
    case h_2 => simp [run] at h
    rename_i i hg0
    obtain ⟨t0, ht0, hti0⟩ := ats_get hg0
    split at h
    case h_2 => simp [run] at h
    rename_i el hd0
    split at h
    case h_2 => simp [run] at h
    rename_i ie hie
    split at h
    case isTrue => simp [run] at h
    rename_i hnt
    have hnt : notTup ie.d = true := by simpa using hnt
    simp only [run, obind_eq] at h
    obtain ⟨H1, hw, h⟩ := h
    refine builtin_done ho hc h (wrs_grow hw) fun ι a w he hh g => ?_
    have hv1 := ev_sound he o1; rw [h1] at hv1
    obtain ⟨d1, hu1, hm1⟩ := TI.und (hT _ _ hti0)
    rw [hd0] at hm1; cases tdm_slice hm1
    obtain ⟨z, hz, hzc, hzl⟩ := TI.zero_run hT hie (notTup_ne hnt) w
    have hzs : z.cells.size = ie.size := by have := (constScs_sound hzc ι).length; simpa [hzl] using this
    have hL : LR ι (zeros ie.zero (slN s)) (Builtin.zeroCells z.cells (slN s)).toList := by
      have := zeros_LR (constScs_sound hzc ι) (slN s) _ rfl
      unfold Builtin.zeroCells; exact this
    obtain ⟨b, cc, w', ea, g1, g2, g3, g4, g5⟩ := wrs_run hT hh hw hL hv1
    refine ⟨.tuple #[], w', ι, ?_, trivial, g4, g5⟩
    have hrun : (Builtin.clear_ c.argTypes o.type #[a.eval o1]).run P w = .ok (.tuple #[]) w' := by
      rw [ea]
      simp only [Builtin.clear_, ht0]
      cases b with
      | none =>
        have := g3 rfl; subst this
        simp [run_underlying hu1]
      | some ad =>
        have hst := g2 ad rfl
        by_cases hn0 : slN s = 0
        · have : w' = w := by
            have he0 : (Builtin.zeroCells z.cells (slN s)).toList = [] := by rw [hn0]; simp [Builtin.zeroCells]
            rw [he0] at hst
            simp [storeCells] at hst
            exact hst.symm
          subst this
          simp [run_underlying hu1, hn0]
        · obtain ⟨m, hm⟩ : ∃ m, slN s = m + 1 := ⟨slN s - 1, by omega⟩
          rw [hm] at hst ⊢
          simp [run_underlying hu1, hz, hst]
    simp only [builtin, hargs, List.map_toArray, List.map_cons, List.map_nil, Sem.run_bind, hrun, Result.andThen_ok]
    rfl
  · -- copy
    rename_i s x hs
    obtain ⟨o1, o2, hargs, h1, h2⟩ := args_two hs
    split at h
    case h_2 => simp [run] at h
    rename_i i j hg0 hg1
    obtain ⟨t0, ht0, hti0⟩ := ats_get hg0
    obtain ⟨t1, ht1, hti1⟩ := ats_get hg1
    split at h
    case h_2 => simp [run] at h
    rename_i el el' hd0 hd1
    split at h
    case h_2 => simp [run] at h
    rename_i ie hie
    simp only [run, obind_eq] at h
    obtain ⟨l, hl, H1, hw, h⟩ := h
    refine builtin_done ho hc h (wrs_grow hw) fun ι a w he hh g => ?_
    have hv1 := ev_sound he o1; rw [h1] at hv1
    have hv2 := ev_sound he o2; rw [h2] at hv2
    obtain ⟨d1, hu1, hm1⟩ := TI.und (hT _ _ hti0)
    rw [hd0] at hm1; cases tdm_slice hm1
    obtain ⟨bx, cx, news, ex, hnl, hnlen, hnrun⟩ := rds_run (P := P) hT hie hh hl hv2
    obtain ⟨b, cc, w', ea, g1, g2, g3, g4, g5⟩ := wrs_run hT hh hw hnl hv1
    refine ⟨.int .i64 (min (slN x) (slN s) : Nat), w', ι, ?_, rfl, g4, g5⟩
    have hnr := hnrun w rfl
    rw [ex] at hnr
    have hrun : (Builtin.copy_ c.argTypes o.type #[a.eval o1, a.eval o2]).run P w = .ok (.int .i64 (min (slN x) (slN s) : Nat)) w' := by
      rw [ea, ex]
      simp only [Builtin.copy_, ht0]
      have hm' : Nat.min (slN x) (slN s) = min (slN x) (slN s) := rfl
      cases b with
      | none =>
        have := g3 rfl; subst this
        simp [run_underlying hu1, Builtin.lenOf, TI.run_size (hT _ _ hie), hm', hnr, goInt]
      | some ad =>
        have hst := g2 ad rfl
        simp [run_underlying hu1, Builtin.lenOf, TI.run_size (hT _ _ hie), hm', hnr, goInt, hst]
    simp only [builtin, hargs, List.map_toArray, List.map_cons, List.map_nil, Sem.run_bind, hrun, Result.andThen_ok]
    rfl
  · simp [run] at h
end ops
end Go.Proofs.YtdfpjhlckjognaaGreat.Fw
