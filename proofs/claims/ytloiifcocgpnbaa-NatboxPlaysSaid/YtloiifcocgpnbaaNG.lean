/- What holds of a box always; a law's deed; plain laws of the box: ports differ. -/
import Derived.Test.YtloiifcocgpnbaaND
namespace Go.Proofs.Ytloiifcocgpnbaa
open Go Go.Proofs.Ytloiifcocgpnbaa.Fw
set_option linter.unusedVariables false
set_option linter.unusedSimpArgs false
structure BI (b : Bx) : Prop where
  r1 : 1 ≤ b.room
  r2 : b.room ≤ 64
  len : (b.l.length : Int) ≤ b.room
  sm : Small b
theorem BI.nil {m f ip hold room : Int} (h1 : 1 ≤ room) (h2 : room ≤ 64) : BI ⟨m, f, ip, hold, room, []⟩ := ⟨h1, h2, by simp; omega, fun x hx => by cases hx⟩
theorem BI.b90 {b : Bx} (h : BI b) : b.l.length ≤ 90 := by have := h.len; have := h.r2; omega
theorem minB_mem : ∀ (l : List Bd) (m : Bd), minB l m ∈ m :: l
  | [], m => by simp [minB]
  | x :: l, m => by
    have := minB_mem l (if ult x m then x else m)
    rw [minB]
    rcases List.mem_cons.1 this with h | h
    · rw [h]; split <;> simp
    · exact List.mem_cons_of_mem _ (List.mem_cons_of_mem _ h)
theorem filter_lt {l : List Bd} {q : Bd → Bool} {x : Bd} (hx : x ∈ l) (hq : q x = false) : (l.filter q).length < l.length := by
  rcases Nat.lt_or_ge (l.filter q).length l.length with h | h
  · exact h
  · have := List.length_filter_eq_length_iff.1 (Nat.le_antisymm (List.length_filter_le _ _) h) x hx
    rw [hq] at this; cases this
theorem evict_lt {b : Bx} (h : BI b) : ((evictB b).length : Int) < b.room := by
  have h1 := h.r1; have h2 := h.len
  unfold evictB
  split
  · simp; omega
  · rename_i x r e
    split
    · have hm := minB_mem r x
      have := filter_lt (l := b.l) (q := fun y => !(y.port == (minB r x).port)) (x := minB r x) (by rw [e]; exact hm) (by simp)
      omega
    · omega
theorem bind_le {b : Bx} (h : BI b) (inn key : Ad) : ((bindB b inn key).1.length : Int) ≤ b.room := by
  unfold bindB
  split
  · exact h.len
  · have := evict_lt h
    simp; omega
theorem BI.sweep {b : Bx} (h : BI b) (now : Int) : BI (sweepB b now) := ⟨h.r1, h.r2, by have := sweepB_len b now; have := h.len; show ((sweepB b now).l.length : Int) ≤ b.room; omega, sweepB_small h.sm now⟩
theorem BI.reb {b : Bx} (h : BI b) (ip : Int) : BI (rebB b ip).2 := by
  unfold rebB; split
  · exact h
  · exact ⟨h.r1, h.r2, by have := h.r1; simp; omega, fun x hx => by cases hx⟩
theorem set_small {l : List Bd} {i : Nat} {y : Bd} (h : ∀ x ∈ l, x.m.length ≤ 16) (hy : y.m.length ≤ 16) : ∀ x ∈ l.set i y, x.m.length ≤ 16 := fun x hx => by
  rcases List.mem_or_eq_of_mem_set hx with hx | hx
  · exact h x hx
  · subst hx; exact hy
theorem BI.out {b : Bx} (h : BI b) (now : Int) (src dst : Ad) : BI (outB b now src dst).2 := by
  unfold outB; split
  · exact h
  · split
    · rename_i x hx
      have hs := bindB_small (h.sweep now).sm src (keyB b.map dst)
      refine ⟨h.r1, h.r2, ?_, set_small hs (metB_len dst (hs x (List.mem_of_getElem? hx)))⟩
      have := bind_le (h.sweep now) src (keyB b.map dst)
      simp only [List.length_set]; exact this
    · exact h
theorem BI.inn {b : Bx} (h : BI b) (now port : Int) (src : Ad) : BI (inB b now port src).2 := by
  unfold inB; split
  · exact h
  · split
    · exact h.sweep now
    · split
      · exact h.sweep now
      · rename_i x hx
        split
        · refine ⟨h.r1, h.r2, ?_, set_small (h.sweep now).sm ((h.sweep now).sm x (List.mem_of_getElem? hx))⟩
          have := (h.sweep now).len
          simp only [List.length_set]; exact this
        · exact h.sweep now

/-! a law's deed -/
structure Dd where
  kind : Int
  inn : Int
  out : Int
  port : Int
  by_ : Int
  a : Ad
  raw : Int
def ddE : Enc Dd where
  z := 8
  e d := [.i .u8 d.kind, .i .u8 d.inn, .i .u8 d.out, .i .u8 d.port, .i .u8 d.by_, .i .u32 d.a.ip, .i .u16 d.a.port, .i .u64 d.raw]
  len _ := rfl
theorem ddE_ok (c : List Sc) (h : All2 ScK [.i .u8, .i .u8, .i .u8, .i .u8, .i .u8, .i .u32, .i .u16, .i .u64] c) : ∃ x : Dd, c = ddE.e x := by
  obtain ⟨_, _, rfl, ⟨a, rfl, _⟩, _, _, rfl, ⟨b, rfl, _⟩, _, _, rfl, ⟨c, rfl, _⟩, _, _, rfl, ⟨d, rfl, _⟩, _, _, rfl, ⟨e, rfl, _⟩, _, _, rfl, ⟨f, rfl, _⟩, _, _, rfl, ⟨g, rfl, _⟩, _, _, rfl, ⟨h, rfl, _⟩, rfl⟩ := h
  exact ⟨⟨a, b, c, d, e, ⟨f, g⟩, h⟩, rfl⟩
def innerB (d : Dd) : Ad := if d.inn > 250 then d.a else ⟨IntKind.wrap .u32 (167772160 + IntKind.wrap .u32 (Int.tmod d.inn 8)), 7⟩
def outerB (d : Dd) : Ad := if d.out > 250 then d.a else ⟨IntKind.wrap .u32 (50 + IntKind.wrap .u32 (Int.tmod d.out 4)), IntKind.wrap .u16 (8 + IntKind.wrap .u16 (Int.tmod (IntKind.wrap .u8 (Int.tdiv d.out 4)) 3))⟩
theorem inner_spec {d : Dd} : FSpec E 13 [.ag (ddE.e d)] [] (fun v L' => v = .ag (adE.e (innerB d)) ∧ L' = []) := by
  refine FSpec.of (Try.func13 : Try.prog.funcs[13]? = some Try.f13) (t13_eq _ _ _ _ _ _ _ _) fun F => ?_
  unfold t13 innerB
  repeat (first|refine wa ?_|refine wb ?_|refine wc ?_|refine wd ?_|refine we ?_|refine wf ?_|refine wg ?_|refine wh rfl ?_|refine wi rfl ?_|refine wj rfl ?_|refine wk rfl ?_|refine wl rfl ?_|refine wm (by decide) ?_|refine wn ?_|refine wo ?_|refine wp (by decide) ?_|(apply Tri.ldE; (first|exact K0|exact K1|exact K2|exact K3|exact K4|exact K5|exact K6|exact K7|exact K8); (exact rfl); (exact wz rfl))|(apply Tri.stE; (first|exact K0|exact K1|exact K2|exact K3|exact K4|exact K5|exact K6|exact K7|exact K8); (exact rfl); (exact wz rfl))|(apply Tri.same; (first|exact K0|exact K1|exact K2|exact K3|exact K4|exact K5|exact K6|exact K7|exact K8); (exact rfl); (exact wz rfl))|refine wq fun _ => ?_)
  refine Tri.cnd (fun h => ?_) (fun h => ?_)
  · repeat (first|refine wa ?_|refine wb ?_|refine wc ?_|refine wd ?_|refine we ?_|refine wf ?_|refine wg ?_|refine wh rfl ?_|refine wi rfl ?_|refine wj rfl ?_|refine wk rfl ?_|refine wl rfl ?_|refine wm (by decide) ?_|refine wn ?_|refine wo ?_|refine wp (by decide) ?_|(apply Tri.ldE; (first|exact K0|exact K1|exact K2|exact K3|exact K4|exact K5|exact K6|exact K7|exact K8); (exact rfl); (exact wz rfl))|(apply Tri.stE; (first|exact K0|exact K1|exact K2|exact K3|exact K4|exact K5|exact K6|exact K7|exact K8); (exact rfl); (exact wz rfl))|(apply Tri.same; (first|exact K0|exact K1|exact K2|exact K3|exact K4|exact K5|exact K6|exact K7|exact K8); (exact rfl); (exact wz rfl))|refine wq fun _ => ?_)
    rw [if_pos (by simpa using h)]
    exact Tri.retF ⟨rfl, rfl⟩ (by repeat (first|exact Sub.refl _|exact Sub.nil _|(apply Sub.cons; (first|exact K0|exact K1|exact K2|exact K3|exact K4|exact K5|exact K6|exact K7|exact K8))|apply Sub.skip))
  · repeat (first|refine wa ?_|refine wb ?_|refine wc ?_|refine wd ?_|refine we ?_|refine wf ?_|refine wg ?_|refine wh rfl ?_|refine wi rfl ?_|refine wj rfl ?_|refine wk rfl ?_|refine wl rfl ?_|refine wm (by decide) ?_|refine wn ?_|refine wo ?_|refine wp (by decide) ?_|(apply Tri.ldE; (first|exact K0|exact K1|exact K2|exact K3|exact K4|exact K5|exact K6|exact K7|exact K8); (exact rfl); (exact wz rfl))|(apply Tri.stE; (first|exact K0|exact K1|exact K2|exact K3|exact K4|exact K5|exact K6|exact K7|exact K8); (exact rfl); (exact wz rfl))|(apply Tri.same; (first|exact K0|exact K1|exact K2|exact K3|exact K4|exact K5|exact K6|exact K7|exact K8); (exact rfl); (exact wz rfl))|refine wq fun _ => ?_)
    refine Tri.brT rfl ?_
    repeat (first|refine wa ?_|refine wb ?_|refine wc ?_|refine wd ?_|refine we ?_|refine wf ?_|refine wg ?_|refine wh rfl ?_|refine wi rfl ?_|refine wj rfl ?_|refine wk rfl ?_|refine wl rfl ?_|refine wm (by decide) ?_|refine wn ?_|refine wo ?_|refine wp (by decide) ?_|(apply Tri.ldE; (first|exact K0|exact K1|exact K2|exact K3|exact K4|exact K5|exact K6|exact K7|exact K8); (exact rfl); (exact wz rfl))|(apply Tri.stE; (first|exact K0|exact K1|exact K2|exact K3|exact K4|exact K5|exact K6|exact K7|exact K8); (exact rfl); (exact wz rfl))|(apply Tri.same; (first|exact K0|exact K1|exact K2|exact K3|exact K4|exact K5|exact K6|exact K7|exact K8); (exact rfl); (exact wz rfl))|refine wq fun _ => ?_)
    rw [if_neg (by simpa using h)]
    exact Tri.retF ⟨rfl, rfl⟩ (by repeat (first|exact Sub.refl _|exact Sub.nil _|(apply Sub.cons; (first|exact K0|exact K1|exact K2|exact K3|exact K4|exact K5|exact K6|exact K7|exact K8))|apply Sub.skip))
theorem outer_spec {d : Dd} : FSpec E 14 [.ag (ddE.e d)] [] (fun v L' => v = .ag (adE.e (outerB d)) ∧ L' = []) := by
  refine FSpec.of (Try.func14 : Try.prog.funcs[14]? = some Try.f14) (t14_eq _ _ _ _ _ _ _ _) fun F => ?_
  unfold t14 outerB
  repeat (first|refine wa ?_|refine wb ?_|refine wc ?_|refine wd ?_|refine we ?_|refine wf ?_|refine wg ?_|refine wh rfl ?_|refine wi rfl ?_|refine wj rfl ?_|refine wk rfl ?_|refine wl rfl ?_|refine wm (by decide) ?_|refine wn ?_|refine wo ?_|refine wp (by decide) ?_|(apply Tri.ldE; (first|exact K0|exact K1|exact K2|exact K3|exact K4|exact K5|exact K6|exact K7|exact K8); (exact rfl); (exact wz rfl))|(apply Tri.stE; (first|exact K0|exact K1|exact K2|exact K3|exact K4|exact K5|exact K6|exact K7|exact K8); (exact rfl); (exact wz rfl))|(apply Tri.same; (first|exact K0|exact K1|exact K2|exact K3|exact K4|exact K5|exact K6|exact K7|exact K8); (exact rfl); (exact wz rfl))|refine wq fun _ => ?_)
  refine Tri.cnd (fun h => ?_) (fun h => ?_)
  · repeat (first|refine wa ?_|refine wb ?_|refine wc ?_|refine wd ?_|refine we ?_|refine wf ?_|refine wg ?_|refine wh rfl ?_|refine wi rfl ?_|refine wj rfl ?_|refine wk rfl ?_|refine wl rfl ?_|refine wm (by decide) ?_|refine wn ?_|refine wo ?_|refine wp (by decide) ?_|(apply Tri.ldE; (first|exact K0|exact K1|exact K2|exact K3|exact K4|exact K5|exact K6|exact K7|exact K8); (exact rfl); (exact wz rfl))|(apply Tri.stE; (first|exact K0|exact K1|exact K2|exact K3|exact K4|exact K5|exact K6|exact K7|exact K8); (exact rfl); (exact wz rfl))|(apply Tri.same; (first|exact K0|exact K1|exact K2|exact K3|exact K4|exact K5|exact K6|exact K7|exact K8); (exact rfl); (exact wz rfl))|refine wq fun _ => ?_)
    rw [if_pos (by simpa using h)]
    exact Tri.retF ⟨rfl, rfl⟩ (by repeat (first|exact Sub.refl _|exact Sub.nil _|(apply Sub.cons; (first|exact K0|exact K1|exact K2|exact K3|exact K4|exact K5|exact K6|exact K7|exact K8))|apply Sub.skip))
  · repeat (first|refine wa ?_|refine wb ?_|refine wc ?_|refine wd ?_|refine we ?_|refine wf ?_|refine wg ?_|refine wh rfl ?_|refine wi rfl ?_|refine wj rfl ?_|refine wk rfl ?_|refine wl rfl ?_|refine wm (by decide) ?_|refine wn ?_|refine wo ?_|refine wp (by decide) ?_|(apply Tri.ldE; (first|exact K0|exact K1|exact K2|exact K3|exact K4|exact K5|exact K6|exact K7|exact K8); (exact rfl); (exact wz rfl))|(apply Tri.stE; (first|exact K0|exact K1|exact K2|exact K3|exact K4|exact K5|exact K6|exact K7|exact K8); (exact rfl); (exact wz rfl))|(apply Tri.same; (first|exact K0|exact K1|exact K2|exact K3|exact K4|exact K5|exact K6|exact K7|exact K8); (exact rfl); (exact wz rfl))|refine wq fun _ => ?_)
    refine Tri.brT rfl ?_
    repeat (first|refine wa ?_|refine wb ?_|refine wc ?_|refine wd ?_|refine we ?_|refine wf ?_|refine wg ?_|refine wh rfl ?_|refine wi rfl ?_|refine wj rfl ?_|refine wk rfl ?_|refine wl rfl ?_|refine wm (by decide) ?_|refine wn ?_|refine wo ?_|refine wp (by decide) ?_|(apply Tri.ldE; (first|exact K0|exact K1|exact K2|exact K3|exact K4|exact K5|exact K6|exact K7|exact K8); (exact rfl); (exact wz rfl))|(apply Tri.stE; (first|exact K0|exact K1|exact K2|exact K3|exact K4|exact K5|exact K6|exact K7|exact K8); (exact rfl); (exact wz rfl))|(apply Tri.same; (first|exact K0|exact K1|exact K2|exact K3|exact K4|exact K5|exact K6|exact K7|exact K8); (exact rfl); (exact wz rfl))|refine wq fun _ => ?_)
    refine Tri.brT rfl ?_
    repeat (first|refine wa ?_|refine wb ?_|refine wc ?_|refine wd ?_|refine we ?_|refine wf ?_|refine wg ?_|refine wh rfl ?_|refine wi rfl ?_|refine wj rfl ?_|refine wk rfl ?_|refine wl rfl ?_|refine wm (by decide) ?_|refine wn ?_|refine wo ?_|refine wp (by decide) ?_|(apply Tri.ldE; (first|exact K0|exact K1|exact K2|exact K3|exact K4|exact K5|exact K6|exact K7|exact K8); (exact rfl); (exact wz rfl))|(apply Tri.stE; (first|exact K0|exact K1|exact K2|exact K3|exact K4|exact K5|exact K6|exact K7|exact K8); (exact rfl); (exact wz rfl))|(apply Tri.same; (first|exact K0|exact K1|exact K2|exact K3|exact K4|exact K5|exact K6|exact K7|exact K8); (exact rfl); (exact wz rfl))|refine wq fun _ => ?_)
    refine Tri.brT rfl ?_
    repeat (first|refine wa ?_|refine wb ?_|refine wc ?_|refine wd ?_|refine we ?_|refine wf ?_|refine wg ?_|refine wh rfl ?_|refine wi rfl ?_|refine wj rfl ?_|refine wk rfl ?_|refine wl rfl ?_|refine wm (by decide) ?_|refine wn ?_|refine wo ?_|refine wp (by decide) ?_|(apply Tri.ldE; (first|exact K0|exact K1|exact K2|exact K3|exact K4|exact K5|exact K6|exact K7|exact K8); (exact rfl); (exact wz rfl))|(apply Tri.stE; (first|exact K0|exact K1|exact K2|exact K3|exact K4|exact K5|exact K6|exact K7|exact K8); (exact rfl); (exact wz rfl))|(apply Tri.same; (first|exact K0|exact K1|exact K2|exact K3|exact K4|exact K5|exact K6|exact K7|exact K8); (exact rfl); (exact wz rfl))|refine wq fun _ => ?_)
    rw [if_neg (by simpa using h)]
    exact Tri.retF ⟨rfl, rfl⟩ (by repeat (first|exact Sub.refl _|exact Sub.nil _|(apply Sub.cons; (first|exact K0|exact K1|exact K2|exact K3|exact K4|exact K5|exact K6|exact K7|exact K8))|apply Sub.skip))
/-- a type, of nine -/
theorem type9 {x : Int} (h : 0 ≤ x ∧ x < 256) : ∃ t : Fin 9, IntKind.wrap .i64 (Int.tmod x 3) = ((t.1 % 3 : Nat) : Int) ∧ IntKind.wrap .i64 (Int.tmod (IntKind.wrap .u8 (Int.tdiv x 3)) 3) = ((t.1 / 3 : Nat) : Int) := by
  obtain ⟨n, rfl⟩ := Int.eq_ofNat_of_zero_le h.1
  have hn : n < 256 := by omega
  have : ∀ n : Fin 256, IntKind.wrap .i64 (Int.tmod (n.1 : Int) 3) = ((n.1 % 9 % 3 : Nat) : Int) ∧ IntKind.wrap .i64 (Int.tmod (IntKind.wrap .u8 (Int.tdiv (n.1 : Int) 3)) 3) = ((n.1 % 9 / 3 : Nat) : Int) := by decide +kernel
  exact ⟨⟨n % 9, Nat.mod_lt _ (by decide)⟩, this ⟨n, hn⟩⟩
theorem okN9 (t : Fin 9) {ip hold room : Int} (h1 : 1 ≤ ip) (h2 : 1 ≤ hold) (h3 : hold ≤ 1000000) (h4 : 1 ≤ room) (h5 : room ≤ 64) : okN ((t.1 % 3 : Nat) : Int) ((t.1 / 3 : Nat) : Int) ip hold room = true := by
  have := t.2
  simp [okN, kindB]
  omega
end Go.Proofs.Ytloiifcocgpnbaa
namespace Go.Proofs.Ytloiifcocgpnbaa
open Go Go.Proofs.Ytloiifcocgpnbaa.Fw
set_option linter.unusedVariables false
set_option linter.unusedSimpArgs false
theorem freeG_ok (l : List Bd) : ∀ (n : Nat) (p : Int), above l p < n → usedB l (freeG l n p) = false ∧ p ≤ freeG l n p ∧ freeG l n p + above l (freeG l n p) ≤ p + above l p ∧ ∀ q, p ≤ q → q < freeG l n p → usedB l q = true
  | 0, p, h => by omega
  | n + 1, p, h => by
    rw [freeG]
    by_cases hu : usedB l p = true
    · rw [if_pos hu]
      have hs := above_step hu
      obtain ⟨h1, h2, h3, h4⟩ := freeG_ok l n (p + 1) (by omega)
      refine ⟨h1, by omega, by omega, fun q hq hq2 => ?_⟩
      by_cases e : q = p
      · rw [e]; exact hu
      · exact h4 q (by omega) hq2
    · rw [if_neg hu]
      exact ⟨by simpa using hu, by omega, by omega, fun q h1 h2 => by omega⟩
theorem freeB_ok (l : List Bd) : usedB l (freeB l) = false ∧ 20000 ≤ freeB l ∧ freeB l ≤ 20000 + l.length ∧ ∀ q, 20000 ≤ q → q < freeB l → usedB l q = true := by
  have ha : above l 20000 ≤ l.length := List.countP_le_length
  obtain ⟨h1, h2, h3, h4⟩ := freeG_ok l (l.length + 1) 20000 (by omega)
  refine ⟨h1, h2, ?_, h4⟩
  unfold freeB; omega
/-- ports: each its own, none far -/
structure Pt (l : List Bd) (room : Int) : Prop where
  d : (l.map Bd.port).Nodup
  r : ∀ x ∈ l, 20000 ≤ x.port ∧ x.port < 20000 + room
theorem Pt.sub {l l' : List Bd} {room : Int} (h : Pt l room) (s : l'.Sublist l) : Pt l' room := ⟨h.d.sublist (s.map _), fun x hx => h.r x (s.mem hx)⟩
theorem Pt.perm {l l' : List Bd} {room : Int} (h : Pt l room) (s : l'.Perm l) : Pt l' room := ⟨(s.map _).nodup_iff.2 h.d, fun x hx => h.r x (s.mem_iff.1 hx)⟩
theorem Pt.nil (room : Int) : Pt [] room := ⟨by simp, by simp⟩
theorem set_ports {l : List Bd} {i : Nat} {x y : Bd} (hx : l[i]? = some x) (hp : y.port = x.port) : (l.set i y).map Bd.port = l.map Bd.port := by
  apply List.ext_getElem?
  intro j
  rw [List.getElem?_map, List.getElem?_map, List.getElem?_set]
  obtain ⟨hi, rfl⟩ := List.getElem?_eq_some_iff.1 hx
  by_cases e : i = j
  · subst e
    rw [if_pos rfl, if_pos hi, List.getElem?_eq_getElem hi]
    simp [hp]
  · rw [if_neg e]
theorem Pt.set {l : List Bd} {room : Int} (h : Pt l room) {i : Nat} {x y : Bd} (hx : l[i]? = some x) (hp : y.port = x.port) : Pt (l.set i y) room :=
  ⟨by rw [set_ports hx hp]; exact h.d, fun z hz => by
    rcases List.mem_or_eq_of_mem_set hz with hz | hz
    · exact h.r z hz
    · rw [hz, hp]; exact h.r x (List.mem_of_getElem? hx)⟩
theorem used_iff {l : List Bd} {p : Int} : usedB l p = true ↔ ∃ x ∈ l, x.port = p := by simp [usedB]
theorem evict_sublist (b : Bx) : (evictB b).Sublist b.l := by
  unfold evictB
  split
  · exact List.nil_sublist _
  · split
    · exact List.filter_sublist
    · exact List.Sublist.refl _
theorem Pt.bind {b : Bx} (hi : BI b) (h : Pt b.l b.room) (inn key : Ad) : Pt (bindB b inn key).1 b.room := by
  unfold bindB
  split
  · exact h
  · have he := h.sub (evict_sublist b)
    have hl := evict_lt hi
    obtain ⟨f1, f2, f3, _⟩ := freeB_ok (evictB b)
    refine ⟨?_, fun x hx => ?_⟩
    · rw [List.map_append]
      refine List.nodup_append.2 ⟨he.d, by simp, fun a ha b hb hab => ?_⟩
      simp at hb
      obtain ⟨x, hx, rfl⟩ := List.mem_map.1 ha
      have : usedB (evictB _) (freeB (evictB _)) = true := used_iff.2 ⟨x, hx, hab.trans hb⟩
      rw [f1] at this; cases this
    · rcases List.mem_append.1 hx with hx | hx
      · exact he.r x hx
      · simp at hx; subst hx
        simp only; omega
theorem Pt.sweep {b : Bx} (h : Pt b.l b.room) (now : Int) : Pt (sweepB b now).l b.room := h.sub List.filter_sublist
theorem outB_room (b : Bx) (now : Int) (src dst : Ad) : (outB b now src dst).2.room = b.room ∧ (outB b now src dst).2.hold = b.hold ∧ (outB b now src dst).2.fil = b.fil ∧ (outB b now src dst).2.map = b.map ∧ (outB b now src dst).2.ip = b.ip := by
  unfold outB; split
  · exact ⟨rfl, rfl, rfl, rfl, rfl⟩
  · split <;> exact ⟨rfl, rfl, rfl, rfl, rfl⟩
theorem Pt.out {b : Bx} (hi : BI b) (h : Pt b.l b.room) (now : Int) (src dst : Ad) : Pt (outB b now src dst).2.l b.room := by
  unfold outB; split
  · exact h
  · split
    · rename_i x hx
      exact Pt.set (Pt.bind (hi.sweep now) (h.sweep now) src (keyB b.map dst)) hx rfl
    · exact h
theorem isK_self {x : Bd} {inn key : Ad} (h : isK inn key x = true) : x.inn = inn ∧ x.key = key := by simpa [isK] using h
theorem idxB_get {q : Bd → Bool} : ∀ {l : List Bd} {i : Nat}, idxB q l = some i → ∃ x, l[i]? = some x ∧ q x = true ∧ ∀ j y, j < i → l[j]? = some y → q y = false
  | [], i, h => by cases h
  | x :: l, i, h => by
    rw [idxB] at h
    split at h
    · rename_i hq
      cases h
      exact ⟨x, rfl, hq, fun j y hj => by omega⟩
    · rename_i hq
      cases hj : idxB q l with
      | none => rw [hj] at h; cases h
      | some j =>
        rw [hj] at h; cases h
        obtain ⟨y, hy, hqy, hall⟩ := idxB_get hj
        refine ⟨y, hy, hqy, fun k z hk hz => ?_⟩
        cases k with
        | zero => simp at hz; subst hz; simpa using hq
        | succ k =>
          have hk : k + 1 < j + 1 := hk
          exact hall k z (by omega) hz
theorem idxB_no {q : Bd → Bool} : ∀ {l : List Bd}, idxB q l = none → ∀ x ∈ l, q x = false
  | x :: l, h, y, hy => by
    rw [idxB] at h
    split at h
    · cases h
    · rename_i hq
      rcases List.mem_cons.1 hy with rfl | hy
      · simpa using hq
      · exact idxB_no (by cases hj : idxB q l with | none => rfl | some j => rw [hj] at h; cases h) y hy
/-- who is bound: to what it was bound, or anew -/
theorem bind_at (b : Bx) (inn key : Ad) {x : Bd} (hx : (bindB b inn key).1[(bindB b inn key).2]? = some x) : x.inn = inn ∧ x.key = key := by
  unfold bindB at hx
  split at hx
  · rename_i i hi
    obtain ⟨y, hy, hq, _⟩ := idxB_get hi
    rw [hy] at hx; cases hx
    exact isK_self hq
  · simp at hx; subst hx; exact ⟨rfl, rfl⟩
theorem metB_mem (m : List Ad) (dst : Ad) : dst ∈ metB m dst := by
  unfold metB; split
  · assumption
  · simp
end Go.Proofs.Ytloiifcocgpnbaa
