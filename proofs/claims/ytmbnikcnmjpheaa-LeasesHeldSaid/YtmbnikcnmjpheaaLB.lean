/- What lease's functions come to: the leases that one holds. -/
import Derived.Test.YtmbnikcnmjpheaaLA
namespace Go.Proofs.Ytmbnikcnmjpheaa
open Go Go.Proofs.Ytmbnikcnmjpheaa.Fw
set_option linter.unusedVariables false
set_option linter.unusedSimpArgs false

theorem hC {k : FloatKind} {a b : Nat} {f : Nat → Nat → Tree} {L : List Assn} {Q : Post} (h : Tri E L (f a b) Q) : Tri E L (.asC k (.sc (.cx k a b)) f) Q := .mk fun H hs => ⟨(a, b), by simp [AV.asC], h.go H hs⟩
structure Hd where
  id : Int
  un : Int
  asked : Int
  deriving DecidableEq
def hE : Enc Hd where
  z := 3
  e t := [.i .i64 t.id, .i .u64 t.un, .i .u64 t.asked]
  len _ := rfl
abbrev Pl := Nat × Nat
def cxE : Enc Pl where
  z := 1
  e t := [.cx .f64 t.1 t.2]
  len _ := rfl
def hz : Hd := ⟨0, 0, 0⟩
def leC (w t : Int) (V : List Hd) : List Sc := [.i .i64 w, .i .u64 t] ++ hE.all V
theorem le_len {w t : Int} {V : List Hd} (hV : V.length = 33) : (leC w t V).length = 101 := by
  unfold leC; rw [List.length_append, Enc.all_length, hV]; rfl
section
variable {p : Nat} {w s : Int} {V : List Hd} {L R : List Assn} {Q : Post} {f : List Sc → Tree} {t : Tree}
theorem ld_want (pk : Pick L (pt p (leC w s V)) R) (hh : Tri E L (f [.i .i64 w]) Q) : Tri E L (.ld p (0 + 0) 1 f) Q := Tri.ldE pk rfl (by simp [leC]) hh
theorem ld_wait (pk : Pick L (pt p (leC w s V)) R) (hh : Tri E L (f [.i .u64 s]) Q) : Tri E L (.ld p (0 + 1) 1 f) Q := Tri.ldE pk rfl (by simp [leC]) hh
theorem ld_hd {j k n : Nat} {c : Hd} {l : List Sc} (pk : Pick L (pt p (leC w s V)) R) (hV : V.length = 33) (hj : V[j]? = some c) (hk : k + n ≤ 3) (hr : ((hE.e c).drop k).take n = l) (hh : Tri E L (f l) Q) : Tri E L (.ld p (0 + 2 + j * 3 + k) n f) Q := by
  obtain ⟨hj', _⟩ := List.getElem?_eq_some_iff.1 hj
  refine Tri.ldE pk (l := l) ?_ (by rw [le_len hV]; omega) hh
  unfold leC
  have hz : hE.z = 3 := rfl
  have h1 := hE.all_get V j c hj
  rw [hz] at h1
  rw [show 0 + 2 + j * 3 + k = 2 + (j * 3 + k) by omega, drop_pre (off := 2) rfl, take_drop_mid (hE.all V) (j * 3) 3 k n hk, h1, hr]
theorem ld_all (pk : Pick L (pt p (leC w s V)) R) (hV : V.length = 33) (hh : Tri E L (f (hE.all V)) Q) : Tri E L (.ld p (0 + 2) 99 f) Q := by
  refine Tri.ldE pk (l := hE.all V) ?_ (by rw [le_len hV]; decide) hh
  unfold leC
  rw [show 0 + 2 = 2 + 0 from rfl, drop_pre (off := 2) rfl, List.drop_zero, List.take_of_length_le]
  rw [Enc.all_length, hV]; exact wz rfl
theorem st_hd {j : Nat} {v : Hd} {l : List Sc} (pk : Pick L (pt p (leC w s V)) R) (hV : V.length = 33) (hj : j < 33) (hl : l = hE.e v) (hh : Tri E (pt p (leC w s (V.set j v)) :: R) t Q) : Tri E L (.st p (0 + 2 + j * 3) l t) Q := by
  subst hl
  refine Tri.stE pk (c' := leC w s (V.set j v)) ?_ (by rw [le_len hV, show (hE.e v).length = 3 from rfl]; omega) hh
  have h1 := hE.all_set V j v (by omega)
  have hl := hE.all_length V
  have hz : hE.z = 3 := rfl
  rw [hz] at h1 hl
  rw [show (hE.e v).length = 3 from rfl]
  unfold leC
  rw [show 0 + 2 + j * 3 = 2 + j * 3 by omega, show 2 + j * 3 + 3 = 2 + (j * 3 + 3) by omega, take_pre (off := 2) rfl, drop_pre (off := 2) rfl, ← h1]
  simp only [List.append_assoc]
theorem le_sl (hV : V.length = 33) : SlOk hE ⟨p, 2, 33, 33, 3⟩ V (leC w s V) := by
  have hl := hE.all_length V
  have hz : hE.z = 3 := rfl
  rw [hz] at hl
  refine ⟨rfl, by simp; omega, Nat.le_refl _, by rw [le_len hV]; exact wz rfl, ?_⟩
  show ((leC w s V).drop (2 + 0)).take 99 = _
  unfold leC
  rw [drop_pre (off := 2) rfl, List.drop_zero, List.take_of_length_le (by omega)]
theorem st_hd1 {j k : Nat} {x y : Hd} {v : Sc} (pk : Pick L (pt p (leC w s V)) R) (hV : V.length = 33) (hx : V[j]? = some x) (hk : k < 3) (hy : hE.e y = (hE.e x).set k v) (hh : Tri E (pt p (leC w s (V.set j y)) :: R) t Q) : Tri E L (.st p (0 + 2 + j * 3 + k) [v] t) Q := by
  obtain ⟨hj, _⟩ := List.getElem?_eq_some_iff.1 hx
  have h1 := (le_sl (p := p) (w := w) (s := s) hV).set1 hx hk hy
  refine Tri.stE pk (c' := leC w s (V.set j y)) ?_ (by rw [le_len hV]; simp only [List.length_singleton]; omega) hh
  have e := h1.at_
  have hl := hE.all_length V
  have hz : hE.z = 3 := rfl
  have hle := le_len (w := w) (t := s) hV
  have hall := hE.all_set V j y (by omega)
  have hget := hE.all_get V j x hx
  rw [hz] at hl hall hget
  have hxl := hE.len x
  rw [hz] at hxl
  have e1 : (hE.all V).drop (j * 3) = hE.e x ++ (hE.all V).drop (j * 3 + 3) := by
    rw [← List.take_append_drop 3 ((hE.all V).drop (j * 3)), hget, List.drop_drop]
  have e2 : (hE.all V).take (j * 3 + k) = (hE.all V).take (j * 3) ++ (hE.e x).take k := by
    rw [List.take_add, e1, List.take_append_of_le_length (by omega)]
  have e3 : (hE.all V).drop (j * 3 + k + 1) = (hE.e x).drop (k + 1) ++ (hE.all V).drop (j * 3 + 3) := by
    rw [Nat.add_assoc, ← List.drop_drop, e1, List.drop_append_of_le_length (by omega)]
  have e4 : hE.e y = (hE.e x).take k ++ v :: (hE.e x).drop (k + 1) := by
    rw [hy, List.set_eq_take_append_cons_drop, if_pos (by omega)]
  unfold leC
  rw [show [v].length = 1 from rfl, show 0 + 2 + j * 3 + k = 2 + (j * 3 + k) by omega, take_pre (off := 2) rfl, show 2 + (j * 3 + k) + 1 = 2 + (j * 3 + k + 1) by omega, drop_pre (off := 2) rfl, ← hall, e2, e3, e4]
  simp only [List.append_assoc, List.cons_append, List.nil_append]
end
theorem newL_ok {r h : Int} (h1 : 1 ≤ r) (h2 : r ≤ 8) (h3 : 1 ≤ h) (h4 : h ≤ 1000000) : FSpec E 13 [.sc (.i .i64 r), .sc (.i .u64 h)] [] (fun v L' => ∃ p, v = .tu [.sc (.p (some (p, 0))), .sc (.i .i64 0)] ∧ L' = [pt p (leC r h (List.replicate 33 hz))]) := by
  refine FSpec.of (Try.func13 : Try.prog.funcs[13]? = some Try.f13) (t13_eq _ _) fun F => ?_
  unfold t13
  refine Tri.cndF (by simp; omega) ?_
  refine Tri.cndF (by simp; omega) ?_
  refine Tri.cndF (by simp; omega) ?_
  refine Tri.cndF (by simp; omega) ?_
  refine wq fun a => ?_
  exact Tri.retF ⟨a, rfl, rfl⟩ (by repeat (first|exact Sub.refl _|exact Sub.nil _|(apply Sub.cons; (first|exact K0|exact K1|exact K2|exact K3|exact K4|exact K5|exact K6|exact K7|exact K8|exact K9|exact K10|exact K11))|apply Sub.skip))
theorem getDh {V : List Hd} (hV : V.length = 33) {k : Nat} (hk : k < 33) : V[k]? = some (V.getD k hz) := by
  rw [List.getD_eq_getElem?_getD, List.getElem?_eq_getElem (by omega)]; rfl
theorem lost_yes {p : Nat} {w s : Int} {V : List Hd} {j : Nat} {x : Hd} (hV : V.length = 33) (h1 : 1 ≤ j) (h2 : j ≤ 32) (hx : V[j]? = some x) (hid : x.id ≠ 0) : FSpec E 16 [.sc (.p (some (p, 0))), .sc (.i .i64 (j : Int))] [pt p (leC w s V)] (fun v L' => v = .sc (.b true) ∧ L' = [pt p (leC w s (V.set j hz))]) := by
  refine FSpec.of (Try.func16 : Try.prog.funcs[16]? = some Try.f16) (t16_eq _ _ _) fun F => ?_
  unfold t16
  refine Tri.call node_spec (by repeat (first|exact Picks.nil|(apply Picks.cons; (first|exact K0|exact K1|exact K2|exact K3|exact K4|exact K5|exact K6|exact K7|exact K8|exact K9|exact K10|exact K11)))) ?_
  rintro v L' ⟨rfl, rfl⟩
  simp only [List.cons_append, List.nil_append]
  repeat (first|refine wa ?_|refine wb ?_|refine wc ?_|refine wd ?_|refine we ?_|refine wf ?_|refine wg ?_|refine wh rfl ?_|refine wi rfl ?_|refine wj rfl ?_|refine wk rfl ?_|refine wl rfl ?_|refine wm (by decide) ?_|refine wn ?_|refine wo ?_|refine wp (by decide) ?_|(refine hC ?_)|(apply ld_want; (first|exact K0|exact K1|exact K2|exact K3|exact K4|exact K5|exact K6|exact K7|exact K8|exact K9|exact K10|exact K11))|(apply ld_wait; (first|exact K0|exact K1|exact K2|exact K3|exact K4|exact K5|exact K6|exact K7|exact K8|exact K9|exact K10|exact K11))|(apply Tri.ldE; (first|exact K0|exact K1|exact K2|exact K3|exact K4|exact K5|exact K6|exact K7|exact K8|exact K9|exact K10|exact K11); (exact rfl); (exact wz rfl))|(apply Tri.stE; (first|exact K0|exact K1|exact K2|exact K3|exact K4|exact K5|exact K6|exact K7|exact K8|exact K9|exact K10|exact K11); (exact rfl); (exact wz rfl))|(apply Tri.same; (first|exact K0|exact K1|exact K2|exact K3|exact K4|exact K5|exact K6|exact K7|exact K8|exact K9|exact K10|exact K11); (exact rfl); (exact wz rfl))|refine wq fun _ => ?_)
  refine Tri.cndF (by rw [nodeB_iff.2 ⟨by omega, by omega⟩]; rfl) ?_
  repeat (first|refine wa ?_|refine wb ?_|refine wc ?_|refine wd ?_|refine we ?_|refine wf ?_|refine wg ?_|refine wh rfl ?_|refine wi rfl ?_|refine wj rfl ?_|refine wk rfl ?_|refine wl rfl ?_|refine wm (by decide) ?_|refine wn ?_|refine wo ?_|refine wp (by decide) ?_|(refine hC ?_)|(apply ld_want; (first|exact K0|exact K1|exact K2|exact K3|exact K4|exact K5|exact K6|exact K7|exact K8|exact K9|exact K10|exact K11))|(apply ld_wait; (first|exact K0|exact K1|exact K2|exact K3|exact K4|exact K5|exact K6|exact K7|exact K8|exact K9|exact K10|exact K11))|(apply Tri.ldE; (first|exact K0|exact K1|exact K2|exact K3|exact K4|exact K5|exact K6|exact K7|exact K8|exact K9|exact K10|exact K11); (exact rfl); (exact wz rfl))|(apply Tri.stE; (first|exact K0|exact K1|exact K2|exact K3|exact K4|exact K5|exact K6|exact K7|exact K8|exact K9|exact K10|exact K11); (exact rfl); (exact wz rfl))|(apply Tri.same; (first|exact K0|exact K1|exact K2|exact K3|exact K4|exact K5|exact K6|exact K7|exact K8|exact K9|exact K10|exact K11); (exact rfl); (exact wz rfl))|refine wq fun _ => ?_)
  refine Tri.brT (by simp; omega) ?_
  rw [Int.toNat_natCast]
  refine ld_hd (by first|exact K0|exact K1|exact K2|exact K3|exact K4|exact K5|exact K6|exact K7|exact K8|exact K9|exact K10|exact K11) hV hx (wz rfl) rfl ?_
  repeat (first|refine wa ?_|refine wb ?_|refine wc ?_|refine wd ?_|refine we ?_|refine wf ?_|refine wg ?_|refine wh rfl ?_|refine wi rfl ?_|refine wj rfl ?_|refine wk rfl ?_|refine wl rfl ?_|refine wm (by decide) ?_|refine wn ?_|refine wo ?_|refine wp (by decide) ?_|(refine hC ?_)|(apply ld_want; (first|exact K0|exact K1|exact K2|exact K3|exact K4|exact K5|exact K6|exact K7|exact K8|exact K9|exact K10|exact K11))|(apply ld_wait; (first|exact K0|exact K1|exact K2|exact K3|exact K4|exact K5|exact K6|exact K7|exact K8|exact K9|exact K10|exact K11))|(apply Tri.ldE; (first|exact K0|exact K1|exact K2|exact K3|exact K4|exact K5|exact K6|exact K7|exact K8|exact K9|exact K10|exact K11); (exact rfl); (exact wz rfl))|(apply Tri.stE; (first|exact K0|exact K1|exact K2|exact K3|exact K4|exact K5|exact K6|exact K7|exact K8|exact K9|exact K10|exact K11); (exact rfl); (exact wz rfl))|(apply Tri.same; (first|exact K0|exact K1|exact K2|exact K3|exact K4|exact K5|exact K6|exact K7|exact K8|exact K9|exact K10|exact K11); (exact rfl); (exact wz rfl))|refine wq fun _ => ?_)
  refine Tri.cndF (by simpa using hid) ?_
  repeat (first|refine wa ?_|refine wb ?_|refine wc ?_|refine wd ?_|refine we ?_|refine wf ?_|refine wg ?_|refine wh rfl ?_|refine wi rfl ?_|refine wj rfl ?_|refine wk rfl ?_|refine wl rfl ?_|refine wm (by decide) ?_|refine wn ?_|refine wo ?_|refine wp (by decide) ?_|(refine hC ?_)|(apply ld_want; (first|exact K0|exact K1|exact K2|exact K3|exact K4|exact K5|exact K6|exact K7|exact K8|exact K9|exact K10|exact K11))|(apply ld_wait; (first|exact K0|exact K1|exact K2|exact K3|exact K4|exact K5|exact K6|exact K7|exact K8|exact K9|exact K10|exact K11))|(apply Tri.ldE; (first|exact K0|exact K1|exact K2|exact K3|exact K4|exact K5|exact K6|exact K7|exact K8|exact K9|exact K10|exact K11); (exact rfl); (exact wz rfl))|(apply Tri.stE; (first|exact K0|exact K1|exact K2|exact K3|exact K4|exact K5|exact K6|exact K7|exact K8|exact K9|exact K10|exact K11); (exact rfl); (exact wz rfl))|(apply Tri.same; (first|exact K0|exact K1|exact K2|exact K3|exact K4|exact K5|exact K6|exact K7|exact K8|exact K9|exact K10|exact K11); (exact rfl); (exact wz rfl))|refine wq fun _ => ?_)
  refine Tri.brT (by simp; omega) ?_
  refine st_hd (v := hz) (by first|exact K0|exact K1|exact K2|exact K3|exact K4|exact K5|exact K6|exact K7|exact K8|exact K9|exact K10|exact K11) hV (by omega) rfl ?_
  exact Tri.retF ⟨rfl, rfl⟩ (by repeat (first|exact Sub.refl _|exact Sub.nil _|(apply Sub.cons; (first|exact K0|exact K1|exact K2|exact K3|exact K4|exact K5|exact K6|exact K7|exact K8|exact K9|exact K10|exact K11))|apply Sub.skip))
theorem lost_no {p : Nat} {w s : Int} {V : List Hd} {j : Nat} {x : Hd} (hV : V.length = 33) (h1 : 1 ≤ j) (h2 : j ≤ 32) (hx : V[j]? = some x) (hid : x.id = 0) : FSpec E 16 [.sc (.p (some (p, 0))), .sc (.i .i64 (j : Int))] [pt p (leC w s V)] (fun v L' => v = .sc (.b false) ∧ L' = [pt p (leC w s V)]) := by
  refine FSpec.of (Try.func16 : Try.prog.funcs[16]? = some Try.f16) (t16_eq _ _ _) fun F => ?_
  unfold t16
  refine Tri.call node_spec (by repeat (first|exact Picks.nil|(apply Picks.cons; (first|exact K0|exact K1|exact K2|exact K3|exact K4|exact K5|exact K6|exact K7|exact K8|exact K9|exact K10|exact K11)))) ?_
  rintro v L' ⟨rfl, rfl⟩
  simp only [List.cons_append, List.nil_append]
  repeat (first|refine wa ?_|refine wb ?_|refine wc ?_|refine wd ?_|refine we ?_|refine wf ?_|refine wg ?_|refine wh rfl ?_|refine wi rfl ?_|refine wj rfl ?_|refine wk rfl ?_|refine wl rfl ?_|refine wm (by decide) ?_|refine wn ?_|refine wo ?_|refine wp (by decide) ?_|(refine hC ?_)|(apply ld_want; (first|exact K0|exact K1|exact K2|exact K3|exact K4|exact K5|exact K6|exact K7|exact K8|exact K9|exact K10|exact K11))|(apply ld_wait; (first|exact K0|exact K1|exact K2|exact K3|exact K4|exact K5|exact K6|exact K7|exact K8|exact K9|exact K10|exact K11))|(apply Tri.ldE; (first|exact K0|exact K1|exact K2|exact K3|exact K4|exact K5|exact K6|exact K7|exact K8|exact K9|exact K10|exact K11); (exact rfl); (exact wz rfl))|(apply Tri.stE; (first|exact K0|exact K1|exact K2|exact K3|exact K4|exact K5|exact K6|exact K7|exact K8|exact K9|exact K10|exact K11); (exact rfl); (exact wz rfl))|(apply Tri.same; (first|exact K0|exact K1|exact K2|exact K3|exact K4|exact K5|exact K6|exact K7|exact K8|exact K9|exact K10|exact K11); (exact rfl); (exact wz rfl))|refine wq fun _ => ?_)
  refine Tri.cndF (by rw [nodeB_iff.2 ⟨by omega, by omega⟩]; rfl) ?_
  repeat (first|refine wa ?_|refine wb ?_|refine wc ?_|refine wd ?_|refine we ?_|refine wf ?_|refine wg ?_|refine wh rfl ?_|refine wi rfl ?_|refine wj rfl ?_|refine wk rfl ?_|refine wl rfl ?_|refine wm (by decide) ?_|refine wn ?_|refine wo ?_|refine wp (by decide) ?_|(refine hC ?_)|(apply ld_want; (first|exact K0|exact K1|exact K2|exact K3|exact K4|exact K5|exact K6|exact K7|exact K8|exact K9|exact K10|exact K11))|(apply ld_wait; (first|exact K0|exact K1|exact K2|exact K3|exact K4|exact K5|exact K6|exact K7|exact K8|exact K9|exact K10|exact K11))|(apply Tri.ldE; (first|exact K0|exact K1|exact K2|exact K3|exact K4|exact K5|exact K6|exact K7|exact K8|exact K9|exact K10|exact K11); (exact rfl); (exact wz rfl))|(apply Tri.stE; (first|exact K0|exact K1|exact K2|exact K3|exact K4|exact K5|exact K6|exact K7|exact K8|exact K9|exact K10|exact K11); (exact rfl); (exact wz rfl))|(apply Tri.same; (first|exact K0|exact K1|exact K2|exact K3|exact K4|exact K5|exact K6|exact K7|exact K8|exact K9|exact K10|exact K11); (exact rfl); (exact wz rfl))|refine wq fun _ => ?_)
  refine Tri.brT (by simp; omega) ?_
  rw [Int.toNat_natCast]
  refine ld_hd (by first|exact K0|exact K1|exact K2|exact K3|exact K4|exact K5|exact K6|exact K7|exact K8|exact K9|exact K10|exact K11) hV hx (wz rfl) rfl ?_
  repeat (first|refine wa ?_|refine wb ?_|refine wc ?_|refine wd ?_|refine we ?_|refine wf ?_|refine wg ?_|refine wh rfl ?_|refine wi rfl ?_|refine wj rfl ?_|refine wk rfl ?_|refine wl rfl ?_|refine wm (by decide) ?_|refine wn ?_|refine wo ?_|refine wp (by decide) ?_|(refine hC ?_)|(apply ld_want; (first|exact K0|exact K1|exact K2|exact K3|exact K4|exact K5|exact K6|exact K7|exact K8|exact K9|exact K10|exact K11))|(apply ld_wait; (first|exact K0|exact K1|exact K2|exact K3|exact K4|exact K5|exact K6|exact K7|exact K8|exact K9|exact K10|exact K11))|(apply Tri.ldE; (first|exact K0|exact K1|exact K2|exact K3|exact K4|exact K5|exact K6|exact K7|exact K8|exact K9|exact K10|exact K11); (exact rfl); (exact wz rfl))|(apply Tri.stE; (first|exact K0|exact K1|exact K2|exact K3|exact K4|exact K5|exact K6|exact K7|exact K8|exact K9|exact K10|exact K11); (exact rfl); (exact wz rfl))|(apply Tri.same; (first|exact K0|exact K1|exact K2|exact K3|exact K4|exact K5|exact K6|exact K7|exact K8|exact K9|exact K10|exact K11); (exact rfl); (exact wz rfl))|refine wq fun _ => ?_)
  refine Tri.cndT (by simpa using hid) ?_
  exact Tri.retF ⟨rfl, rfl⟩ (by repeat (first|exact Sub.refl _|exact Sub.nil _|(apply Sub.cons; (first|exact K0|exact K1|exact K2|exact K3|exact K4|exact K5|exact K6|exact K7|exact K8|exact K9|exact K10|exact K11))|apply Sub.skip))
def gotV (V : List Hd) (j : Nat) (x : Hd) (u : Int) : List Hd := if u ≤ 0 then V else V.set j { x with un := u }
theorem got_spec {p : Nat} {w s : Int} {V : List Hd} {j : Nat} {x : Hd} {u : Int} (hV : V.length = 33) (h1 : 1 ≤ j) (h2 : j ≤ 32) (hx : V[j]? = some x) (hid : x.id ≠ 0) (hu : u ≤ 1000) : FSpec E 15 [.sc (.p (some (p, 0))), .sc (.i .i64 (j : Int)), .sc (.i .u64 u), .sc (.i .u64 0)] [pt p (leC w s V)]
    (fun v L' => v = .sc (.b (decide (u > 0))) ∧ L' = [pt p (leC w s (gotV V j x u))]) := by
  refine FSpec.of (Try.func15 : Try.prog.funcs[15]? = some Try.f15) (t15_eq _ _ _ _ _) fun F => ?_
  unfold t15 gotV
  refine Tri.call node_spec (by repeat (first|exact Picks.nil|(apply Picks.cons; (first|exact K0|exact K1|exact K2|exact K3|exact K4|exact K5|exact K6|exact K7|exact K8|exact K9|exact K10|exact K11)))) ?_
  rintro v L' ⟨rfl, rfl⟩
  simp only [List.cons_append, List.nil_append]
  repeat (first|refine wa ?_|refine wb ?_|refine wc ?_|refine wd ?_|refine we ?_|refine wf ?_|refine wg ?_|refine wh rfl ?_|refine wi rfl ?_|refine wj rfl ?_|refine wk rfl ?_|refine wl rfl ?_|refine wm (by decide) ?_|refine wn ?_|refine wo ?_|refine wp (by decide) ?_|(refine hC ?_)|(apply ld_want; (first|exact K0|exact K1|exact K2|exact K3|exact K4|exact K5|exact K6|exact K7|exact K8|exact K9|exact K10|exact K11))|(apply ld_wait; (first|exact K0|exact K1|exact K2|exact K3|exact K4|exact K5|exact K6|exact K7|exact K8|exact K9|exact K10|exact K11))|(apply Tri.ldE; (first|exact K0|exact K1|exact K2|exact K3|exact K4|exact K5|exact K6|exact K7|exact K8|exact K9|exact K10|exact K11); (exact rfl); (exact wz rfl))|(apply Tri.stE; (first|exact K0|exact K1|exact K2|exact K3|exact K4|exact K5|exact K6|exact K7|exact K8|exact K9|exact K10|exact K11); (exact rfl); (exact wz rfl))|(apply Tri.same; (first|exact K0|exact K1|exact K2|exact K3|exact K4|exact K5|exact K6|exact K7|exact K8|exact K9|exact K10|exact K11); (exact rfl); (exact wz rfl))|refine wq fun _ => ?_)
  refine Tri.cndF (by rw [nodeB_iff.2 ⟨by omega, by omega⟩]; rfl) ?_
  repeat (first|refine wa ?_|refine wb ?_|refine wc ?_|refine wd ?_|refine we ?_|refine wf ?_|refine wg ?_|refine wh rfl ?_|refine wi rfl ?_|refine wj rfl ?_|refine wk rfl ?_|refine wl rfl ?_|refine wm (by decide) ?_|refine wn ?_|refine wo ?_|refine wp (by decide) ?_|(refine hC ?_)|(apply ld_want; (first|exact K0|exact K1|exact K2|exact K3|exact K4|exact K5|exact K6|exact K7|exact K8|exact K9|exact K10|exact K11))|(apply ld_wait; (first|exact K0|exact K1|exact K2|exact K3|exact K4|exact K5|exact K6|exact K7|exact K8|exact K9|exact K10|exact K11))|(apply Tri.ldE; (first|exact K0|exact K1|exact K2|exact K3|exact K4|exact K5|exact K6|exact K7|exact K8|exact K9|exact K10|exact K11); (exact rfl); (exact wz rfl))|(apply Tri.stE; (first|exact K0|exact K1|exact K2|exact K3|exact K4|exact K5|exact K6|exact K7|exact K8|exact K9|exact K10|exact K11); (exact rfl); (exact wz rfl))|(apply Tri.same; (first|exact K0|exact K1|exact K2|exact K3|exact K4|exact K5|exact K6|exact K7|exact K8|exact K9|exact K10|exact K11); (exact rfl); (exact wz rfl))|refine wq fun _ => ?_)
  refine Tri.brT (by simp; omega) ?_
  rw [Int.toNat_natCast]
  refine ld_hd (by first|exact K0|exact K1|exact K2|exact K3|exact K4|exact K5|exact K6|exact K7|exact K8|exact K9|exact K10|exact K11) hV hx (wz rfl) rfl ?_
  repeat (first|refine wa ?_|refine wb ?_|refine wc ?_|refine wd ?_|refine we ?_|refine wf ?_|refine wg ?_|refine wh rfl ?_|refine wi rfl ?_|refine wj rfl ?_|refine wk rfl ?_|refine wl rfl ?_|refine wm (by decide) ?_|refine wn ?_|refine wo ?_|refine wp (by decide) ?_|(refine hC ?_)|(apply ld_want; (first|exact K0|exact K1|exact K2|exact K3|exact K4|exact K5|exact K6|exact K7|exact K8|exact K9|exact K10|exact K11))|(apply ld_wait; (first|exact K0|exact K1|exact K2|exact K3|exact K4|exact K5|exact K6|exact K7|exact K8|exact K9|exact K10|exact K11))|(apply Tri.ldE; (first|exact K0|exact K1|exact K2|exact K3|exact K4|exact K5|exact K6|exact K7|exact K8|exact K9|exact K10|exact K11); (exact rfl); (exact wz rfl))|(apply Tri.stE; (first|exact K0|exact K1|exact K2|exact K3|exact K4|exact K5|exact K6|exact K7|exact K8|exact K9|exact K10|exact K11); (exact rfl); (exact wz rfl))|(apply Tri.same; (first|exact K0|exact K1|exact K2|exact K3|exact K4|exact K5|exact K6|exact K7|exact K8|exact K9|exact K10|exact K11); (exact rfl); (exact wz rfl))|refine wq fun _ => ?_)
  refine Tri.cndF (by simpa using hid) ?_
  refine Tri.cnd (fun hc => ?_) (fun hc => ?_)
  · have hc : u ≤ 0 := by simpa using hc
    rw [if_pos hc]
    exact Tri.retF ⟨by rw [decide_eq_false (by omega)], rfl⟩ (by repeat (first|exact Sub.refl _|exact Sub.nil _|(apply Sub.cons; (first|exact K0|exact K1|exact K2|exact K3|exact K4|exact K5|exact K6|exact K7|exact K8|exact K9|exact K10|exact K11))|apply Sub.skip))
  · have hc : ¬ u ≤ 0 := by simpa using hc
    rw [if_neg hc]
    repeat (first|refine wa ?_|refine wb ?_|refine wc ?_|refine wd ?_|refine we ?_|refine wf ?_|refine wg ?_|refine wh rfl ?_|refine wi rfl ?_|refine wj rfl ?_|refine wk rfl ?_|refine wl rfl ?_|refine wm (by decide) ?_|refine wn ?_|refine wo ?_|refine wp (by decide) ?_|(refine hC ?_)|(apply ld_want; (first|exact K0|exact K1|exact K2|exact K3|exact K4|exact K5|exact K6|exact K7|exact K8|exact K9|exact K10|exact K11))|(apply ld_wait; (first|exact K0|exact K1|exact K2|exact K3|exact K4|exact K5|exact K6|exact K7|exact K8|exact K9|exact K10|exact K11))|(apply Tri.ldE; (first|exact K0|exact K1|exact K2|exact K3|exact K4|exact K5|exact K6|exact K7|exact K8|exact K9|exact K10|exact K11); (exact rfl); (exact wz rfl))|(apply Tri.stE; (first|exact K0|exact K1|exact K2|exact K3|exact K4|exact K5|exact K6|exact K7|exact K8|exact K9|exact K10|exact K11); (exact rfl); (exact wz rfl))|(apply Tri.same; (first|exact K0|exact K1|exact K2|exact K3|exact K4|exact K5|exact K6|exact K7|exact K8|exact K9|exact K10|exact K11); (exact rfl); (exact wz rfl))|refine wq fun _ => ?_)
    refine Tri.brT (by simp; omega) ?_
    rw [show minI u 4611686018427387904 = u by unfold minI; rw [if_neg (by omega)]]
    refine st_hd1 (x := x) (y := { x with un := u }) (by first|exact K0|exact K1|exact K2|exact K3|exact K4|exact K5|exact K6|exact K7|exact K8|exact K9|exact K10|exact K11) hV hx (by decide) rfl ?_
    exact Tri.retF ⟨by rw [decide_eq_true (by omega)], rfl⟩ (by repeat (first|exact Sub.refl _|exact Sub.nil _|(apply Sub.cons; (first|exact K0|exact K1|exact K2|exact K3|exact K4|exact K5|exact K6|exact K7|exact K8|exact K9|exact K10|exact K11))|apply Sub.skip))
def heldL (t : Int) (V : List Hd) : List Int := (V.filter fun x => decide (x.un > t)).map (·.id)
theorem heldL_snoc (t : Int) (D : List Hd) (x : Hd) : heldL t (D ++ [x]) = heldL t D ++ if x.un > t then [x.id] else [] := by
  unfold heldL
  rw [List.filter_append, List.map_append]
  congr 1
  by_cases h : x.un > t
  · rw [if_pos h, List.filter_cons, if_pos (by simpa using h)]; rfl
  · rw [if_neg h, List.filter_cons, if_neg (by simpa using h)]; rfl
theorem heldL_len (t : Int) (D : List Hd) : (heldL t D).length ≤ D.length := by unfold heldL; rw [List.length_map]; exact List.length_filter_le _ _
set_option maxRecDepth 20000 in
theorem held_spec {p : Nat} {w s : Int} {V : List Hd} {t : Int} (hV : V.length = 33) : FSpec E 17 [.sc (.p (some (p, 0))), .sc (.i .u64 t)] [pt p (leC w s V)] (fun v L' => ∃ o, v = .sc (.sl o) ∧ L' = [pt p (leC w s V), .sl false i64E o (heldL t V)]) := by
  refine FSpec.of (Try.func17 : Try.prog.funcs[17]? = some Try.f17) (t17_eq _ _ _) fun F => ?_
  unfold t17
  repeat (first|refine wa ?_|refine wb ?_|refine wc ?_|refine wd ?_|refine we ?_|refine wf ?_|refine wg ?_|refine wh rfl ?_|refine wi rfl ?_|refine wj rfl ?_|refine wk rfl ?_|refine wl rfl ?_|refine wm (by decide) ?_|refine wn ?_|refine wo ?_|refine wp (by decide) ?_|(refine hC ?_)|(apply ld_want; (first|exact K0|exact K1|exact K2|exact K3|exact K4|exact K5|exact K6|exact K7|exact K8|exact K9|exact K10|exact K11))|(apply ld_wait; (first|exact K0|exact K1|exact K2|exact K3|exact K4|exact K5|exact K6|exact K7|exact K8|exact K9|exact K10|exact K11))|(apply Tri.ldE; (first|exact K0|exact K1|exact K2|exact K3|exact K4|exact K5|exact K6|exact K7|exact K8|exact K9|exact K10|exact K11); (exact rfl); (exact wz rfl))|(apply Tri.stE; (first|exact K0|exact K1|exact K2|exact K3|exact K4|exact K5|exact K6|exact K7|exact K8|exact K9|exact K10|exact K11); (exact rfl); (exact wz rfl))|(apply Tri.same; (first|exact K0|exact K1|exact K2|exact K3|exact K4|exact K5|exact K6|exact K7|exact K8|exact K9|exact K10|exact K11); (exact rfl); (exact wz rfl))|refine wq fun _ => ?_)
  refine ld_all (by first|exact K0|exact K1|exact K2|exact K3|exact K4|exact K5|exact K6|exact K7|exact K8|exact K9|exact K10|exact K11) hV ?_
  refine Tri.mkN false i64E ?_
  refine Tri.loop (I := fun m l' L => ∃ (D R : List Hd) (o : Option SlD), m = R.length ∧ V = D ++ R ∧
    l' = [.sc (.i .u64 t), .sc (.sl o), .ag (hE.all V), .sc (.i .i64 D.length)] ∧ L = pt p (leC w s V) :: .sl false i64E o (heldL t D) :: F)
    ⟨[], V, none, rfl, rfl, rfl, rfl⟩ (by repeat (first|exact Sub.refl _|exact Sub.nil _|(apply Sub.cons; (first|exact K0|exact K1|exact K2|exact K3|exact K4|exact K5|exact K6|exact K7|exact K8|exact K9|exact K10|exact K11))|apply Sub.skip)) ?_
  rintro m l' L ⟨D, R, o, rfl, hDR, rfl, rfl⟩
  have hall : (hE.all V).length = 99 := by rw [Enc.all_length, hV]; rfl
  unfold t17_b3
  refine wa ?_
  refine wd ?_
  refine wk hall ?_
  repeat (first|refine wa ?_|refine wb ?_|refine wc ?_|refine wd ?_|refine we ?_|refine wf ?_|refine wg ?_|refine wh rfl ?_|refine wi rfl ?_|refine wj rfl ?_|refine wk rfl ?_|refine wl rfl ?_|refine wm (by decide) ?_|refine wn ?_|refine wo ?_|refine wp (by decide) ?_|(refine hC ?_)|(apply ld_want; (first|exact K0|exact K1|exact K2|exact K3|exact K4|exact K5|exact K6|exact K7|exact K8|exact K9|exact K10|exact K11))|(apply ld_wait; (first|exact K0|exact K1|exact K2|exact K3|exact K4|exact K5|exact K6|exact K7|exact K8|exact K9|exact K10|exact K11))|(apply Tri.ldE; (first|exact K0|exact K1|exact K2|exact K3|exact K4|exact K5|exact K6|exact K7|exact K8|exact K9|exact K10|exact K11); (exact rfl); (exact wz rfl))|(apply Tri.stE; (first|exact K0|exact K1|exact K2|exact K3|exact K4|exact K5|exact K6|exact K7|exact K8|exact K9|exact K10|exact K11); (exact rfl); (exact wz rfl))|(apply Tri.same; (first|exact K0|exact K1|exact K2|exact K3|exact K4|exact K5|exact K6|exact K7|exact K8|exact K9|exact K10|exact K11); (exact rfl); (exact wz rfl))|refine wq fun _ => ?_)
  have hlen : D.length + R.length = 33 := by rw [← hV, hDR, List.length_append]
  refine Tri.cnd (fun hc => ?_) (fun hc => ?_)
  · have hc : D.length < 33 := by simp at hc; omega
    cases R with
    | nil => simp at hlen; omega
    | cons x R =>
      refine Tri.brT (by simp; omega) ?_
      have hx : V[D.length]? = some x := by rw [hDR]; simp
      have hg := hE.all_get V D.length x hx
      rw [show hE.z = 3 from rfl] at hg
      rw [Int.toNat_natCast, hg]
      repeat (first|refine wa ?_|refine wb ?_|refine wc ?_|refine wd ?_|refine we ?_|refine wf ?_|refine wg ?_|refine wh rfl ?_|refine wi rfl ?_|refine wj rfl ?_|refine wk rfl ?_|refine wl rfl ?_|refine wm (by decide) ?_|refine wn ?_|refine wo ?_|refine wp (by decide) ?_|(refine hC ?_)|(apply ld_want; (first|exact K0|exact K1|exact K2|exact K3|exact K4|exact K5|exact K6|exact K7|exact K8|exact K9|exact K10|exact K11))|(apply ld_wait; (first|exact K0|exact K1|exact K2|exact K3|exact K4|exact K5|exact K6|exact K7|exact K8|exact K9|exact K10|exact K11))|(apply Tri.ldE; (first|exact K0|exact K1|exact K2|exact K3|exact K4|exact K5|exact K6|exact K7|exact K8|exact K9|exact K10|exact K11); (exact rfl); (exact wz rfl))|(apply Tri.stE; (first|exact K0|exact K1|exact K2|exact K3|exact K4|exact K5|exact K6|exact K7|exact K8|exact K9|exact K10|exact K11); (exact rfl); (exact wz rfl))|(apply Tri.same; (first|exact K0|exact K1|exact K2|exact K3|exact K4|exact K5|exact K6|exact K7|exact K8|exact K9|exact K10|exact K11); (exact rfl); (exact wz rfl))|refine wq fun _ => ?_)
      have hdl := heldL_len t D
      rw [wr_i64 (n := (D.length : Int) + 1) (by omega) (by omega)]
      refine Tri.cnd (fun hu => ?_) (fun hu => ?_)
      · have hu : x.un > t := by simpa using hu
        repeat (first|refine wa ?_|refine wb ?_|refine wc ?_|refine wd ?_|refine we ?_|refine wf ?_|refine wg ?_|refine wh rfl ?_|refine wi rfl ?_|refine wj rfl ?_|refine wk rfl ?_|refine wl rfl ?_|refine wm (by decide) ?_|refine wn ?_|refine wo ?_|refine wp (by decide) ?_|(refine hC ?_)|(apply ld_want; (first|exact K0|exact K1|exact K2|exact K3|exact K4|exact K5|exact K6|exact K7|exact K8|exact K9|exact K10|exact K11))|(apply ld_wait; (first|exact K0|exact K1|exact K2|exact K3|exact K4|exact K5|exact K6|exact K7|exact K8|exact K9|exact K10|exact K11))|(apply Tri.ldE; (first|exact K0|exact K1|exact K2|exact K3|exact K4|exact K5|exact K6|exact K7|exact K8|exact K9|exact K10|exact K11); (exact rfl); (exact wz rfl))|(apply Tri.stE; (first|exact K0|exact K1|exact K2|exact K3|exact K4|exact K5|exact K6|exact K7|exact K8|exact K9|exact K10|exact K11); (exact rfl); (exact wz rfl))|(apply Tri.same; (first|exact K0|exact K1|exact K2|exact K3|exact K4|exact K5|exact K6|exact K7|exact K8|exact K9|exact K10|exact K11); (exact rfl); (exact wz rfl))|refine wq fun _ => ?_)
        refine Tri.ldsD (d := ⟨_, 0, 1, 1, 1⟩) (by first|exact K0|exact K1|exact K2|exact K3|exact K4|exact K5|exact K6|exact K7|exact K8|exact K9|exact K10|exact K11) rfl (Nat.le_refl _) (Nat.le_of_ble_eq_true rfl) ?_
        refine Tri.app (T := i64E) (o := o) (l := heldL t D) [x.id] (by first|exact K0|exact K1|exact K2|exact K3|exact K4|exact K5|exact K6|exact K7|exact K8|exact K9|exact K10|exact K11) rfl rfl rfl (by decide) (by decide) (by simp [appBound]; omega) fun o' => ?_
        rw [show heldL t D ++ [x.id] = heldL t (D ++ [x]) by rw [heldL_snoc, if_pos hu]]
        refine Tri.back (m' := R.length) (by simp) ⟨D ++ [x], R, o', rfl, by simp [hDR], by simp, rfl⟩ (by repeat (first|exact Sub.refl _|exact Sub.nil _|(apply Sub.cons; (first|exact K0|exact K1|exact K2|exact K3|exact K4|exact K5|exact K6|exact K7|exact K8|exact K9|exact K10|exact K11))|apply Sub.skip))
      · have hu : ¬ x.un > t := by simpa using hu
        repeat (first|refine wa ?_|refine wb ?_|refine wc ?_|refine wd ?_|refine we ?_|refine wf ?_|refine wg ?_|refine wh rfl ?_|refine wi rfl ?_|refine wj rfl ?_|refine wk rfl ?_|refine wl rfl ?_|refine wm (by decide) ?_|refine wn ?_|refine wo ?_|refine wp (by decide) ?_|(refine hC ?_)|(apply ld_want; (first|exact K0|exact K1|exact K2|exact K3|exact K4|exact K5|exact K6|exact K7|exact K8|exact K9|exact K10|exact K11))|(apply ld_wait; (first|exact K0|exact K1|exact K2|exact K3|exact K4|exact K5|exact K6|exact K7|exact K8|exact K9|exact K10|exact K11))|(apply Tri.ldE; (first|exact K0|exact K1|exact K2|exact K3|exact K4|exact K5|exact K6|exact K7|exact K8|exact K9|exact K10|exact K11); (exact rfl); (exact wz rfl))|(apply Tri.stE; (first|exact K0|exact K1|exact K2|exact K3|exact K4|exact K5|exact K6|exact K7|exact K8|exact K9|exact K10|exact K11); (exact rfl); (exact wz rfl))|(apply Tri.same; (first|exact K0|exact K1|exact K2|exact K3|exact K4|exact K5|exact K6|exact K7|exact K8|exact K9|exact K10|exact K11); (exact rfl); (exact wz rfl))|refine wq fun _ => ?_)
        rw [show heldL t D = heldL t (D ++ [x]) by rw [heldL_snoc, if_neg hu, List.append_nil]]
        refine Tri.back (m' := R.length) (by simp) ⟨D ++ [x], R, o, rfl, by simp [hDR], by simp, rfl⟩ (by repeat (first|exact Sub.refl _|exact Sub.nil _|(apply Sub.cons; (first|exact K0|exact K1|exact K2|exact K3|exact K4|exact K5|exact K6|exact K7|exact K8|exact K9|exact K10|exact K11))|apply Sub.skip))
  · have hc : D.length = 33 := by simp at hc; omega
    have hR : R = [] := List.length_eq_zero_iff.1 (by omega)
    subst hR
    rw [List.append_nil] at hDR
    subst hDR
    refine Tri.exit (by decide) ?_
    unfold t17_k3
    repeat (first|refine wa ?_|refine wb ?_|refine wc ?_|refine wd ?_|refine we ?_|refine wf ?_|refine wg ?_|refine wh rfl ?_|refine wi rfl ?_|refine wj rfl ?_|refine wk rfl ?_|refine wl rfl ?_|refine wm (by decide) ?_|refine wn ?_|refine wo ?_|refine wp (by decide) ?_|(refine hC ?_)|(apply ld_want; (first|exact K0|exact K1|exact K2|exact K3|exact K4|exact K5|exact K6|exact K7|exact K8|exact K9|exact K10|exact K11))|(apply ld_wait; (first|exact K0|exact K1|exact K2|exact K3|exact K4|exact K5|exact K6|exact K7|exact K8|exact K9|exact K10|exact K11))|(apply Tri.ldE; (first|exact K0|exact K1|exact K2|exact K3|exact K4|exact K5|exact K6|exact K7|exact K8|exact K9|exact K10|exact K11); (exact rfl); (exact wz rfl))|(apply Tri.stE; (first|exact K0|exact K1|exact K2|exact K3|exact K4|exact K5|exact K6|exact K7|exact K8|exact K9|exact K10|exact K11); (exact rfl); (exact wz rfl))|(apply Tri.same; (first|exact K0|exact K1|exact K2|exact K3|exact K4|exact K5|exact K6|exact K7|exact K8|exact K9|exact K10|exact K11); (exact rfl); (exact wz rfl))|refine wq fun _ => ?_)
    exact Tri.retF ⟨o, rfl, rfl⟩ (by repeat (first|exact Sub.refl _|exact Sub.nil _|(apply Sub.cons; (first|exact K0|exact K1|exact K2|exact K3|exact K4|exact K5|exact K6|exact K7|exact K8|exact K9|exact K10|exact K11))|apply Sub.skip))
/-! numbers from 1, places -/
def idL (n : Nat) : List Int := (List.range n).map fun (i : Nat) => (i : Int) + 1
def plL (n : Nat) : List Pl := (List.range n).map fun (i : Nat) => (FloatKind.f64.nearest (i : Int), 0)
def natL (n : Nat) : List Int := (List.range n).map fun (i : Nat) => (i : Int)
theorem idL_succ (n : Nat) : idL (n + 1) = idL n ++ [(n : Int) + 1] := by unfold idL; rw [List.range_succ, List.map_append]; rfl
theorem plL_succ (n : Nat) : plL (n + 1) = plL n ++ [(FloatKind.f64.nearest (n : Int), 0)] := by unfold plL; rw [List.range_succ, List.map_append]; rfl
theorem natL_succ (n : Nat) : natL (n + 1) = natL n ++ [(n : Int)] := by unfold natL; rw [List.range_succ, List.map_append]; rfl
theorem idL_len (n : Nat) : (idL n).length = n := by simp [idL]
theorem plL_len (n : Nat) : (plL n).length = n := by simp [plL]
theorem natL_len (n : Nat) : (natL n).length = n := by simp [natL]
theorem idL_get {n i : Nat} (h : i < n) : (idL n)[i]? = some ((i : Int) + 1) := by simp [idL, h]
theorem plL_get {n i : Nat} (h : i < n) : (plL n)[i]? = some (FloatKind.f64.nearest (i : Int), 0) := by simp [plL, h]
theorem natL_get {n i : Nat} (h : i < n) : (natL n)[i]? = some (i : Int) := by simp [natL, h]
theorem idL_take {n k : Nat} (h : k ≤ n) : (idL n).take k = idL k := by unfold idL; rw [← List.map_take, List.take_range, Nat.min_eq_left h]
/-- a slice that lies in an object's cells: none of it is that number -/
theorem ixD {d : SlD} {z : Nat} {j : Int} {f : Nat → Nat → Nat → Tree} {L : List Assn} {Q : Post} (hz : d.z = z) (h0 : 0 ≤ j) (h1 : j < d.len) (h : Tri E L (f d.id d.off j.toNat) Q) : Tri E L (.ixS z (some d) j f) Q := .mk fun H hs => ⟨(d.id, d.off, j.toNat), by simp [ixIn, hz, h0, h1], h.go H hs⟩
theorem idx_no {d : SlD} {l : List Int} {c : List Sc} {x : Int} (q : SlOk i64E d l c) (hl : l.length ≤ 1000) (hx : ∀ y ∈ l, x ≠ y) : FSpec E 27 [.sc (.sl (some d)), .sc (.i .i64 x)] [pt d.id c] (fun v L' => v = .sc (.i .i64 (-1)) ∧ L' = [pt d.id c]) := by
  refine FSpec.of (Try.func27 : Try.prog.funcs[27]? = some Try.f27) (t27_eq _ _) fun F => ?_
  unfold t27
  have hlen : slLen (some d) = (l.length : Int) := by show (d.len : Int) = _; rw [q.len]
  rw [hlen]
  refine Tri.loop (I := fun m l' L => ∃ i : Nat, m = l.length - i ∧ i ≤ l.length ∧ l' = [.sc (.sl (some d)), .sc (.i .i64 x), .sc (.i .i64 l.length), .sc (.i .i64 i)] ∧ L = pt d.id c :: F) ⟨0, rfl, by omega, rfl, rfl⟩ (by repeat (first|exact Sub.refl _|exact Sub.nil _|(apply Sub.cons; (first|exact K0|exact K1|exact K2|exact K3|exact K4|exact K5|exact K6|exact K7|exact K8|exact K9|exact K10|exact K11))|apply Sub.skip)) ?_
  rintro m l' L ⟨i, rfl, hi, rfl, rfl⟩
  unfold t27_b0
  repeat (first|refine wa ?_|refine wb ?_|refine wc ?_|refine wd ?_|refine we ?_|refine wf ?_|refine wg ?_|refine wh rfl ?_|refine wi rfl ?_|refine wj rfl ?_|refine wk rfl ?_|refine wl rfl ?_|refine wm (by decide) ?_|refine wn ?_|refine wo ?_|refine wp (by decide) ?_|(refine hC ?_)|(apply ld_want; (first|exact K0|exact K1|exact K2|exact K3|exact K4|exact K5|exact K6|exact K7|exact K8|exact K9|exact K10|exact K11))|(apply ld_wait; (first|exact K0|exact K1|exact K2|exact K3|exact K4|exact K5|exact K6|exact K7|exact K8|exact K9|exact K10|exact K11))|(apply Tri.ldE; (first|exact K0|exact K1|exact K2|exact K3|exact K4|exact K5|exact K6|exact K7|exact K8|exact K9|exact K10|exact K11); (exact rfl); (exact wz rfl))|(apply Tri.stE; (first|exact K0|exact K1|exact K2|exact K3|exact K4|exact K5|exact K6|exact K7|exact K8|exact K9|exact K10|exact K11); (exact rfl); (exact wz rfl))|(apply Tri.same; (first|exact K0|exact K1|exact K2|exact K3|exact K4|exact K5|exact K6|exact K7|exact K8|exact K9|exact K10|exact K11); (exact rfl); (exact wz rfl))|refine wq fun _ => ?_)
  refine Tri.cnd (fun hc => ?_) (fun hc => ?_)
  · have hc : i < l.length := by simp at hc; omega
    have hg : l[i]? = some l[i] := List.getElem?_eq_getElem hc
    refine ixD q.z (by omega) (by rw [q.len]; omega) ?_
    rw [Int.toNat_natCast]
    have hb := q.bound hc
    refine Tri.ldE (l := i64E.e l[i]) (by first|exact K0|exact K1|exact K2|exact K3|exact K4|exact K5|exact K6|exact K7|exact K8|exact K9|exact K10|exact K11) (q.get hg) hb ?_
    repeat (first|refine wa ?_|refine wb ?_|refine wc ?_|refine wd ?_|refine we ?_|refine wf ?_|refine wg ?_|refine wh rfl ?_|refine wi rfl ?_|refine wj rfl ?_|refine wk rfl ?_|refine wl rfl ?_|refine wm (by decide) ?_|refine wn ?_|refine wo ?_|refine wp (by decide) ?_|(refine hC ?_)|(apply ld_want; (first|exact K0|exact K1|exact K2|exact K3|exact K4|exact K5|exact K6|exact K7|exact K8|exact K9|exact K10|exact K11))|(apply ld_wait; (first|exact K0|exact K1|exact K2|exact K3|exact K4|exact K5|exact K6|exact K7|exact K8|exact K9|exact K10|exact K11))|(apply Tri.ldE; (first|exact K0|exact K1|exact K2|exact K3|exact K4|exact K5|exact K6|exact K7|exact K8|exact K9|exact K10|exact K11); (exact rfl); (exact wz rfl))|(apply Tri.stE; (first|exact K0|exact K1|exact K2|exact K3|exact K4|exact K5|exact K6|exact K7|exact K8|exact K9|exact K10|exact K11); (exact rfl); (exact wz rfl))|(apply Tri.same; (first|exact K0|exact K1|exact K2|exact K3|exact K4|exact K5|exact K6|exact K7|exact K8|exact K9|exact K10|exact K11); (exact rfl); (exact wz rfl))|refine wq fun _ => ?_)
    refine Tri.cndF (by simpa using hx l[i] (List.getElem_mem hc)) ?_
    rw [wr_i64 (n := (i : Int) + 1) (by omega) (by omega)]
    exact Tri.back (m' := l.length - (i + 1)) (by omega) ⟨i + 1, rfl, by omega, rfl, rfl⟩ (by repeat (first|exact Sub.refl _|exact Sub.nil _|(apply Sub.cons; (first|exact K0|exact K1|exact K2|exact K3|exact K4|exact K5|exact K6|exact K7|exact K8|exact K9|exact K10|exact K11))|apply Sub.skip))
  · refine Tri.exit (by decide) ?_
    unfold t27_k0
    repeat (first|refine wa ?_|refine wb ?_|refine wc ?_|refine wd ?_|refine we ?_|refine wf ?_|refine wg ?_|refine wh rfl ?_|refine wi rfl ?_|refine wj rfl ?_|refine wk rfl ?_|refine wl rfl ?_|refine wm (by decide) ?_|refine wn ?_|refine wo ?_|refine wp (by decide) ?_|(refine hC ?_)|(apply ld_want; (first|exact K0|exact K1|exact K2|exact K3|exact K4|exact K5|exact K6|exact K7|exact K8|exact K9|exact K10|exact K11))|(apply ld_wait; (first|exact K0|exact K1|exact K2|exact K3|exact K4|exact K5|exact K6|exact K7|exact K8|exact K9|exact K10|exact K11))|(apply Tri.ldE; (first|exact K0|exact K1|exact K2|exact K3|exact K4|exact K5|exact K6|exact K7|exact K8|exact K9|exact K10|exact K11); (exact rfl); (exact wz rfl))|(apply Tri.stE; (first|exact K0|exact K1|exact K2|exact K3|exact K4|exact K5|exact K6|exact K7|exact K8|exact K9|exact K10|exact K11); (exact rfl); (exact wz rfl))|(apply Tri.same; (first|exact K0|exact K1|exact K2|exact K3|exact K4|exact K5|exact K6|exact K7|exact K8|exact K9|exact K10|exact K11); (exact rfl); (exact wz rfl))|refine wq fun _ => ?_)
    exact Tri.retF ⟨rfl, rfl⟩ (by repeat (first|exact Sub.refl _|exact Sub.nil _|(apply Sub.cons; (first|exact K0|exact K1|exact K2|exact K3|exact K4|exact K5|exact K6|exact K7|exact K8|exact K9|exact K10|exact K11))|apply Sub.skip))
end Go.Proofs.Ytmbnikcnmjpheaa
