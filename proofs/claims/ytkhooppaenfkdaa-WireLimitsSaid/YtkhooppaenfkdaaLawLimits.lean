/- The law WireLimits on the abstract machine. -/
import Derived.Test.YtkhooppaenfkdaaWC
import Derived.Test.YtkhooppaenfkdaaEx
namespace Go.Proofs.Ytkhooppaenfkdaa
open Go Go.Proofs.Ytkhooppaenfkdaa.Fw
set_option linter.unusedVariables false
set_option linter.unusedSimpArgs false

structure Tg where
  id : Int
  st : Int
  inc : Int
  ip : Int
  port : Int
  own : Bool
def tgE : Enc Tg where
  z := 6
  e t := [.i .i64 t.id, .i .i64 t.st, .i .u32 t.inc, .i .u32 t.ip, .i .u16 t.port, .b t.own]
  len _ := rfl
abbrev Tgn := { t : Tg // 0 ≤ t.ip }
theorem tgn_ok (c : List Sc) (h : All2 ScK [.i .i64, .i .i64, .i .u32, .i .u32, .i .u16, .b] c) : ∃ x : Tgn, c = tgE.e x.1 := by
  obtain ⟨_, _, rfl, ⟨a, rfl, _⟩, _, _, rfl, ⟨b, rfl, _⟩, _, _, rfl, ⟨c, rfl, _⟩, _, _, rfl, ⟨d, rfl, w⟩, _, _, rfl, ⟨e, rfl, _⟩, _, _, rfl, ⟨f, rfl⟩, rfl⟩ := h
  refine ⟨⟨⟨a, b, c, d, e, f⟩, ?_⟩, rfl⟩
  simp [Lit.wf, IntKind.min, IntKind.max, IntKind.signed, IntKind.bits] at w
  exact w.1
theorem wr_u64_nn (n : Int) : 0 ≤ IntKind.wrap .u64 n := by
  have : IntKind.wrap .u64 n = n % 18446744073709551616 := rfl
  omega
def rcX (x : Tg) : Rc := ⟨1 + IntKind.wrap .u64 x.id % 6, IntKind.wrap .u64 x.st % 4, Int.tmod x.inc 5, 1 + x.ip % 3, 7⟩
theorem rcX_ok {x : Tg} (h : 0 ≤ x.ip) : RcOk (rcX x) := by
  have h1 := wr_u64_nn x.id
  have h2 := wr_u64_nn x.st
  refine ⟨?_, ?_, ?_, ?_, ?_, ?_⟩ <;> simp only [rcX] <;> omega
theorem thing_spec {x : Tg} (h : 0 ≤ x.ip) : FSpec E 5 [.ag [.i .i64 x.id, .i .i64 x.st, .i .u32 x.inc, .i .u32 x.ip, .i .u16 x.port, .b true]] [] (fun v L' => v = .ag (reE.e (rcX x)) ∧ L' = []) := by
  have h1 := wr_u64_nn x.id
  have h2 := wr_u64_nn x.st
  refine FSpec.of (Try.func5 : Try.prog.funcs[5]? = some Try.f5) (t5_eq _ _ _ _ _ _) fun F => ?_
  unfold t5
  repeat (first|refine wa ?_|refine wb ?_|refine wc ?_|refine wd ?_|refine we ?_|refine wf ?_|refine wg ?_|refine wh rfl ?_|refine wi rfl ?_|refine wj rfl ?_|refine wk rfl ?_|refine wl rfl ?_|refine wm (by decide) ?_|refine wr ?_|refine ws ?_|refine wt ?_|(apply Tri.ldE; (first|exact K0|exact K1|exact K2|exact K3|exact K4|exact K5|exact K6|exact K7|exact K8|exact K9|exact K10|exact K11); (exact rfl); (exact wz rfl))|(apply Tri.stE; (first|exact K0|exact K1|exact K2|exact K3|exact K4|exact K5|exact K6|exact K7|exact K8|exact K9|exact K10|exact K11); (exact rfl); (exact wz rfl))|(apply Tri.same; (first|exact K0|exact K1|exact K2|exact K3|exact K4|exact K5|exact K6|exact K7|exact K8|exact K9|exact K10|exact K11); (exact rfl); (exact wz rfl))|refine wq fun _ => ?_)
  refine Tri.brT rfl ?_
  repeat (first|refine wa ?_|refine wb ?_|refine wc ?_|refine wd ?_|refine we ?_|refine wf ?_|refine wg ?_|refine wh rfl ?_|refine wi rfl ?_|refine wj rfl ?_|refine wk rfl ?_|refine wl rfl ?_|refine wm (by decide) ?_|refine wr ?_|refine ws ?_|refine wt ?_|(apply Tri.ldE; (first|exact K0|exact K1|exact K2|exact K3|exact K4|exact K5|exact K6|exact K7|exact K8|exact K9|exact K10|exact K11); (exact rfl); (exact wz rfl))|(apply Tri.stE; (first|exact K0|exact K1|exact K2|exact K3|exact K4|exact K5|exact K6|exact K7|exact K8|exact K9|exact K10|exact K11); (exact rfl); (exact wz rfl))|(apply Tri.same; (first|exact K0|exact K1|exact K2|exact K3|exact K4|exact K5|exact K6|exact K7|exact K8|exact K9|exact K10|exact K11); (exact rfl); (exact wz rfl))|refine wq fun _ => ?_)
  refine Tri.brT rfl ?_
  repeat (first|refine wa ?_|refine wb ?_|refine wc ?_|refine wd ?_|refine we ?_|refine wf ?_|refine wg ?_|refine wh rfl ?_|refine wi rfl ?_|refine wj rfl ?_|refine wk rfl ?_|refine wl rfl ?_|refine wm (by decide) ?_|refine wr ?_|refine ws ?_|refine wt ?_|(apply Tri.ldE; (first|exact K0|exact K1|exact K2|exact K3|exact K4|exact K5|exact K6|exact K7|exact K8|exact K9|exact K10|exact K11); (exact rfl); (exact wz rfl))|(apply Tri.stE; (first|exact K0|exact K1|exact K2|exact K3|exact K4|exact K5|exact K6|exact K7|exact K8|exact K9|exact K10|exact K11); (exact rfl); (exact wz rfl))|(apply Tri.same; (first|exact K0|exact K1|exact K2|exact K3|exact K4|exact K5|exact K6|exact K7|exact K8|exact K9|exact K10|exact K11); (exact rfl); (exact wz rfl))|refine wq fun _ => ?_)
  refine Tri.brT rfl ?_
  repeat (first|refine wa ?_|refine wb ?_|refine wc ?_|refine wd ?_|refine we ?_|refine wf ?_|refine wg ?_|refine wh rfl ?_|refine wi rfl ?_|refine wj rfl ?_|refine wk rfl ?_|refine wl rfl ?_|refine wm (by decide) ?_|refine wr ?_|refine ws ?_|refine wt ?_|(apply Tri.ldE; (first|exact K0|exact K1|exact K2|exact K3|exact K4|exact K5|exact K6|exact K7|exact K8|exact K9|exact K10|exact K11); (exact rfl); (exact wz rfl))|(apply Tri.stE; (first|exact K0|exact K1|exact K2|exact K3|exact K4|exact K5|exact K6|exact K7|exact K8|exact K9|exact K10|exact K11); (exact rfl); (exact wz rfl))|(apply Tri.same; (first|exact K0|exact K1|exact K2|exact K3|exact K4|exact K5|exact K6|exact K7|exact K8|exact K9|exact K10|exact K11); (exact rfl); (exact wz rfl))|refine wq fun _ => ?_)
  refine Tri.brT rfl ?_
  rw [Int.tmod_eq_emod_of_nonneg h1, Int.tmod_eq_emod_of_nonneg h2, Int.tmod_eq_emod_of_nonneg h, wr_i64 (n := IntKind.wrap .u64 x.id % 6) (by omega) (by omega), wr_i64 (n := 1 + IntKind.wrap .u64 x.id % 6) (by omega) (by omega),
    wr_i64 (n := IntKind.wrap .u64 x.st % 4) (by omega) (by omega), wr_u32 (n := 1 + x.ip % 3) (by omega) (by omega)]
  repeat (first|refine wa ?_|refine wb ?_|refine wc ?_|refine wd ?_|refine we ?_|refine wf ?_|refine wg ?_|refine wh rfl ?_|refine wi rfl ?_|refine wj rfl ?_|refine wk rfl ?_|refine wl rfl ?_|refine wm (by decide) ?_|refine wr ?_|refine ws ?_|refine wt ?_|(apply Tri.ldE; (first|exact K0|exact K1|exact K2|exact K3|exact K4|exact K5|exact K6|exact K7|exact K8|exact K9|exact K10|exact K11); (exact rfl); (exact wz rfl))|(apply Tri.stE; (first|exact K0|exact K1|exact K2|exact K3|exact K4|exact K5|exact K6|exact K7|exact K8|exact K9|exact K10|exact K11); (exact rfl); (exact wz rfl))|(apply Tri.same; (first|exact K0|exact K1|exact K2|exact K3|exact K4|exact K5|exact K6|exact K7|exact K8|exact K9|exact K10|exact K11); (exact rfl); (exact wz rfl))|refine wq fun _ => ?_)
  exact Tri.retF ⟨rfl, rfl⟩ (by repeat (first|exact Sub.refl _|exact Sub.nil _|(apply Sub.cons; (first|exact K0|exact K1|exact K2|exact K3|exact K4|exact K5|exact K6|exact K7|exact K8|exact K9|exact K10|exact K11))|apply Sub.skip))
theorem cNB : (hNB.toList.contains (sN.toList.headD 0) = true ∧ hNB.toList.contains (sA.toList.headD 0) = false ∧ hNB.toList.contains (sP.toList.headD 0) = false ∧ hNB.toList.contains (sF.toList.headD 0) = false ∧ hNB.toList.contains (sB.toList.headD 0) = true ∧ hNB.toList.contains (sR.toList.headD 0) = false) := by
  refine ⟨?_, ?_, ?_, ?_, ?_, ?_⟩ <;> kernel_rfl
theorem cNR : (hNR.toList.contains (sN.toList.headD 0) = true ∧ hNR.toList.contains (sA.toList.headD 0) = false ∧ hNR.toList.contains (sP.toList.headD 0) = false ∧ hNR.toList.contains (sF.toList.headD 0) = false ∧ hNR.toList.contains (sB.toList.headD 0) = false ∧ hNR.toList.contains (sR.toList.headD 0) = true) := by
  refine ⟨?_, ?_, ?_, ?_, ?_, ?_⟩ <;> kernel_rfl
theorem cFR : (hFR.toList.contains (sN.toList.headD 0) = false ∧ hFR.toList.contains (sA.toList.headD 0) = false ∧ hFR.toList.contains (sP.toList.headD 0) = false ∧ hFR.toList.contains (sF.toList.headD 0) = true ∧ hFR.toList.contains (sB.toList.headD 0) = false ∧ hFR.toList.contains (sR.toList.headD 0) = true) := by
  refine ⟨?_, ?_, ?_, ?_, ?_, ?_⟩ <;> kernel_rfl
theorem okA (x : ByteArray) : (fl 2 x 0 (nwB 5)).all (okF hNB) = (decide (1 ≤ (x.size : Int)) && decide ((x.size : Int) ≤ 900)) := by
  obtain ⟨a1, a2, a3, a4, a5, a6⟩ := cNB
  simp only [fl, List.all_cons, List.all_nil, okF, a1, a2, a3, a4, a5, a6, e0_iff]
  have hn : nodeB 2 = true := rfl
  rw [hn]
  by_cases h : x.size = 0
  · simp [h]
  · have : 1 ≤ (x.size : Int) := by omega
    simp [h, this]
theorem okB (k : Nat) : (fl 2 ⟨⟨[]⟩⟩ k (nwB 1)).all (okF hNR) = decide ((k : Int) ≤ 8) := by
  obtain ⟨a1, a2, a3, a4, a5, a6⟩ := cNR
  simp only [fl, List.all_cons, List.all_nil, okF, a1, a2, a3, a4, a5, a6, e0_iff]
  have hn : nodeB 2 = true := rfl
  have hs : (⟨⟨[]⟩⟩ : ByteArray).size = 0 := rfl
  rw [hn, hs]
  simp [nwB]
theorem okC (k : Nat) : (fl 0 ⟨⟨[]⟩⟩ k (nwB 15)).all (okF hFR) = decide ((k : Int) ≤ 32) := by
  obtain ⟨a1, a2, a3, a4, a5, a6⟩ := cFR
  simp only [fl, List.all_cons, List.all_nil, okF, a1, a2, a3, a4, a5, a6, e0_iff]
  have hs : (⟨⟨[]⟩⟩ : ByteArray).size = 0 := rfl
  rw [hs]
  simp [nwB]
theorem putA {x : ByteArray} {r : Rc} (hr : RcOk r) : FSpec E 6 [.ag [.i .i64 5, .i .i64 1, .i .u32 0, .i .i64 2, .i .u32 0, .i .u16 0, .cx .f64 0 0, .b false, .s x, .sl none]] [.sl false reE none (List.replicate 0 r)]
    (fun v L' => ∃ s, v = .tu [.sc (.s s), .sc (.b (decide (1 ≤ (x.size : Int)) && decide ((x.size : Int) ≤ 900)))] ∧ L' = [.sl false reE none (List.replicate 0 r)]) := by
  have := put_spec (K := 5) (N := 2) (c1 := 110) (c2 := 98) (x := x) (o := none) (k := 0) (r := r) (has := hNB) (.inl rfl) has5 hr (by omega) rfl (by kernel_rfl) (by kernel_rfl) (by kernel_rfl) (by kernel_rfl) (.inl rfl) (.inl rfl) (by
    rw [okA]; intro h; simp at h; unfold tailN; rw [if_pos rfl]; omega)
  rwa [okA] at this
theorem putB {k : Nat} {o : Option SlD} {r : Rc} (hr : RcOk r) (hk : k ≤ 100) : FSpec E 6 [.ag [.i .i64 1, .i .i64 1, .i .u32 0, .i .i64 2, .i .u32 0, .i .u16 0, .cx .f64 0 0, .b false, .s ⟨⟨[]⟩⟩, .sl o]] [.sl false reE o (List.replicate k r)]
    (fun v L' => ∃ s, v = .tu [.sc (.s s), .sc (.b (decide ((k : Int) ≤ 8)))] ∧ L' = [.sl false reE o (List.replicate k r)]) := by
  have := put_spec (K := 1) (N := 2) (c1 := 110) (c2 := 114) (x := ⟨⟨[]⟩⟩) (o := o) (k := k) (r := r) (has := hNR) (.inr (.inl rfl)) has1 hr hk rfl (by kernel_rfl) (by kernel_rfl) (by kernel_rfl) (by kernel_rfl) (.inl rfl) (.inr rfl) (by
    rw [okB]; intro h; simp at h; unfold tailN; rw [if_neg (by omega)]; omega)
  rwa [okB] at this
theorem putC {k : Nat} {o : Option SlD} {r : Rc} (hr : RcOk r) (hk : k ≤ 100) : FSpec E 6 [.ag [.i .i64 15, .i .i64 1, .i .u32 0, .i .i64 0, .i .u32 0, .i .u16 0, .cx .f64 0 0, .b false, .s ⟨⟨[]⟩⟩, .sl o]] [.sl false reE o (List.replicate k r)]
    (fun v L' => ∃ s, v = .tu [.sc (.s s), .sc (.b (decide ((k : Int) ≤ 32)))] ∧ L' = [.sl false reE o (List.replicate k r)]) := by
  have := put_spec (K := 15) (N := 0) (c1 := 102) (c2 := 114) (x := ⟨⟨[]⟩⟩) (o := o) (k := k) (r := r) (has := hFR) (.inr (.inr rfl)) has15 hr hk rfl (by kernel_rfl) (by kernel_rfl) (by kernel_rfl) (by kernel_rfl) (.inr rfl) (.inr rfl) (by
    rw [okC]; intro h; simp at h; unfold tailN; rw [if_neg (by omega)]; omega)
  rwa [okC] at this
def kon (t : Tree) : Tree := match t with
  | .al _ f => match f 0 with
    | .call _ _ g => g (.sc (.b true))
    | _ => .fail
  | _ => .fail
set_option maxRecDepth 20000 in
set_option maxHeartbeats 4000000 in
theorem lim_end {n k : Nat} {x5 : ByteArray} {a6 a7 a8 : Nat} {o7 o8 : Option SlD} {r : Rc} (hr : RcOk r) (hn : n < 1100) (hk : k < 40) (hx : x5.size = n) :
    Tri E [pt a6 [.i .i64 5, .i .i64 1, .i .u32 0, .i .i64 2, .i .u32 0, .i .u16 0, .cx .f64 0 0, .b false, .s x5, .sl none], pt a7 [.i .i64 1, .i .i64 1, .i .u32 0, .i .i64 2, .i .u32 0, .i .u16 0, .cx .f64 0 0, .b false, .s ⟨⟨[]⟩⟩, .sl o7],
      pt a8 [.i .i64 15, .i .i64 1, .i .u32 0, .i .i64 0, .i .u32 0, .i .u16 0, .cx .f64 0 0, .b false, .s ⟨⟨[]⟩⟩, .sl o8], .sl false reE o7 (List.replicate k r), .sl false reE o8 (List.replicate k r)]
      (t3_k9 2 [.sc (.b true), .sc (.i .i64 n), .sc (.i .i64 k), .sc (.p (some (a6, 0))), .sc (.p (some (a7, 0))), .sc (.p (some (a8, 0)))]) (RQ [] RT) := by
  unfold t3_k9
  repeat (first|refine wa ?_|refine wb ?_|refine wc ?_|refine wd ?_|refine we ?_|refine wf ?_|refine wg ?_|refine wh rfl ?_|refine wi rfl ?_|refine wj rfl ?_|refine wk rfl ?_|refine wl rfl ?_|refine wm (by decide) ?_|refine wr ?_|refine ws ?_|refine wt ?_|(apply Tri.ldE; (first|exact K0|exact K1|exact K2|exact K3|exact K4|exact K5|exact K6|exact K7|exact K8|exact K9|exact K10|exact K11); (exact rfl); (exact wz rfl))|(apply Tri.stE; (first|exact K0|exact K1|exact K2|exact K3|exact K4|exact K5|exact K6|exact K7|exact K8|exact K9|exact K10|exact K11); (exact rfl); (exact wz rfl))|(apply Tri.same; (first|exact K0|exact K1|exact K2|exact K3|exact K4|exact K5|exact K6|exact K7|exact K8|exact K9|exact K10|exact K11); (exact rfl); (exact wz rfl))|refine wq fun _ => ?_)
  refine Tri.mkN false reE ?_
  refine Tri.call (putA hr) (by repeat (first|exact Picks.nil|(apply Picks.cons; (first|exact K0|exact K1|exact K2|exact K3|exact K4|exact K5|exact K6|exact K7|exact K8|exact K9|exact K10|exact K11)))) ?_
  rintro v L' ⟨s1, rfl, rfl⟩
  simp only [List.cons_append, List.nil_append]
  repeat (first|refine wa ?_|refine wb ?_|refine wc ?_|refine wd ?_|refine we ?_|refine wf ?_|refine wg ?_|refine wh rfl ?_|refine wi rfl ?_|refine wj rfl ?_|refine wk rfl ?_|refine wl rfl ?_|refine wm (by decide) ?_|refine wr ?_|refine ws ?_|refine wt ?_|(apply Tri.ldE; (first|exact K0|exact K1|exact K2|exact K3|exact K4|exact K5|exact K6|exact K7|exact K8|exact K9|exact K10|exact K11); (exact rfl); (exact wz rfl))|(apply Tri.stE; (first|exact K0|exact K1|exact K2|exact K3|exact K4|exact K5|exact K6|exact K7|exact K8|exact K9|exact K10|exact K11); (exact rfl); (exact wz rfl))|(apply Tri.same; (first|exact K0|exact K1|exact K2|exact K3|exact K4|exact K5|exact K6|exact K7|exact K8|exact K9|exact K10|exact K11); (exact rfl); (exact wz rfl))|refine wq fun _ => ?_)
  refine Tri.call (putB (k := k) (o := o7) (r := r) hr (by omega)) (by repeat (first|exact Picks.nil|(apply Picks.cons; (first|exact K0|exact K1|exact K2|exact K3|exact K4|exact K5|exact K6|exact K7|exact K8|exact K9|exact K10|exact K11)))) ?_
  rintro v L' ⟨s2, rfl, rfl⟩
  simp only [List.cons_append, List.nil_append]
  repeat (first|refine wa ?_|refine wb ?_|refine wc ?_|refine wd ?_|refine we ?_|refine wf ?_|refine wg ?_|refine wh rfl ?_|refine wi rfl ?_|refine wj rfl ?_|refine wk rfl ?_|refine wl rfl ?_|refine wm (by decide) ?_|refine wr ?_|refine ws ?_|refine wt ?_|(apply Tri.ldE; (first|exact K0|exact K1|exact K2|exact K3|exact K4|exact K5|exact K6|exact K7|exact K8|exact K9|exact K10|exact K11); (exact rfl); (exact wz rfl))|(apply Tri.stE; (first|exact K0|exact K1|exact K2|exact K3|exact K4|exact K5|exact K6|exact K7|exact K8|exact K9|exact K10|exact K11); (exact rfl); (exact wz rfl))|(apply Tri.same; (first|exact K0|exact K1|exact K2|exact K3|exact K4|exact K5|exact K6|exact K7|exact K8|exact K9|exact K10|exact K11); (exact rfl); (exact wz rfl))|refine wq fun _ => ?_)
  refine Tri.call (putC (k := k) (o := o8) (r := r) hr (by omega)) (by repeat (first|exact Picks.nil|(apply Picks.cons; (first|exact K0|exact K1|exact K2|exact K3|exact K4|exact K5|exact K6|exact K7|exact K8|exact K9|exact K10|exact K11)))) ?_
  rintro v L' ⟨s3, rfl, rfl⟩
  simp only [List.cons_append, List.nil_append]
  repeat (first|refine wa ?_|refine wb ?_|refine wc ?_|refine wd ?_|refine we ?_|refine wf ?_|refine wg ?_|refine wh rfl ?_|refine wi rfl ?_|refine wj rfl ?_|refine wk rfl ?_|refine wl rfl ?_|refine wm (by decide) ?_|refine wr ?_|refine ws ?_|refine wt ?_|(apply Tri.ldE; (first|exact K0|exact K1|exact K2|exact K3|exact K4|exact K5|exact K6|exact K7|exact K8|exact K9|exact K10|exact K11); (exact rfl); (exact wz rfl))|(apply Tri.stE; (first|exact K0|exact K1|exact K2|exact K3|exact K4|exact K5|exact K6|exact K7|exact K8|exact K9|exact K10|exact K11); (exact rfl); (exact wz rfl))|(apply Tri.same; (first|exact K0|exact K1|exact K2|exact K3|exact K4|exact K5|exact K6|exact K7|exact K8|exact K9|exact K10|exact K11); (exact rfl); (exact wz rfl))|refine wq fun _ => ?_)
  rw [wr_i64 (n := 1000 + (n : Int)) (by omega) (by omega)]
  refine Tri.brT (by simp; omega) ?_
  rw [show (1000 + (n : Int)).toNat = 1000 + n by omega]
  refine wq fun a9 => ?_
  have hzl := zeros_len (.i .u8 0) (1000 + n)
  refine Tri.ldsD (d := ⟨a9, 0, 1000 + n, 1000 + n, 1⟩) (by first|exact K0|exact K1|exact K2|exact K3|exact K4|exact K5|exact K6|exact K7|exact K8|exact K9|exact K10|exact K11) rfl (Nat.le_refl _) (by simp only [slN]; omega) ?_
  rw [show ((zeros [Sc.i .u8 0] (1000 + n)).drop 0).take (slN (some ⟨a9, 0, 1000 + n, 1000 + n, 1⟩) * 1) = zeros [Sc.i .u8 0] (1000 + n) by
    simp only [slN, List.drop_zero, Nat.mul_one]; exact List.take_of_length_le (by omega)]
  obtain ⟨b, hb1, hb2, hb3⟩ := za (1000 + n) .empty (fun i h => absurd h (Nat.not_lt_zero _))
  have hb2 : b.size = 1000 + n := by rw [hb2]; simp
  refine Tri.asBy hb1 ?_
  refine Tri.call (get_zeros (x := b) (by omega) hb3) (by repeat (first|exact Picks.nil|(apply Picks.cons; (first|exact K0|exact K1|exact K2|exact K3|exact K4|exact K5|exact K6|exact K7|exact K8|exact K9|exact K10|exact K11)))) ?_
  rintro v L' ⟨rfl, rfl⟩
  simp only [List.cons_append, List.nil_append]
  repeat (first|refine wa ?_|refine wb ?_|refine wc ?_|refine wd ?_|refine we ?_|refine wf ?_|refine wg ?_|refine wh rfl ?_|refine wi rfl ?_|refine wj rfl ?_|refine wk rfl ?_|refine wl rfl ?_|refine wm (by decide) ?_|refine wr ?_|refine ws ?_|refine wt ?_|(apply Tri.ldE; (first|exact K0|exact K1|exact K2|exact K3|exact K4|exact K5|exact K6|exact K7|exact K8|exact K9|exact K10|exact K11); (exact rfl); (exact wz rfl))|(apply Tri.stE; (first|exact K0|exact K1|exact K2|exact K3|exact K4|exact K5|exact K6|exact K7|exact K8|exact K9|exact K10|exact K11); (exact rfl); (exact wz rfl))|(apply Tri.same; (first|exact K0|exact K1|exact K2|exact K3|exact K4|exact K5|exact K6|exact K7|exact K8|exact K9|exact K10|exact K11); (exact rfl); (exact wz rfl))|refine wq fun _ => ?_)
  have fin : ∀ (e w : Int) (L1 : List Assn), e = w → Tri E L1 (t3_k218 0 [.sc (.b true), .sc (.i .i64 n), .sc (.i .i64 k), .sc (.b (decide (1 ≤ (x5.size : Int)) && decide ((x5.size : Int) ≤ 900))), .sc (.b (decide ((k : Int) ≤ 8))), .sc (.b (decide ((k : Int) ≤ 32))), .sc (.i .i64 e), .sc (.i .i64 w)]) (RQ [] RT) := by
    intro e w L1 he
    subst he
    unfold t3_k218
    repeat (first|refine wa ?_|refine wb ?_|refine wc ?_|refine wd ?_|refine we ?_|refine wf ?_|refine wg ?_|refine wh rfl ?_|refine wi rfl ?_|refine wj rfl ?_|refine wk rfl ?_|refine wl rfl ?_|refine wm (by decide) ?_|refine wr ?_|refine ws ?_|refine wt ?_|(apply Tri.ldE; (first|exact K0|exact K1|exact K2|exact K3|exact K4|exact K5|exact K6|exact K7|exact K8|exact K9|exact K10|exact K11); (exact rfl); (exact wz rfl))|(apply Tri.stE; (first|exact K0|exact K1|exact K2|exact K3|exact K4|exact K5|exact K6|exact K7|exact K8|exact K9|exact K10|exact K11); (exact rfl); (exact wz rfl))|(apply Tri.same; (first|exact K0|exact K1|exact K2|exact K3|exact K4|exact K5|exact K6|exact K7|exact K8|exact K9|exact K10|exact K11); (exact rfl); (exact wz rfl))|refine wq fun _ => ?_)
    refine Tri.cndT rfl ?_
    rw [hx]
    refine Tri.cnd (fun h1 => ?_) (fun h1 => ?_)
    · have h1 : 1 ≤ (n : Int) := by simpa using h1
      rw [decide_eq_true h1, Bool.true_and]
      refine Tri.cndT (by simp) ?_
      refine Tri.cndT (by simp) ?_
      refine Tri.cndT (by simp) ?_
      exact Tri.retF (L1 := []) (by simp) (Sub.nil _)
    · have h1 : ¬ 1 ≤ (n : Int) := by simpa using h1
      rw [decide_eq_false h1, Bool.false_and]
      refine Tri.cndT rfl ?_
      refine Tri.cndT (by simp) ?_
      refine Tri.cndT (by simp) ?_
      exact Tri.retF (L1 := []) (by simp) (Sub.nil _)
  refine Tri.join ?_
  refine Tri.cnd (fun hc => ?_) (fun hc => ?_)
  · have hc : b.size > 1024 := by simp at hc; omega
    refine Tri.thru ?_
    exact fin _ _ _ (by rw [if_pos hc])
  · have hc : ¬ b.size > 1024 := by simp at hc; omega
    refine Tri.thru ?_
    exact fin _ _ _ (by rw [if_neg hc])
set_option maxRecDepth 20000 in
set_option maxHeartbeats 4000000 in
theorem lim_tri {n0 k0 : Int} {x : Tg} (hn : 0 ≤ n0 ∧ n0 < 65536) (hk : 0 ≤ k0 ∧ k0 < 256) (hx : 0 ≤ x.ip) : Tri E [pt 0 (tgE.e x)] (kon (t3 n0 k0 x.id x.st x.inc x.ip x.port x.own)) (RQ [] RT) := by
  unfold t3 kon
  dsimp only
  repeat (first|refine wa ?_|refine wb ?_|refine wc ?_|refine wd ?_|refine we ?_|refine wf ?_|refine wg ?_|refine wh rfl ?_|refine wi rfl ?_|refine wj rfl ?_|refine wk rfl ?_|refine wl rfl ?_|refine wm (by decide) ?_|refine wr ?_|refine ws ?_|refine wt ?_|(apply Tri.ldE; (first|exact K0|exact K1|exact K2|exact K3|exact K4|exact K5|exact K6|exact K7|exact K8|exact K9|exact K10|exact K11); (exact rfl); (exact wz rfl))|(apply Tri.stE; (first|exact K0|exact K1|exact K2|exact K3|exact K4|exact K5|exact K6|exact K7|exact K8|exact K9|exact K10|exact K11); (exact rfl); (exact wz rfl))|(apply Tri.same; (first|exact K0|exact K1|exact K2|exact K3|exact K4|exact K5|exact K6|exact K7|exact K8|exact K9|exact K10|exact K11); (exact rfl); (exact wz rfl))|refine wq fun _ => ?_)
  refine Tri.cndF rfl ?_
  refine Tri.brT rfl ?_
  refine Tri.brT rfl ?_
  refine Tri.stE (c := tgE.e x) (c' := [.i .i64 x.id, .i .i64 x.st, .i .u32 x.inc, .i .u32 x.ip, .i .u16 x.port, .b true]) (by first|exact K0|exact K1|exact K2|exact K3|exact K4|exact K5|exact K6|exact K7|exact K8|exact K9|exact K10|exact K11) rfl (wz rfl) ?_
  rw [Int.tmod_eq_emod_of_nonneg hn.1, Int.tmod_eq_emod_of_nonneg hk.1, wr_i64 (n := n0 % 1100) (by omega) (by omega), wr_i64 (n := k0 % 40) (by omega) (by omega)]
  obtain ⟨n, hn'⟩ : ∃ n : Nat, n0 % 1100 = n := ⟨(n0 % 1100).toNat, by omega⟩
  obtain ⟨k, hk'⟩ : ∃ k : Nat, k0 % 40 = k := ⟨(k0 % 40).toNat, by omega⟩
  rw [hn', hk', Int.toNat_natCast]
  refine Tri.brT (by simp; omega) ?_
  refine wq fun a3 => ?_
  have hzl := zeros_len (.i .u8 0) n
  refine Tri.ldsD (d := ⟨a3, 0, n, n, 1⟩) (by first|exact K0|exact K1|exact K2|exact K3|exact K4|exact K5|exact K6|exact K7|exact K8|exact K9|exact K10|exact K11) rfl (Nat.le_refl _) (by simp only [slN]; omega) ?_
  rw [show ((zeros [Sc.i .u8 0] n).drop 0).take (slN (some ⟨a3, 0, n, n, 1⟩) * 1) = zeros [Sc.i .u8 0] n by
    simp only [slN, List.drop_zero, Nat.mul_one]; exact List.take_of_length_le (by omega)]
  obtain ⟨x5, hb1, hb2, hb3⟩ := za n .empty (fun i h => absurd h (Nat.not_lt_zero _))
  have hb2 : x5.size = n := by rw [hb2]; simp
  refine Tri.asBy hb1 ?_
  repeat (first|refine wa ?_|refine wb ?_|refine wc ?_|refine wd ?_|refine we ?_|refine wf ?_|refine wg ?_|refine wh rfl ?_|refine wi rfl ?_|refine wj rfl ?_|refine wk rfl ?_|refine wl rfl ?_|refine wm (by decide) ?_|refine wr ?_|refine ws ?_|refine wt ?_|(apply Tri.ldE; (first|exact K0|exact K1|exact K2|exact K3|exact K4|exact K5|exact K6|exact K7|exact K8|exact K9|exact K10|exact K11); (exact rfl); (exact wz rfl))|(apply Tri.stE; (first|exact K0|exact K1|exact K2|exact K3|exact K4|exact K5|exact K6|exact K7|exact K8|exact K9|exact K10|exact K11); (exact rfl); (exact wz rfl))|(apply Tri.same; (first|exact K0|exact K1|exact K2|exact K3|exact K4|exact K5|exact K6|exact K7|exact K8|exact K9|exact K10|exact K11); (exact rfl); (exact wz rfl))|refine wq fun _ => ?_)
  rename_i a6 a7 a8
  have hr := rcX_ok hx
  refine Tri.mkN false reE ?_
  refine Tri.mkN false reE ?_
  refine Tri.loop (I := fun m l' L => ∃ (i : Nat) (o7 o8 : Option SlD), m = k - i ∧ i ≤ k ∧ l' = [.sc (.p (some (0, 0))), .sc (.b true), .sc (.i .i64 n), .sc (.i .i64 k), .sc (.p (some (a6, 0))), .sc (.p (some (a7, 0))), .sc (.p (some (a8, 0))), .sc (.i .i64 i)] ∧
    L = [pt 0 [.i .i64 x.id, .i .i64 x.st, .i .u32 x.inc, .i .u32 x.ip, .i .u16 x.port, .b true], pt a6 [.i .i64 5, .i .i64 1, .i .u32 0, .i .i64 2, .i .u32 0, .i .u16 0, .cx .f64 0 0, .b false, .s x5, .sl none], pt a7 [.i .i64 1, .i .i64 1, .i .u32 0, .i .i64 2, .i .u32 0, .i .u16 0, .cx .f64 0 0, .b false, .s ⟨⟨[]⟩⟩, .sl o7],
      pt a8 [.i .i64 15, .i .i64 1, .i .u32 0, .i .i64 0, .i .u32 0, .i .u16 0, .cx .f64 0 0, .b false, .s ⟨⟨[]⟩⟩, .sl o8], .sl false reE o7 (List.replicate i (rcX x)), .sl false reE o8 (List.replicate i (rcX x))])
    (L0 := [pt 0 [.i .i64 x.id, .i .i64 x.st, .i .u32 x.inc, .i .u32 x.ip, .i .u16 x.port, .b true], pt a6 [.i .i64 5, .i .i64 1, .i .u32 0, .i .i64 2, .i .u32 0, .i .u16 0, .cx .f64 0 0, .b false, .s x5, .sl none], pt a7 [.i .i64 1, .i .i64 1, .i .u32 0, .i .i64 2, .i .u32 0, .i .u16 0, .cx .f64 0 0, .b false, .s ⟨⟨[]⟩⟩, .sl none],
      pt a8 [.i .i64 15, .i .i64 1, .i .u32 0, .i .i64 0, .i .u32 0, .i .u16 0, .cx .f64 0 0, .b false, .s ⟨⟨[]⟩⟩, .sl none], .sl false reE none (List.replicate 0 (rcX x)), .sl false reE none (List.replicate 0 (rcX x))])
    ⟨0, none, none, rfl, by omega, rfl, rfl⟩ (by repeat (first|exact Sub.refl _|exact Sub.nil _|(apply Sub.cons; (first|exact K0|exact K1|exact K2|exact K3|exact K4|exact K5|exact K6|exact K7|exact K8|exact K9|exact K10|exact K11))|apply Sub.skip)) ?_
  rintro m l' L ⟨i, o7, o8, rfl, hi, rfl, rfl⟩
  unfold t3_b9
  repeat (first|refine wa ?_|refine wb ?_|refine wc ?_|refine wd ?_|refine we ?_|refine wf ?_|refine wg ?_|refine wh rfl ?_|refine wi rfl ?_|refine wj rfl ?_|refine wk rfl ?_|refine wl rfl ?_|refine wm (by decide) ?_|refine wr ?_|refine ws ?_|refine wt ?_|(apply Tri.ldE; (first|exact K0|exact K1|exact K2|exact K3|exact K4|exact K5|exact K6|exact K7|exact K8|exact K9|exact K10|exact K11); (exact rfl); (exact wz rfl))|(apply Tri.stE; (first|exact K0|exact K1|exact K2|exact K3|exact K4|exact K5|exact K6|exact K7|exact K8|exact K9|exact K10|exact K11); (exact rfl); (exact wz rfl))|(apply Tri.same; (first|exact K0|exact K1|exact K2|exact K3|exact K4|exact K5|exact K6|exact K7|exact K8|exact K9|exact K10|exact K11); (exact rfl); (exact wz rfl))|refine wq fun _ => ?_)
  refine Tri.cnd (fun hc => ?_) (fun hc => ?_)
  · have hc : i < k := by simp at hc; omega
    repeat (first|refine wa ?_|refine wb ?_|refine wc ?_|refine wd ?_|refine we ?_|refine wf ?_|refine wg ?_|refine wh rfl ?_|refine wi rfl ?_|refine wj rfl ?_|refine wk rfl ?_|refine wl rfl ?_|refine wm (by decide) ?_|refine wr ?_|refine ws ?_|refine wt ?_|(apply Tri.ldE; (first|exact K0|exact K1|exact K2|exact K3|exact K4|exact K5|exact K6|exact K7|exact K8|exact K9|exact K10|exact K11); (exact rfl); (exact wz rfl))|(apply Tri.stE; (first|exact K0|exact K1|exact K2|exact K3|exact K4|exact K5|exact K6|exact K7|exact K8|exact K9|exact K10|exact K11); (exact rfl); (exact wz rfl))|(apply Tri.same; (first|exact K0|exact K1|exact K2|exact K3|exact K4|exact K5|exact K6|exact K7|exact K8|exact K9|exact K10|exact K11); (exact rfl); (exact wz rfl))|refine wq fun _ => ?_)
    refine Tri.call (thing_spec hx) (by repeat (first|exact Picks.nil|(apply Picks.cons; (first|exact K0|exact K1|exact K2|exact K3|exact K4|exact K5|exact K6|exact K7|exact K8|exact K9|exact K10|exact K11)))) ?_
    rintro v L' ⟨rfl, rfl⟩
    simp only [List.cons_append, List.nil_append]
    repeat (first|refine wa ?_|refine wb ?_|refine wc ?_|refine wd ?_|refine we ?_|refine wf ?_|refine wg ?_|refine wh rfl ?_|refine wi rfl ?_|refine wj rfl ?_|refine wk rfl ?_|refine wl rfl ?_|refine wm (by decide) ?_|refine wr ?_|refine ws ?_|refine wt ?_|(apply Tri.ldE; (first|exact K0|exact K1|exact K2|exact K3|exact K4|exact K5|exact K6|exact K7|exact K8|exact K9|exact K10|exact K11); (exact rfl); (exact wz rfl))|(apply Tri.stE; (first|exact K0|exact K1|exact K2|exact K3|exact K4|exact K5|exact K6|exact K7|exact K8|exact K9|exact K10|exact K11); (exact rfl); (exact wz rfl))|(apply Tri.same; (first|exact K0|exact K1|exact K2|exact K3|exact K4|exact K5|exact K6|exact K7|exact K8|exact K9|exact K10|exact K11); (exact rfl); (exact wz rfl))|refine wq fun _ => ?_)
    refine Tri.ldsD (d := ⟨_, 0, 1, 1, 5⟩) (by first|exact K0|exact K1|exact K2|exact K3|exact K4|exact K5|exact K6|exact K7|exact K8|exact K9|exact K10|exact K11) rfl (Nat.le_refl _) (Nat.le_of_ble_eq_true rfl) ?_
    refine Tri.app (T := reE) (o := o7) (l := List.replicate i (rcX x)) [rcX x] (by first|exact K0|exact K1|exact K2|exact K3|exact K4|exact K5|exact K6|exact K7|exact K8|exact K9|exact K10|exact K11) rfl rfl rfl (by decide) (by decide) (by simp [appBound]; omega) fun o7' => ?_
    repeat (first|refine wa ?_|refine wb ?_|refine wc ?_|refine wd ?_|refine we ?_|refine wf ?_|refine wg ?_|refine wh rfl ?_|refine wi rfl ?_|refine wj rfl ?_|refine wk rfl ?_|refine wl rfl ?_|refine wm (by decide) ?_|refine wr ?_|refine ws ?_|refine wt ?_|(apply Tri.ldE; (first|exact K0|exact K1|exact K2|exact K3|exact K4|exact K5|exact K6|exact K7|exact K8|exact K9|exact K10|exact K11); (exact rfl); (exact wz rfl))|(apply Tri.stE; (first|exact K0|exact K1|exact K2|exact K3|exact K4|exact K5|exact K6|exact K7|exact K8|exact K9|exact K10|exact K11); (exact rfl); (exact wz rfl))|(apply Tri.same; (first|exact K0|exact K1|exact K2|exact K3|exact K4|exact K5|exact K6|exact K7|exact K8|exact K9|exact K10|exact K11); (exact rfl); (exact wz rfl))|refine wq fun _ => ?_)
    refine Tri.call (thing_spec hx) (by repeat (first|exact Picks.nil|(apply Picks.cons; (first|exact K0|exact K1|exact K2|exact K3|exact K4|exact K5|exact K6|exact K7|exact K8|exact K9|exact K10|exact K11)))) ?_
    rintro v L' ⟨rfl, rfl⟩
    simp only [List.cons_append, List.nil_append]
    repeat (first|refine wa ?_|refine wb ?_|refine wc ?_|refine wd ?_|refine we ?_|refine wf ?_|refine wg ?_|refine wh rfl ?_|refine wi rfl ?_|refine wj rfl ?_|refine wk rfl ?_|refine wl rfl ?_|refine wm (by decide) ?_|refine wr ?_|refine ws ?_|refine wt ?_|(apply Tri.ldE; (first|exact K0|exact K1|exact K2|exact K3|exact K4|exact K5|exact K6|exact K7|exact K8|exact K9|exact K10|exact K11); (exact rfl); (exact wz rfl))|(apply Tri.stE; (first|exact K0|exact K1|exact K2|exact K3|exact K4|exact K5|exact K6|exact K7|exact K8|exact K9|exact K10|exact K11); (exact rfl); (exact wz rfl))|(apply Tri.same; (first|exact K0|exact K1|exact K2|exact K3|exact K4|exact K5|exact K6|exact K7|exact K8|exact K9|exact K10|exact K11); (exact rfl); (exact wz rfl))|refine wq fun _ => ?_)
    refine Tri.ldsD (d := ⟨_, 0, 1, 1, 5⟩) (by first|exact K0|exact K1|exact K2|exact K3|exact K4|exact K5|exact K6|exact K7|exact K8|exact K9|exact K10|exact K11) rfl (Nat.le_refl _) (Nat.le_of_ble_eq_true rfl) ?_
    refine Tri.app (T := reE) (o := o8) (l := List.replicate i (rcX x)) [rcX x] (by first|exact K0|exact K1|exact K2|exact K3|exact K4|exact K5|exact K6|exact K7|exact K8|exact K9|exact K10|exact K11) rfl rfl rfl (by decide) (by decide) (by simp [appBound]; omega) fun o8' => ?_
    repeat (first|refine wa ?_|refine wb ?_|refine wc ?_|refine wd ?_|refine we ?_|refine wf ?_|refine wg ?_|refine wh rfl ?_|refine wi rfl ?_|refine wj rfl ?_|refine wk rfl ?_|refine wl rfl ?_|refine wm (by decide) ?_|refine wr ?_|refine ws ?_|refine wt ?_|(apply Tri.ldE; (first|exact K0|exact K1|exact K2|exact K3|exact K4|exact K5|exact K6|exact K7|exact K8|exact K9|exact K10|exact K11); (exact rfl); (exact wz rfl))|(apply Tri.stE; (first|exact K0|exact K1|exact K2|exact K3|exact K4|exact K5|exact K6|exact K7|exact K8|exact K9|exact K10|exact K11); (exact rfl); (exact wz rfl))|(apply Tri.same; (first|exact K0|exact K1|exact K2|exact K3|exact K4|exact K5|exact K6|exact K7|exact K8|exact K9|exact K10|exact K11); (exact rfl); (exact wz rfl))|refine wq fun _ => ?_)
    rw [← List.replicate_succ', wr_i64 (n := (i : Int) + 1) (by omega) (by omega)]
    exact Tri.back (m' := k - (i + 1)) (by omega) ⟨i + 1, o7', o8', rfl, by omega, rfl, rfl⟩ (by repeat (first|exact Sub.refl _|exact Sub.nil _|(apply Sub.cons; (first|exact K0|exact K1|exact K2|exact K3|exact K4|exact K5|exact K6|exact K7|exact K8|exact K9|exact K10|exact K11))|apply Sub.skip))
  · have hc : i = k := by simp at hc; omega
    subst hc
    refine Tri.exit (by decide) ?_
    exact Tri.sub (by repeat (first|exact Sub.refl _|exact Sub.nil _|(apply Sub.cons; (first|exact K0|exact K1|exact K2|exact K3|exact K4|exact K5|exact K6|exact K7|exact K8|exact K9|exact K10|exact K11))|apply Sub.skip)) (lim_end hr (by omega) (by omega) hb2)
theorem lim_run {n0 k0 : Int} (x : Tgn) (hn : 0 ≤ n0 ∧ n0 < 65536) (hk : 0 ≤ k0 ∧ k0 < 256) : ∃ n H1, callA Try.prog T hs n 3 [.sc (.i .u16 n0), .sc (.i .u8 k0), .ag (tgE.e x.1)] ⟨0, fun _ => none⟩ = some (.sc (.b true), H1) := by
  refine law_fin (E := E) (Try.func3 : Try.prog.funcs[3]? = some Try.f3) (t3_eq n0 k0 x.1.id x.1.st x.1.inc x.1.ip x.1.port x.1.own) ?_
  refine CallWp.mono (exW1 _) ?_
  rintro v H' ⟨rfl, h0, hn'⟩
  exact Tri.fin (lim_tri hn hk x.2) (Star.one_ h0 hn')
end Go.Proofs.Ytkhooppaenfkdaa
