/- What reach's functions come to: the library at its votes; its cells. -/
import Derived.Test.YtbgmnnfajohmaaaFwZm
import Derived.Test.YtbgmnnfajohmaaaFwZl
import Derived.Test.YtbgmnnfajohmaaaTreeA
namespace Go.Proofs.Ytbgmnnfajohmaaa
open Go Go.Proofs.Ytbgmnnfajohmaaa.Fw
set_option linter.unusedVariables false
set_option linter.unusedSimpArgs false

structure Vt where
  who : Int
  ip : Int
  port : Int
  at_ : Int
  deriving DecidableEq
def vE : Enc Vt where
  z := 4
  e t := [.i .i64 t.who, .i .u32 t.ip, .i .u16 t.port, .i .u64 t.at_]
  len _ := rfl
def boE : Enc Bool where
  z := 1
  e n := [.b n]
  len _ := rfl
def bI : BIds := ⟨56, 43, 44⟩
theorem bOk : BOk E bI where
  len64 := ⟨Try.f56, Try.func56, fun _ => by kernel_rfl⟩
  blen := ⟨Try.f43, Try.func43, fun _ => by kernel_rfl⟩
  or_ := ⟨Try.f44, Try.func44, fun _ => by kernel_rfl⟩
abbrev vD : Dec := fun l f => decL l 0 [.i .i64, .i .u32, .i .u16, .i .u64] f
def vZ : List Sc := [.i .i64 0, .i .u32 0, .i .u16 0, .i .u64 0]
def vdI : DIds := ⟨41, 31⟩
theorem vdOk : DOk E 4 vD vZ vdI where
  idxF := ⟨Try.f41, Try.func41, fun _ _ _ _ => by kernel_rfl⟩
  delF := ⟨Try.f31, Try.func31, fun _ _ _ _ => by kernel_rfl⟩
def vsI : SIds := ⟨bI, 47, 59, 48, 51, 64, 63, 62, 50, 61, 60, 49, 52, 53, 54, 42, 33⟩
theorem vsOk : SOk E 4 vD vZ vsI where
  b := bOk
  ins := ⟨Try.f47, Try.func47, fun _ _ _ _ _ _ => by kernel_rfl⟩
  sift := ⟨Try.f59, Try.func59, fun _ _ _ _ _ _ _ => by kernel_rfl⟩
  heap := ⟨Try.f48, Try.func48, fun _ _ _ _ _ _ => by kernel_rfl⟩
  rev := ⟨Try.f51, Try.func51, fun _ _ _ _ _ _ => by kernel_rfl⟩
  ord2 := ⟨Try.f64, Try.func64, fun _ _ _ _ _ _ _ _ => by kernel_rfl⟩
  med := ⟨Try.f63, Try.func63, fun _ _ _ _ _ _ _ _ _ => by kernel_rfl⟩
  medA := ⟨Try.f62, Try.func62, fun _ _ _ _ _ _ _ => by kernel_rfl⟩
  piv := ⟨Try.f50, Try.func50, fun _ _ _ _ _ _ => by kernel_rfl⟩
  xors := ⟨Try.f61, Try.func61, fun _ _ => by kernel_rfl⟩
  npow := ⟨Try.f60, Try.func60, fun _ => by kernel_rfl⟩
  brk := ⟨Try.f49, Try.func49, fun _ _ _ _ _ _ => by kernel_rfl⟩
  pins := ⟨Try.f52, Try.func52, fun _ _ _ _ _ _ => by kernel_rfl⟩
  peq := ⟨Try.f53, Try.func53, fun _ _ _ _ _ _ _ => by kernel_rfl⟩
  part := ⟨Try.f54, Try.func54, fun _ _ _ _ _ _ _ => by kernel_rfl⟩
  pdq := ⟨Try.f42, Try.func42, fun _ _ _ _ _ _ _ => by kernel_rfl⟩
  sortF := ⟨Try.f33, Try.func33, fun _ _ _ _ => by kernel_rfl⟩
theorem velOk : ElOk E vE 4 vD vZ := ⟨rfl, rfl, decOk fun a => ⟨_, _, rfl, ⟨_, rfl⟩, _, _, rfl, ⟨_, rfl⟩, _, _, rfl, ⟨_, rfl⟩, _, _, rfl, ⟨_, rfl⟩, rfl⟩⟩

theorem vSort : SortOk E vE 33 999 := sort_full vsOk velOk
theorem nan57 {a : Int} : FSpec E 57 [.sc (.i .u32 a)] [] (fun v L' => v = .sc (.b false) ∧ L' = []) := by
  refine FSpec.of (Try.func57 : Try.prog.funcs[57]? = some Try.f57) (t57_eq _) fun F => ?_
  exact Tri.retF ⟨by simp, rfl⟩ (Sub.refl _)
theorem nan58 {a : Int} : FSpec E 58 [.sc (.i .u16 a)] [] (fun v L' => v = .sc (.b false) ∧ L' = []) := by
  refine FSpec.of (Try.func58 : Try.prog.funcs[58]? = some Try.f58) (t58_eq _) fun F => ?_
  exact Tri.retF ⟨by simp, rfl⟩ (Sub.refl _)
theorem cmp45 {a b : Int} : FSpec E 45 [.sc (.i .u32 a), .sc (.i .u32 b)] [] (fun v L' => v = .sc (.i .i64 (cmpI a b)) ∧ L' = []) := by
  refine FSpec.of (Try.func45 : Try.prog.funcs[45]? = some Try.f45) (t45_eq _ _) fun F => ?_
  unfold t45
  refine Tri.call nan57 (by repeat (first|exact Picks.nil|(apply Picks.cons; (first|exact K0|exact K1|exact K2|exact K3|exact K4|exact K5|exact K6|exact K7|exact K8|exact K9|exact K10|exact K11)))) ?_
  rintro v L' ⟨rfl, rfl⟩
  simp only [List.cons_append, List.nil_append]
  repeat (first|refine wa ?_|refine wb ?_|refine wc ?_|refine wd ?_|refine we ?_|refine wf ?_|refine wg ?_|refine wh rfl ?_|refine wi rfl ?_|refine wj rfl ?_|refine wk rfl ?_|refine wl rfl ?_|refine wm (by decide) ?_|refine wn ?_|refine wo ?_|refine wp (by decide) ?_|(apply Tri.ldE; (first|exact K0|exact K1|exact K2|exact K3|exact K4|exact K5|exact K6|exact K7|exact K8|exact K9|exact K10|exact K11); (exact rfl); (exact wz rfl))|(apply Tri.stE; (first|exact K0|exact K1|exact K2|exact K3|exact K4|exact K5|exact K6|exact K7|exact K8|exact K9|exact K10|exact K11); (exact rfl); (exact wz rfl))|(apply Tri.same; (first|exact K0|exact K1|exact K2|exact K3|exact K4|exact K5|exact K6|exact K7|exact K8|exact K9|exact K10|exact K11); (exact rfl); (exact wz rfl))|refine wq fun _ => ?_)
  refine Tri.call nan57 (by repeat (first|exact Picks.nil|(apply Picks.cons; (first|exact K0|exact K1|exact K2|exact K3|exact K4|exact K5|exact K6|exact K7|exact K8|exact K9|exact K10|exact K11)))) ?_
  rintro v L' ⟨rfl, rfl⟩
  simp only [List.cons_append, List.nil_append]
  repeat (first|refine wa ?_|refine wb ?_|refine wc ?_|refine wd ?_|refine we ?_|refine wf ?_|refine wg ?_|refine wh rfl ?_|refine wi rfl ?_|refine wj rfl ?_|refine wk rfl ?_|refine wl rfl ?_|refine wm (by decide) ?_|refine wn ?_|refine wo ?_|refine wp (by decide) ?_|(apply Tri.ldE; (first|exact K0|exact K1|exact K2|exact K3|exact K4|exact K5|exact K6|exact K7|exact K8|exact K9|exact K10|exact K11); (exact rfl); (exact wz rfl))|(apply Tri.stE; (first|exact K0|exact K1|exact K2|exact K3|exact K4|exact K5|exact K6|exact K7|exact K8|exact K9|exact K10|exact K11); (exact rfl); (exact wz rfl))|(apply Tri.same; (first|exact K0|exact K1|exact K2|exact K3|exact K4|exact K5|exact K6|exact K7|exact K8|exact K9|exact K10|exact K11); (exact rfl); (exact wz rfl))|refine wq fun _ => ?_)
  refine Tri.cndF rfl ?_
  refine Tri.cndF rfl ?_
  refine Tri.cnd (fun h1 => ?_) (fun h1 => ?_)
  · exact Tri.retF ⟨by simp at h1; simp [cmpI, h1], rfl⟩ (Sub.refl _)
  refine Tri.cnd (fun h2 => ?_) (fun h2 => ?_)
  · exact Tri.retF ⟨by simp at h1 h2; simp [cmpI, h2, Int.not_lt.2 h1], rfl⟩ (Sub.refl _)
  · exact Tri.retF ⟨by simp at h1 h2; simp [cmpI, Int.not_lt.2 h1, Int.not_lt.2 h2], rfl⟩ (Sub.refl _)
theorem cmp46 {a b : Int} : FSpec E 46 [.sc (.i .u16 a), .sc (.i .u16 b)] [] (fun v L' => v = .sc (.i .i64 (cmpI a b)) ∧ L' = []) := by
  refine FSpec.of (Try.func46 : Try.prog.funcs[46]? = some Try.f46) (t46_eq _ _) fun F => ?_
  unfold t46
  refine Tri.call nan58 (by repeat (first|exact Picks.nil|(apply Picks.cons; (first|exact K0|exact K1|exact K2|exact K3|exact K4|exact K5|exact K6|exact K7|exact K8|exact K9|exact K10|exact K11)))) ?_
  rintro v L' ⟨rfl, rfl⟩
  simp only [List.cons_append, List.nil_append]
  repeat (first|refine wa ?_|refine wb ?_|refine wc ?_|refine wd ?_|refine we ?_|refine wf ?_|refine wg ?_|refine wh rfl ?_|refine wi rfl ?_|refine wj rfl ?_|refine wk rfl ?_|refine wl rfl ?_|refine wm (by decide) ?_|refine wn ?_|refine wo ?_|refine wp (by decide) ?_|(apply Tri.ldE; (first|exact K0|exact K1|exact K2|exact K3|exact K4|exact K5|exact K6|exact K7|exact K8|exact K9|exact K10|exact K11); (exact rfl); (exact wz rfl))|(apply Tri.stE; (first|exact K0|exact K1|exact K2|exact K3|exact K4|exact K5|exact K6|exact K7|exact K8|exact K9|exact K10|exact K11); (exact rfl); (exact wz rfl))|(apply Tri.same; (first|exact K0|exact K1|exact K2|exact K3|exact K4|exact K5|exact K6|exact K7|exact K8|exact K9|exact K10|exact K11); (exact rfl); (exact wz rfl))|refine wq fun _ => ?_)
  refine Tri.call nan58 (by repeat (first|exact Picks.nil|(apply Picks.cons; (first|exact K0|exact K1|exact K2|exact K3|exact K4|exact K5|exact K6|exact K7|exact K8|exact K9|exact K10|exact K11)))) ?_
  rintro v L' ⟨rfl, rfl⟩
  simp only [List.cons_append, List.nil_append]
  repeat (first|refine wa ?_|refine wb ?_|refine wc ?_|refine wd ?_|refine we ?_|refine wf ?_|refine wg ?_|refine wh rfl ?_|refine wi rfl ?_|refine wj rfl ?_|refine wk rfl ?_|refine wl rfl ?_|refine wm (by decide) ?_|refine wn ?_|refine wo ?_|refine wp (by decide) ?_|(apply Tri.ldE; (first|exact K0|exact K1|exact K2|exact K3|exact K4|exact K5|exact K6|exact K7|exact K8|exact K9|exact K10|exact K11); (exact rfl); (exact wz rfl))|(apply Tri.stE; (first|exact K0|exact K1|exact K2|exact K3|exact K4|exact K5|exact K6|exact K7|exact K8|exact K9|exact K10|exact K11); (exact rfl); (exact wz rfl))|(apply Tri.same; (first|exact K0|exact K1|exact K2|exact K3|exact K4|exact K5|exact K6|exact K7|exact K8|exact K9|exact K10|exact K11); (exact rfl); (exact wz rfl))|refine wq fun _ => ?_)
  refine Tri.cndF rfl ?_
  refine Tri.cndF rfl ?_
  refine Tri.cnd (fun h1 => ?_) (fun h1 => ?_)
  · exact Tri.retF ⟨by simp at h1; simp [cmpI, h1], rfl⟩ (Sub.refl _)
  refine Tri.cnd (fun h2 => ?_) (fun h2 => ?_)
  · exact Tri.retF ⟨by simp at h1 h2; simp [cmpI, h2, Int.not_lt.2 h1], rfl⟩ (Sub.refl _)
  · exact Tri.retF ⟨by simp at h1 h2; simp [cmpI, Int.not_lt.2 h1, Int.not_lt.2 h2], rfl⟩ (Sub.refl _)
def ordA (ip port ip' port' : Int) : Int := orI [cmpI ip ip', cmpI port port']
theorem ordA_spec {a b c d : Int} : FSpec E 35 [.ag [.i .u32 a, .i .u16 b], .ag [.i .u32 c, .i .u16 d]] [] (fun v L' => v = .sc (.i .i64 (ordA a b c d)) ∧ L' = []) := by
  refine FSpec.of (Try.func35 : Try.prog.funcs[35]? = some Try.f35) (t35_eq _ _ _ _) fun F => ?_
  unfold t35
  repeat (first|refine wa ?_|refine wb ?_|refine wc ?_|refine wd ?_|refine we ?_|refine wf ?_|refine wg ?_|refine wh rfl ?_|refine wi rfl ?_|refine wj rfl ?_|refine wk rfl ?_|refine wl rfl ?_|refine wm (by decide) ?_|refine wn ?_|refine wo ?_|refine wp (by decide) ?_|(apply Tri.ldE; (first|exact K0|exact K1|exact K2|exact K3|exact K4|exact K5|exact K6|exact K7|exact K8|exact K9|exact K10|exact K11); (exact rfl); (exact wz rfl))|(apply Tri.stE; (first|exact K0|exact K1|exact K2|exact K3|exact K4|exact K5|exact K6|exact K7|exact K8|exact K9|exact K10|exact K11); (exact rfl); (exact wz rfl))|(apply Tri.same; (first|exact K0|exact K1|exact K2|exact K3|exact K4|exact K5|exact K6|exact K7|exact K8|exact K9|exact K10|exact K11); (exact rfl); (exact wz rfl))|refine wq fun _ => ?_)
  refine Tri.call cmp45 (by repeat (first|exact Picks.nil|(apply Picks.cons; (first|exact K0|exact K1|exact K2|exact K3|exact K4|exact K5|exact K6|exact K7|exact K8|exact K9|exact K10|exact K11)))) ?_
  rintro v L' ⟨rfl, rfl⟩
  simp only [List.cons_append, List.nil_append]
  repeat (first|refine wa ?_|refine wb ?_|refine wc ?_|refine wd ?_|refine we ?_|refine wf ?_|refine wg ?_|refine wh rfl ?_|refine wi rfl ?_|refine wj rfl ?_|refine wk rfl ?_|refine wl rfl ?_|refine wm (by decide) ?_|refine wn ?_|refine wo ?_|refine wp (by decide) ?_|(apply Tri.ldE; (first|exact K0|exact K1|exact K2|exact K3|exact K4|exact K5|exact K6|exact K7|exact K8|exact K9|exact K10|exact K11); (exact rfl); (exact wz rfl))|(apply Tri.stE; (first|exact K0|exact K1|exact K2|exact K3|exact K4|exact K5|exact K6|exact K7|exact K8|exact K9|exact K10|exact K11); (exact rfl); (exact wz rfl))|(apply Tri.same; (first|exact K0|exact K1|exact K2|exact K3|exact K4|exact K5|exact K6|exact K7|exact K8|exact K9|exact K10|exact K11); (exact rfl); (exact wz rfl))|refine wq fun _ => ?_)
  refine Tri.call cmp46 (by repeat (first|exact Picks.nil|(apply Picks.cons; (first|exact K0|exact K1|exact K2|exact K3|exact K4|exact K5|exact K6|exact K7|exact K8|exact K9|exact K10|exact K11)))) ?_
  rintro v L' ⟨rfl, rfl⟩
  simp only [List.cons_append, List.nil_append]
  repeat (first|refine wa ?_|refine wb ?_|refine wc ?_|refine wd ?_|refine we ?_|refine wf ?_|refine wg ?_|refine wh rfl ?_|refine wi rfl ?_|refine wj rfl ?_|refine wk rfl ?_|refine wl rfl ?_|refine wm (by decide) ?_|refine wn ?_|refine wo ?_|refine wp (by decide) ?_|(apply Tri.ldE; (first|exact K0|exact K1|exact K2|exact K3|exact K4|exact K5|exact K6|exact K7|exact K8|exact K9|exact K10|exact K11); (exact rfl); (exact wz rfl))|(apply Tri.stE; (first|exact K0|exact K1|exact K2|exact K3|exact K4|exact K5|exact K6|exact K7|exact K8|exact K9|exact K10|exact K11); (exact rfl); (exact wz rfl))|(apply Tri.same; (first|exact K0|exact K1|exact K2|exact K3|exact K4|exact K5|exact K6|exact K7|exact K8|exact K9|exact K10|exact K11); (exact rfl); (exact wz rfl))|refine wq fun _ => ?_)
  refine Tri.mkS (T := i64E) (ro := false) (d := ⟨_, 0, 2, 2, 1⟩) (l := [_, _]) (by first|exact K0|exact K1|exact K2|exact K3|exact K4|exact K5|exact K6|exact K7|exact K8|exact K9|exact K10|exact K11) (SlOk.mk' rfl (Nat.le_refl _) (Nat.le_refl _) rfl) ?_
  refine Tri.call (or_spec bOk (l := [_, _]) (Nat.le_of_ble_eq_true rfl)) (by repeat (first|exact Picks.nil|(apply Picks.cons; (first|exact K0|exact K1|exact K2|exact K3|exact K4|exact K5|exact K6|exact K7|exact K8|exact K9|exact K10|exact K11)))) ?_
  rintro v L' ⟨rfl, rfl⟩
  simp only [List.cons_append, List.nil_append]
  repeat (first|refine wa ?_|refine wb ?_|refine wc ?_|refine wd ?_|refine we ?_|refine wf ?_|refine wg ?_|refine wh rfl ?_|refine wi rfl ?_|refine wj rfl ?_|refine wk rfl ?_|refine wl rfl ?_|refine wm (by decide) ?_|refine wn ?_|refine wo ?_|refine wp (by decide) ?_|(apply Tri.ldE; (first|exact K0|exact K1|exact K2|exact K3|exact K4|exact K5|exact K6|exact K7|exact K8|exact K9|exact K10|exact K11); (exact rfl); (exact wz rfl))|(apply Tri.stE; (first|exact K0|exact K1|exact K2|exact K3|exact K4|exact K5|exact K6|exact K7|exact K8|exact K9|exact K10|exact K11); (exact rfl); (exact wz rfl))|(apply Tri.same; (first|exact K0|exact K1|exact K2|exact K3|exact K4|exact K5|exact K6|exact K7|exact K8|exact K9|exact K10|exact K11); (exact rfl); (exact wz rfl))|refine wq fun _ => ?_)
  exact Tri.retF ⟨rfl, rfl⟩ (by repeat (first|exact Sub.refl _|exact Sub.nil _|(apply Sub.cons; (first|exact K0|exact K1|exact K2|exact K3|exact K4|exact K5|exact K6|exact K7|exact K8|exact K9|exact K10|exact K11))|apply Sub.skip))
theorem or2_neg {a b c d : Int} : orI [cmpI a b, cmpI c d] < 0 ↔ a < b ∨ a = b ∧ c < d := by
  unfold orI cmpI
  by_cases h1 : a < b
  · simp [h1]
  · by_cases h2 : b < a
    · simp [h1, h2]; omega
    · have : a = b := by omega
      subst this
      by_cases h3 : c < d
      · simp [h3]
      · by_cases h4 : d < c
        · simp [h3, h4]
        · simp [h3, h4]
def noneB (ip port : Int) : Bool := ip == 0 || port == 0
theorem none_spec {ip port : Int} : FSpec E 17 [.ag [.i .u32 ip, .i .u16 port]] [] (fun v L' => v = .sc (.b (noneB ip port)) ∧ L' = []) := by
  refine FSpec.of (Try.func17 : Try.prog.funcs[17]? = some Try.f17) (t17_eq _ _) fun F => ?_
  unfold t17
  repeat (first|refine wa ?_|refine wb ?_|refine wc ?_|refine wd ?_|refine we ?_|refine wf ?_|refine wg ?_|refine wh rfl ?_|refine wi rfl ?_|refine wj rfl ?_|refine wk rfl ?_|refine wl rfl ?_|refine wm (by decide) ?_|refine wn ?_|refine wo ?_|refine wp (by decide) ?_|(apply Tri.ldE; (first|exact K0|exact K1|exact K2|exact K3|exact K4|exact K5|exact K6|exact K7|exact K8|exact K9|exact K10|exact K11); (exact rfl); (exact wz rfl))|(apply Tri.stE; (first|exact K0|exact K1|exact K2|exact K3|exact K4|exact K5|exact K6|exact K7|exact K8|exact K9|exact K10|exact K11); (exact rfl); (exact wz rfl))|(apply Tri.same; (first|exact K0|exact K1|exact K2|exact K3|exact K4|exact K5|exact K6|exact K7|exact K8|exact K9|exact K10|exact K11); (exact rfl); (exact wz rfl))|refine wq fun _ => ?_)
  refine Tri.cnd (fun h => ?_) (fun h => ?_)
  · exact Tri.retF ⟨by simp [noneB, h], rfl⟩ (by repeat (first|exact Sub.refl _|exact Sub.nil _|(apply Sub.cons; (first|exact K0|exact K1|exact K2|exact K3|exact K4|exact K5|exact K6|exact K7|exact K8|exact K9|exact K10|exact K11))|apply Sub.skip))
  · repeat (first|refine wa ?_|refine wb ?_|refine wc ?_|refine wd ?_|refine we ?_|refine wf ?_|refine wg ?_|refine wh rfl ?_|refine wi rfl ?_|refine wj rfl ?_|refine wk rfl ?_|refine wl rfl ?_|refine wm (by decide) ?_|refine wn ?_|refine wo ?_|refine wp (by decide) ?_|(apply Tri.ldE; (first|exact K0|exact K1|exact K2|exact K3|exact K4|exact K5|exact K6|exact K7|exact K8|exact K9|exact K10|exact K11); (exact rfl); (exact wz rfl))|(apply Tri.stE; (first|exact K0|exact K1|exact K2|exact K3|exact K4|exact K5|exact K6|exact K7|exact K8|exact K9|exact K10|exact K11); (exact rfl); (exact wz rfl))|(apply Tri.same; (first|exact K0|exact K1|exact K2|exact K3|exact K4|exact K5|exact K6|exact K7|exact K8|exact K9|exact K10|exact K11); (exact rfl); (exact wz rfl))|refine wq fun _ => ?_)
    exact Tri.retF ⟨by simp [noneB, h], rfl⟩ (by repeat (first|exact Sub.refl _|exact Sub.nil _|(apply Sub.cons; (first|exact K0|exact K1|exact K2|exact K3|exact K4|exact K5|exact K6|exact K7|exact K8|exact K9|exact K10|exact K11))|apply Sub.skip))
/-- votes by their addresses -/
def vlt (a b : Vt) : Prop := a.ip < b.ip ∨ a.ip = b.ip ∧ a.port < b.port
theorem vlt_ord : Ord vlt := ⟨fun a => by unfold vlt; omega, fun {a b c} h h' => by unfold vlt at *; omega, fun {a b c} h h' => by unfold vlt at *; omega⟩
theorem cmpV : IsCmp E vE 34 [] [] vlt := by
  intro a b
  refine FSpec.of (Try.func34 : Try.prog.funcs[34]? = some Try.f34) (t34_eq _ _ _ _ _ _ _ _) fun F => ?_
  unfold t34
  repeat (first|refine wa ?_|refine wb ?_|refine wc ?_|refine wd ?_|refine we ?_|refine wf ?_|refine wg ?_|refine wh rfl ?_|refine wi rfl ?_|refine wj rfl ?_|refine wk rfl ?_|refine wl rfl ?_|refine wm (by decide) ?_|refine wn ?_|refine wo ?_|refine wp (by decide) ?_|(apply Tri.ldE; (first|exact K0|exact K1|exact K2|exact K3|exact K4|exact K5|exact K6|exact K7|exact K8|exact K9|exact K10|exact K11); (exact rfl); (exact wz rfl))|(apply Tri.stE; (first|exact K0|exact K1|exact K2|exact K3|exact K4|exact K5|exact K6|exact K7|exact K8|exact K9|exact K10|exact K11); (exact rfl); (exact wz rfl))|(apply Tri.same; (first|exact K0|exact K1|exact K2|exact K3|exact K4|exact K5|exact K6|exact K7|exact K8|exact K9|exact K10|exact K11); (exact rfl); (exact wz rfl))|refine wq fun _ => ?_)
  refine Tri.call ordA_spec (by repeat (first|exact Picks.nil|(apply Picks.cons; (first|exact K0|exact K1|exact K2|exact K3|exact K4|exact K5|exact K6|exact K7|exact K8|exact K9|exact K10|exact K11)))) ?_
  rintro v L' ⟨rfl, rfl⟩
  simp only [List.cons_append, List.nil_append]
  repeat (first|refine wa ?_|refine wb ?_|refine wc ?_|refine wd ?_|refine we ?_|refine wf ?_|refine wg ?_|refine wh rfl ?_|refine wi rfl ?_|refine wj rfl ?_|refine wk rfl ?_|refine wl rfl ?_|refine wm (by decide) ?_|refine wn ?_|refine wo ?_|refine wp (by decide) ?_|(apply Tri.ldE; (first|exact K0|exact K1|exact K2|exact K3|exact K4|exact K5|exact K6|exact K7|exact K8|exact K9|exact K10|exact K11); (exact rfl); (exact wz rfl))|(apply Tri.stE; (first|exact K0|exact K1|exact K2|exact K3|exact K4|exact K5|exact K6|exact K7|exact K8|exact K9|exact K10|exact K11); (exact rfl); (exact wz rfl))|(apply Tri.same; (first|exact K0|exact K1|exact K2|exact K3|exact K4|exact K5|exact K6|exact K7|exact K8|exact K9|exact K10|exact K11); (exact rfl); (exact wz rfl))|refine wq fun _ => ?_)
  exact Tri.retF ⟨_, rfl, or2_neg, rfl⟩ (by repeat (first|exact Sub.refl _|exact Sub.nil _|(apply Sub.cons; (first|exact K0|exact K1|exact K2|exact K3|exact K4|exact K5|exact K6|exact K7|exact K8|exact K9|exact K10|exact K11))|apply Sub.skip))

structure Rs where
  rounds : Int
  hold : Int
  V : List Vt
  past : List Bool
  on : Bool
  seq : Int
  got : Bool
def rs0 (rounds hold : Int) : Rs := ⟨rounds, hold, List.replicate 33 ⟨0, 0, 0, 0⟩, [], false, 0, false⟩
def reC (s : Rs) (o : Option SlD) : List Sc := ([.i .i64 s.rounds, .i .u64 s.hold] ++ vE.all s.V) ++ [.sl o, .b s.on, .i .u32 s.seq, .b s.got]
theorem re_lo {s : Rs} (h : s.V.length = 33) : ([Sc.i .i64 s.rounds, Sc.i .u64 s.hold] ++ vE.all s.V).length = 134 := by
  rw [List.length_append, Enc.all_length, h]; rfl
theorem re_len {s : Rs} {o : Option SlD} (h : s.V.length = 33) : (reC s o).length = 138 := by
  unfold reC; rw [List.length_append, re_lo h]; rfl
theorem hi_rd {s : Rs} {o : Option SlD} (h : s.V.length = 33) (k : Nat) : ((reC s o).drop (134 + k)).take 1 = ([Sc.sl o, .b s.on, .i .u32 s.seq, .b s.got].drop k).take 1 := by
  unfold reC; rw [drop_pre (re_lo h)]
theorem hi_st {s : Rs} {o : Option SlD} (h : s.V.length = 33) (k : Nat) (v : Sc) : (reC s o).take (134 + k) ++ [v] ++ (reC s o).drop (134 + k + 1) = ([.i .i64 s.rounds, .i .u64 s.hold] ++ vE.all s.V) ++ ([Sc.sl o, .b s.on, .i .u32 s.seq, .b s.got].take k ++ [v] ++ [Sc.sl o, .b s.on, .i .u32 s.seq, .b s.got].drop (k + 1)) := by
  unfold reC
  rw [take_pre (re_lo h), Nat.add_assoc, drop_pre (re_lo h)]; simp only [List.append_assoc]
section
variable {p : Nat} {s : Rs} {o : Option SlD} {L R : List Assn} {Q : Post} {f : List Sc → Tree} {t : Tree}
theorem ld_rounds (pk : Pick L (pt p (reC s o)) R) (h : Tri E L (f [.i .i64 s.rounds]) Q) : Tri E L (.ld p (0 + 0) 1 f) Q := Tri.ldE pk rfl (by simp [reC]) h
theorem ld_hold (pk : Pick L (pt p (reC s o)) R) (h : Tri E L (f [.i .u64 s.hold]) Q) : Tri E L (.ld p (0 + 1) 1 f) Q := Tri.ldE pk rfl (by simp [reC]) h
theorem ld_past (pk : Pick L (pt p (reC s o)) R) (hV : s.V.length = 33) (h : Tri E L (f [.sl o]) Q) : Tri E L (.ld p (0 + 134) 1 f) Q := Tri.ldE pk (hi_rd hV 0) (by rw [re_len hV]; decide) h
theorem ld_on (pk : Pick L (pt p (reC s o)) R) (hV : s.V.length = 33) (h : Tri E L (f [.b s.on]) Q) : Tri E L (.ld p (0 + 135) 1 f) Q := Tri.ldE pk (hi_rd hV 1) (by rw [re_len hV]; decide) h
theorem ld_seq (pk : Pick L (pt p (reC s o)) R) (hV : s.V.length = 33) (h : Tri E L (f [.i .u32 s.seq]) Q) : Tri E L (.ld p (0 + 136) 1 f) Q := Tri.ldE pk (hi_rd hV 2) (by rw [re_len hV]; decide) h
theorem ld_got (pk : Pick L (pt p (reC s o)) R) (hV : s.V.length = 33) (h : Tri E L (f [.b s.got]) Q) : Tri E L (.ld p (0 + 137) 1 f) Q := Tri.ldE pk (hi_rd hV 3) (by rw [re_len hV]; decide) h
theorem st_past {o' : Option SlD} (pk : Pick L (pt p (reC s o)) R) (hV : s.V.length = 33) (h : Tri E (pt p (reC s o') :: R) t Q) : Tri E L (.st p (0 + 134) [.sl o'] t) Q := Tri.stE pk (hi_st hV 0 _) (by rw [re_len hV]; exact wz rfl) h
theorem st_on {b : Bool} (pk : Pick L (pt p (reC s o)) R) (hV : s.V.length = 33) (h : Tri E (pt p (reC { s with on := b } o) :: R) t Q) : Tri E L (.st p (0 + 135) [.b b] t) Q := Tri.stE pk (hi_st hV 1 _) (by rw [re_len hV]; exact wz rfl) h
theorem st_seq {n : Int} (pk : Pick L (pt p (reC s o)) R) (hV : s.V.length = 33) (h : Tri E (pt p (reC { s with seq := n } o) :: R) t Q) : Tri E L (.st p (0 + 136) [.i .u32 n] t) Q := Tri.stE pk (hi_st hV 2 _) (by rw [re_len hV]; exact wz rfl) h
theorem st_got {b : Bool} (pk : Pick L (pt p (reC s o)) R) (hV : s.V.length = 33) (h : Tri E (pt p (reC { s with got := b } o) :: R) t Q) : Tri E L (.st p (0 + 137) [.b b] t) Q := Tri.stE pk (hi_st hV 3 _) (by rw [re_len hV]; exact wz rfl) h
def Re (p : Nat) (s : Rs) : Assn := .ex fun o => .sep (pt p (reC s o)) (.sl false boE o s.past)
theorem Re.op (pk : Pick L (Re p s) R)
    (h : ∀ o, slN o = s.past.length → slLen o = (s.past.length : Int) → Tri E (pt p (reC s o) :: .sl false boE o s.past :: R) t Q) : Tri E L t Q := by
  refine Tri.ex (A := fun o => .sep (pt p (reC s o)) (.sl false boE o s.past)) pk fun o => ?_
  refine Tri.sep (by first|exact K0|exact K1|exact K2|exact K3|exact K4|exact K5|exact K6|exact K7|exact K8|exact K9|exact K10|exact K11) ?_
  refine Tri.slLen (l := s.past) (o := o) (ro := false) (T := boE) (by first|exact K0|exact K1|exact K2|exact K3|exact K4|exact K5|exact K6|exact K7|exact K8|exact K9|exact K10|exact K11) fun e1 e2 => h o e1 e2
theorem Re.mk {R' : List Assn} (pk : Pick L (pt p (reC s o)) R) (pk' : Pick R (.sl false boE o s.past) R') (h : Tri E (Re p s :: R') t Q) : Tri E L t Q :=
  Tri.mkSep pk pk' (Tri.mkEx (A := fun o => .sep (pt p (reC s o)) (.sl false boE o s.past)) o Pick.here h)
end
end Go.Proofs.Ytbgmnnfajohmaaa
