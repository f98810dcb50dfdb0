/- NodeRelays, whole: the run up to the node's making is known part by part; then by rules. -/
import Derived.Test.YtpbhfolaoccpkaaGreatNU
import Derived.Test.YtpbhfolaoccpkaaGreatEX
import Derived.Test.YtpbhfolaoccpkaaGreatRX
namespace Go.Proofs.YtpbhfolaoccpkaaGreat
open Go Go.Proofs.YtpbhfolaoccpkaaGreat.Fw
set_option linter.unusedVariables false
set_option linter.unusedSimpArgs false
set_option maxRecDepth 100000
theorem SubH_al {n : Nat} {l : List (Nat × AO)} {G : AH} {o : AO} (s : SubH (ofL n l).rep G) (hn : n ≤ htMax) : G.next = n ∧ SubH (ofL (n + 1) ((n, o) :: l)).rep (G.new o) := by
  refine ⟨s.1.symm, ?_⟩
  have e : (ofL n l).new o = some (ofL (n + 1) ((n, o) :: l)) := by unfold HT.new ofL; rw [if_pos hn]; rfl
  have g := s.new o
  rw [HT.new_rep e] at g
  exact g
def stB (n : Nat) (l : List (Nat × AO)) (id off : Nat) (vs : List Sc) (l' : List (Nat × AO)) : Bool := match (ofL n l).wr id off vs with
  | some h' => decide (n = h'.next) && subL l' h'.t
  | none => false
theorem SubH_st {n : Nat} {l l' : List (Nat × AO)} {G : AH} {id off : Nat} {vs : List Sc} (s : SubH (ofL n l).rep G) (hb : stB n l id off vs l' = true) : ∃ G', G.wr id off vs = some G' ∧ SubH (ofL n l').rep G' := by
  unfold stB at hb
  split at hb
  · rename_i h' e
    simp only [Bool.and_eq_true, decide_eq_true_eq] at hb
    obtain ⟨G', g1, g2⟩ := s.wr (HT.wr_rep e)
    exact ⟨G', g1, (subL_sub hb.2 hb.1).trans g2⟩
  · cases hb
theorem SubH_ld {n : Nat} {l : List (Nat × AO)} {G : AH} {id off m : Nat} {r : List Sc} (s : SubH (ofL n l).rep G) (h : (ofL n l).rd id off m = some r) : G.rd id off m = some r := s.rd (show (ofL n l).rep.rd id off m = some r from h)
theorem SubH_at {n : Nat} {l : List (Nat × AO)} {G : AH} {id : Nat} {o : AO} (s : SubH (ofL n l).rep G) (h : (ofL n l).t.get id = some o) (hn : id < n) : G.obj id = some o ∧ id < G.next := ⟨s.2 id o h, by rw [← s.1]; exact hn⟩
theorem Star4 {H : AH} {a b c d : Nat} {oa ob oc od : AO} (ha : H.obj a = some oa ∧ a < H.next) (hb : H.obj b = some ob ∧ b < H.next) (hc : H.obj c = some oc ∧ c < H.next) (hd : H.obj d = some od ∧ d < H.next)
    (h1 : b ≠ a) (h2 : c ≠ a) (h3 : c ≠ b) (h4 : d ≠ a) (h5 : d ≠ b) (h6 : d ≠ c) : Star H [.ob a oa, .ob b ob, .ob c oc, .ob d od] := by
  have st : ∀ {U : Nat → Prop} {i : Nat} {o : AO} {L : List Assn}, (H.obj i = some o ∧ i < H.next) → ¬ U i → StarU H (fun j => U j ∨ j = i) L → StarU H U (.ob i o :: L) := by
    intro U i o L hi hu hL
    refine ⟨one i o, rfl, fun j x hj => ?_, StarU.weak (fun j hj => ?_) hL⟩
    · simp only [one] at hj
      split at hj
      · rename_i e; cases hj; subst e; exact ⟨hi.1, hi.2, hu⟩
      · cases hj
    · rcases hj with hj | hj
      · exact .inl hj
      · refine .inr ?_
        simp only [one] at hj
        split at hj
        · assumption
        · exact absurd rfl hj
  refine st ha (fun h => h) (st hb ?_ (st hc ?_ (st hd ?_ trivial)))
  · rintro (h | h)
    · exact h
    · exact h1 h
  · rintro ((h | h) | h)
    · exact h
    · exact h2 h
    · exact h3 h
  · rintro (((h | h) | h) | h)
    · exact h
    · exact h4 h
    · exact h5 h
    · exact h6 h
/-- the paths' cells -/
def psC : List Sc := match Ro9 with | .cells _ l => l | _ => []
theorem psC_ok : (psC.drop (0 + 4 + 9 * 7 + 1)).take 1 = [.i .i64 0] ∧ psC.length = 235 := by constructor <;> kernel_rfl
theorem end_ok {x : ByteArray} {n : Int} {l b : Bool} {G : AH} {m : Nat} {L : List (Nat × AO)} (hn : 0 ≤ n ∧ n < 256) (s : SubH (ofL m L).rep G) (hm : 1189 < m)
    (h1 : (ofL m L).t.get 1173 = some (.cells false (nC 1177 1179 none 0))) (h2 : (ofL m L).t.get 1177 = some (.cells false (tbC 8 9 (gV l)))) (h3 : (ofL m L).t.get 1179 = some (.cells false psC)) (h4 : (ofL m L).t.get 1189 = some (.cells false [.i .u32 55, .i .u16 5])) :
    Wp E (t5_k18 0 [.sc (.s x), .sc (.i .u8 n), .sc (.b l), .sc (.b b), .sc (.b true), .sc (.p (some (1173, 0))), .sc (.p (some (1189, 0))), .sc (.i .i64 (if l then 1 else 0))]) G WT :=
  Tri.fin (core1 hn psC_ok.1 psC_ok.2) (Star4 (SubH_at s h1 (by omega)) (SubH_at s h2 (by omega)) (SubH_at s h3 (by omega)) (SubH_at s h4 (by omega)) (by decide) (by decide) (by decide) (by decide) (by decide) (by decide))
end Go.Proofs.YtpbhfolaoccpkaaGreat
namespace Go.Proofs.YtpbhfolaoccpkaaGreat
open Go Go.Proofs.YtpbhfolaoccpkaaGreat.Fw
set_option linter.unusedVariables false
set_option linter.unusedSimpArgs false
set_option maxRecDepth 100000
theorem n5ok : stB 1190 ((1189, .cells false [.i .u32 0, .i .u16 0]) :: R2.l1) 1189 0 [.i .u32 55, .i .u16 5] R3.l0 = true := by kernel_rfl
theorem relays_run (x : ByteArray) {n : Int} (hn : 0 ≤ n ∧ n < 256) (l b : Bool) : ∃ m H1, callA E.P E.T E.hs m 5 [.sc (.s x), .sc (.i .u8 n), .sc (.b l), .sc (.b b)] ⟨0, fun _ => none⟩ = some (.sc (.b true), H1) := by
  refine law_fin (Tryz.func5 : Tryz.prog.funcs[5]? = some Tryz.f5) (t5_eq x n l b) ?_
  unfold t5
  refine Fact.call (x := exF) exF_ok (G := ⟨0, fun _ => none⟩) ⟨rfl, fun i o h => by cases h⟩ fun G1 s1 => ?_
  have a1 := SubH_al (o := .cells false [.i .i64 1, .i .u32 1, .i .u16 7, .cx .f64 0 0]) s1 (by decide)
  refine ⟨true, rfl, ?_⟩
  show Wp E (.al [.i .i64 1, .i .u32 1, .i .u16 7, .cx .f64 0 0] _) G1 WT
  show Wp E _ (G1.new (.cells false [.i .i64 1, .i .u32 1, .i .u16 7, .cx .f64 0 0])) WT
  have e1 : G1.next = 1159 := a1.1
  rw [e1]
  refine Fact.call (x := R1) R1_ok a1.2 fun G2 s2 => ?_
  refine ⟨_, rfl, ?_⟩
  refine ⟨_, rfl, ?_⟩
  refine ⟨_, rfl, ?_⟩
  refine ⟨_, rfl, ?_⟩
  refine ⟨_, rfl, ?_⟩
  refine Fact.call (x := R2) R2_ok s2 fun G3 s3 => ?_
  refine ⟨_, rfl, ?_⟩
  have a2 := SubH_al (o := .cells false [.i .u32 0, .i .u16 0]) s3 (by decide)
  show Wp E _ (G3.new (.cells false [.i .u32 0, .i .u16 0])) WT
  have e2 : G3.next = 1189 := a2.1
  rw [e2]
  obtain ⟨G4, w4, s4⟩ := SubH_st a2.2 n5ok
  refine ⟨G4, w4, ?_⟩
  refine Fact.call (x := R3) R3_ok s4 fun G5 s5 => ?_
  refine ⟨_, rfl, ?_⟩
  refine ⟨_, rfl, ?_⟩
  refine ⟨_, rfl, ?_⟩
  refine ⟨_, rfl, ?_⟩
  refine ⟨_, rfl, ?_⟩
  cases l with
  | true =>
    refine ⟨_, SubH_ld (r := [.i .u32 55, .i .u16 5]) s5 (by kernel_rfl), ?_⟩
    refine ⟨_, rfl, ?_⟩
    refine ⟨_, rfl, ?_⟩
    refine ⟨_, rfl, ?_⟩
    refine ⟨_, rfl, ?_⟩
    refine Fact.call (x := R4) R4_ok s5 fun G6 s6 => ?_
    refine ⟨_, rfl, ?_⟩
    exact end_ok (l := true) hn s6 (by decide) (by kernel_rfl) (by kernel_rfl) (by kernel_rfl) (by kernel_rfl)
  | false =>
    exact end_ok (l := false) hn s5 (by decide) (by kernel_rfl) (by kernel_rfl) (by kernel_rfl) (by kernel_rfl)
end Go.Proofs.YtpbhfolaoccpkaaGreat
