/- Plain laws: strings of bytes as lists; numbers as bytes. -/
import Derived.Test.YtpbhfolaoccpkaaGreatFwZo
import Derived.Test.YtpbhfolaoccpkaaGreatTreeC
import Derived.Test.YtpbhfolaoccpkaaGreatTreeY
namespace Go.Proofs.YtpbhfolaoccpkaaGreat
open Go Go.Proofs.YtpbhfolaoccpkaaGreat.Fw
set_option linter.unusedVariables false
set_option linter.unusedSimpArgs false
/-- a string by its bytes -/
def bs (l : List UInt8) : ByteArray := ⟨⟨l⟩⟩
theorem bs_size (l : List UInt8) : (bs l).size = l.length := rfl
theorem bs_app (l m : List UInt8) : bs l ++ bs m = bs (l ++ m) := by
  apply ByteArray.ext
  rw [ByteArray.data_append]
  unfold bs
  simp
theorem bs_ext (l : List UInt8) (a b : Nat) : (bs l).extract a b = bs ((l.drop a).take (b - a)) := by
  apply ByteArray.ext
  rw [ByteArray.data_extract]
  unfold bs
  simp [List.extract_eq_take_drop]
theorem bs_at (l : List UInt8) (j : Nat) : strAt (bs l) j = ((l[j]?).getD 0).toNat := by
  unfold strAt
  by_cases hj : j < l.length
  · have h1 : j < (bs l).size := hj
    rw [getElem?_pos (bs l) j h1, List.getElem?_eq_getElem hj]; rfl
  · have h1 : ¬ j < (bs l).size := hj
    rw [getElem?_neg (bs l) j h1, List.getElem?_eq_none (by omega)]
/-- one byte of a number -/
def byB (n : Int) (z k : Nat) : UInt8 := UInt8.ofNat (IntKind.wrap .u8 (Int.fdiv n ((2 : Int) ^ (8 * (z - 1 - k))))).toNat
/-- a number's bytes -/
def numL (n : Int) (z : Nat) : List UInt8 := (List.range z).map (byB n z)
theorem numL_len (n : Int) (z : Nat) : (numL n z).length = z := by simp [numL]
theorem baOf_map : ∀ (A : List Int) (l : List UInt8), baOf (A.map (Sc.i .u8)) (bs l) = some (bs (l ++ A.map fun n => UInt8.ofNat n.toNat))
  | [], l => by simp [baOf]
  | n :: A, l => by
    have h : (bs l).push (UInt8.ofNat n.toNat) = bs (l ++ [UInt8.ofNat n.toNat]) := by
      apply ByteArray.ext
      unfold bs ByteArray.push
      simp
    simp only [List.map_cons, baOf]
    rw [h, baOf_map A]
    simp
/-- how a reader takes one more byte -/
def rdB (n : Int) (b : Int) : Int := IntKind.wrap .u64 (((BitVec.toNat ((BitVec.ofInt 64 (IntKind.wrap .u64 (n * 256))) ||| (BitVec.ofInt 64 (IntKind.wrap .u64 b)))) : Nat) : Int)
def rdL (l : List UInt8) : Int := l.foldl (fun n b => rdB n (b.toNat : Nat)) 0
theorem rd2 : ∀ m : Nat, m < 102 → rdL (numL (m : Int) 2) = m := by decide +kernel
end Go.Proofs.YtpbhfolaoccpkaaGreat
namespace Go.Proofs.YtpbhfolaoccpkaaGreat
open Go Go.Proofs.YtpbhfolaoccpkaaGreat.Fw
set_option linter.unusedVariables false
set_option linter.unusedSimpArgs false
structure Cl where
  id : Int
  ip : Int
  port : Int
  un : Int
  deriving DecidableEq
def cE : Enc Cl where
  z := 4
  e t := [.i .i64 t.id, .i .u32 t.ip, .i .u16 t.port, .i .u64 t.un]
  len _ := rfl
abbrev cD : Dec := fun l f => decL l 0 [.i .i64, .i .u32, .i .u16, .i .u64] f
def cZ : List Sc := [.i .i64 0, .i .u32 0, .i .u16 0, .i .u64 0]
def cdI : DIds := ⟨271, 188⟩
theorem cdOk : DOk E 4 cD cZ cdI where
  idxF := ⟨Tryz.f271, Tryz.func271, fun _ _ _ _ => by kernel_rfl⟩
  delF := ⟨Tryz.f188, Tryz.func188, fun _ _ _ _ => by kernel_rfl⟩
theorem celOk : ElOk E cE 4 cD cZ := ⟨rfl, rfl, decOk fun a => ⟨_, _, rfl, ⟨_, rfl⟩, _, _, rfl, ⟨_, rfl⟩, _, _, rfl, ⟨_, rfl⟩, _, _, rfl, ⟨_, rfl⟩, rfl⟩⟩
def cz : Cl := ⟨0, 0, 0, 0⟩
def tbC (r h : Int) (V : List Cl) : List Sc := [.i .i64 r, .i .u64 h] ++ cE.all V
structure Okv (V : List Cl) : Prop where
  len : V.length = 33
  at_ : ∀ (k : Nat) (c : Cl), V[k]? = some c → c = cz ∨ (c.id = (k : Int) ∧ 1 ≤ k)
theorem Okv.zero : Okv (List.replicate 33 cz) := ⟨rfl, fun k c h => by
  rw [List.getElem?_replicate] at h
  split at h
  · cases h; exact .inl rfl
  · cases h⟩
theorem Okv.set {V : List Cl} (h : Okv V) {k : Nat} {c : Cl} (hc : c = cz ∨ (c.id = (k : Int) ∧ 1 ≤ k)) : Okv (V.set k c) := ⟨by simpa using h.len, fun j x hx => by
  by_cases e : k = j
  · subst e
    by_cases hk : k < V.length
    · rw [List.getElem?_set_self hk] at hx; cases hx; exact hc
    · rw [List.getElem?_eq_none (by simp; omega)] at hx; cases hx
  · rw [List.getElem?_set_ne e] at hx; exact h.at_ j x hx⟩
theorem tb_len {r h : Int} {V : List Cl} (hV : V.length = 33) : (tbC r h V).length = 134 := by
  unfold tbC; rw [List.length_append, Enc.all_length, hV]; rfl
section
variable {p : Nat} {r h : Int} {V : List Cl} {L R : List Assn} {Q : Post} {f : List Sc → Tree} {t : Tree}
theorem ld_room (pk : Pick L (pt p (tbC r h V)) R) (hh : Tri E L (f [.i .i64 r]) Q) : Tri E L (.ld p (0 + 0) 1 f) Q := Tri.ldE pk rfl (by simp [tbC]) hh
theorem ld_hold (pk : Pick L (pt p (tbC r h V)) R) (hh : Tri E L (f [.i .u64 h]) Q) : Tri E L (.ld p (0 + 1) 1 f) Q := Tri.ldE pk rfl (by simp [tbC]) hh
theorem ld_cl {j k n : Nat} {c : Cl} {l : List Sc} (pk : Pick L (pt p (tbC r h V)) R) (hV : V.length = 33) (hj : V[j]? = some c) (hk : k + n ≤ 4) (hr : ((cE.e c).drop k).take n = l) (hh : Tri E L (f l) Q) : Tri E L (.ld p (0 + 2 + j * 4 + k) n f) Q := by
  obtain ⟨hj', _⟩ := List.getElem?_eq_some_iff.1 hj
  refine Tri.ldE pk (l := l) ?_ (by rw [tb_len hV]; omega) hh
  unfold tbC
  have hz : cE.z = 4 := rfl
  have h1 := cE.all_get V j c hj
  rw [hz] at h1
  rw [show 0 + 2 + j * 4 + k = 2 + (j * 4 + k) by omega, drop_pre (off := 2) rfl, take_drop_mid (cE.all V) (j * 4) 4 k n hk, h1, hr]
end
def nodeB (n : Int) : Bool := decide (1 ≤ n) && decide (n ≤ 32)
theorem nodeB_iff {n : Int} : nodeB n = true ↔ 1 ≤ n ∧ n ≤ 32 := by simp [nodeB]
theorem node_spec {n : Int} : FSpec E 233 [.sc (.i .i64 n)] [] (fun v L' => v = .sc (.b (nodeB n)) ∧ L' = []) := by
  refine FSpec.of (Tryz.func233 : Tryz.prog.funcs[233]? = some Tryz.f233) (t233_eq _) fun F => ?_
  unfold t233
  refine Tri.cnd (fun h1 => ?_) (fun h1 => ?_)
  · exact Tri.retF ⟨by simp at h1; simp [nodeB]; omega, rfl⟩ (by repeat (first|exact Sub.refl _|exact Sub.nil _|(apply Sub.cons; (first|exact K0|exact K1|exact K2|exact K3|exact K4|exact K5|exact K6|exact K7|exact K8|exact K9|exact K10|exact K11))|apply Sub.skip))
  · refine Tri.retF ⟨?_, rfl⟩ (by repeat (first|exact Sub.refl _|exact Sub.nil _|(apply Sub.cons; (first|exact K0|exact K1|exact K2|exact K3|exact K4|exact K5|exact K6|exact K7|exact K8|exact K9|exact K10|exact K11))|apply Sub.skip))
    simp at h1; simp [nodeB]; omega
def noneB (ip port : Int) : Bool := ip == 0 || port == 0
theorem none_spec {ip port : Int} : FSpec E 115 [.ag [.i .u32 ip, .i .u16 port]] [] (fun v L' => v = .sc (.b (noneB ip port)) ∧ L' = []) := by
  refine FSpec.of (Tryz.func115 : Tryz.prog.funcs[115]? = some Tryz.f115) (t115_eq _ _) fun F => ?_
  unfold t115
  repeat (first|refine wa ?_|refine wb ?_|refine wc ?_|refine wd ?_|refine we ?_|refine wf ?_|refine wg ?_|refine wh rfl ?_|refine wi rfl ?_|refine wj rfl ?_|refine wk rfl ?_|refine wl rfl ?_|refine wm (by decide) ?_|refine wr ?_|refine ws ?_|refine wt ?_|refine wn ?_|refine wo ?_|refine wp (by decide) ?_|(apply ld_room; (first|exact K0|exact K1|exact K2|exact K3|exact K4|exact K5|exact K6|exact K7|exact K8|exact K9|exact K10|exact K11))|(apply ld_hold; (first|exact K0|exact K1|exact K2|exact K3|exact K4|exact K5|exact K6|exact K7|exact K8|exact K9|exact K10|exact K11))|(apply Tri.ldE; (first|exact K0|exact K1|exact K2|exact K3|exact K4|exact K5|exact K6|exact K7|exact K8|exact K9|exact K10|exact K11); (exact rfl); (exact wz rfl))|(apply Tri.stE; (first|exact K0|exact K1|exact K2|exact K3|exact K4|exact K5|exact K6|exact K7|exact K8|exact K9|exact K10|exact K11); (exact rfl); (exact wz rfl))|(apply Tri.same; (first|exact K0|exact K1|exact K2|exact K3|exact K4|exact K5|exact K6|exact K7|exact K8|exact K9|exact K10|exact K11); (exact rfl); (exact wz rfl))|refine wq fun _ => ?_)
  refine Tri.cnd (fun h => ?_) (fun h => ?_)
  · exact Tri.retF ⟨by simp [noneB, h], rfl⟩ (by repeat (first|exact Sub.refl _|exact Sub.nil _|(apply Sub.cons; (first|exact K0|exact K1|exact K2|exact K3|exact K4|exact K5|exact K6|exact K7|exact K8|exact K9|exact K10|exact K11))|apply Sub.skip))
  · repeat (first|refine wa ?_|refine wb ?_|refine wc ?_|refine wd ?_|refine we ?_|refine wf ?_|refine wg ?_|refine wh rfl ?_|refine wi rfl ?_|refine wj rfl ?_|refine wk rfl ?_|refine wl rfl ?_|refine wm (by decide) ?_|refine wr ?_|refine ws ?_|refine wt ?_|refine wn ?_|refine wo ?_|refine wp (by decide) ?_|(apply ld_room; (first|exact K0|exact K1|exact K2|exact K3|exact K4|exact K5|exact K6|exact K7|exact K8|exact K9|exact K10|exact K11))|(apply ld_hold; (first|exact K0|exact K1|exact K2|exact K3|exact K4|exact K5|exact K6|exact K7|exact K8|exact K9|exact K10|exact K11))|(apply Tri.ldE; (first|exact K0|exact K1|exact K2|exact K3|exact K4|exact K5|exact K6|exact K7|exact K8|exact K9|exact K10|exact K11); (exact rfl); (exact wz rfl))|(apply Tri.stE; (first|exact K0|exact K1|exact K2|exact K3|exact K4|exact K5|exact K6|exact K7|exact K8|exact K9|exact K10|exact K11); (exact rfl); (exact wz rfl))|(apply Tri.same; (first|exact K0|exact K1|exact K2|exact K3|exact K4|exact K5|exact K6|exact K7|exact K8|exact K9|exact K10|exact K11); (exact rfl); (exact wz rfl))|refine wq fun _ => ?_)
    exact Tri.retF ⟨by simp [noneB, h], rfl⟩ (by repeat (first|exact Sub.refl _|exact Sub.nil _|(apply Sub.cons; (first|exact K0|exact K1|exact K2|exact K3|exact K4|exact K5|exact K6|exact K7|exact K8|exact K9|exact K10|exact K11))|apply Sub.skip))
def clL (V : List Cl) : List Cl := V.filter fun c => !(c.id == 0)
theorem clone_triD {α : Type} {T : Enc α} {z eb : Nat} {zs : List Sc} {d : SlD} {l : List α} {c : List Sc} (F : List Assn) (k : SlOk T d l c) (hz : T.z = z) (he : 0 < eb) (he' : eb ≤ appBytes) (hb : l.length * eb ≤ appBound) :
    Tri E (pt d.id c :: F) (cloneT z eb zs (some d)) (RQ F fun v L' => ∃ o', v = .sc (.sl o') ∧ L' = [pt d.id c, .sl false T o' l]) := by
  subst hz
  have hfit : d.off + d.len * T.z ≤ c.length := Nat.le_trans (Nat.add_le_add_left (Nat.mul_le_mul_right _ k.cap) _) k.fit
  unfold cloneT
  refine Tri.cndF rfl ?_
  refine Tri.al fun a => ?_
  refine Tri.ldsD (d := d) (Pick.there Pick.here) k.z (Nat.le_refl _) hfit ?_
  simp only [slN]
  rw [k.at_]
  refine Tri.mkS (T := T) (d := ⟨a, 0, 0, 0, T.z⟩) (l := []) Pick.here (SlOk.mk' rfl (Nat.le_refl _) (by simp) (by simp [Enc.all])) ?_
  refine Tri.app l Pick.here rfl rfl k.len he he' (by simpa using hb) fun o' => ?_
  exact Tri.retF ⟨o', rfl, rfl⟩ ⟨[], by simpa using List.Perm.swap _ _ _⟩
theorem clone21 {d : SlD} {l : List Cl} {c : List Sc} (k : SlOk cE d l c) (hl : l.length ≤ 1000) : FSpec E 189 [.sc (.sl (some d))] [pt d.id c] (fun v L' => ∃ o', v = .sc (.sl o') ∧ L' = [pt d.id c, .sl false cE o' l]) := by
  refine FSpec.of (Tryz.func189 : Tryz.prog.funcs[189]? = some Tryz.f189) (t189_eq _) fun F => ?_
  exact clone_triD F k rfl (by decide) (by decide) (by unfold appBound; omega)
theorem pred22 : IsPred E cE 190 [] [] .emp (fun t => t.id == 0) := by
  intro t
  refine FSpec.of (Tryz.func190 : Tryz.prog.funcs[190]? = some Tryz.f190) (t190_eq _ _ _ _) fun F => ?_
  unfold t190
  repeat (first|refine wa ?_|refine wb ?_|refine wc ?_|refine wd ?_|refine we ?_|refine wf ?_|refine wg ?_|refine wh rfl ?_|refine wi rfl ?_|refine wj rfl ?_|refine wk rfl ?_|refine wl rfl ?_|refine wm (by decide) ?_|refine wr ?_|refine ws ?_|refine wt ?_|refine wn ?_|refine wo ?_|refine wp (by decide) ?_|(apply ld_room; (first|exact K0|exact K1|exact K2|exact K3|exact K4|exact K5|exact K6|exact K7|exact K8|exact K9|exact K10|exact K11))|(apply ld_hold; (first|exact K0|exact K1|exact K2|exact K3|exact K4|exact K5|exact K6|exact K7|exact K8|exact K9|exact K10|exact K11))|(apply Tri.ldE; (first|exact K0|exact K1|exact K2|exact K3|exact K4|exact K5|exact K6|exact K7|exact K8|exact K9|exact K10|exact K11); (exact rfl); (exact wz rfl))|(apply Tri.stE; (first|exact K0|exact K1|exact K2|exact K3|exact K4|exact K5|exact K6|exact K7|exact K8|exact K9|exact K10|exact K11); (exact rfl); (exact wz rfl))|(apply Tri.same; (first|exact K0|exact K1|exact K2|exact K3|exact K4|exact K5|exact K6|exact K7|exact K8|exact K9|exact K10|exact K11); (exact rfl); (exact wz rfl))|refine wq fun _ => ?_)
  exact Tri.retF ⟨rfl, rfl⟩ (by repeat (first|exact Sub.refl _|exact Sub.nil _|(apply Sub.cons; (first|exact K0|exact K1|exact K2|exact K3|exact K4|exact K5|exact K6|exact K7|exact K8|exact K9|exact K10|exact K11))|apply Sub.skip))
theorem tb_sl {p : Nat} {r h : Int} {V : List Cl} (hV : V.length = 33) : SlOk cE ⟨p, 0 + 2 + 0 * 4, 33, 33, 4⟩ V (tbC r h V) := by
  have hl := cE.all_length V
  have hz : cE.z = 4 := rfl
  rw [hz] at hl
  refine ⟨rfl, by simp; omega, Nat.le_refl _, by rw [tb_len hV]; exact wz rfl, ?_⟩
  show ((tbC r h V).drop (2 + 0)).take 132 = _
  unfold tbC
  rw [drop_pre (off := 2) rfl, List.drop_zero, List.take_of_length_le (by omega)]
theorem clients_spec {p : Nat} {r h : Int} {V : List Cl} (hV : V.length = 33) : FSpec E 97 [.sc (.p (some (p, 0)))] [pt p (tbC r h V)] (fun v L' => ∃ o, v = .sc (.sl o) ∧ L' = [pt p (tbC r h V), .sl false cE o (clL V)]) := by
  refine FSpec.of (Tryz.func97 : Tryz.prog.funcs[97]? = some Tryz.f97) (t97_eq _ _) fun F => ?_
  unfold t97
  repeat (first|refine wa ?_|refine wb ?_|refine wc ?_|refine wd ?_|refine we ?_|refine wf ?_|refine wg ?_|refine wh rfl ?_|refine wi rfl ?_|refine wj rfl ?_|refine wk rfl ?_|refine wl rfl ?_|refine wm (by decide) ?_|refine wr ?_|refine ws ?_|refine wt ?_|refine wn ?_|refine wo ?_|refine wp (by decide) ?_|(apply ld_room; (first|exact K0|exact K1|exact K2|exact K3|exact K4|exact K5|exact K6|exact K7|exact K8|exact K9|exact K10|exact K11))|(apply ld_hold; (first|exact K0|exact K1|exact K2|exact K3|exact K4|exact K5|exact K6|exact K7|exact K8|exact K9|exact K10|exact K11))|(apply Tri.ldE; (first|exact K0|exact K1|exact K2|exact K3|exact K4|exact K5|exact K6|exact K7|exact K8|exact K9|exact K10|exact K11); (exact rfl); (exact wz rfl))|(apply Tri.stE; (first|exact K0|exact K1|exact K2|exact K3|exact K4|exact K5|exact K6|exact K7|exact K8|exact K9|exact K10|exact K11); (exact rfl); (exact wz rfl))|(apply Tri.same; (first|exact K0|exact K1|exact K2|exact K3|exact K4|exact K5|exact K6|exact K7|exact K8|exact K9|exact K10|exact K11); (exact rfl); (exact wz rfl))|refine wq fun _ => ?_)
  refine Tri.slcD (d := ⟨p, 0 + 2, 33, 33, 4⟩) 0 33 33 rfl rfl rfl rfl (.inl rfl) (wz rfl) (wz rfl) (wz rfl) ?_
  refine Tri.call (clone21 (tb_sl (p := p) (r := r) (h := h) hV) (by omega)) (by repeat (first|exact Picks.nil|(apply Picks.cons; (first|exact K0|exact K1|exact K2|exact K3|exact K4|exact K5|exact K6|exact K7|exact K8|exact K9|exact K10|exact K11)))) ?_
  rintro v L' ⟨o1, rfl, rfl⟩
  simp only [List.cons_append, List.nil_append]
  repeat (first|refine wa ?_|refine wb ?_|refine wc ?_|refine wd ?_|refine we ?_|refine wf ?_|refine wg ?_|refine wh rfl ?_|refine wi rfl ?_|refine wj rfl ?_|refine wk rfl ?_|refine wl rfl ?_|refine wm (by decide) ?_|refine wr ?_|refine ws ?_|refine wt ?_|refine wn ?_|refine wo ?_|refine wp (by decide) ?_|(apply ld_room; (first|exact K0|exact K1|exact K2|exact K3|exact K4|exact K5|exact K6|exact K7|exact K8|exact K9|exact K10|exact K11))|(apply ld_hold; (first|exact K0|exact K1|exact K2|exact K3|exact K4|exact K5|exact K6|exact K7|exact K8|exact K9|exact K10|exact K11))|(apply Tri.ldE; (first|exact K0|exact K1|exact K2|exact K3|exact K4|exact K5|exact K6|exact K7|exact K8|exact K9|exact K10|exact K11); (exact rfl); (exact wz rfl))|(apply Tri.stE; (first|exact K0|exact K1|exact K2|exact K3|exact K4|exact K5|exact K6|exact K7|exact K8|exact K9|exact K10|exact K11); (exact rfl); (exact wz rfl))|(apply Tri.same; (first|exact K0|exact K1|exact K2|exact K3|exact K4|exact K5|exact K6|exact K7|exact K8|exact K9|exact K10|exact K11); (exact rfl); (exact wz rfl))|refine wq fun _ => ?_)
  refine Tri.mkEmp ?_
  refine Tri.call (delF_spec cdOk celOk (o := o1) (l := V) pred22 (by omega)) (by repeat (first|exact Picks.nil|(apply Picks.cons; (first|exact K0|exact K1|exact K2|exact K3|exact K4|exact K5|exact K6|exact K7|exact K8|exact K9|exact K10|exact K11)))) ?_
  rintro v L' ⟨o2, rfl, rfl⟩
  simp only [List.cons_append, List.nil_append]
  repeat (first|refine wa ?_|refine wb ?_|refine wc ?_|refine wd ?_|refine we ?_|refine wf ?_|refine wg ?_|refine wh rfl ?_|refine wi rfl ?_|refine wj rfl ?_|refine wk rfl ?_|refine wl rfl ?_|refine wm (by decide) ?_|refine wr ?_|refine ws ?_|refine wt ?_|refine wn ?_|refine wo ?_|refine wp (by decide) ?_|(apply ld_room; (first|exact K0|exact K1|exact K2|exact K3|exact K4|exact K5|exact K6|exact K7|exact K8|exact K9|exact K10|exact K11))|(apply ld_hold; (first|exact K0|exact K1|exact K2|exact K3|exact K4|exact K5|exact K6|exact K7|exact K8|exact K9|exact K10|exact K11))|(apply Tri.ldE; (first|exact K0|exact K1|exact K2|exact K3|exact K4|exact K5|exact K6|exact K7|exact K8|exact K9|exact K10|exact K11); (exact rfl); (exact wz rfl))|(apply Tri.stE; (first|exact K0|exact K1|exact K2|exact K3|exact K4|exact K5|exact K6|exact K7|exact K8|exact K9|exact K10|exact K11); (exact rfl); (exact wz rfl))|(apply Tri.same; (first|exact K0|exact K1|exact K2|exact K3|exact K4|exact K5|exact K6|exact K7|exact K8|exact K9|exact K10|exact K11); (exact rfl); (exact wz rfl))|refine wq fun _ => ?_)
  exact Tri.retF ⟨o2, rfl, rfl⟩ (by repeat (first|exact Sub.refl _|exact Sub.nil _|(apply Sub.cons; (first|exact K0|exact K1|exact K2|exact K3|exact K4|exact K5|exact K6|exact K7|exact K8|exact K9|exact K10|exact K11))|apply Sub.skip))
theorem getD_some {V : List Cl} (hV : V.length = 33) {k : Nat} (hk : k < 33) : V[k]? = some (V.getD k cz) := by
  rw [List.getD_eq_getElem?_getD, List.getElem?_eq_getElem (by omega)]; rfl
def ofB (V : List Cl) (n now : Int) : Bool := decide (1 ≤ n) && decide (n ≤ 32) && !((V.getD n.toNat cz).id == 0) && !decide ((V.getD n.toNat cz).un ≤ now)
def ofC (V : List Cl) (n now : Int) : Cl := if ofB V n now then V.getD n.toNat cz else cz
theorem of_spec {p : Nat} {r h : Int} {V : List Cl} {n now : Int} (hV : V.length = 33) : FSpec E 236 [.sc (.p (some (p, 0))), .sc (.i .i64 n), .sc (.i .u64 now)] [pt p (tbC r h V)]
    (fun v L' => v = .tu [.ag [.i .u32 (ofC V n now).ip, .i .u16 (ofC V n now).port], .sc (.b (ofB V n now))] ∧ L' = [pt p (tbC r h V)]) := by
  refine FSpec.of (Tryz.func236 : Tryz.prog.funcs[236]? = some Tryz.f236) (t236_eq _ _ _ _) fun F => ?_
  unfold t236
  repeat (first|refine wa ?_|refine wb ?_|refine wc ?_|refine wd ?_|refine we ?_|refine wf ?_|refine wg ?_|refine wh rfl ?_|refine wi rfl ?_|refine wj rfl ?_|refine wk rfl ?_|refine wl rfl ?_|refine wm (by decide) ?_|refine wr ?_|refine ws ?_|refine wt ?_|refine wn ?_|refine wo ?_|refine wp (by decide) ?_|(apply ld_room; (first|exact K0|exact K1|exact K2|exact K3|exact K4|exact K5|exact K6|exact K7|exact K8|exact K9|exact K10|exact K11))|(apply ld_hold; (first|exact K0|exact K1|exact K2|exact K3|exact K4|exact K5|exact K6|exact K7|exact K8|exact K9|exact K10|exact K11))|(apply Tri.ldE; (first|exact K0|exact K1|exact K2|exact K3|exact K4|exact K5|exact K6|exact K7|exact K8|exact K9|exact K10|exact K11); (exact rfl); (exact wz rfl))|(apply Tri.stE; (first|exact K0|exact K1|exact K2|exact K3|exact K4|exact K5|exact K6|exact K7|exact K8|exact K9|exact K10|exact K11); (exact rfl); (exact wz rfl))|(apply Tri.same; (first|exact K0|exact K1|exact K2|exact K3|exact K4|exact K5|exact K6|exact K7|exact K8|exact K9|exact K10|exact K11); (exact rfl); (exact wz rfl))|refine wq fun _ => ?_)
  refine Tri.call node_spec (by repeat (first|exact Picks.nil|(apply Picks.cons; (first|exact K0|exact K1|exact K2|exact K3|exact K4|exact K5|exact K6|exact K7|exact K8|exact K9|exact K10|exact K11)))) ?_
  rintro v L' ⟨rfl, rfl⟩
  simp only [List.cons_append, List.nil_append]
  repeat (first|refine wa ?_|refine wb ?_|refine wc ?_|refine wd ?_|refine we ?_|refine wf ?_|refine wg ?_|refine wh rfl ?_|refine wi rfl ?_|refine wj rfl ?_|refine wk rfl ?_|refine wl rfl ?_|refine wm (by decide) ?_|refine wr ?_|refine ws ?_|refine wt ?_|refine wn ?_|refine wo ?_|refine wp (by decide) ?_|(apply ld_room; (first|exact K0|exact K1|exact K2|exact K3|exact K4|exact K5|exact K6|exact K7|exact K8|exact K9|exact K10|exact K11))|(apply ld_hold; (first|exact K0|exact K1|exact K2|exact K3|exact K4|exact K5|exact K6|exact K7|exact K8|exact K9|exact K10|exact K11))|(apply Tri.ldE; (first|exact K0|exact K1|exact K2|exact K3|exact K4|exact K5|exact K6|exact K7|exact K8|exact K9|exact K10|exact K11); (exact rfl); (exact wz rfl))|(apply Tri.stE; (first|exact K0|exact K1|exact K2|exact K3|exact K4|exact K5|exact K6|exact K7|exact K8|exact K9|exact K10|exact K11); (exact rfl); (exact wz rfl))|(apply Tri.same; (first|exact K0|exact K1|exact K2|exact K3|exact K4|exact K5|exact K6|exact K7|exact K8|exact K9|exact K10|exact K11); (exact rfl); (exact wz rfl))|refine wq fun _ => ?_)
  refine Tri.cnd (fun h1 => ?_) (fun h1 => ?_)
  · have hb : ofB V n now = false := by
      unfold ofB; have : nodeB n = false := by simpa using h1
      unfold nodeB at this; rw [this]; rfl
    repeat (first|refine wa ?_|refine wb ?_|refine wc ?_|refine wd ?_|refine we ?_|refine wf ?_|refine wg ?_|refine wh rfl ?_|refine wi rfl ?_|refine wj rfl ?_|refine wk rfl ?_|refine wl rfl ?_|refine wm (by decide) ?_|refine wr ?_|refine ws ?_|refine wt ?_|refine wn ?_|refine wo ?_|refine wp (by decide) ?_|(apply ld_room; (first|exact K0|exact K1|exact K2|exact K3|exact K4|exact K5|exact K6|exact K7|exact K8|exact K9|exact K10|exact K11))|(apply ld_hold; (first|exact K0|exact K1|exact K2|exact K3|exact K4|exact K5|exact K6|exact K7|exact K8|exact K9|exact K10|exact K11))|(apply Tri.ldE; (first|exact K0|exact K1|exact K2|exact K3|exact K4|exact K5|exact K6|exact K7|exact K8|exact K9|exact K10|exact K11); (exact rfl); (exact wz rfl))|(apply Tri.stE; (first|exact K0|exact K1|exact K2|exact K3|exact K4|exact K5|exact K6|exact K7|exact K8|exact K9|exact K10|exact K11); (exact rfl); (exact wz rfl))|(apply Tri.same; (first|exact K0|exact K1|exact K2|exact K3|exact K4|exact K5|exact K6|exact K7|exact K8|exact K9|exact K10|exact K11); (exact rfl); (exact wz rfl))|refine wq fun _ => ?_)
    exact Tri.retF ⟨by unfold ofC; rw [hb]; rfl, rfl⟩ (by repeat (first|exact Sub.refl _|exact Sub.nil _|(apply Sub.cons; (first|exact K0|exact K1|exact K2|exact K3|exact K4|exact K5|exact K6|exact K7|exact K8|exact K9|exact K10|exact K11))|apply Sub.skip))
  have h1 : 1 ≤ n ∧ n ≤ 32 := nodeB_iff.1 (by simpa using h1)
  repeat (first|refine wa ?_|refine wb ?_|refine wc ?_|refine wd ?_|refine we ?_|refine wf ?_|refine wg ?_|refine wh rfl ?_|refine wi rfl ?_|refine wj rfl ?_|refine wk rfl ?_|refine wl rfl ?_|refine wm (by decide) ?_|refine wr ?_|refine ws ?_|refine wt ?_|refine wn ?_|refine wo ?_|refine wp (by decide) ?_|(apply ld_room; (first|exact K0|exact K1|exact K2|exact K3|exact K4|exact K5|exact K6|exact K7|exact K8|exact K9|exact K10|exact K11))|(apply ld_hold; (first|exact K0|exact K1|exact K2|exact K3|exact K4|exact K5|exact K6|exact K7|exact K8|exact K9|exact K10|exact K11))|(apply Tri.ldE; (first|exact K0|exact K1|exact K2|exact K3|exact K4|exact K5|exact K6|exact K7|exact K8|exact K9|exact K10|exact K11); (exact rfl); (exact wz rfl))|(apply Tri.stE; (first|exact K0|exact K1|exact K2|exact K3|exact K4|exact K5|exact K6|exact K7|exact K8|exact K9|exact K10|exact K11); (exact rfl); (exact wz rfl))|(apply Tri.same; (first|exact K0|exact K1|exact K2|exact K3|exact K4|exact K5|exact K6|exact K7|exact K8|exact K9|exact K10|exact K11); (exact rfl); (exact wz rfl))|refine wq fun _ => ?_)
  refine Tri.brT (by simp; omega) ?_
  have hg := getD_some hV (k := n.toNat) (by omega)
  refine ld_cl (by first|exact K0|exact K1|exact K2|exact K3|exact K4|exact K5|exact K6|exact K7|exact K8|exact K9|exact K10|exact K11) hV hg (wz rfl) rfl ?_
  repeat (first|refine wa ?_|refine wb ?_|refine wc ?_|refine wd ?_|refine we ?_|refine wf ?_|refine wg ?_|refine wh rfl ?_|refine wi rfl ?_|refine wj rfl ?_|refine wk rfl ?_|refine wl rfl ?_|refine wm (by decide) ?_|refine wr ?_|refine ws ?_|refine wt ?_|refine wn ?_|refine wo ?_|refine wp (by decide) ?_|(apply ld_room; (first|exact K0|exact K1|exact K2|exact K3|exact K4|exact K5|exact K6|exact K7|exact K8|exact K9|exact K10|exact K11))|(apply ld_hold; (first|exact K0|exact K1|exact K2|exact K3|exact K4|exact K5|exact K6|exact K7|exact K8|exact K9|exact K10|exact K11))|(apply Tri.ldE; (first|exact K0|exact K1|exact K2|exact K3|exact K4|exact K5|exact K6|exact K7|exact K8|exact K9|exact K10|exact K11); (exact rfl); (exact wz rfl))|(apply Tri.stE; (first|exact K0|exact K1|exact K2|exact K3|exact K4|exact K5|exact K6|exact K7|exact K8|exact K9|exact K10|exact K11); (exact rfl); (exact wz rfl))|(apply Tri.same; (first|exact K0|exact K1|exact K2|exact K3|exact K4|exact K5|exact K6|exact K7|exact K8|exact K9|exact K10|exact K11); (exact rfl); (exact wz rfl))|refine wq fun _ => ?_)
  refine Tri.cnd (fun h2 => ?_) (fun h2 => ?_)
  · have hb : ofB V n now = false := by unfold ofB; rw [h2]; simp
    repeat (first|refine wa ?_|refine wb ?_|refine wc ?_|refine wd ?_|refine we ?_|refine wf ?_|refine wg ?_|refine wh rfl ?_|refine wi rfl ?_|refine wj rfl ?_|refine wk rfl ?_|refine wl rfl ?_|refine wm (by decide) ?_|refine wr ?_|refine ws ?_|refine wt ?_|refine wn ?_|refine wo ?_|refine wp (by decide) ?_|(apply ld_room; (first|exact K0|exact K1|exact K2|exact K3|exact K4|exact K5|exact K6|exact K7|exact K8|exact K9|exact K10|exact K11))|(apply ld_hold; (first|exact K0|exact K1|exact K2|exact K3|exact K4|exact K5|exact K6|exact K7|exact K8|exact K9|exact K10|exact K11))|(apply Tri.ldE; (first|exact K0|exact K1|exact K2|exact K3|exact K4|exact K5|exact K6|exact K7|exact K8|exact K9|exact K10|exact K11); (exact rfl); (exact wz rfl))|(apply Tri.stE; (first|exact K0|exact K1|exact K2|exact K3|exact K4|exact K5|exact K6|exact K7|exact K8|exact K9|exact K10|exact K11); (exact rfl); (exact wz rfl))|(apply Tri.same; (first|exact K0|exact K1|exact K2|exact K3|exact K4|exact K5|exact K6|exact K7|exact K8|exact K9|exact K10|exact K11); (exact rfl); (exact wz rfl))|refine wq fun _ => ?_)
    exact Tri.retF ⟨by unfold ofC; rw [hb]; rfl, rfl⟩ (by repeat (first|exact Sub.refl _|exact Sub.nil _|(apply Sub.cons; (first|exact K0|exact K1|exact K2|exact K3|exact K4|exact K5|exact K6|exact K7|exact K8|exact K9|exact K10|exact K11))|apply Sub.skip))
  repeat (first|refine wa ?_|refine wb ?_|refine wc ?_|refine wd ?_|refine we ?_|refine wf ?_|refine wg ?_|refine wh rfl ?_|refine wi rfl ?_|refine wj rfl ?_|refine wk rfl ?_|refine wl rfl ?_|refine wm (by decide) ?_|refine wr ?_|refine ws ?_|refine wt ?_|refine wn ?_|refine wo ?_|refine wp (by decide) ?_|(apply ld_room; (first|exact K0|exact K1|exact K2|exact K3|exact K4|exact K5|exact K6|exact K7|exact K8|exact K9|exact K10|exact K11))|(apply ld_hold; (first|exact K0|exact K1|exact K2|exact K3|exact K4|exact K5|exact K6|exact K7|exact K8|exact K9|exact K10|exact K11))|(apply Tri.ldE; (first|exact K0|exact K1|exact K2|exact K3|exact K4|exact K5|exact K6|exact K7|exact K8|exact K9|exact K10|exact K11); (exact rfl); (exact wz rfl))|(apply Tri.stE; (first|exact K0|exact K1|exact K2|exact K3|exact K4|exact K5|exact K6|exact K7|exact K8|exact K9|exact K10|exact K11); (exact rfl); (exact wz rfl))|(apply Tri.same; (first|exact K0|exact K1|exact K2|exact K3|exact K4|exact K5|exact K6|exact K7|exact K8|exact K9|exact K10|exact K11); (exact rfl); (exact wz rfl))|refine wq fun _ => ?_)
  refine Tri.brT (by simp; omega) ?_
  refine ld_cl (by first|exact K0|exact K1|exact K2|exact K3|exact K4|exact K5|exact K6|exact K7|exact K8|exact K9|exact K10|exact K11) hV hg (wz rfl) rfl ?_
  repeat (first|refine wa ?_|refine wb ?_|refine wc ?_|refine wd ?_|refine we ?_|refine wf ?_|refine wg ?_|refine wh rfl ?_|refine wi rfl ?_|refine wj rfl ?_|refine wk rfl ?_|refine wl rfl ?_|refine wm (by decide) ?_|refine wr ?_|refine ws ?_|refine wt ?_|refine wn ?_|refine wo ?_|refine wp (by decide) ?_|(apply ld_room; (first|exact K0|exact K1|exact K2|exact K3|exact K4|exact K5|exact K6|exact K7|exact K8|exact K9|exact K10|exact K11))|(apply ld_hold; (first|exact K0|exact K1|exact K2|exact K3|exact K4|exact K5|exact K6|exact K7|exact K8|exact K9|exact K10|exact K11))|(apply Tri.ldE; (first|exact K0|exact K1|exact K2|exact K3|exact K4|exact K5|exact K6|exact K7|exact K8|exact K9|exact K10|exact K11); (exact rfl); (exact wz rfl))|(apply Tri.stE; (first|exact K0|exact K1|exact K2|exact K3|exact K4|exact K5|exact K6|exact K7|exact K8|exact K9|exact K10|exact K11); (exact rfl); (exact wz rfl))|(apply Tri.same; (first|exact K0|exact K1|exact K2|exact K3|exact K4|exact K5|exact K6|exact K7|exact K8|exact K9|exact K10|exact K11); (exact rfl); (exact wz rfl))|refine wq fun _ => ?_)
  refine Tri.cnd (fun h3 => ?_) (fun h3 => ?_)
  · have hb : ofB V n now = false := by unfold ofB; rw [h3]; simp
    repeat (first|refine wa ?_|refine wb ?_|refine wc ?_|refine wd ?_|refine we ?_|refine wf ?_|refine wg ?_|refine wh rfl ?_|refine wi rfl ?_|refine wj rfl ?_|refine wk rfl ?_|refine wl rfl ?_|refine wm (by decide) ?_|refine wr ?_|refine ws ?_|refine wt ?_|refine wn ?_|refine wo ?_|refine wp (by decide) ?_|(apply ld_room; (first|exact K0|exact K1|exact K2|exact K3|exact K4|exact K5|exact K6|exact K7|exact K8|exact K9|exact K10|exact K11))|(apply ld_hold; (first|exact K0|exact K1|exact K2|exact K3|exact K4|exact K5|exact K6|exact K7|exact K8|exact K9|exact K10|exact K11))|(apply Tri.ldE; (first|exact K0|exact K1|exact K2|exact K3|exact K4|exact K5|exact K6|exact K7|exact K8|exact K9|exact K10|exact K11); (exact rfl); (exact wz rfl))|(apply Tri.stE; (first|exact K0|exact K1|exact K2|exact K3|exact K4|exact K5|exact K6|exact K7|exact K8|exact K9|exact K10|exact K11); (exact rfl); (exact wz rfl))|(apply Tri.same; (first|exact K0|exact K1|exact K2|exact K3|exact K4|exact K5|exact K6|exact K7|exact K8|exact K9|exact K10|exact K11); (exact rfl); (exact wz rfl))|refine wq fun _ => ?_)
    exact Tri.retF ⟨by unfold ofC; rw [hb]; rfl, rfl⟩ (by repeat (first|exact Sub.refl _|exact Sub.nil _|(apply Sub.cons; (first|exact K0|exact K1|exact K2|exact K3|exact K4|exact K5|exact K6|exact K7|exact K8|exact K9|exact K10|exact K11))|apply Sub.skip))
  have hb : ofB V n now = true := by unfold ofB; simp [h1.1, h1.2]; simp at h2 h3; exact ⟨h2, by omega⟩
  repeat (first|refine wa ?_|refine wb ?_|refine wc ?_|refine wd ?_|refine we ?_|refine wf ?_|refine wg ?_|refine wh rfl ?_|refine wi rfl ?_|refine wj rfl ?_|refine wk rfl ?_|refine wl rfl ?_|refine wm (by decide) ?_|refine wr ?_|refine ws ?_|refine wt ?_|refine wn ?_|refine wo ?_|refine wp (by decide) ?_|(apply ld_room; (first|exact K0|exact K1|exact K2|exact K3|exact K4|exact K5|exact K6|exact K7|exact K8|exact K9|exact K10|exact K11))|(apply ld_hold; (first|exact K0|exact K1|exact K2|exact K3|exact K4|exact K5|exact K6|exact K7|exact K8|exact K9|exact K10|exact K11))|(apply Tri.ldE; (first|exact K0|exact K1|exact K2|exact K3|exact K4|exact K5|exact K6|exact K7|exact K8|exact K9|exact K10|exact K11); (exact rfl); (exact wz rfl))|(apply Tri.stE; (first|exact K0|exact K1|exact K2|exact K3|exact K4|exact K5|exact K6|exact K7|exact K8|exact K9|exact K10|exact K11); (exact rfl); (exact wz rfl))|(apply Tri.same; (first|exact K0|exact K1|exact K2|exact K3|exact K4|exact K5|exact K6|exact K7|exact K8|exact K9|exact K10|exact K11); (exact rfl); (exact wz rfl))|refine wq fun _ => ?_)
  refine Tri.brT (by simp; omega) ?_
  refine ld_cl (by first|exact K0|exact K1|exact K2|exact K3|exact K4|exact K5|exact K6|exact K7|exact K8|exact K9|exact K10|exact K11) hV hg (wz rfl) rfl ?_
  repeat (first|refine wa ?_|refine wb ?_|refine wc ?_|refine wd ?_|refine we ?_|refine wf ?_|refine wg ?_|refine wh rfl ?_|refine wi rfl ?_|refine wj rfl ?_|refine wk rfl ?_|refine wl rfl ?_|refine wm (by decide) ?_|refine wr ?_|refine ws ?_|refine wt ?_|refine wn ?_|refine wo ?_|refine wp (by decide) ?_|(apply ld_room; (first|exact K0|exact K1|exact K2|exact K3|exact K4|exact K5|exact K6|exact K7|exact K8|exact K9|exact K10|exact K11))|(apply ld_hold; (first|exact K0|exact K1|exact K2|exact K3|exact K4|exact K5|exact K6|exact K7|exact K8|exact K9|exact K10|exact K11))|(apply Tri.ldE; (first|exact K0|exact K1|exact K2|exact K3|exact K4|exact K5|exact K6|exact K7|exact K8|exact K9|exact K10|exact K11); (exact rfl); (exact wz rfl))|(apply Tri.stE; (first|exact K0|exact K1|exact K2|exact K3|exact K4|exact K5|exact K6|exact K7|exact K8|exact K9|exact K10|exact K11); (exact rfl); (exact wz rfl))|(apply Tri.same; (first|exact K0|exact K1|exact K2|exact K3|exact K4|exact K5|exact K6|exact K7|exact K8|exact K9|exact K10|exact K11); (exact rfl); (exact wz rfl))|refine wq fun _ => ?_)
  exact Tri.retF ⟨by unfold ofC; rw [hb]; rfl, rfl⟩ (by repeat (first|exact Sub.refl _|exact Sub.nil _|(apply Sub.cons; (first|exact K0|exact K1|exact K2|exact K3|exact K4|exact K5|exact K6|exact K7|exact K8|exact K9|exact K10|exact K11))|apply Sub.skip))
/-- what is over is let go -/
def swV (V : List Cl) (now : Int) : List Cl := V.map fun c => if c.un ≤ now then cz else c
theorem swV_len (V : List Cl) (now : Int) : (swV V now).length = V.length := by simp [swV]
theorem swV_get (V : List Cl) (now : Int) (k : Nat) : (swV V now)[k]? = (V[k]?).map fun c => if c.un ≤ now then cz else c := by simp [swV]
theorem Okv.sw {V : List Cl} (h : Okv V) (now : Int) : Okv (swV V now) := ⟨by rw [swV_len, h.len], fun k c hc => by
  rw [swV_get] at hc
  cases hv : V[k]? with
  | none => rw [hv] at hc; cases hc
  | some x =>
    rw [hv] at hc
    simp only [Option.map_some, Option.some.injEq] at hc
    split at hc
    · exact .inl hc.symm
    · subst hc; exact h.at_ k x hv⟩
end Go.Proofs.YtpbhfolaoccpkaaGreat
namespace Go.Proofs.YtpbhfolaoccpkaaGreat
open Go Go.Proofs.YtpbhfolaoccpkaaGreat.Fw
set_option linter.unusedVariables false
set_option linter.unusedSimpArgs false
section
variable {L R : List Assn} {Q : Post}
theorem Tri_itn {s : ByteArray} {f : Nat → Tree} (h : ∀ a, Tri E (.ob a (.iter s 0) :: L) (f a) Q) : Tri E L (.itn s f) Q := .mk fun H hs => (h H.next).go _ hs.new
theorem Tri_itxS {id pos : Nat} {s : ByteArray} {f : Option (Nat × Int) → Tree} (p : Pick L (.ob id (.iter s pos)) R) (hp : pos < s.size) {c : Int} {n : Nat} (hd : ((Utf8.decode s pos).1 : Int) = c) (hn : pos + (Utf8.decode s pos).2 = n)
    (h : Tri E (.ob id (.iter s n) :: R) (f (some (pos, c))) Q) : Tri E L (.itx id f) Q := .mk fun H hs => by
  subst hd; subst hn
  have hs' := hs.perm p.h
  refine ⟨(s, pos), by simp [AH.it, hs'.get.1], ?_⟩
  simp only [if_pos hp]
  exact h.go _ hs'.put
theorem Tri_itxN {id pos : Nat} {s : ByteArray} {f : Option (Nat × Int) → Tree} (p : Pick L (.ob id (.iter s pos)) R) (hp : ¬ pos < s.size) (h : Tri E L (f none) Q) : Tri E L (.itx id f) Q := .mk fun H hs => by
  have hs' := hs.perm p.h
  refine ⟨(s, pos), by simp [AH.it, hs'.get.1], ?_⟩
  simp only [if_neg hp]
  exact h.go _ hs
end
theorem pure_run {f : FuncId} {args : List AV} {v : AV} {n : Nat} (h : ∀ H : AH, callA Tryz.prog T hs n f args H = some (v, H)) : FSpec E f args [] (fun v' L' => v' = v ∧ L' = []) := fun F H hs => ⟨n, v, H, h H, [], ⟨rfl, rfl⟩, hs⟩
theorem arr_st {L R : List Assn} {Q : Post} {t : Tree} {a j : Nat} {k : IntKind} {A : List Int} {v : Int} (pk : Pick L (pt a (A.map (Sc.i k))) R) (hj : j < A.length) (h : Tri E (pt a ((A.set j v).map (Sc.i k)) :: R) t Q) : Tri E L (.st a (0 + j * 1) [.i k v] t) Q := by
  refine Tri.stE pk (c' := (A.set j v).map (Sc.i k)) ?_ (by simp; omega) h
  rw [Nat.zero_add, Nat.mul_one, List.map_set, List.set_eq_take_append_cons_drop, if_pos (by simpa using hj)]; simp
theorem num_spec {n : Int} {z : Nat} (h1 : 1 ≤ z) (h2 : z ≤ 8) : FSpec E 197 [.sc (.i .u64 n), .sc (.i .i64 (z : Int))] [] (fun v L' => v = .sc (.s (bs (numL n z))) ∧ L' = []) := by
  refine FSpec.of (Tryz.func197 : Tryz.prog.funcs[197]? = some Tryz.f197) (t197_eq _ _) fun F => ?_
  unfold t197
  refine Tri.cndF (by simp; omega) ?_
  refine Tri.cndF (by simp; omega) ?_
  refine wq fun a => ?_
  refine Tri.loop (I := fun m l' L => ∃ (k : Nat) (A : List Int), m = z - k ∧ k ≤ z ∧ A.length = 8 ∧ (∀ j, j < k → A[j]? = some (IntKind.wrap .u8 (Int.fdiv n ((2 : Int) ^ (8 * (z - 1 - j)))))) ∧ l' = [.sc (.i .u64 n), .sc (.i .i64 (z : Int)), .sc (.p (some (a, 0))), .sc (.i .i64 (z : Int)), .sc (.i .i64 (k : Int))] ∧ L = pt a (A.map (Sc.i .u8)) :: F)
    (L0 := pt a ((List.replicate 8 (0 : Int)).map (Sc.i .u8)) :: F) ⟨0, List.replicate 8 0, rfl, by omega, rfl, fun j hj => by omega, rfl, rfl⟩ (by repeat (first|exact Sub.refl _|exact Sub.nil _|(apply Sub.cons; (first|exact K0|exact K1|exact K2|exact K3|exact K4|exact K5|exact K6|exact K7|exact K8|exact K9|exact K10|exact K11))|apply Sub.skip)) ?_
  rintro m l' L ⟨k, A, rfl, hk, hA, hAj, rfl, rfl⟩
  unfold t197_b1
  repeat (first|refine wa ?_|refine wb ?_|refine wc ?_|refine wd ?_|refine we ?_|refine wf ?_|refine wg ?_|refine wh rfl ?_|refine wi rfl ?_|refine wj rfl ?_|refine wk rfl ?_|refine wl rfl ?_|refine wm (by decide) ?_|refine wr ?_|refine ws ?_|refine wt ?_|(apply Tri.ldE; (first|exact K0|exact K1|exact K2|exact K3|exact K4|exact K5|exact K6|exact K7|exact K8|exact K9|exact K10|exact K11); (exact rfl); (exact wz rfl))|(apply Tri.stE; (first|exact K0|exact K1|exact K2|exact K3|exact K4|exact K5|exact K6|exact K7|exact K8|exact K9|exact K10|exact K11); (exact rfl); (exact wz rfl))|(apply Tri.same; (first|exact K0|exact K1|exact K2|exact K3|exact K4|exact K5|exact K6|exact K7|exact K8|exact K9|exact K10|exact K11); (exact rfl); (exact wz rfl))|refine wq fun _ => ?_)
  refine Tri.cnd (fun hc => ?_) (fun hc => ?_)
  · have hc : k < z := by simp at hc; omega
    rw [wr_i64 (n := (z : Int) - 1) (by omega) (by omega), wr_i64 (n := (z : Int) - 1 - k) (by omega) (by omega), wr_i64 (n := 8 * ((z : Int) - 1 - k)) (by omega) (by omega), wr_i64 (n := (k : Int) + 1) (by omega) (by omega)]
    refine Tri.brT (by simp; omega) ?_
    refine Tri.brT (by simp; omega) ?_
    rw [Int.toNat_natCast, show min (8 * ((z : Int) - 1 - k)).toNat 64 = 8 * (z - 1 - k) by omega]
    refine arr_st (A := A) (by first|exact K0|exact K1|exact K2|exact K3|exact K4|exact K5|exact K6|exact K7|exact K8|exact K9|exact K10|exact K11) (by omega) ?_
    refine Tri.back (m' := z - (k + 1)) (by omega) ⟨k + 1, A.set k (IntKind.wrap .u8 (Int.fdiv n ((2 : Int) ^ (8 * (z - 1 - k))))), rfl, by omega, by simpa using hA, fun j hj => ?_, rfl, rfl⟩ (by repeat (first|exact Sub.refl _|exact Sub.nil _|(apply Sub.cons; (first|exact K0|exact K1|exact K2|exact K3|exact K4|exact K5|exact K6|exact K7|exact K8|exact K9|exact K10|exact K11))|apply Sub.skip))
    by_cases e : j = k
    · subst e; rw [List.getElem?_set_self (by omega)]
    · rw [List.getElem?_set_ne (by omega)]; exact hAj j (by omega)
  · have hc : k = z := by simp at hc; omega
    subst hc
    refine Tri.exit (by decide) ?_
    unfold t197_k1
    repeat (first|refine wa ?_|refine wb ?_|refine wc ?_|refine wd ?_|refine we ?_|refine wf ?_|refine wg ?_|refine wh rfl ?_|refine wi rfl ?_|refine wj rfl ?_|refine wk rfl ?_|refine wl rfl ?_|refine wm (by decide) ?_|refine wr ?_|refine ws ?_|refine wt ?_|(apply Tri.ldE; (first|exact K0|exact K1|exact K2|exact K3|exact K4|exact K5|exact K6|exact K7|exact K8|exact K9|exact K10|exact K11); (exact rfl); (exact wz rfl))|(apply Tri.stE; (first|exact K0|exact K1|exact K2|exact K3|exact K4|exact K5|exact K6|exact K7|exact K8|exact K9|exact K10|exact K11); (exact rfl); (exact wz rfl))|(apply Tri.same; (first|exact K0|exact K1|exact K2|exact K3|exact K4|exact K5|exact K6|exact K7|exact K8|exact K9|exact K10|exact K11); (exact rfl); (exact wz rfl))|refine wq fun _ => ?_)
    refine Tri.slcD (d := ⟨a, 0, 8, 8, 1⟩) 0 k 8 rfl rfl rfl rfl (.inl rfl) (Nat.zero_le _) h2 (Nat.le_refl _) ?_
    refine Tri.ldsD (d := ⟨a, 0 + 0 * 1, k - 0, 8 - 0, 1⟩) (by first|exact K0|exact K1|exact K2|exact K3|exact K4|exact K5|exact K6|exact K7|exact K8|exact K9|exact K10|exact K11) rfl (Nat.le_refl _) (by simp [slN]; omega) ?_
    have e : ((A.map (Sc.i .u8)).drop (0 + 0 * 1)).take (slN (some ⟨a, 0 + 0 * 1, k - 0, 8 - 0, 1⟩) * 1) = (A.take k).map (Sc.i .u8) := by
      simp [slN, List.map_take]
    rw [e]
    refine Tri.asBy (baOf_map (A.take k) []) ?_
    refine Tri.retF ⟨?_, rfl⟩ (by repeat (first|exact Sub.refl _|exact Sub.nil _|(apply Sub.cons; (first|exact K0|exact K1|exact K2|exact K3|exact K4|exact K5|exact K6|exact K7|exact K8|exact K9|exact K10|exact K11))|apply Sub.skip))
    have : ([] ++ (A.take k).map fun n => UInt8.ofNat n.toNat) = numL n k := by
      refine List.ext_getElem? fun j => ?_
      unfold numL byB
      by_cases hj : j < k
      · rw [List.nil_append, List.getElem?_map, List.getElem?_take, if_pos hj, hAj j hj, List.getElem?_map, List.getElem?_range hj]; rfl
      · rw [List.getElem?_eq_none (by simp; omega), List.getElem?_eq_none (by simp; omega)]
    rw [this]
def wnodeB (n : Int) : Bool := decide (1 ≤ n) && decide (n ≤ 32)
theorem wnode_spec {n : Int} : FSpec E 273 [.sc (.i .i64 n)] [] (fun v L' => v = .sc (.b (wnodeB n)) ∧ L' = []) := by
  refine FSpec.of (Tryz.func273 : Tryz.prog.funcs[273]? = some Tryz.f273) (t273_eq _) fun F => ?_
  unfold t273
  refine Tri.cnd (fun h1 => ?_) (fun h1 => ?_)
  · exact Tri.retF ⟨by simp at h1; simp [wnodeB]; omega, rfl⟩ (by repeat (first|exact Sub.refl _|exact Sub.nil _|(apply Sub.cons; (first|exact K0|exact K1|exact K2|exact K3|exact K4|exact K5|exact K6|exact K7|exact K8|exact K9|exact K10|exact K11))|apply Sub.skip))
  · refine Tri.retF ⟨?_, rfl⟩ (by repeat (first|exact Sub.refl _|exact Sub.nil _|(apply Sub.cons; (first|exact K0|exact K1|exact K2|exact K3|exact K4|exact K5|exact K6|exact K7|exact K8|exact K9|exact K10|exact K11))|apply Sub.skip))
    simp at h1; simp [wnodeB]; omega
theorem cont_nil : FSpec E 277 [.sc (.sl none), .sc (.fn 275 [] [])] [] (fun v L' => v = .sc (.b false) ∧ L' = []) := by
  have h37 : FSpec E 318 [.sc (.sl none), .sc (.fn 275 [] [])] [] (fun v L' => v = .sc (.i .i64 (-1)) ∧ L' = []) := by
    refine FSpec.of (Tryz.func318 : Tryz.prog.funcs[318]? = some Tryz.f318) (t318_eq _ _ _ _) fun F => ?_
    unfold t318
    refine Tri.loop (I := fun m l' L => l' = [.sc (.sl none), .sc (.fn 275 [] []), .sc (.i .i64 0), .sc (.i .i64 0)] ∧ L = F) (m := 0) ⟨rfl, rfl⟩ (Sub.refl _) ?_
    rintro m l' L ⟨rfl, rfl⟩
    unfold t318_b0
    repeat (first|refine wa ?_|refine wb ?_|refine wc ?_|refine wd ?_|refine we ?_|refine wf ?_|refine wg ?_|refine wh rfl ?_|refine wi rfl ?_|refine wj rfl ?_|refine wk rfl ?_|refine wl rfl ?_|refine wm (by decide) ?_|refine wr ?_|refine ws ?_|refine wt ?_|(apply Tri.ldE; (first|exact K0|exact K1|exact K2|exact K3|exact K4|exact K5|exact K6|exact K7|exact K8|exact K9|exact K10|exact K11); (exact rfl); (exact wz rfl))|(apply Tri.stE; (first|exact K0|exact K1|exact K2|exact K3|exact K4|exact K5|exact K6|exact K7|exact K8|exact K9|exact K10|exact K11); (exact rfl); (exact wz rfl))|(apply Tri.same; (first|exact K0|exact K1|exact K2|exact K3|exact K4|exact K5|exact K6|exact K7|exact K8|exact K9|exact K10|exact K11); (exact rfl); (exact wz rfl))|refine wq fun _ => ?_)
    refine Tri.cndF rfl ?_
    refine Tri.exit (by decide) ?_
    unfold t318_k0
    repeat (first|refine wa ?_|refine wb ?_|refine wc ?_|refine wd ?_|refine we ?_|refine wf ?_|refine wg ?_|refine wh rfl ?_|refine wi rfl ?_|refine wj rfl ?_|refine wk rfl ?_|refine wl rfl ?_|refine wm (by decide) ?_|refine wr ?_|refine ws ?_|refine wt ?_|(apply Tri.ldE; (first|exact K0|exact K1|exact K2|exact K3|exact K4|exact K5|exact K6|exact K7|exact K8|exact K9|exact K10|exact K11); (exact rfl); (exact wz rfl))|(apply Tri.stE; (first|exact K0|exact K1|exact K2|exact K3|exact K4|exact K5|exact K6|exact K7|exact K8|exact K9|exact K10|exact K11); (exact rfl); (exact wz rfl))|(apply Tri.same; (first|exact K0|exact K1|exact K2|exact K3|exact K4|exact K5|exact K6|exact K7|exact K8|exact K9|exact K10|exact K11); (exact rfl); (exact wz rfl))|refine wq fun _ => ?_)
    exact Tri.retF ⟨rfl, rfl⟩ (Sub.refl _)
  refine FSpec.of (Tryz.func277 : Tryz.prog.funcs[277]? = some Tryz.f277) (t277_eq _ _ _ _) fun F => ?_
  unfold t277
  refine Tri.call h37 (by repeat (first|exact Picks.nil|(apply Picks.cons; (first|exact K0|exact K1|exact K2|exact K3|exact K4|exact K5|exact K6|exact K7|exact K8|exact K9|exact K10|exact K11)))) ?_
  rintro v L' ⟨rfl, rfl⟩
  simp only [List.cons_append, List.nil_append]
  repeat (first|refine wa ?_|refine wb ?_|refine wc ?_|refine wd ?_|refine we ?_|refine wf ?_|refine wg ?_|refine wh rfl ?_|refine wi rfl ?_|refine wj rfl ?_|refine wk rfl ?_|refine wl rfl ?_|refine wm (by decide) ?_|refine wr ?_|refine ws ?_|refine wt ?_|(apply Tri.ldE; (first|exact K0|exact K1|exact K2|exact K3|exact K4|exact K5|exact K6|exact K7|exact K8|exact K9|exact K10|exact K11); (exact rfl); (exact wz rfl))|(apply Tri.stE; (first|exact K0|exact K1|exact K2|exact K3|exact K4|exact K5|exact K6|exact K7|exact K8|exact K9|exact K10|exact K11); (exact rfl); (exact wz rfl))|(apply Tri.same; (first|exact K0|exact K1|exact K2|exact K3|exact K4|exact K5|exact K6|exact K7|exact K8|exact K9|exact K10|exact K11); (exact rfl); (exact wz rfl))|refine wq fun _ => ?_)
  exact Tri.retF ⟨rfl, rfl⟩ (by repeat (first|exact Sub.refl _|exact Sub.nil _|(apply Sub.cons; (first|exact K0|exact K1|exact K2|exact K3|exact K4|exact K5|exact K6|exact K7|exact K8|exact K9|exact K10|exact K11))|apply Sub.skip))
def sN : ByteArray := ⟨⟨[110]⟩⟩
def sA : ByteArray := ⟨⟨[97]⟩⟩
def sP : ByteArray := ⟨⟨[112]⟩⟩
def sF : ByteArray := ⟨⟨[102]⟩⟩
def sB : ByteArray := ⟨⟨[98]⟩⟩
def sR : ByteArray := ⟨⟨[114]⟩⟩
def hNB : ByteArray := ⟨⟨[110, 98]⟩⟩
theorem has5 : FSpec E 100 [.sc (.i .i64 5)] [] (fun v L' => v = .tu [.sc (.s hNB), .sc (.b true)] ∧ L' = []) := by
  refine FSpec.of (Tryz.func100 : Tryz.prog.funcs[100]? = some Tryz.f100) (t100_eq _) fun F => ?_
  unfold t100
  repeat (first|refine wa ?_|refine wb ?_|refine wc ?_|refine wd ?_|refine we ?_|refine wf ?_|refine wg ?_|refine wh rfl ?_|refine wi rfl ?_|refine wj rfl ?_|refine wk rfl ?_|refine wl rfl ?_|refine wm (by decide) ?_|refine wr ?_|refine ws ?_|refine wt ?_|refine wn ?_|refine wo ?_|refine wp (by decide) ?_|(apply Tri.ldE; (first|exact K0|exact K1|exact K2|exact K3|exact K4|exact K5|exact K6|exact K7|exact K8|exact K9|exact K10|exact K11); (exact rfl); (exact wz rfl))|(apply Tri.stE; (first|exact K0|exact K1|exact K2|exact K3|exact K4|exact K5|exact K6|exact K7|exact K8|exact K9|exact K10|exact K11); (exact rfl); (exact wz rfl))|(apply Tri.same; (first|exact K0|exact K1|exact K2|exact K3|exact K4|exact K5|exact K6|exact K7|exact K8|exact K9|exact K10|exact K11); (exact rfl); (exact wz rfl))|refine wq fun _ => ?_)
  refine Tri.brT rfl ?_
  repeat (first|refine wa ?_|refine wb ?_|refine wc ?_|refine wd ?_|refine we ?_|refine wf ?_|refine wg ?_|refine wh rfl ?_|refine wi rfl ?_|refine wj rfl ?_|refine wk rfl ?_|refine wl rfl ?_|refine wm (by decide) ?_|refine wr ?_|refine ws ?_|refine wt ?_|refine wn ?_|refine wo ?_|refine wp (by decide) ?_|(apply Tri.ldE; (first|exact K0|exact K1|exact K2|exact K3|exact K4|exact K5|exact K6|exact K7|exact K8|exact K9|exact K10|exact K11); (exact rfl); (exact wz rfl))|(apply Tri.stE; (first|exact K0|exact K1|exact K2|exact K3|exact K4|exact K5|exact K6|exact K7|exact K8|exact K9|exact K10|exact K11); (exact rfl); (exact wz rfl))|(apply Tri.same; (first|exact K0|exact K1|exact K2|exact K3|exact K4|exact K5|exact K6|exact K7|exact K8|exact K9|exact K10|exact K11); (exact rfl); (exact wz rfl))|refine wq fun _ => ?_)
  exact Tri.retF ⟨rfl, rfl⟩ (by repeat (first|exact Sub.refl _|exact Sub.nil _|(apply Sub.cons; (first|exact K0|exact K1|exact K2|exact K3|exact K4|exact K5|exact K6|exact K7|exact K8|exact K9|exact K10|exact K11))|apply Sub.skip))
def isL (s : ByteArray) : Prop := s = sN ∨ s = sA ∨ s = sP ∨ s = sF ∨ s = sB ∨ s = sR
def isH (h : ByteArray) : Prop := h = hNB ∨ h = sF
theorem cont_spec {h s : ByteArray} (hh : isH h) (hs' : isL s) : FSpec E 278 [.sc (.s h), .sc (.s s)] [] (fun v L' => v = .sc (.b (h.toList.contains (s.toList.headD 0))) ∧ L' = []) := by
  rcases hh with rfl | rfl <;> rcases hs' with rfl | rfl | rfl | rfl | rfl | rfl <;> exact pure_run (n := 30) fun H => by kernel_rfl
theorem plain_spec : FSpec E 274 [.sc (.cx .f64 0 0)] [] (fun v L' => v = .sc (.b true) ∧ L' = []) := pure_run (n := 30) fun H => by kernel_rfl
theorem pright_spec : FSpec E 116 [.sc (.cx .f64 0 0)] [] (fun v L' => v = .sc (.b true) ∧ L' = []) := pure_run (n := 30) fun H => by kernel_rfl
theorem news_spec {k : Int} : FSpec E 276 [.sc (.i .i64 k)] [] (fun v L' => ∃ n : Int, v = .sc (.i .i64 n) ∧ 0 ≤ n ∧ L' = []) := by
  refine FSpec.of (Tryz.func276 : Tryz.prog.funcs[276]? = some Tryz.f276) (t276_eq _) fun F => ?_
  unfold t276
  refine Tri.cnd (fun h1 => ?_) (fun h1 => ?_)
  · exact Tri.retF ⟨32, rfl, by decide, rfl⟩ (by repeat (first|exact Sub.refl _|exact Sub.nil _|(apply Sub.cons; (first|exact K0|exact K1|exact K2|exact K3|exact K4|exact K5|exact K6|exact K7|exact K8|exact K9|exact K10|exact K11))|apply Sub.skip))
  refine Tri.cnd (fun h2 => ?_) (fun h2 => ?_)
  · exact Tri.retF ⟨32, rfl, by decide, rfl⟩ (by repeat (first|exact Sub.refl _|exact Sub.nil _|(apply Sub.cons; (first|exact K0|exact K1|exact K2|exact K3|exact K4|exact K5|exact K6|exact K7|exact K8|exact K9|exact K10|exact K11))|apply Sub.skip))
  · exact Tri.retF ⟨8, rfl, by decide, rfl⟩ (by repeat (first|exact Sub.refl _|exact Sub.nil _|(apply Sub.cons; (first|exact K0|exact K1|exact K2|exact K3|exact K4|exact K5|exact K6|exact K7|exact K8|exact K9|exact K10|exact K11))|apply Sub.skip))
end Go.Proofs.YtpbhfolaoccpkaaGreat
