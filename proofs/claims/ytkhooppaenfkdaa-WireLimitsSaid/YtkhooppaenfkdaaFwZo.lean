/- An element laid open for longer than one read. -/
import Derived.Test.YtkhooppaenfkdaaFwZl
set_option linter.unusedVariables false
set_option linter.unusedSimpArgs false
namespace Go.Proofs.Ytkhooppaenfkdaa.Fw
open Go
section
variable {E : Env} {α : Type} {T : Enc α} {z : Nat}
theorem Tri.ixE {o : Option SlD} {ro : Bool} {l : List α} {j : Int} {f : Nat → Nat → Nat → Tree} {L R : List Assn} {Q : Post} (p : Pick L (.sl ro T o l) R) (hz : T.z = z) (h0 : 0 ≤ j) (h1 : j < l.length)
    (h : ∀ d, o = some d → Tri E (.sl ro T (some d) l :: R) (f d.id d.off j.toNat) Q) : Tri E L (.ixS z o j f) Q := by
  refine Tri.ix p hz h0 h1 fun d c ho q => ?_
  exact Tri.mkS Pick.here q (h d ho)
theorem Tri.slOp {d : SlD} {ro : Bool} {l : List α} {t : Tree} {L R : List Assn} {Q : Post} (p : Pick L (.sl ro T (some d) l) R) (h : ∀ c, SlOk T d l c → Tri E (.ob d.id (.cells ro c) :: R) t Q) : Tri E L t Q := Tri.slS p h
theorem Tri.ldR {d : SlD} {ro : Bool} {l : List α} {k n off : Nat} {j : Nat} {f : List Sc → Tree} {L R : List Assn} {Q : Post} {x : α} {r : List Sc} (p : Pick L (.sl ro T (some d) l) R) (hz : T.z = z) (hx : l[j]? = some x) (ho : off = d.off + j * z + k) (hk : k + n ≤ z) (hr : ((T.e x).drop k).take n = r)
    (h : Tri E (.sl ro T (some d) l :: R) (f r) Q) : Tri E L (.ld d.id off n f) Q := by
  obtain ⟨hj, _⟩ := List.getElem?_eq_some_iff.1 hx
  refine Tri.slOp p fun c q => ?_
  subst hz; subst ho
  have := q.bound hj
  refine Tri.ldE Pick.here (l := r) ?_ (by omega) (Tri.mkS Pick.here q h)
  rw [take_drop_mid c (d.off + j * T.z) T.z k n hk, q.get hx, hr]
theorem Tri.sameR {d : SlD} {ro : Bool} {l : List α} {k off : Nat} {j : Nat} {t : Tree} {L R : List Assn} {Q : Post} {x : α} {r : List Sc} (p : Pick L (.sl ro T (some d) l) R) (hz : T.z = z) (hx : l[j]? = some x) (ho : off = d.off + j * z + k) (hk : k + r.length ≤ z) (hr : ((T.e x).drop k).take r.length = r)
    (h : Tri E (.sl ro T (some d) l :: R) t Q) : Tri E L (.same d.id off r t) Q := by
  obtain ⟨hj, _⟩ := List.getElem?_eq_some_iff.1 hx
  refine Tri.slOp p fun c q => ?_
  subst hz; subst ho
  have := q.bound hj
  refine Tri.same Pick.here ?_ (by omega) (Tri.mkS Pick.here q h)
  rw [take_drop_mid c (d.off + j * T.z) T.z k _ hk, q.get hx, hr]
end
end Go.Proofs.Ytkhooppaenfkdaa.Fw
