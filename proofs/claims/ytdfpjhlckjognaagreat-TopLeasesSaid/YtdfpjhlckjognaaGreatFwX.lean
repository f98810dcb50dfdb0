/- The abstract machine: values, heap, trees, and the translation of the model's code into trees. Plain definitions. -/
import GoSem.Machine.Frame
namespace Go.Proofs.YtdfpjhlckjognaaGreat.Fw
open Go
structure SlD where
  id : Nat
  off : Nat
  len : Nat
  cap : Nat
  z : Nat
  deriving DecidableEq, Inhabited, Repr
inductive Sc where
  | b (x : Bool)
  | i (k : IntKind) (n : Int)
  | s (x : ByteArray)
  | fl (k : FloatKind) (n : Nat)
  | cx (k : FloatKind) (re im : Nat)
  | p (o : Option (Nat × Nat))
  | sl (o : Option SlD)
  | fn (f : FuncId) (fs cs : List (Nat × Nat))
  | nf
  | ni
  | it (id : Nat)
  deriving DecidableEq, Inhabited
inductive CV where
  | sc (x : Sc)
  | ag (l : List Sc)
  deriving DecidableEq, Inhabited
inductive AV where
  | un
  | sc (x : Sc)
  | ag (l : List Sc)
  | tu (l : List CV)
  deriving DecidableEq, Inhabited
def CV.av : CV → AV
  | .sc x => .sc x
  | .ag l => .ag l
inductive Ck where
  | i (k : IntKind)
  | b
  | s
  | p
  | sl
  | fl (k : FloatKind)
  | cx (k : FloatKind)
  | any
  | x
  | q
  | it
  | ag (n : Nat)
  deriving DecidableEq, Inhabited, Repr
inductive TD where
  | int (k : IntKind)
  | bool
  | str
  | fl (k : FloatKind)
  | cx (k : FloatKind)
  | ptr (e : Nat)
  | slice (e : Nat)
  | arr (n e : Nat)
  | struct (fs : List (Nat × Nat))
  | func
  | iface
  | tup (ts : List Nat)
  deriving DecidableEq, Inhabited, Repr
structure TI where
  d : TD
  size : Nat
  bytes : Nat
  kinds : List Ck
  zero : List Sc
  deriving Inhabited
abbrev TTab := List (Option TI)
def TTab.get (T : TTab) (t : Nat) : Option TI := T.getD t none
inductive Tree where
  | ret (tag : Nat) (l : List AV)
  | fail
  | br (b : Bool) (t f : Tree)
  | tg (x m : Nat) (t f : Tree)
  | asI (k : IntKind) (v : AV) (f : Int → Tree)
  | asB (v : AV) (f : Bool → Tree)
  | asS (v : AV) (f : ByteArray → Tree)
  | asP (v : AV) (f : Option (Nat × Nat) → Tree)
  | asL (v : AV) (f : Option SlD → Tree)
  | asF (k : FloatKind) (v : AV) (f : Nat → Tree)
  | asC (k : FloatKind) (v : AV) (f : Nat → Nat → Tree)
  | asX (v : AV) (f : Sc → Tree)
  | asBy (l : List Sc) (f : ByteArray → Tree)
  | asIt (v : AV) (f : Nat → Tree)
  | asA (n : Nat) (v : AV) (f : List Sc → Tree)
  | asT (n : Nat) (v : AV) (f : List CV → Tree)
  | nn (o : Option (Nat × Nat)) (f : Nat → Nat → Tree)
  | nth (l : List Sc) (j : Nat) (f : Sc → Tree)
  | nthC (l : List CV) (j : Nat) (f : CV → Tree)
  | ixS (z : Nat) (s : Option SlD) (j : Int) (f : Nat → Nat → Nat → Tree)
  | ld (id off n : Nat) (f : List Sc → Tree)
  | st (id off : Nat) (l : List Sc) (t : Tree)
  | same (id off : Nat) (l : List Sc) (t : Tree)
  | al (l : List Sc) (f : Nat → Tree)
  | lds (z : Nat) (s : Option SlD) (n : Nat) (f : List Sc → Tree)
  | sts (z : Nat) (s : Option SlD) (l : List Sc) (t : Tree)
  | app (z eb : Nat) (s : Option SlD) (l : List Sc) (n : Nat) (f : Option SlD → Tree)
  | slc (z : Nat) (s : Option SlD) (lo hi mx : Option Int) (f : Option SlD → Tree)
  | call (f : FuncId) (args : List AV) (k : AV → Tree)
  | callv (v : AV) (args : List AV) (k : AV → Tree)
  | itn (s : ByteArray) (f : Nat → Tree)
  | itx (id : Nat) (f : Option (Nat × Int) → Tree)
  | join (t : Tree) (k : Nat → List AV → Tree)
  | loop (b : List AV → Tree) (l : List AV) (k : Nat → List AV → Tree)
def obind {α β : Type} (o : Option α) (g : α → Option β) : Option β :=
  match o with
  | some a => g a
  | none => none
theorem obind_some {α β : Type} (a : α) (g : α → Option β) : obind (some a) g = g a := rfl
theorem obind_eq {α β : Type} {o : Option α} {g : α → Option β} {r : β} : obind o g = some r ↔ ∃ a, o = some a ∧ g a = some r := by
  cases o <;> simp [obind]
inductive AO where
  | cells (ro : Bool) (l : List Sc)
  | iter (s : ByteArray) (pos : Nat)
structure AH where
  next : Nat
  obj : Nat → Option AO
def AH.rd (H : AH) (id off n : Nat) : Option (List Sc) :=
  match H.obj id with
  | some (.cells _ l) => if off + n ≤ l.length then some ((l.drop off).take n) else none
  | _ => none
def AH.put (H : AH) (id : Nat) (o : Option AO) : AH := ⟨H.next, fun j => if j = id then o else H.obj j⟩
def AH.wr (H : AH) (id off : Nat) (vs : List Sc) : Option AH :=
  match H.obj id with
  | some (.cells false l) => if off + vs.length ≤ l.length then some (H.put id (some (.cells false (l.take off ++ vs ++ l.drop (off + vs.length))))) else none
  | _ => none
def AH.new (H : AH) (o : AO) : AH := ⟨H.next + 1, fun j => if j = H.next then some o else H.obj j⟩
def appBound : Nat := 70368744177664     -- 2 ^ 46
def appBytes : Nat := 274877906944      -- 2 ^ 38
def AH.app (H : AH) (z eb : Nat) (s : Option SlD) (l : List Sc) (n : Nat) : Option (Option SlD × AH) :=
  if l.length = n * z ∧ 0 < eb ∧ eb ≤ appBytes then
    match s with
    | none => if n = 0 then some (none, H) else if n * eb ≤ appBound then some (some ⟨H.next, 0, n, n, z⟩, H.new (.cells false l)) else none
    | some d =>
      if d.z = z then
        if d.len + n ≤ d.cap then
          if n = 0 then some (some d, H) else obind (H.wr d.id (d.off + d.len * z) l) fun H' => some (some ⟨d.id, d.off, d.len + n, d.cap, z⟩, H')
        else if (d.len + n) * eb ≤ appBound then
          match H.obj d.id with
          | some (.cells false c) =>
            if d.off + d.len * z ≤ c.length then
              some (some ⟨H.next, 0, d.len + n, d.len + n, z⟩, (H.put d.id none).new (.cells false ((c.drop d.off).take (d.len * z) ++ l)))
            else none
          | _ => none
        else none
      else none
  else none
def slcIn (s : Option SlD) (z : Nat) (lo hi mx : Option Int) : Option (Option SlD) :=
  let cap := match s with | none => 0 | some d => d.cap
  let len := match s with | none => 0 | some d => d.len
  let m : Int := mx.getD cap
  let h : Int := hi.getD len
  let l : Int := lo.getD 0
  if (mx.isNone || hi.isSome) = true ∧ 0 ≤ m ∧ m ≤ cap ∧ 0 ≤ h ∧ h ≤ m ∧ 0 ≤ l ∧ l ≤ h then
    match s with
    | none => some none
    | some d => if d.z = z then some (some ⟨d.id, d.off + l.toNat * z, (h - l).toNat, (m - l).toNat, z⟩) else none
  else none
def AH.rds (H : AH) (z : Nat) (s : Option SlD) (n : Nat) : Option (List Sc) :=
  match s with
  | none => if n = 0 then some [] else none
  | some d => if n = 0 then some [] else if n ≤ d.len ∧ d.z = z then H.rd d.id d.off (n * z) else none
def AH.wrs (H : AH) (z : Nat) (s : Option SlD) (l : List Sc) : Option AH :=
  match l with
  | [] => some H
  | _ => match s with
    | none => none
    | some d => if l.length ≤ d.len * z ∧ d.z = z then H.wr d.id d.off l else none
abbrev Res := (Nat × List AV) × AH
abbrev Ora := FuncId → List AV → AH → Option (AV × AH)
def iterL : Nat → (List AV → AH → Option Res) → List AV → AH → Option Res
  | 0, _, _, _ => none
  | n + 1, b, l, H =>
    match b l H with
    | some ((0, l'), H') => iterL n b l' H'
    | r => r
def ptrs (l : List (Nat × Nat)) : List AV := l.map fun a => .sc (.p (some a))
def AV.asI (k : IntKind) : AV → Option Int
  | .sc (.i k' j) => if k' = k then some j else none
  | _ => none
def AV.asB : AV → Option Bool
  | .sc (.b x) => some x
  | _ => none
def AV.asS : AV → Option ByteArray
  | .sc (.s x) => some x
  | _ => none
def AV.asP : AV → Option (Option (Nat × Nat))
  | .sc (.p x) => some x
  | _ => none
def AV.asL : AV → Option (Option SlD)
  | .sc (.sl x) => some x
  | _ => none
def AV.asF (k : FloatKind) : AV → Option Nat
  | .sc (.fl k' j) => if k' = k then some j else none
  | _ => none
def AV.asC (k : FloatKind) : AV → Option (Nat × Nat)
  | .sc (.cx k' a b) => if k' = k then some (a, b) else none
  | _ => none
def baOf : List Sc → ByteArray → Option ByteArray
  | [], s => some s
  | .i .u8 n :: l, s => baOf l (s.push (UInt8.ofNat n.toNat))
  | _, _ => none
def AV.asIt : AV → Option Nat
  | .sc (.it id) => some id
  | _ => none
def AV.asX : AV → Option Sc
  | .sc x => some x
  | _ => none
def AV.asA (n : Nat) : AV → Option (List Sc)
  | .ag l => if l.length = n then some l else none
  | _ => none
def AV.asT (n : Nat) : AV → Option (List CV)
  | .tu l => if l.length = n then some l else none
  | _ => none
def AV.asFn : AV → Option (FuncId × List (Nat × Nat) × List (Nat × Nat))
  | .sc (.fn g fs cs) => some (g, fs, cs)
  | _ => none
def ixIn (z : Nat) (s : Option SlD) (j : Int) : Option (Nat × Nat × Nat) :=
  match s with
  | some d => if d.z = z ∧ 0 ≤ j ∧ j < d.len then some (d.id, d.off, j.toNat) else none
  | none => none
def AH.it (H : AH) (id : Nat) : Option (ByteArray × Nat) :=
  match H.obj id with
  | some (.iter s pos) => some (s, pos)
  | _ => none
def run (C : Ora) (n : Nat) : Tree → AH → Option Res
  | .ret t l, H => some ((t, l), H)
  | .fail, _ => none
  | .br b t f, H => if b = true then run C n t H else run C n f H
  | .tg x m t f, H => if x = m then run C n t H else run C n f H
  | .asI k v f, H => obind (v.asI k) fun j => run C n (f j) H
  | .asB v f, H => obind v.asB fun j => run C n (f j) H
  | .asS v f, H => obind v.asS fun j => run C n (f j) H
  | .asP v f, H => obind v.asP fun j => run C n (f j) H
  | .asL v f, H => obind v.asL fun j => run C n (f j) H
  | .asF k v f, H => obind (v.asF k) fun j => run C n (f j) H
  | .asC k v f, H => obind (v.asC k) fun j => run C n (f j.1 j.2) H
  | .asX v f, H => obind v.asX fun j => run C n (f j) H
  | .asBy l f, H => obind (baOf l .empty) fun j => run C n (f j) H
  | .asIt v f, H => obind v.asIt fun j => run C n (f j) H
  | .asA m v f, H => obind (v.asA m) fun j => run C n (f j) H
  | .asT m v f, H => obind (v.asT m) fun j => run C n (f j) H
  | .nn o f, H => obind o fun a => run C n (f a.1 a.2) H
  | .nth l j f, H => obind l[j]? fun x => run C n (f x) H
  | .nthC l j f, H => obind l[j]? fun x => run C n (f x) H
  | .ixS z s j f, H => obind (ixIn z s j) fun a => run C n (f a.1 a.2.1 a.2.2) H
  | .ld id off m f, H => obind (H.rd id off m) fun l => run C n (f l) H
  | .st id off l t, H => obind (H.wr id off l) fun H' => run C n t H'
  | .same id off l t, H => if H.rd id off l.length = some l then run C n t H else none
  | .al l f, H => run C n (f H.next) (H.new (.cells false l))
  | .lds z s m f, H => obind (H.rds z s m) fun l => run C n (f l) H
  | .sts z s l t, H => obind (H.wrs z s l) fun H' => run C n t H'
  | .app z eb s l m f, H => obind (H.app z eb s l m) fun a => run C n (f a.1) a.2
  | .slc z s lo hi mx f, H => obind (slcIn s z lo hi mx) fun s' => run C n (f s') H
  | .call g args k, H => obind (C g args H) fun a => run C n (k a.1) a.2
  | .callv v args k, H => obind v.asFn fun g => obind (C g.1 (ptrs g.2.1 ++ args ++ ptrs g.2.2) H) fun a => run C n (k a.1) a.2
  | .itn s f, H => run C n (f H.next) (H.new (.iter s 0))
  | .itx id f, H => obind (H.it id) fun q =>
      if q.2 < q.1.size then run C n (f (some (q.2, ((Utf8.decode q.1 q.2).1 : Int)))) (H.put id (some (.iter q.1 (q.2 + (Utf8.decode q.1 q.2).2)))) else run C n (f none) H
  | .join t k, H => obind (run C n t H) fun a => run C n (k a.1.1 a.1.2) a.2
  | .loop b l k, H => obind (iterL n (fun l H => run C n (b l) H) l H) fun a => run C n (k a.1.1 a.1.2) a.2
def constSc : Value → Option Sc
  | .bool x => some (.b x)
  | .int k n => some (.i k n)
  | .string s => some (.s s)
  | .float k n => some (.fl k n)
  | .complex k a b => some (.cx k a b)
  | .pointer none => some (.p none)
  | .slice none 0 0 => some (.sl none)
  | .nilFunc => some .nf
  | .nilIface => some .ni
  | _ => none
def constScs : List Value → Option (List Sc)
  | [] => some []
  | v :: l => match constSc v, constScs l with | some x, some r => some (x :: r) | _, _ => none
def constAV : Value → AV
  | .agg ⟨l⟩ => match constScs l with | some r => .ag r | none => .un
  | .tuple ⟨[]⟩ => .tu []
  | v => match constSc v with | some x => .sc x | none => .un
def ev (e : List AV) : Operand → AV
  | .tmp t => e.getD t .un
  | .const v => constAV v
  | .global _ => .un
  | .func f => .sc (.fn f [] [])
def evs (e : List AV) (l : List Operand) : List AV := l.map (ev e)
def AV.cells : AV → Option (List Sc)
  | .sc x => some [x]
  | .ag l => some l
  | _ => none
def decS (c : Ck) (x : Sc) (f : Sc → Tree) : Tree :=
  match c with
  | .i k => .asI k (.sc x) fun n => f (.i k n)
  | .b => .asB (.sc x) fun n => f (.b n)
  | .s => .asS (.sc x) fun n => f (.s n)
  | .p => .asP (.sc x) fun n => f (.p n)
  | .sl => .asL (.sc x) fun n => f (.sl n)
  | .fl k => .asF k (.sc x) fun n => f (.fl k n)
  | .cx k => .asC k (.sc x) fun a b => f (.cx k a b)
  | .q => .asP (.sc x) fun o => .nn o fun a b => f (.p (some (a, b)))
  | .it => .asIt (.sc x) fun id => f (.it id)
  | .any | .x | .ag _ => f x
def decV (c : Ck) (v : AV) (f : AV → Tree) : Tree :=
  match c with
  | .i k => .asI k v fun n => f (.sc (.i k n))
  | .b => .asB v fun n => f (.sc (.b n))
  | .s => .asS v fun n => f (.sc (.s n))
  | .p => .asP v fun n => f (.sc (.p n))
  | .sl => .asL v fun n => f (.sc (.sl n))
  | .fl k => .asF k v fun n => f (.sc (.fl k n))
  | .cx k => .asC k v fun a b => f (.sc (.cx k a b))
  | .any => f v
  | .x => .asX v fun y => f (.sc y)
  | .q => .asP v fun o => .nn o fun a b => f (.sc (.p (some (a, b))))
  | .it => .asIt v fun id => f (.sc (.it id))
  | .ag n => .asA n v fun l => f (.ag l)
def decL (l : List Sc) : Nat → List Ck → (List Sc → Tree) → Tree
  | _, [], f => f []
  | j, c :: cs, f => .nth l j fun x => decS c x fun y => decL l (j + 1) cs fun r => f (y :: r)
def smallAgg : Nat := 12
def isAggD : TD → Bool
  | .struct _ | .arr _ _ => true
  | _ => false
def decT (i : TI) (l : List Sc) (f : AV → Tree) : Tree :=
  if isAggD i.d then (if i.size ≤ smallAgg then decL l 0 i.kinds fun r => f (.ag r) else f (.ag l))
  else .nth l 0 fun x => decS (i.kinds.headD .any) x fun y => f (.sc y)
def decP (i : TI) (l : List Sc) (f : AV → Tree) : Tree := if i.size ≤ smallAgg then decL l 0 i.kinds fun r => f (.ag r) else f (.ag l)
def decA (i : TI) (v : AV) (f : AV → Tree) : Tree :=
  if isAggD i.d then .asA i.size v fun l => if i.size ≤ smallAgg then decL l 0 i.kinds fun r => f (.ag r) else f (.ag l)
  else decV (i.kinds.headD .any) v f
def notTup : TD → Bool
  | .tup _ => false
  | _ => true
def decTu (T : TTab) (l : List CV) : Nat → List Nat → (List CV → Tree) → Tree
  | _, [], f => f []
  | j, t :: ts, f => .nthC l j fun c => match T.get t with
    | some i => if notTup i.d = false then .fail else decA i c.av fun v => decTu T l (j + 1) ts fun r => match v with
      | .sc x => f (.sc x :: r)
      | .ag x => f (.ag x :: r)
      | _ => .fail
    | none => .fail
def decR (T : TTab) (t : Nat) (v : AV) (f : AV → Tree) : Tree :=
  match T.get t with
  | some i => match i.d with
    | .tup [] => f .un
    | .tup ts => .asT ts.length v fun l => decTu T l 0 ts fun r => f (.tu r)
    | _ => decA i v f
  | none => .fail
def strAt (s : ByteArray) (j : Nat) : Int := (((s[j]?).getD 0).toNat : Nat)
def intBin (op : BinOp) (k : IntKind) (a b : Int) (f : AV → Tree) : Tree :=
  match op with
  | .add => f (.sc (.i k (k.wrap (a + b))))
  | .sub => f (.sc (.i k (k.wrap (a - b))))
  | .mul => f (.sc (.i k (k.wrap (a * b))))
  | .quo => .br (b != 0) (f (.sc (.i k (k.wrap (a.tdiv b))))) .fail
  | .rem => .br (b != 0) (f (.sc (.i k (a.tmod b)))) .fail
  | .and => f (.sc (.i k (k.wrap (BitVec.ofInt k.bits a &&& BitVec.ofInt k.bits b).toNat)))
  | .or => f (.sc (.i k (k.wrap (BitVec.ofInt k.bits a ||| BitVec.ofInt k.bits b).toNat)))
  | .xor => f (.sc (.i k (k.wrap (BitVec.ofInt k.bits a ^^^ BitVec.ofInt k.bits b).toNat)))
  | .andNot => f (.sc (.i k (k.wrap (BitVec.ofInt k.bits a &&& ~~~ BitVec.ofInt k.bits b).toNat)))
  | .eql => f (.sc (.b (a == b)))
  | .neq => f (.sc (.b (a != b)))
  | .lss => f (.sc (.b (decide (a < b))))
  | .leq => f (.sc (.b (decide (a ≤ b))))
  | .gtr => f (.sc (.b (decide (a > b))))
  | .geq => f (.sc (.b (decide (a ≥ b))))
  | _ => .fail
def shiftBin (op : BinOp) (k : IntKind) (a b : Int) (f : AV → Tree) : Tree :=
  match op with
  | .shl => .br (decide (0 ≤ b)) (f (.sc (.i k (k.wrap (a * 2 ^ (min b.toNat k.bits)))))) .fail
  | .shr => .br (decide (0 ≤ b)) (f (.sc (.i k (a.fdiv (2 ^ (min b.toNat k.bits)))))) .fail
  | _ => .fail
def fltRes (op : BinOp) (k : FloatKind) (a b : Nat) : Option Sc :=
  match op with
  | .add => (k.format.add a b).map (.fl k)
  | .sub => (k.format.sub a b).map (.fl k)
  | .mul => (k.format.mul a b).map (.fl k)
  | .quo => (k.format.div a b).map (.fl k)
  | .eql => some (.b (k.format.order a b == some .eq))
  | .neq => some (.b (k.format.order a b != some .eq))
  | .lss => some (.b (k.format.order a b == some .lt))
  | .leq => some (.b (k.format.order a b == some .lt || k.format.order a b == some .eq))
  | .gtr => some (.b (k.format.order a b == some .gt))
  | .geq => some (.b (k.format.order a b == some .gt || k.format.order a b == some .eq))
  | _ => none
def cxRes (op : BinOp) (k : FloatKind) (a b c d : Nat) : Option Sc :=
  match op with
  | .add => match k.format.add a c, k.format.add b d with | some x, some y => some (.cx k x y) | _, _ => none
  | .sub => match k.format.sub a c, k.format.sub b d with | some x, some y => some (.cx k x y) | _, _ => none
  | .mul => if k = .f64 then
      match k.format.mul a c, k.format.mul b d, k.format.mul a d, k.format.mul b c with
      | some p, some q, some r, some s => match k.format.sub p q, k.format.add r s with | some x, some y => some (.cx k x y) | _, _ => none
      | _, _, _, _ => none
    else none
  | .eql => some (.b (k.format.order a c == some .eq && k.format.order b d == some .eq))
  | .neq => some (.b (!(k.format.order a c == some .eq && k.format.order b d == some .eq)))
  | _ => none
def orFail (r : Option Sc) (f : AV → Tree) : Tree := match r with | some s => f (.sc s) | none => .fail
def strBin (op : BinOp) (a b : ByteArray) (f : AV → Tree) : Tree :=
  match op with
  | .add => .br (decide (((a.size + b.size : Nat) : Int) ≤ 9223372036854775807)) (f (.sc (.s (a ++ b)))) .fail
  | .eql => f (.sc (.b (a.toList == b.toList)))
  | .neq => f (.sc (.b (!(a.toList == b.toList))))
  | _ => .fail
def eqTD : TD → Sc → Sc → Option Bool
  | .int _, .i k a, .i k' b => if k = k' then some (a == b) else none
  | .bool, .b a, .b b => some (a == b)
  | .str, .s a, .s b => some (a.toList == b.toList)
  | _, _, _ => none
def eqFs (T : TTab) (g : Nat → List Sc → List Sc → Option Bool) : List (Nat × Nat) → List Sc → List Sc → Option Bool
  | [], _, _ => some true
  | (off, ty) :: fs, a, b => match T.get ty with
    | some fi => match g ty ((a.drop off).take fi.size) ((b.drop off).take fi.size), eqFs T g fs a b with
      | some r, some s => some (r && s)
      | _, _ => none
    | none => none
def eqF (T : TTab) : Nat → Nat → List Sc → List Sc → Option Bool
  | 0, _, _, _ => none
  | d + 1, t, a, b => match T.get t with
    | some i => match i.d with
      | .struct fs => if a.length = i.size ∧ b.length = i.size then eqFs T (eqF T d) fs a b else none
      | td => match a, b with
        | [x], [y] => eqTD td x y
        | _, _ => none
    | none => none
def tdOf (T : TTab) (t : Nat) : Option TD := (T.get t).map (·.d)
def binK (T : TTab) (op : BinOp) (xt : Nat) (x y : AV) (f : AV → Tree) : Tree :=
  match x, y with
  | .sc (.i k a), .sc (.i k' b) =>
    match op with
    | .shl | .shr => shiftBin op k a b f
    | _ => if k = k' then intBin op k a b f else .fail
  | .sc (.fl k a), .sc (.fl k' b) => if k = k' then orFail (fltRes op k a b) f else .fail
  | .sc (.cx k a b), .sc (.cx k' c d) => if k = k' then orFail (cxRes op k a b c d) f else .fail
  | .sc (.s a), .sc (.s b) => strBin op a b f
  | .sc (.b a), .sc (.b b) => match tdOf T xt with
    | some .bool => match op with
      | .eql => f (.sc (.b (a == b)))
      | .neq => f (.sc (.b (!(a == b))))
      | _ => .fail
    | _ => .fail
  | .sc (.p a), .sc (.p none) => match tdOf T xt with
    | some (.ptr _) => match op with
      | .eql => f (.sc (.b a.isNone))
      | .neq => f (.sc (.b (!a.isNone)))
      | _ => .fail
    | _ => .fail
  | .sc (.sl a), .sc (.sl none) => match tdOf T xt with
    | some (.slice _) => match op with
      | .eql => f (.sc (.b a.isNone))
      | .neq => f (.sc (.b (!a.isNone)))
      | _ => .fail
    | _ => .fail
  | .ag a, .ag b => match tdOf T xt with
    | some (.struct _) => match eqF T 8 xt a b with
      | some r => match op with
        | .eql => f (.sc (.b r))
        | .neq => f (.sc (.b (!r)))
        | _ => .fail
      | none => .fail
    | _ => .fail
  | _, _ => .fail
def unK (op : UnOp) (x : AV) (f : AV → Tree) : Tree :=
  match op, x with
  | .not, .sc (.b a) => f (.sc (.b (!a)))
  | .neg, .sc (.i k a) => f (.sc (.i k (k.wrap (0 - a))))
  | .neg, .sc (.fl k a) => f (.sc (.fl k (Op.negFloat k a)))
  | .neg, .sc (.cx k a b) => f (.sc (.cx k (Op.negFloat k a) (Op.negFloat k b)))
  | _, _ => .fail
def fillA (place : Nat → Option (Nat × Nat)) (cells : List Sc) : List (Nat × AV) → Option (List Sc)
  | [] => some cells
  | (j, v) :: rest => match place j, v.cells with
    | some (off, size), some l => if l.length = size ∧ off + size ≤ cells.length then fillA place (cells.take off ++ l ++ cells.drop (off + size)) rest else none
    | _, _ => none
def optI (e : List AV) : Option Operand → Option (Option Int)
  | none => some none
  | some o => match ev e o with | .sc (.i _ n) => some (some n) | _ => none
def zeros (z : List Sc) : Nat → List Sc
  | 0 => []
  | n + 1 => z ++ zeros z n
def minI (x y : Int) : Int := if y < x then y else x
def maxI (x y : Int) : Int := if y > x then y else x
def foldI (g : Int → Int → Int) (k : IntKind) : Int → List AV → Option Int
  | a, [] => some a
  | a, .sc (.i k' b) :: l => if k' = k then foldI g k (g a b) l else none
  | _, _ => none
def slLen : Option SlD → Int
  | none => 0
  | some d => d.len
def slN : Option SlD → Nat
  | none => 0
  | some d => d.len
def builtinK (T : TTab) (b : Builtin) (ats : List Nat) (args : List AV) (f : AV → Tree) : Tree :=
  match b, args with
  | .len, [.sc (.s a)] => match (ats[0]?).bind T.get with
    | some i => match i.d with | .str => f (.sc (.i .i64 a.size)) | _ => .fail
    | none => .fail
  | .len, [.sc (.sl s)] => match (ats[0]?).bind T.get with
    | some i => match i.d with | .slice _ => f (.sc (.i .i64 (slLen s))) | _ => .fail
    | none => .fail
  | .len, [.ag _] => match (ats[0]?).bind T.get with
    | some i => match i.d with | .arr n _ => f (.sc (.i .i64 n)) | _ => .fail
    | none => .fail
  | .min, .sc (.i k a) :: l => match foldI minI k a l with | some n => f (.sc (.i k n)) | none => .fail
  | .max, .sc (.i k a) :: l => match foldI maxI k a l with | some n => f (.sc (.i k n)) | none => .fail
  | .real, [.sc (.cx k a _)] => f (.sc (.fl k a))
  | .imag, [.sc (.cx k _ b)] => f (.sc (.fl k b))
  | .complex, [.sc (.fl k a), .sc (.fl k' b)] => if k = k' then f (.sc (.cx k a b)) else .fail
  | .append, [.sc (.sl s), .sc (.sl x)] => match (ats[0]?).bind T.get, (ats[1]?).bind T.get with
    | some i, some j => match i.d, j.d with
      | .slice e, .slice _ => match T.get e with
        | some ie => if notTup ie.d = false then .fail else .lds ie.size x (slN x) fun l => .app ie.size ie.bytes s l (slN x) fun s' => f (.sc (.sl s'))
        | none => .fail
      | _, _ => .fail
    | _, _ => .fail
  | .clear, [.sc (.sl s)] => match (ats[0]?).bind T.get with
    | some i => match i.d with
      | .slice e => match T.get e with
        | some ie => if notTup ie.d = false then .fail else .sts ie.size s (zeros ie.zero (slN s)) (f .un)
        | none => .fail
      | _ => .fail
    | none => .fail
  | .copy, [.sc (.sl s), .sc (.sl x)] => match (ats[0]?).bind T.get, (ats[1]?).bind T.get with
    | some i, some j => match i.d, j.d with
      | .slice e, .slice _ => match T.get e with
        | some ie => .lds ie.size x (min (slN x) (slN s)) fun l => .sts ie.size s l (f (.sc (.i .i64 (min (slN x) (slN s) : Nat))))
        | none => .fail
      | _, _ => .fail
    | _, _ => .fail
  | _, _ => .fail
def opK (T : TTab) (e : List AV) (o : Oper) (f : AV → Tree) : Tree :=
  match o.op with
  | .move x | .assign x => f (ev e x)
  | .pick c a b => match ev e c with
    | .sc (.b x) => match x with | true => f (ev e a) | false => f (ev e b)
    | _ => .fail
  | .alloc t => match T.get t with
    | some i => match i.d with
      | .tup _ => .fail
      | _ => .al i.zero fun id => f (.sc (.p (some (id, 0))))
    | none => .fail
  | .box t x => match T.get t, (ev e x).cells with
    | some _, some l => .al l fun id => f (.sc (.p (some (id, 0))))
    | _, _ => .fail
  | .build t ps => match T.get t with
    | some i => match i.d with
      | .struct fs => if (fs.all fun p => (T.get p.2).isSome) then
          match fillA (fun j => (fs[j]?).map fun p => (p.1, ((T.get p.2).map (·.size)).getD 0)) i.zero (ps.toList.map fun p => (p.1, ev e p.2)) with
          | some l => f (.ag l)
          | none => .fail
        else .fail
      | .arr _ el => match T.get el with
        | some ie => match fillA (fun j => some (j * ie.size, ie.size)) i.zero (ps.toList.map fun p => (p.1, ev e p.2)) with
          | some l => f (.ag l)
          | none => .fail
        | none => .fail
      | _ => .fail
    | none => .fail
  | .buildSlice t n ps => match T.get t with
    | some i => match i.d with
      | .slice el => match T.get el with
        | some ie =>
          if n * ie.size ≤ 16777216 ∧ notTup ie.d = true then
            match fillA (fun j => some (j * ie.size, ie.size)) (zeros ie.zero n) (ps.toList.map fun p => (p.1, ev e p.2)) with
            | some l => .al l fun id => f (.sc (.sl (some ⟨id, 0, n, n, ie.size⟩)))
            | none => .fail
          else .fail
        | none => .fail
      | _ => .fail
    | none => .fail
  | .load t a => match T.get t, ev e a with
    | some i, .sc (.p (some q)) => match i.d with
      | .tup _ => .fail
      | _ => .ld q.1 q.2 i.size fun l => decT i l f
    | _, _ => .fail
  | .store t a x => match T.get t, ev e a, (ev e x).cells with
    | some i, .sc (.p (some q)), some l => if l.length = i.size then .st q.1 q.2 l (f .un) else .fail
    | _, _, _ => .fail
  | .nilCheck x => match ev e x with
    | .sc (.p a) => .nn a fun id off => f (.sc (.p (some (id, off))))
    | .sc (.fn g fs cs) => f (.sc (.fn g fs cs))
    | _ => .fail
  | .binOp op t x y _ => binK T op t (ev e x) (ev e y) f
  | .unOp op _ x => unK op (ev e x) f
  | .convert s d x => match T.get s, T.get d, ev e x with
    | some _, some i, .sc (.i _ n) => match i.d with | .int k => f (.sc (.i k (k.wrap n))) | .fl k => f (.sc (.fl k (k.nearest n))) | _ => .fail
    | some j, some i, .sc (.s x) => match j.d, i.d with | .str, .str => f (.sc (.s x)) | _, _ => .fail
    | some _, some i, .sc (.fl k n) => match i.d with
      | .int k' => match (k.decode n).toInt .zero with
        | some m => if k'.min ≤ m ∧ m ≤ k'.max then f (.sc (.i k' m)) else .fail
        | none => .fail
      | _ => .fail
    | _, _, _ => .fail
  | .makeFunc (.func g) fs cs =>
    let ptr : AV → Option (Nat × Nat) := fun v => match v with | .sc (.p (some q)) => some q | _ => none
    match (evs e fs.toList).mapM ptr, (evs e cs.toList).mapM ptr with
    | some a, some b => f (.sc (.fn g a b))
    | _, _ => .fail
  | .makeSlice t l c => match T.get t, ev e l, ev e c with
    | some i, .sc (.i _ n), .sc (.i _ m) => match i.d with
      | .slice el => match T.get el with
        | some ie => if notTup ie.d = false then .fail else .br (decide (0 ≤ n) && decide (n ≤ m) && decide (m * ie.bytes ≤ 70368744177664) && decide (m ≤ 70368744177664))
            (.al (zeros ie.zero m.toNat) fun id => f (.sc (.sl (some ⟨id, 0, n.toNat, m.toNat, ie.size⟩)))) .fail
        | none => .fail
      | _ => .fail
    | _, _, _ => .fail
  | .slice t x lo hi mx => match T.get t with
    | some i => match i.d, ev e x, optI e lo, optI e hi, optI e mx with
      | .slice el, .sc (.sl s), some l, some h, some m => match T.get el with
        | some ie => .slc ie.size s l h m fun s' => f (.sc (.sl s'))
        | none => .fail
      | .str, .sc (.s a), some l, some h, some none =>
        let l' : Int := l.getD 0
        let h' : Int := h.getD a.size
        .br (decide (0 ≤ l') && decide (l' ≤ h') && decide (h' ≤ a.size)) (f (.sc (.s (a.extract l'.toNat h'.toNat)))) .fail
      | .arr n el, .sc (.p (some q)), some l, some h, some m => match T.get el with
        | some ie => .slc ie.size (some ⟨q.1, q.2, n, n, ie.size⟩) l h m fun s' => f (.sc (.sl s'))
        | none => .fail
      | _, _, _, _, _ => .fail
    | none => .fail
  | .fieldAddr t x j => match T.get t, ev e x with
    | some i, .sc (.p (some q)) => match i.d with
      | .struct fs => match fs[j]? with
        | some p => match T.get p.2 with
          | some fi => if fi.size = 0 then .fail else f (.sc (.p (some (q.1, q.2 + p.1))))
          | none => .fail
        | none => .fail
      | _ => .fail
    | _, _ => .fail
  | .field t x j => match T.get t, ev e x with
    | some i, .ag l => match i.d with
      | .struct fs => match fs[j]? with
        | some p => match T.get p.2 with
          | some fi => if isAggD fi.d then f (.ag ((l.drop p.1).take fi.size)) else .nth l p.1 fun y => decS (fi.kinds.headD .any) y fun z => f (.sc z)
          | none => .fail
        | none => .fail
      | _ => .fail
    | _, _ => .fail
  | .indexAddr t x j => match T.get t, ev e x, ev e j with
    | some i, .sc (.sl s), .sc (.i _ n) => match i.d with
      | .slice el => match T.get el with
        | some ie => .ixS ie.size s n fun id off m => f (.sc (.p (some (id, off + m * ie.size))))
        | none => .fail
      | _ => .fail
    | some i, .sc (.p (some q)), .sc (.i _ n) => match i.d with
      | .arr len el => match T.get el with
        | some ie => .br (decide (0 ≤ n) && decide (n < len)) (f (.sc (.p (some (q.1, q.2 + n.toNat * ie.size))))) .fail
        | none => .fail
      | _ => .fail
    | _, _, _ => .fail
  | .index t x j => match T.get t, ev e x, ev e j with
    | some i, .sc (.s s), .sc (.i _ n) => match i.d with
      | .str => .br (decide (0 ≤ n) && decide (n < s.size)) (f (.sc (.i .u8 (strAt s n.toNat)))) .fail
      | _ => .fail
    | some i, .ag l, .sc (.i _ n) => match i.d with
      | .arr len el => match T.get el with
        | some ie => .br (decide (0 ≤ n) && decide (n < len))
          (if isAggD ie.d then decP ie ((l.drop (n.toNat * ie.size)).take ie.size) f else .nth l (n.toNat * ie.size) fun y => decS (ie.kinds.headD .any) y fun z => f (.sc z)) .fail
        | none => .fail
      | _ => .fail
    | _, _, _ => .fail
  | .extract x j => match ev e x with
    | .tu l => match l[j]? with | some c => f c.av | none => .fail
    | _ => .fail
  | .range t x => match T.get t, ev e x with
    | some i, .sc (.s s) => match i.d with | .str => .itn s fun id => f (.sc (.it id)) | _ => .fail
    | _, _ => .fail
  | .next x true => match ev e x with
    | .sc (.it id) => .itx id fun r => match r with
      | some q => f (.tu [.sc (.b true), .sc (.i .i64 q.1), .sc (.i .i32 q.2)])
      | none => f (.tu [.sc (.b false)])
    | _ => .fail
  | .call c => match c.callee with
    | .builtin b => builtinK T b c.argTypes.toList (evs e c.args.toList) f
    | .value g => match g with
      | .func g' => .call g' (evs e c.args.toList) fun v => decR T o.type v f
      | _ => .callv (ev e g) (evs e c.args.toList) fun v => decR T o.type v f
    | .invoke _ _ => .fail
  | _ => .fail
def opX (T : TTab) (e : List AV) (o : Oper) (f : AV → Tree) : Tree :=
  match o.op with
  | .convert s d x => match T.get s, T.get d, ev e x with
    | some j, some i, .sc (.sl v) => match j.d, i.d with
      | .slice el, .str => match T.get el with
        | some ie => match ie.d with
          | .int .u8 => .lds ie.size v (slN v) fun l => .asBy l fun b => f (.sc (.s b))
          | _ => .fail
        | none => .fail
      | _, _ => .fail
    | _, _, _ => opK T e o f
  | _ => opK T e o f
def putE (e : List AV) (d : Option Nat) (v : AV) : List AV :=
  match d with
  | some t => e.set t v
  | none => e
def dstOf (ops : List Oper) (j : Nat) : Option Nat := (ops[j]?).bind (·.dst)
def wantedA (ops : List Oper) (e : List AV) (o : Oper) : Option Bool :=
  match o.guard with
  | none => some true
  | some (j, want) => match dstOf ops j with
    | none => none
    | some t => match e.getD t .un with
      | .sc (.b true) => some want
      | .sc (.b false) => some (!want)
      | .tu [] => some false
      | _ => none
def guards (ops : List Oper) (j : Nat) : Bool := ops.any fun o => match o.guard with | some (i, _) => i == j | none => false
def guardK (g : Bool) (v : AV) (go : AV → Tree) : Tree :=
  match g with
  | false => go v
  | true => match v with
    | .sc (.b x) => cond x (go (.sc (.b true))) (go (.sc (.b false)))
    | _ => .fail
def frc {α : Type} : List α → (List α → Tree) → Tree
  | [], f => f []
  | x :: l, f => frc l fun r => f (x :: r)
theorem frc_eq {α : Type} : ∀ (l : List α) (f : List α → Tree), frc l f = f l
  | [], _ => rfl
  | _ :: l, _ => frc_eq l _
def opsK (T : TTab) (ops : List Oper) : Nat → List Oper → List AV → (List AV → Tree) → Tree
  | _, [], e, f => f e
  | j, o :: os, e, f => match wantedA ops e o with
    | some true => opX T e o fun v => guardK (guards ops j) v fun v => frc (putE e o.dst v) fun e' => opsK T ops (j + 1) os e' f
    | some false => frc (putE e o.dst (.tu [])) fun e' => opsK T ops (j + 1) os e' f
    | none => .fail
inductive Cls where
  | pure
  | load
  | alloc
  | eff
  deriving DecidableEq, Repr
def clsOf (o : Oper) : Cls :=
  match o.op with
  | .move _ | .assign _ | .pick .. | .build .. | .nilCheck _ | .binOp .. | .unOp .. | .convert .. | .makeFunc .. | .slice .. | .fieldAddr .. | .field .. | .indexAddr .. | .index .. | .extract .. => .pure
  | .load .. => .load
  | .alloc _ | .box .. | .buildSlice .. | .makeSlice .. => .alloc
  | .call c => match c.callee with
    | .builtin .len | .builtin .min | .builtin .max => .pure
    | _ => .eff
  | _ => .eff
def aheads (ops : List Oper) : List Nat :=
  (ops.foldl (init := ([] : List Nat)) fun acc o =>
    acc ++ [o.after.toList.foldl (fun s e => match e.ground with
      | .textOnly _ | .gcOnly _ => s
      | _ => s ||| 2 ^ e.on ||| acc.getD e.on 0) 0])
def isAhead (A : List Nat) (i j : Nat) : Bool := (A.getD j 0).testBit i     -- i ahead of j
def tied (A : List Nat) (i j : Nat) : Bool := isAhead A i j || isAhead A j i
def readsOf (o : Oper) : List Nat := o.op.operands.toList.filterMap fun x => match x with | .tmp t => some t | _ => none
def eager (A : List Nat) (ops : List Oper) : Nat → List Nat → List Nat → List Nat
  | 0, _, acc => acc.reverse
  | fuel + 1, todo, acc =>
    let ready := todo.filter fun j => todo.all fun i => !isAhead A i j
    match ready.find? (fun j => match (ops[j]?).map clsOf with | some .eff => false | _ => true) with
    | some j => eager A ops fuel (todo.filter (· != j)) (j :: acc)
    | none => match ready with
      | j :: _ => eager A ops fuel (todo.filter (· != j)) (j :: acc)
      | [] => acc.reverse
def bindsA (e : Edge) : Bool := match e.ground with | .textOnly _ | .gcOnly _ => false | _ => true
def readsG (ops : List Oper) (o : Oper) : List Nat := readsOf o ++ (match o.guard with | some (g, _) => (dstOf ops g).toList | none => [])
def clashG (ops : List Oper) (o p : Oper) : Bool :=
  match o.dst with | some t => (readsG ops p).contains t || p.dst == some t | none => false
def nodupB : List Nat → Bool
  | [] => true
  | x :: l => !l.contains x && nodupB l
def okDraw (A : List Nat) (ops : List Oper) (L : List Nat) : Bool :=
  let n := ops.length
  L.length == n && nodupB L && L.all (fun j => decide (j < n)) &&
  (List.range n).all fun j => match ops[j]? with
    | none => false
    | some p =>
      L.contains j &&
      (p.after.toList.all fun e => !bindsA e || (isAhead A e.on j && decide (e.on < n) && e.on != j)) &&
      (match p.guard with | some (g, _) => isAhead A g j | none => true) &&
      (List.range n).all fun i => match ops[i]? with
        | none => false
        | some o =>
          i == j ||
          ((!isAhead A i j || (decide (L.idxOf i < L.idxOf j) && p.after.toList.any fun e => bindsA e && (e.on == i || isAhead A i e.on))) &&
           (!(clashG ops o p) || tied A i j) &&
           (!(clsOf o == .eff && clsOf p == .eff) || tied A i j) &&
           (!(clsOf o == .load && clsOf p == .eff) || tied A i j || decide (L.idxOf i < L.idxOf j)))
abbrev Loads := List (Nat × Nat × Nat × List Sc)
def sames (A : List Nat) (j : Nat) : Loads → Tree → Tree
  | [], t => t
  | (i, id, off, l) :: r, t => if tied A i j then sames A j r t else .same id off l (sames A j r t)
def noteLoad (e : List AV) (j : Nat) (o : Oper) (v : AV) (ls : Loads) : Loads :=
  match o.op with
  | .load _ a => match ev e a, v.cells with
    | .sc (.p (some q)), some l => (j, q.1, q.2, l) :: ls
    | _, _ => ls
  | _ => ls
def effK (c : Cls) (g : Tree → Tree) (t : Tree) : Tree :=
  match c with
  | .eff => g t
  | _ => t
def opsD (T : TTab) (ops : List Oper) (A : List Nat) : List Nat → Loads → List AV → (List AV → Tree) → Tree
  | [], _, e, f => f e
  | j :: js, ls, e, f => match ops[j]? with
    | none => .fail
    | some o => match wantedA ops e o with
      | some true => opK T e o fun v => effK (clsOf o) (fun t => sames A j ls t) (guardK (guards ops j) v fun v => frc (putE e o.dst v) fun e' => opsD T ops A js (noteLoad e j o v ls) e' f)
      | some false => frc (putE e o.dst (.tu [])) fun e' => opsD T ops A js ls e' f
      | none => .fail
def regionK (T : TTab) (ops : List Oper) (draw : Bool) (e : List AV) (f : List AV → Tree) : Tree :=
  if draw then
    let A := aheads ops
    let L := eager A ops ops.length (List.range ops.length) []
    if okDraw A ops L then opsD T ops A L [] e f else .fail
  else opsK T ops 0 ops e f
inductive Ex where
  | nrm
  | ret
  | exit (id : Nat)
  | goto (l : Nat)
  deriving DecidableEq, Repr
def Ex.tag : Ex → Nat
  | .nrm => 0
  | .ret => 1
  | .exit id => 2 + 2 * id
  | .goto l => 3 + 2 * l
def addX (x : Ex) (l : List Ex) : List Ex := if l.contains x then l else x :: l
def unionX (a b : List Ex) : List Ex := a.foldr addX b
def labelsIn : Code → List Nat
  | .seq a b => labelsIn a ++ labelsIn b
  | .label l => [l]
  | _ => []
def exitsOf : Code → List Ex
  | .skip | .region .. | .label _ | .rangeFunc .. => [.nrm]
  | .seq a b => if (exitsOf a).contains .nrm || !(labelsIn b).isEmpty then unionX ((exitsOf a).filter (· != .nrm)) (exitsOf b) else exitsOf a
  | .cond _ a b => unionX (exitsOf a) (exitsOf b)
  | .block id a => unionX [] ((exitsOf a).map fun x => if x == .exit id then .nrm else x)
  | .loop a => (exitsOf a).filter (· != .nrm)
  | .scope a => let ls := labelsIn a; (exitsOf a).filter fun x => match x with | .goto l => !ls.contains l | _ => true
  | .exit id => [.exit id]
  | .goto l => [.goto l]
  | .ret => [.ret]
  | _ => []
abbrev Keep := List (Nat × Ck)
structure Hints where
  join : List (Nat × List (Nat × Keep)) := []
  loop : List (Nat × Keep × List (Nat × Keep)) := []
  scope : List (Nat × List (Nat × Keep)) := []
  lab : List (Nat × Keep) := []
  back : List Nat := []     -- the functions that are slices.Backward's, over ints
  deriving Inhabited
def firstReg : Code → Nat
  | .region id _ _ => id
  | .seq a _ => firstReg a
  | .block _ a => firstReg a
  | .loop a => firstReg a
  | .scope a => firstReg a
  | _ => 0
def lookN {α : Type} : List (Nat × α) → Nat → Option α
  | [], _ => none
  | (a, x) :: l, n => if a = n then some x else lookN l n
def kx (m : List (Nat × Keep)) (y : Ex) : Keep := (lookN m y.tag).getD []
def keepL (ks : Keep) (e : List AV) : List AV := ks.map fun k => e.getD k.1 .un
def decE (l : List AV) : Nat → Keep → List AV → (List AV → Tree) → Tree
  | _, [], e, f => f e
  | j, (t, c) :: ks, e, f => decV c (l.getD j .un) fun v => frc (e.set t v) fun e' => decE l (j + 1) ks e' f
def blank (n : Nat) : List AV := List.replicate n .un
def disp (tag : Nat) (f : Ex → Tree) : List Ex → Tree
  | [] => .fail
  | x :: xs => .tg tag x.tag (f x) (disp tag f xs)
def hasLabel : Code → Nat → Bool
  | .seq a b, l => hasLabel a l || hasLabel b l
  | .label l', l => l' == l
  | _, _ => false
def labB (n : Int) (run1 : Nat → Tree) : List Nat → Tree
  | [] => .fail
  | b :: bs => .br (n == (b : Int)) (run1 b) (labB n run1 bs)
def labG (tag : Nat) (l : List AV) (go : Nat → Tree) (rest : Tree) : List Nat → Tree
  | [] => rest
  | b :: bs => .tg tag (3 + 2 * b) (go b) (labG tag l go rest bs)
def dispS (tag : Nat) (f : Ex → Tree) : List Ex → Tree
  | [] => .fail
  | x :: xs => .tg tag (x.tag + 1) (f x) (dispS tag f xs)
def simpleC : Code → Bool
  | .seq a b => simpleC a && simpleC b
  | .region _ _ d => !d
  | .cond _ a b => simpleC a && simpleC b
  | .block _ a => simpleC a
  | .skip | .exit _ => true
  | _ => false
def backK (a o : Nat) (rd : Int → Int → (Tree → Tree)) (k : Tree) : Tree :=
  .ld a o 1 fun l0 => .nth l0 0 fun x0 => .asL (.sc x0) fun s =>
    .br (decide (slLen s < 4611686018427387904)) (.loop (fun st => .asI .i64 (st.getD 0 .un) fun j => cond (decide (0 ≤ j))
        (.same a o [.sl s] (.ixS 1 s j fun id off m => .ld id (off + m) 1 fun c => .nth c 0 fun y => .asI .i64 (.sc y) fun v => rd j v (.ret 0 [.sc (.i .i64 (j - 1))])))
        (.ret 2 [])) [.sc (.i .i64 (slLen s - 1))] fun tag _ => .tg tag 2 k .fail) .fail
def exec (T : TTab) (h : Hints) (nt : Nat) : Code → Option Nat → List Nat → List AV → (Ex → List AV → Tree) → Tree
  | .seq a b, fr, cut, e, k => match fr with
    | none => exec T h nt a none cut e fun x e' => match x with | .nrm => exec T h nt b none cut e' k | x => k x e'
    | some l => if hasLabel a l then exec T h nt a (some l) cut e fun x e' => match x with | .nrm => exec T h nt b none cut e' k | x => k x e'
      else exec T h nt b (some l) cut e k
  | .label l, fr, cut, e, k => match fr with
    | some l' => if l = l' then k .nrm e else .fail
    | none => if cut.contains l then k (.goto l) e else k .nrm e
  | .skip, none, _, e, k => k .nrm e
  | .region _ ops draw, none, _, e, k => regionK T ops.toList draw e fun e' => k .nrm e'
  | .cond c a b, none, _, e, k => match ev e c with
    | .sc (.b x) => match (match c with | .tmp t => lookN h.join t | _ => none) with
      | some ks => .join (cond x (exec T h nt a none [] e fun y e' => .ret y.tag (keepL (kx ks y) e')) (exec T h nt b none [] e fun y e' => .ret y.tag (keepL (kx ks y) e')))
            fun tag l => disp tag (fun y => decE l 0 (kx ks y) (blank nt) fun e' => k y e') (unionX (exitsOf a) (exitsOf b))
      | none => cond x (exec T h nt a none [] e k) (exec T h nt b none [] e k)
    | _ => .fail
  | .block id a, none, _, e, k => exec T h nt a none [] e fun x e' => k (if x = .exit id then .nrm else x) e'
  | .loop a, none, _, e, k => match lookN h.loop (firstReg a) with
    | some (ks, ks') => .loop (fun l => decE l 0 ks (blank nt) fun e' => exec T h nt a none [] e' fun y e2 => match y with | .nrm => .ret 0 (keepL ks e2) | y => .ret y.tag (keepL (kx ks' y) e2)) (keepL ks e)
        fun tag l => disp tag (fun y => decE l 0 (kx ks' y) (blank nt) fun e' => k y e') ((exitsOf a).filter (· != .nrm))
    | none => .fail
  | .scope a, none, _, e, k =>
    let ls := labelsIn a
    match lookN h.scope (firstReg a) with
    | some ks' => if nodupB ls = false then .fail else
      let lk (b : Nat) : Keep := (lookN h.lab b).getD []
      let after (l : List AV) (y : Ex) : Tree := decE l 0 (kx ks' y) (blank nt) fun e' => k y e'
      .join (exec T h nt a none ls e fun y e' => match y with
          | .goto b => if ls.contains b then .ret (3 + 2 * b) (keepL (lk b) e') else .ret (3 + 2 * b) (keepL (kx ks' (.goto b)) e')
          | y => .ret y.tag (keepL (kx ks' y) e'))
        fun tag l => labG tag l (fun b => .loop (fun st => .asI .i64 (st.getD 0 .un) fun n => labB n (fun b => decE st 1 (lk b) (blank nt) fun e' =>
              exec T h nt a (some b) ls e' fun y e2 => match y with
                | .goto b' => if ls.contains b' then .ret 0 (.sc (.i .i64 b') :: keepL (lk b') e2) else .ret (3 + 2 * b' + 1) (keepL (kx ks' (.goto b')) e2)
                | y => .ret (y.tag + 1) (keepL (kx ks' y) e2)) ls) (.sc (.i .i64 b) :: l)
            fun tag l => dispS tag (after l) (exitsOf (.scope a))) (disp tag (after l) (exitsOf (.scope a))) ls
    | none => .fail
  | .exit id, none, _, e, k => k (.exit id) e
  | .goto l, none, _, e, k => k (.goto l) e
  | .ret, none, _, e, k => k .ret e
  | .rangeFunc g ps as b, none, _, e, k => match h.back with
    | [] => .callv (ev e g) [.un] fun _ => k .nrm e     -- a range whose function never yields
    | _ => match ev e g, ps.toList with
      | .sc (.fn f [] [(a, o)]), [p1, p2] => if (h.back.contains f && (simpleC as && simpleC b)) = true then
          backK a o (fun j v t => exec T h nt as none [] ((e.set p1 (.sc (.i .i64 j))).set p2 (.sc (.i .i64 v))) fun y e1 => match y with
            | .nrm => exec T h nt b none [] e1 fun y _ => match y with | .nrm => t | _ => .fail
            | _ => .fail) (k .nrm e)
        else .fail
      | _, _ => .fail
  | _, _, _, _, _ => .fail
def resK (T : TTab) : List ResultVar → List AV → (List AV → Tree) → Tree
  | [], _, f => f []
  | .tmp t :: rs, e, f => resK T rs e fun r => f (e.getD t .un :: r)
  | .cell a t :: rs, e, f => match T.get t, e.getD a .un with
    | some i, .sc (.p (some q)) => if notTup i.d = false then .fail else .ld q.1 q.2 i.size fun l => decT i l fun v => resK T rs e fun r => f (v :: r)
    | _, _ => .fail
def packC : List AV → Option (List CV)
  | [] => some []
  | .sc x :: l => (packC l).map (.sc x :: ·)
  | .ag x :: l => (packC l).map (.ag x :: ·)
  | _ => none
def packR : List AV → Option AV
  | [v] => some v
  | vs => (packC vs).map .tu
def extA (name : String) (args : List AV) : Option Sc :=
  if name = "math.archFloor" then
    match args with
    | [.sc (.fl .f64 x)] => match FloatKind.f64.decode x with
      | .nan _ _ => none
      | d => some (.fl .f64 (FloatKind.f64.encode (d.integral .down)))
    | _ => none
  else if name = "math.Float64bits" then
    match args with
    | [.sc (.fl .f64 b)] => some (.i .u64 b)
    | _ => none
  else if name = "math.Float64frombits" then
    match args with
    | [.sc (.i .u64 m)] => some (.fl .f64 m.toNat)
    | _ => none
  else if name = "internal/bytealg.IndexByteString" then
    match args with
    | [.sc (.s b), .sc (.i .u8 c)] => match (List.range b.size).find? (fun i => b[i]! == c.toNat.toUInt8) with
      | some i => some (.i .i64 i)
      | none => some (.i .i64 (-1))
    | _ => none
  else none
def extNames : List String := ["math.archFloor", "math.Float64bits", "math.Float64frombits", "internal/bytealg.IndexByteString"]
def bodyK (T : TTab) (h : Hints) (fn : Func) (args : List AV) : Tree :=
  match fn.body with
  | some c => exec T h fn.ntmps c none [] (args ++ blank (fn.ntmps - args.length)) fun x e => match x with
    | .nrm | .ret => resK T fn.results.toList e fun vs => match packR vs with
      | some v => .ret 0 [v]
      | none => .fail
    | _ => .fail
  | none => match extA fn.name args with
    | some s => .ret 0 [.sc s]
    | none => .fail
def callA (P : Program) (T : TTab) (hs : Nat → Hints) : Nat → Ora
  | 0, _, _, _ => none
  | n + 1, f, args, H => match P.funcs[f]? with
    | some fn => match run (callA P T hs n) n (bodyK T (hs f) fn args) H with
      | some ((0, [v]), H') => some (v, H')
      | _ => none
    | none => none
end Go.Proofs.YtdfpjhlckjognaaGreat.Fw
set_option linter.unusedSimpArgs false
set_option linter.unusedVariables false
namespace Go.Proofs.YtdfpjhlckjognaaGreat.Fw
open Go
theorem iterL_mono {b b' : List AV → AH → Option Res} (hb : ∀ l H r, b l H = some r → b' l H = some r) : ∀ {n m : Nat} {l : List AV} {H : AH} {r : Res}, n ≤ m → iterL n b l H = some r → iterL m b' l H = some r
  | 0, _, _, _, _, _, h => by simp [iterL] at h
  | n + 1, 0, _, _, _, hle, _ => by omega
  | n + 1, m + 1, l, H, r, hle, h => by
    simp only [iterL] at h ⊢
    split at h
    · rename_i l' H' he
      rw [hb _ _ _ he]
      exact iterL_mono hb (by omega) h
    · rename_i r' hne
      cases hbl : b l H with
      | none => rw [hbl] at h; cases h
      | some x =>
        rw [hbl] at h
        rw [hb _ _ _ hbl, ← h]
        split
        · rename_i l' H' he
          cases he
          exact absurd hbl (hne _ _)
        · rfl
theorem run_mono {C C' : Ora} (hC : ∀ f a H r, C f a H = some r → C' f a H = some r) {n m : Nat} (hle : n ≤ m) : ∀ (t : Tree) {H : AH} {r : Res}, run C n t H = some r → run C' m t H = some r := by
  intro t
  induction t with
  | ret t l => exact fun h => h
  | fail => exact fun h => h
  | br b t f ht hf => intro H r h; simp only [run] at h ⊢; split at h <;> rename_i hb
                      · rw [if_pos hb]; exact ht h
                      · rw [if_neg hb]; exact hf h
  | tg x m t f ht hf => intro H r h; simp only [run] at h ⊢; split at h <;> rename_i hb
                        · rw [if_pos hb]; exact ht h
                        · rw [if_neg hb]; exact hf h
  | asI k v f ih => intro H r h; simp only [run, obind_eq] at h ⊢; obtain ⟨a, h1, h2⟩ := h; exact ⟨a, h1, ih _ h2⟩
  | asB v f ih => intro H r h; simp only [run, obind_eq] at h ⊢; obtain ⟨a, h1, h2⟩ := h; exact ⟨a, h1, ih _ h2⟩
  | asS v f ih => intro H r h; simp only [run, obind_eq] at h ⊢; obtain ⟨a, h1, h2⟩ := h; exact ⟨a, h1, ih _ h2⟩
  | asP v f ih => intro H r h; simp only [run, obind_eq] at h ⊢; obtain ⟨a, h1, h2⟩ := h; exact ⟨a, h1, ih _ h2⟩
  | asL v f ih => intro H r h; simp only [run, obind_eq] at h ⊢; obtain ⟨a, h1, h2⟩ := h; exact ⟨a, h1, ih _ h2⟩
  | asF k v f ih => intro H r h; simp only [run, obind_eq] at h ⊢; obtain ⟨a, h1, h2⟩ := h; exact ⟨a, h1, ih _ h2⟩
  | asC k v f ih => intro H r h; simp only [run, obind_eq] at h ⊢; obtain ⟨a, h1, h2⟩ := h; exact ⟨a, h1, ih _ _ h2⟩
  | asX v f ih => intro H r h; simp only [run, obind_eq] at h ⊢; obtain ⟨a, h1, h2⟩ := h; exact ⟨a, h1, ih _ h2⟩
  | asBy v f ih => intro H r h; simp only [run, obind_eq] at h ⊢; obtain ⟨a, h1, h2⟩ := h; exact ⟨a, h1, ih _ h2⟩
  | asIt v f ih => intro H r h; simp only [run, obind_eq] at h ⊢; obtain ⟨a, h1, h2⟩ := h; exact ⟨a, h1, ih _ h2⟩
  | asA k v f ih => intro H r h; simp only [run, obind_eq] at h ⊢; obtain ⟨a, h1, h2⟩ := h; exact ⟨a, h1, ih _ h2⟩
  | asT k v f ih => intro H r h; simp only [run, obind_eq] at h ⊢; obtain ⟨a, h1, h2⟩ := h; exact ⟨a, h1, ih _ h2⟩
  | nn o f ih => intro H r h; simp only [run, obind_eq] at h ⊢; obtain ⟨a, h1, h2⟩ := h; exact ⟨a, h1, ih _ _ h2⟩
  | nth l j f ih => intro H r h; simp only [run, obind_eq] at h ⊢; obtain ⟨a, h1, h2⟩ := h; exact ⟨a, h1, ih _ h2⟩
  | nthC l j f ih => intro H r h; simp only [run, obind_eq] at h ⊢; obtain ⟨a, h1, h2⟩ := h; exact ⟨a, h1, ih _ h2⟩
  | ixS z s j f ih => intro H r h; simp only [run, obind_eq] at h ⊢; obtain ⟨a, h1, h2⟩ := h; exact ⟨a, h1, ih _ _ _ h2⟩
  | ld id off n f ih => intro H r h; simp only [run, obind_eq] at h ⊢; obtain ⟨a, h1, h2⟩ := h; exact ⟨a, h1, ih _ h2⟩
  | st id off l t ih => intro H r h; simp only [run, obind_eq] at h ⊢; obtain ⟨a, h1, h2⟩ := h; exact ⟨a, h1, ih h2⟩
  | same id off l t ih => intro H r h; simp only [run] at h ⊢; split at h <;> rename_i hb
                          · rw [if_pos hb]; exact ih h
                          · cases h
  | al l f ih => intro H r h; simp only [run] at h ⊢; exact ih _ h
  | lds z s n f ih => intro H r h; simp only [run, obind_eq] at h ⊢; obtain ⟨a, h1, h2⟩ := h; exact ⟨a, h1, ih _ h2⟩
  | sts z s l t ih => intro H r h; simp only [run, obind_eq] at h ⊢; obtain ⟨a, h1, h2⟩ := h; exact ⟨a, h1, ih h2⟩
  | app z eb s l n f ih => intro H r h; simp only [run, obind_eq] at h ⊢; obtain ⟨a, h1, h2⟩ := h; exact ⟨a, h1, ih _ h2⟩
  | slc z s lo hi mx f ih => intro H r h; simp only [run, obind_eq] at h ⊢; obtain ⟨a, h1, h2⟩ := h; exact ⟨a, h1, ih _ h2⟩
  | call f args k ih => intro H r h; simp only [run, obind_eq] at h ⊢; obtain ⟨a, h1, h2⟩ := h; exact ⟨a, hC _ _ _ _ h1, ih _ h2⟩
  | callv v args k ih => intro H r h; simp only [run, obind_eq] at h ⊢; obtain ⟨g, h0, a, h1, h2⟩ := h; exact ⟨g, h0, a, hC _ _ _ _ h1, ih _ h2⟩
  | itn s f ih => intro H r h; simp only [run] at h ⊢; exact ih _ h
  | itx id f ih => intro H r h; simp only [run, obind_eq] at h ⊢; obtain ⟨a, h1, h2⟩ := h; refine ⟨a, h1, ?_⟩
                   split at h2 <;> rename_i hb
                   · rw [if_pos hb]; exact ih _ h2
                   · rw [if_neg hb]; exact ih _ h2
  | join t k iht ihk => intro H r h; simp only [run, obind_eq] at h ⊢; obtain ⟨a, h1, h2⟩ := h; exact ⟨a, iht h1, ihk _ _ h2⟩
  | loop b l k ihb ihk => intro H r h; simp only [run, obind_eq] at h ⊢; obtain ⟨a, h1, h2⟩ := h
                          exact ⟨a, iterL_mono (fun l H r h => ihb l h) hle h1, ihk _ _ h2⟩
theorem callA_mono {P : Program} {T : TTab} {hs : Nat → Hints} : ∀ {n m : Nat} {f : FuncId} {a : List AV} {H : AH} {r : AV × AH}, n ≤ m → callA P T hs n f a H = some r → callA P T hs m f a H = some r
  | 0, _, _, _, _, _, _, h => by simp [callA] at h
  | n + 1, 0, _, _, _, _, hle, _ => by omega
  | n + 1, m + 1, f, a, H, r, hle, h => by
    simp only [callA] at h ⊢
    split at h
    case h_2 => cases h
    split at h
    case h_2 => cases h
    rename_i v' H' hrun
    rw [run_mono (fun f a H r h => callA_mono (by omega) h) (by omega : n ≤ m) _ hrun]
    exact h
structure Env where
  P : Program
  T : TTab
  hs : Nat → Hints
def CallWp (E : Env) (f : FuncId) (args : List AV) (H : AH) (R : AV → AH → Prop) : Prop := ∃ n v H', callA E.P E.T E.hs n f args H = some (v, H') ∧ R v H'
def iterW : Nat → (List AV → AH → (Res → Prop) → Prop) → List AV → AH → (Res → Prop) → Prop
  | 0, _, _, _, _ => False
  | n + 1, B, l, H, Q => B l H fun r => match r with
    | ((0, l'), H') => iterW n B l' H' Q
    | r => Q r
def LoopWp (B : List AV → AH → (Res → Prop) → Prop) (l : List AV) (H : AH) (Q : Res → Prop) : Prop := ∃ n, iterW n B l H Q
def Wp (E : Env) : Tree → AH → (Res → Prop) → Prop
  | .ret t l, H, Q => Q ((t, l), H)
  | .fail, _, _ => False
  | .br b t f, H, Q => if b = true then Wp E t H Q else Wp E f H Q
  | .tg x m t f, H, Q => if x = m then Wp E t H Q else Wp E f H Q
  | .asI k v f, H, Q => ∃ j, v.asI k = some j ∧ Wp E (f j) H Q
  | .asB v f, H, Q => ∃ j, v.asB = some j ∧ Wp E (f j) H Q
  | .asS v f, H, Q => ∃ j, v.asS = some j ∧ Wp E (f j) H Q
  | .asP v f, H, Q => ∃ j, v.asP = some j ∧ Wp E (f j) H Q
  | .asL v f, H, Q => ∃ j, v.asL = some j ∧ Wp E (f j) H Q
  | .asF k v f, H, Q => ∃ j, v.asF k = some j ∧ Wp E (f j) H Q
  | .asC k v f, H, Q => ∃ j, v.asC k = some j ∧ Wp E (f j.1 j.2) H Q
  | .asX v f, H, Q => ∃ j, v.asX = some j ∧ Wp E (f j) H Q
  | .asBy v f, H, Q => ∃ j, baOf v .empty = some j ∧ Wp E (f j) H Q
  | .asIt v f, H, Q => ∃ j, v.asIt = some j ∧ Wp E (f j) H Q
  | .asA m v f, H, Q => ∃ j, v.asA m = some j ∧ Wp E (f j) H Q
  | .asT m v f, H, Q => ∃ j, v.asT m = some j ∧ Wp E (f j) H Q
  | .nn o f, H, Q => ∃ a, o = some a ∧ Wp E (f a.1 a.2) H Q
  | .nth l j f, H, Q => ∃ x, l[j]? = some x ∧ Wp E (f x) H Q
  | .nthC l j f, H, Q => ∃ x, l[j]? = some x ∧ Wp E (f x) H Q
  | .ixS z s j f, H, Q => ∃ a, ixIn z s j = some a ∧ Wp E (f a.1 a.2.1 a.2.2) H Q
  | .ld id off m f, H, Q => ∃ l, H.rd id off m = some l ∧ Wp E (f l) H Q
  | .st id off l t, H, Q => ∃ H', H.wr id off l = some H' ∧ Wp E t H' Q
  | .same id off l t, H, Q => H.rd id off l.length = some l ∧ Wp E t H Q
  | .al l f, H, Q => Wp E (f H.next) (H.new (.cells false l)) Q
  | .lds z s m f, H, Q => ∃ l, H.rds z s m = some l ∧ Wp E (f l) H Q
  | .sts z s l t, H, Q => ∃ H', H.wrs z s l = some H' ∧ Wp E t H' Q
  | .app z eb s l m f, H, Q => ∃ a, H.app z eb s l m = some a ∧ Wp E (f a.1) a.2 Q
  | .slc z s lo hi mx f, H, Q => ∃ s', slcIn s z lo hi mx = some s' ∧ Wp E (f s') H Q
  | .call g args k, H, Q => CallWp E g args H fun v H' => Wp E (k v) H' Q
  | .callv v args k, H, Q => ∃ g, v.asFn = some g ∧ CallWp E g.1 (ptrs g.2.1 ++ args ++ ptrs g.2.2) H fun v H' => Wp E (k v) H' Q
  | .itn s f, H, Q => Wp E (f H.next) (H.new (.iter s 0)) Q
  | .itx id f, H, Q => ∃ q, H.it id = some q ∧
      if q.2 < q.1.size then Wp E (f (some (q.2, ((Utf8.decode q.1 q.2).1 : Int)))) (H.put id (some (.iter q.1 (q.2 + (Utf8.decode q.1 q.2).2)))) Q else Wp E (f none) H Q
  | .join t k, H, Q => Wp E t H fun a => Wp E (k a.1.1 a.1.2) a.2 Q
  | .loop b l k, H, Q => LoopWp (fun l H Q => Wp E (b l) H Q) l H fun a => Wp E (k a.1.1 a.1.2) a.2 Q
section
variable {E : Env}
def Runs (E : Env) (t : Tree) (H : AH) (Q : Res → Prop) : Prop := ∃ n r, run (callA E.P E.T E.hs n) n t H = some r ∧ Q r
theorem run_up {n m : Nat} (h : n ≤ m) {t : Tree} {H : AH} {r : Res} (hr : run (callA E.P E.T E.hs n) n t H = some r) : run (callA E.P E.T E.hs m) m t H = some r :=
  run_mono (fun _ _ _ _ h' => callA_mono h h') h t hr
theorem Wp.runs : ∀ (t : Tree) {H : AH} {Q : Res → Prop}, Wp E t H Q → Runs E t H Q := by
  have one : ∀ {α : Type} {o : Option α} {g : α → Nat → Option Res} {Q : Res → Prop}, (∃ a, o = some a ∧ ∃ n r, g a n = some r ∧ Q r) → ∃ n r, (obind o fun a => g a n) = some r ∧ Q r := by
    rintro α o g Q ⟨a, rfl, n, r, h1, h2⟩
    exact ⟨n, r, h1, h2⟩
  intro t
  induction t with
  | ret t l => exact fun h => ⟨0, _, rfl, h⟩
  | fail => exact fun h => h.elim
  | br b t f ht hf => intro H Q h; simp only [Wp] at h; simp only [Runs, run]; split at h <;> rename_i hb
                      · simp only [if_pos hb]; exact ht h
                      · simp only [if_neg hb]; exact hf h
  | tg x m t f ht hf => intro H Q h; simp only [Wp] at h; simp only [Runs, run]; split at h <;> rename_i hb
                        · simp only [if_pos hb]; exact ht h
                        · simp only [if_neg hb]; exact hf h
  | asI k v f ih => intro H Q h; simp only [Wp] at h; simp only [Runs, run]; obtain ⟨a, h1, h2⟩ := h; exact one ⟨a, h1, ih _ h2⟩
  | asB v f ih => intro H Q h; simp only [Wp] at h; simp only [Runs, run]; obtain ⟨a, h1, h2⟩ := h; exact one ⟨a, h1, ih _ h2⟩
  | asS v f ih => intro H Q h; simp only [Wp] at h; simp only [Runs, run]; obtain ⟨a, h1, h2⟩ := h; exact one ⟨a, h1, ih _ h2⟩
  | asP v f ih => intro H Q h; simp only [Wp] at h; simp only [Runs, run]; obtain ⟨a, h1, h2⟩ := h; exact one ⟨a, h1, ih _ h2⟩
  | asL v f ih => intro H Q h; simp only [Wp] at h; simp only [Runs, run]; obtain ⟨a, h1, h2⟩ := h; exact one ⟨a, h1, ih _ h2⟩
  | asF k v f ih => intro H Q h; simp only [Wp] at h; simp only [Runs, run]; obtain ⟨a, h1, h2⟩ := h; exact one ⟨a, h1, ih _ h2⟩
  | asC k v f ih => intro H Q h; simp only [Wp] at h; simp only [Runs, run]; obtain ⟨a, h1, h2⟩ := h; obtain ⟨n, r, h3, h4⟩ := ih _ _ h2; exact ⟨n, r, by rw [h1]; exact h3, h4⟩
  | asX v f ih => intro H Q h; simp only [Wp] at h; simp only [Runs, run]; obtain ⟨a, h1, h2⟩ := h; exact one ⟨a, h1, ih _ h2⟩
  | asBy v f ih => intro H Q h; simp only [Wp] at h; simp only [Runs, run]; obtain ⟨a, h1, h2⟩ := h; exact one ⟨a, h1, ih _ h2⟩
  | asIt v f ih => intro H Q h; simp only [Wp] at h; simp only [Runs, run]; obtain ⟨a, h1, h2⟩ := h; exact one ⟨a, h1, ih _ h2⟩
  | asA k v f ih => intro H Q h; simp only [Wp] at h; simp only [Runs, run]; obtain ⟨a, h1, h2⟩ := h; exact one ⟨a, h1, ih _ h2⟩
  | asT k v f ih => intro H Q h; simp only [Wp] at h; simp only [Runs, run]; obtain ⟨a, h1, h2⟩ := h; exact one ⟨a, h1, ih _ h2⟩
  | nn o f ih => intro H Q h; simp only [Wp] at h; simp only [Runs, run]; obtain ⟨a, h1, h2⟩ := h; obtain ⟨n, r, h3, h4⟩ := ih _ _ h2; exact ⟨n, r, by rw [h1]; exact h3, h4⟩
  | nth l j f ih => intro H Q h; simp only [Wp] at h; simp only [Runs, run]; obtain ⟨a, h1, h2⟩ := h; exact one ⟨a, h1, ih _ h2⟩
  | nthC l j f ih => intro H Q h; simp only [Wp] at h; simp only [Runs, run]; obtain ⟨a, h1, h2⟩ := h; exact one ⟨a, h1, ih _ h2⟩
  | ixS z s j f ih => intro H Q h; simp only [Wp] at h; simp only [Runs, run]; obtain ⟨a, h1, h2⟩ := h; obtain ⟨n, r, h3, h4⟩ := ih _ _ _ h2; exact ⟨n, r, by rw [h1]; exact h3, h4⟩
  | ld id off n f ih => intro H Q h; simp only [Wp] at h; simp only [Runs, run]; obtain ⟨a, h1, h2⟩ := h; exact one ⟨a, h1, ih _ h2⟩
  | st id off l t ih => intro H Q h; simp only [Wp] at h; simp only [Runs, run]; obtain ⟨a, h1, h2⟩ := h; exact one ⟨a, h1, ih h2⟩
  | same id off l t ih => intro H Q h; simp only [Wp] at h; simp only [Runs, run]; obtain ⟨h1, h2⟩ := h; simp only [if_pos h1]; exact ih h2
  | al l f ih => intro H Q h; simp only [Wp] at h; simp only [Runs, run]; exact ih _ h
  | lds z s n f ih => intro H Q h; simp only [Wp] at h; simp only [Runs, run]; obtain ⟨a, h1, h2⟩ := h; exact one ⟨a, h1, ih _ h2⟩
  | sts z s l t ih => intro H Q h; simp only [Wp] at h; simp only [Runs, run]; obtain ⟨a, h1, h2⟩ := h; exact one ⟨a, h1, ih h2⟩
  | app z eb s l n f ih => intro H Q h; simp only [Wp] at h; simp only [Runs, run]; obtain ⟨a, h1, h2⟩ := h; obtain ⟨n, r, h3, h4⟩ := ih _ h2; exact ⟨n, r, by rw [h1]; exact h3, h4⟩
  | slc z s lo hi mx f ih => intro H Q h; simp only [Wp] at h; simp only [Runs, run]; obtain ⟨a, h1, h2⟩ := h; exact one ⟨a, h1, ih _ h2⟩
  | call f args k ih =>
    intro H Q h
    obtain ⟨n, v, H', h1, h2⟩ := h
    obtain ⟨m, r, h3, h4⟩ := ih _ h2
    refine ⟨max n m, r, ?_, h4⟩
    simp only [run, obind_eq]
    exact ⟨_, callA_mono (Nat.le_max_left n m) h1, run_up (Nat.le_max_right n m) h3⟩
  | callv v args k ih =>
    intro H Q h
    obtain ⟨g, h0, n, v, H', h1, h2⟩ := h
    obtain ⟨m, r, h3, h4⟩ := ih _ h2
    refine ⟨max n m, r, ?_, h4⟩
    simp only [run, obind_eq]
    exact ⟨g, h0, _, callA_mono (Nat.le_max_left n m) h1, run_up (Nat.le_max_right n m) h3⟩
  | itn s f ih => intro H Q h; simp only [Wp] at h; simp only [Runs, run]; exact ih _ h
  | itx id f ih =>
    intro H Q h; simp only [Wp] at h; simp only [Runs, run]; obtain ⟨a, h1, h2⟩ := h
    split at h2 <;> rename_i hb
    · obtain ⟨n, r, h3, h4⟩ := ih _ h2
      exact ⟨n, r, by rw [h1, obind_some, if_pos hb]; exact h3, h4⟩
    · obtain ⟨n, r, h3, h4⟩ := ih _ h2
      exact ⟨n, r, by rw [h1, obind_some, if_neg hb]; exact h3, h4⟩
  | join t k iht ihk =>
    intro H Q h
    obtain ⟨n, r, h1, h2⟩ := iht (Q := fun a => Wp E (k a.1.1 a.1.2) a.2 Q) h
    obtain ⟨m, r2, h3, h4⟩ := ihk _ _ h2
    refine ⟨max n m, r2, ?_, h4⟩
    simp only [run, obind_eq]
    exact ⟨_, run_up (Nat.le_max_left n m) h1, run_up (Nat.le_max_right n m) h3⟩
  | loop b l k ihb ihk =>
    intro H Q h
    obtain ⟨n0, h⟩ := h
    have rounds : ∀ (n0 : Nat) (l : List AV) (H : AH), iterW n0 (fun l H Q => Wp E (b l) H Q) l H (fun a => Wp E (k a.1.1 a.1.2) a.2 Q) →
        ∃ n r, iterL n (fun l H => run (callA E.P E.T E.hs n) n (b l) H) l H = some r ∧ Wp E (k r.1.1 r.1.2) r.2 Q := by
      intro n0
      induction n0 with
      | zero => intro l H h; exact h.elim
      | succ n0 ih =>
        intro l H h
        simp only [iterW] at h
        obtain ⟨n, r, h1, h2⟩ := ihb l h
        obtain ⟨⟨t, l'⟩, H'⟩ := r
        cases t with
        | zero =>
          obtain ⟨m, r2, h3, h4⟩ := ih l' H' h2
          refine ⟨max n m + 1, r2, ?_, h4⟩
          simp only [iterL]
          rw [run_up (by omega) h1]
          exact iterL_mono (fun l H r h => run_up (by omega : m ≤ max n m + 1) h) (Nat.le_max_right n m) h3
        | succ t =>
          refine ⟨n + 1, ((t + 1, l'), H'), ?_, h2⟩
          simp only [iterL, run_up (by omega : n ≤ n + 1) h1]
    obtain ⟨n, r, h1, h2⟩ := rounds n0 l H h
    obtain ⟨m, r2, h3, h4⟩ := ihk _ _ h2
    refine ⟨max n m, r2, ?_, h4⟩
    simp only [run, obind_eq]
    exact ⟨_, iterL_mono (fun l H r h => run_up (Nat.le_max_left n m) h) (Nat.le_max_left n m) h1, run_up (Nat.le_max_right n m) h3⟩
def RetQ (R : AV → AH → Prop) : Res → Prop
  | ((0, [v]), H) => R v H
  | _ => False
theorem CallWp.of {f : FuncId} {fn : Func} (hf : E.P.funcs[f]? = some fn) {args : List AV} {t : Tree} (ht : bodyK E.T (E.hs f) fn args = t) {H : AH} {R : AV → AH → Prop} (h : Wp E t H (RetQ R)) : CallWp E f args H R := by
  subst ht
  obtain ⟨n, r, h1, h2⟩ := h.runs
  unfold RetQ at h2
  split at h2
  · rename_i v H'
    exact ⟨n + 1, v, H', by simp only [callA, hf, h1], h2⟩
  · exact h2.elim
theorem CallWp.mono {f : FuncId} {args : List AV} {H : AH} {R R' : AV → AH → Prop} (h : CallWp E f args H R) (hr : ∀ v H', R v H' → R' v H') : CallWp E f args H R' := by
  obtain ⟨n, v, H', h1, h2⟩ := h
  exact ⟨n, v, H', h1, hr _ _ h2⟩
theorem LoopWp.inv {B : List AV → AH → (Res → Prop) → Prop} (hB : ∀ l H (Q Q' : Res → Prop), (∀ r, Q r → Q' r) → B l H Q → B l H Q') (I : Nat → List AV → AH → Prop) {Q : Res → Prop} (step : ∀ m l H, I m l H → B l H fun r => match r with
      | ((0, l'), H') => ∃ m', m' < m ∧ I m' l' H'
      | r => Q r) {m : Nat} {l : List AV} {H : AH} (h : I m l H) : LoopWp B l H Q := by
  have : ∀ (k m : Nat) l H, m < k → I m l H → iterW k B l H Q := by
    intro k
    induction k with
    | zero => intro m l H hm; omega
    | succ k ih =>
      intro m l H hm h
      simp only [iterW]
      refine hB _ _ _ _ (fun r hr => ?_) (step m l H h)
      obtain ⟨⟨t, l'⟩, H'⟩ := r
      cases t with
      | zero => obtain ⟨m', h1, h2⟩ := hr; exact ih m' l' H' (by omega) h2
      | succ t => exact hr
  exact ⟨m + 1, this (m + 1) m l H (by omega) h⟩
theorem LoopWp.mono {B : List AV → AH → (Res → Prop) → Prop} (hB : ∀ l H (Q Q' : Res → Prop), (∀ r, Q r → Q' r) → B l H Q → B l H Q') {l : List AV} {H : AH} {Q Q' : Res → Prop} (hq : ∀ r, Q r → Q' r) (h : LoopWp B l H Q) : LoopWp B l H Q' := by
  obtain ⟨n, h⟩ := h
  refine ⟨n, ?_⟩
  induction n generalizing l H with
  | zero => exact h
  | succ n ih =>
    simp only [iterW] at h ⊢
    refine hB _ _ _ _ (fun r hr => ?_) h
    obtain ⟨⟨t, l'⟩, H'⟩ := r
    cases t with
    | zero => exact ih hr
    | succ t => exact hq _ hr
theorem Wp.mono : ∀ (t : Tree) {H : AH} {Q Q' : Res → Prop}, (∀ r, Q r → Q' r) → Wp E t H Q → Wp E t H Q' := by
  intro t
  induction t with
  | ret t l => exact fun hq h => hq _ h
  | fail => exact fun hq h => h
  | br b t f ht hf => intro H Q Q' hq h; simp only [Wp] at h ⊢; split at h <;> rename_i hb
                      · rw [if_pos hb]; exact ht hq h
                      · rw [if_neg hb]; exact hf hq h
  | tg b m t f ht hf => intro H Q Q' hq h; simp only [Wp] at h ⊢; split at h <;> rename_i hb
                        · rw [if_pos hb]; exact ht hq h
                        · rw [if_neg hb]; exact hf hq h
  | asI _ _ _ ih | asB _ _ ih | asS _ _ ih | asP _ _ ih | asL _ _ ih | asF _ _ _ ih | asX _ _ ih | asBy _ _ ih | asIt _ _ ih | asA _ _ _ ih | asT _ _ _ ih | nth _ _ _ ih | nthC _ _ _ ih | ld _ _ _ _ ih | lds _ _ _ _ ih | app _ _ _ _ _ _ ih | slc _ _ _ _ _ _ ih =>
    intro H Q Q' hq h; simp only [Wp] at h ⊢; obtain ⟨a, h1, h2⟩ := h; exact ⟨a, h1, ih _ hq h2⟩
  | asC _ _ _ ih | nn _ _ ih => intro H Q Q' hq h; simp only [Wp] at h ⊢; obtain ⟨a, h1, h2⟩ := h; exact ⟨a, h1, ih _ _ hq h2⟩
  | ixS _ _ _ _ ih => intro H Q Q' hq h; simp only [Wp] at h ⊢; obtain ⟨a, h1, h2⟩ := h; exact ⟨a, h1, ih _ _ _ hq h2⟩
  | st _ _ _ _ ih | sts _ _ _ _ ih => intro H Q Q' hq h; simp only [Wp] at h ⊢; obtain ⟨a, h1, h2⟩ := h; exact ⟨a, h1, ih hq h2⟩
  | same _ _ _ _ ih => intro H Q Q' hq h; simp only [Wp] at h ⊢; exact ⟨h.1, ih hq h.2⟩
  | al _ _ ih | itn _ _ ih => intro H Q Q' hq h; simp only [Wp] at h ⊢; exact ih _ hq h
  | call _ _ _ ih => intro H Q Q' hq h; simp only [Wp] at h ⊢; exact h.mono fun v H' h => ih _ hq h
  | callv _ _ _ ih => intro H Q Q' hq h; simp only [Wp] at h ⊢; obtain ⟨a, h1, h2⟩ := h; exact ⟨a, h1, h2.mono fun v H' h => ih _ hq h⟩
  | itx _ _ ih =>
    intro H Q Q' hq h; simp only [Wp] at h ⊢; obtain ⟨a, h1, h2⟩ := h; refine ⟨a, h1, ?_⟩
    split at h2 <;> rename_i hb
    · rw [if_pos hb]; exact ih _ hq h2
    · rw [if_neg hb]; exact ih _ hq h2
  | join _ _ iht ihk => intro H Q Q' hq h; simp only [Wp] at h ⊢; exact iht (fun r hr => ihk _ _ hq hr) h
  | loop b l k ihb ihk => intro H Q Q' hq h; simp only [Wp] at h ⊢; exact LoopWp.mono (B := fun l H Q => Wp E (b l) H Q) (fun l H Q Q' hq h => ihb l hq h) (fun r hr => ihk r.1.1 r.1.2 hq hr) h
theorem Wp.loopI {b : List AV → Tree} {l : List AV} {k : Nat → List AV → Tree} {H : AH} {Q : Res → Prop} (I : Nat → List AV → AH → Prop) {m : Nat} (h : I m l H)
    (step : ∀ m l H, I m l H → Wp E (b l) H fun r => match r with
      | ((0, l'), H') => ∃ m', m' < m ∧ I m' l' H'
      | r => Wp E (k r.1.1 r.1.2) r.2 Q) : Wp E (.loop b l k) H Q := by
  simp only [Wp]
  exact LoopWp.inv (B := fun l H Q => Wp E (b l) H Q) (Q := fun r => Wp E (k r.1.1 r.1.2) r.2 Q) (fun l H Q Q' hq h => Wp.mono _ hq h) I step h
end
end Go.Proofs.YtdfpjhlckjognaaGreat.Fw
