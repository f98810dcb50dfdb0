/- The library at the natbox's bindings. -/
import Derived.Test.YtloiifcocgpnbaaFwZm
import Derived.Test.YtloiifcocgpnbaaFwZn
import Derived.Test.YtloiifcocgpnbaaTreeA
namespace Go.Proofs.Ytloiifcocgpnbaa
open Go Go.Proofs.Ytloiifcocgpnbaa.Fw
set_option linter.unusedVariables false
set_option linter.unusedSimpArgs false

structure Bn where
  iip : Int
  iport : Int
  kip : Int
  kport : Int
  port : Int
  met : Option SlD
  until_ : Int
def bnE : Enc Bn where
  z := 7
  e t := [.i .u32 t.iip, .i .u16 t.iport, .i .u32 t.kip, .i .u16 t.kport, .i .u16 t.port, .sl t.met, .i .u64 t.until_]
  len _ := rfl
def bI : BIds := ⟨79, 65, 57⟩
theorem bOk : BOk E bI where
  len64 := ⟨Try.f79, Try.func79, fun _ => by kernel_rfl⟩
  blen := ⟨Try.f65, Try.func65, fun _ => by kernel_rfl⟩
  or_ := ⟨Try.f57, Try.func57, fun _ => by kernel_rfl⟩
abbrev bD : Dec := fun l f => decL l 0 [.i .u32, .i .u16, .i .u32, .i .u16, .i .u16, .sl, .i .u64] f
def bZ : List Sc := [.i .u32 0, .i .u16 0, .i .u32 0, .i .u16 0, .i .u16 0, .sl none, .i .u64 0]
def bdI : DIds := ⟨37, 44⟩
theorem bdOk : DOk E 7 bD bZ bdI where
  idxF := ⟨Try.f37, Try.func37, fun _ _ _ _ => by kernel_rfl⟩
  delF := ⟨Try.f44, Try.func44, fun _ _ _ _ => by kernel_rfl⟩
def bsI : SIds := ⟨bI, 70, 80, 71, 74, 85, 84, 83, 73, 82, 81, 72, 75, 76, 77, 64, 41⟩
theorem bsOk : SOk E 7 bD bZ bsI where
  b := bOk
  ins := ⟨Try.f70, Try.func70, fun _ _ _ _ _ _ => by kernel_rfl⟩
  sift := ⟨Try.f80, Try.func80, fun _ _ _ _ _ _ _ => by kernel_rfl⟩
  heap := ⟨Try.f71, Try.func71, fun _ _ _ _ _ _ => by kernel_rfl⟩
  rev := ⟨Try.f74, Try.func74, fun _ _ _ _ _ _ => by kernel_rfl⟩
  ord2 := ⟨Try.f85, Try.func85, fun _ _ _ _ _ _ _ _ => by kernel_rfl⟩
  med := ⟨Try.f84, Try.func84, fun _ _ _ _ _ _ _ _ _ => by kernel_rfl⟩
  medA := ⟨Try.f83, Try.func83, fun _ _ _ _ _ _ _ => by kernel_rfl⟩
  piv := ⟨Try.f73, Try.func73, fun _ _ _ _ _ _ => by kernel_rfl⟩
  xors := ⟨Try.f82, Try.func82, fun _ _ => by kernel_rfl⟩
  npow := ⟨Try.f81, Try.func81, fun _ => by kernel_rfl⟩
  brk := ⟨Try.f72, Try.func72, fun _ _ _ _ _ _ => by kernel_rfl⟩
  pins := ⟨Try.f75, Try.func75, fun _ _ _ _ _ _ => by kernel_rfl⟩
  peq := ⟨Try.f76, Try.func76, fun _ _ _ _ _ _ _ => by kernel_rfl⟩
  part := ⟨Try.f77, Try.func77, fun _ _ _ _ _ _ _ => by kernel_rfl⟩
  pdq := ⟨Try.f64, Try.func64, fun _ _ _ _ _ _ _ => by kernel_rfl⟩
  sortF := ⟨Try.f41, Try.func41, fun _ _ _ _ => by kernel_rfl⟩
theorem belOk : ElOk E bnE 7 bD bZ := ⟨rfl, rfl, decOk fun a => ⟨_, _, rfl, ⟨_, rfl⟩, _, _, rfl, ⟨_, rfl⟩, _, _, rfl, ⟨_, rfl⟩, _, _, rfl, ⟨_, rfl⟩, _, _, rfl, ⟨_, rfl⟩, _, _, rfl, ⟨_, rfl⟩, _, _, rfl, ⟨_, rfl⟩, rfl⟩⟩

end Go.Proofs.Ytloiifcocgpnbaa
