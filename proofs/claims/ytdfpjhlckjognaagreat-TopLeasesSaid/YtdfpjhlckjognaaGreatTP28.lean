/- Runs in parts (facts), printed by a program of mine; each is looked at by the kernel. -/
import Derived.Test.YtdfpjhlckjognaaGreatTPO
import Derived.Test.YtdfpjhlckjognaaGreatTP1
namespace Go.Proofs.YtdfpjhlckjognaaGreat
open Go Go.Proofs.YtdfpjhlckjognaaGreat.Fw
set_option linter.unusedVariables false
set_option maxRecDepth 100000
def L1526 (d : Int) : Fact := fS 11 [sQ 1213 0] 16478 [(1213,Lo238 d)] (sQ 1209 0) 16478
theorem L1526_ok (d : Int) : (L1526 d).okF E := fv0 (by kernel_rfl) (by kernel_rfl)
def L1527 (d : Int) : Fact := fS 15 [sQ 1209 0,sI 2] 16478 [(1209,Lo301)] (.tu [.ag [iI 2,iI 0,iV 1,iV 83886081,iH 7000],.sc (.b true)]) 16479
theorem L1527_ok (d : Int) : (L1527 d).okF E := fv0 (by kernel_rfl) (by kernel_rfl)
def L1528 (d : Int) : Fact := fS 16 [sQ 1263 0] 16480 [(1258,Lo2),(1263,Lo239 d),(1266,Lo303),(12753,Lo122)] (sI 2) 16484
theorem L1528_ok (d : Int) : (L1528 d).okF E := fv0 (by kernel_rfl) (by kernel_rfl)
def L1529 (d : Int) : Fact := fS 17 [sQ 1263 0] 16484 [(1263,Lo239 d)] (.ag [iI 2,iI 0,iV 1,iV 83886081,iH 7000]) 16485
theorem L1529_ok (d : Int) : (L1529 d).okF E := fv0 (by kernel_rfl) (by kernel_rfl)
def L1530 (d : Int) : Fact := fS 18 [.ag [sl5 1149 0 2 2 4,iI 1,iU d,iU 8,iU 40,iI 1,iU 100,iI 256],sI 1] 16485 [(1149,Lo270)] (.ag [iV 83886081,iH 7000]) 16487
theorem L1530_ok (d : Int) : (L1530 d).okF E := fv0 (by kernel_rfl) (by kernel_rfl)
def L1531 (d : Int) : Fact := fS 18 [.ag [sl5 1149 0 2 2 4,iI 1,iU d,iU 8,iU 40,iI 1,iU 100,iI 256],sI 1] 16487 [(1149,Lo270)] (.ag [iV 83886081,iH 7000]) 16489
theorem L1531_ok (d : Int) : (L1531 d).okF E := fv0 (by kernel_rfl) (by kernel_rfl)
def L1532 (d : Int) : Fact :=⟨5,[.ag [sl5 1149 0 2 2 4,iI 1,iU d,iU 8,iU 40,iI 1,iU 100,iI 256]],1151,[(1149,Lo304)],.tu [.sc (pQ 1188 0),.sc (iI 0)],1315,[(1149,Lo304),(1187,Lo304),(1188,Lo1 d),(1208,Lo2),(1209,Lo3),(1211,Lo4 d),(1212,Lo5),(1213,Lo6 d),(1214,Lo7),(1216,Lo8),(1217,Lo9),(1218,Lo10),(1219,Lo11),(1227,Lo12),(1230,Lo13),(1258,Lo2),(1259,Lo14),(1261,Lo15 d),(1262,Lo5),(1263,Lo16 d),(1264,Lo7),(1266,Lo8),(1267,Lo9),(1268,Lo10),(1269,Lo11),(1286,Lo17),(1288,Lo18),(1294,Lo19),(1295,Lo20),(1296,Lo21),(1305,Lo22),(1309,Lo305),(1314,Lo24)]⟩
theorem L1532_ok (d : Int) : (L1532 d).okF E := fv0 (by kernel_rfl) (by kernel_rfl)
def L1534 (d : Int) : Fact :=⟨8,[sQ 1188 0,.ag [iI 8,iI 2,iI 0,iU 0,iV 0,iH 0,iV 0,iH 0,.s ⟨⟨[]⟩⟩]],1315,[(1188,Lo1 d),(1258,Lo2),(1259,Lo14),(1263,Lo16 d),(1288,Lo18),(1294,Lo19),(1295,Lo20),(1296,Lo21),(1305,Lo22),(1309,Lo305),(1314,Lo24)],sI 0,1438,[(1188,Lo1 d),(1258,Lo2),(1259,Lo14),(1263,Lo16 d),(1288,Lo18),(1294,Lo19),(1295,Lo20),(1296,Lo25),(1305,Lo22),(1309,Lo306),(1314,Lo24),(1424,Lo245),(1428,Lo28),(1435,Lo29)]⟩
theorem L1534_ok (d : Int) : (L1534 d).okF E := fv0 (by kernel_rfl) (by kernel_rfl)
def L1537 (d : Int) : Fact :=⟨65,[sQ 1188 0,sI 2,.sc (sl5 1837 0 2 2 3)],1920,[(1188,Lo36 d),(1263,Lo33 d),(1288,Lo18),(1294,Lo19),(1295,Lo20),(1296,Lo25),(1305,Lo22),(1309,Lo306),(1314,Lo24),(1424,Lo245),(1428,Lo28),(1435,Lo29),(1837,Lo35)],.tu [],1976,[(1188,Lo36 d),(1263,Lo33 d),(1288,Lo18),(1294,Lo19),(1295,Lo20),(1296,Lo37),(1305,Lo22),(1309,Lo306),(1314,Lo24),(1424,Lo246),(1428,Lo28),(1837,Lo35),(1973,Lo39)]⟩
theorem L1537_ok (d : Int) : (L1537 d).okF E := fv0 (by kernel_rfl) (by kernel_rfl)
def L1538 (d : Int) : Fact :=⟨25,[sQ 1188 0,.ag [iI 0,iI 0,iI 0,iU 0,iV 0,iH 0,iV 0,iH 0,.s ⟨⟨[]⟩⟩]],1440,[(1188,Lo1 d),(1208,Lo2),(1209,Lo3),(1211,Lo4 d),(1212,Lo5),(1213,Lo6 d),(1216,Lo8),(1217,Lo9),(1219,Lo11),(1230,Lo13),(1258,Lo2),(1259,Lo14),(1261,Lo15 d),(1262,Lo5),(1263,Lo16 d),(1264,Lo7),(1266,Lo8),(1267,Lo9),(1269,Lo11),(1288,Lo18),(1294,Lo19),(1295,Lo20),(1296,Lo25),(1305,Lo22),(1309,Lo306),(1314,Lo24),(1424,Lo245),(1428,Lo28),(1435,Lo29)],sI 0,1976,[(1188,Lo36 d),(1208,Lo2),(1209,Lo3),(1211,Lo4 d),(1212,Lo5),(1213,Lo30 d),(1216,Lo31),(1217,Lo9),(1219,Lo11),(1230,Lo13),(1258,Lo2),(1259,Lo14),(1261,Lo32 d),(1262,Lo5),(1263,Lo33 d),(1264,Lo7),(1266,Lo31),(1267,Lo9),(1269,Lo11),(1288,Lo18),(1294,Lo19),(1295,Lo20),(1296,Lo37),(1305,Lo22),(1309,Lo306),(1314,Lo24),(1424,Lo246),(1428,Lo28),(1783,Lo34),(1973,Lo39)]⟩
theorem L1538_ok (d : Int) : (L1538 d).okF E := fv1 [L6 d,L10 d,L1537 d] ⟨L6_ok d,L10_ok d,L1537_ok d,trivial⟩ (by kernel_rfl) (by kernel_rfl)
end Go.Proofs.YtdfpjhlckjognaaGreat
