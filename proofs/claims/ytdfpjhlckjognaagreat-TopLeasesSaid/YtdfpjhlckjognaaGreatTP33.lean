/- Runs in parts (facts), printed by a program of mine; each is looked at by the kernel. -/
import Derived.Test.YtdfpjhlckjognaaGreatTPO
import Derived.Test.YtdfpjhlckjognaaGreatTP1
import Derived.Test.YtdfpjhlckjognaaGreatTP17
import Derived.Test.YtdfpjhlckjognaaGreatTP18
import Derived.Test.YtdfpjhlckjognaaGreatTP20
import Derived.Test.YtdfpjhlckjognaaGreatTP22
import Derived.Test.YtdfpjhlckjognaaGreatTP24
import Derived.Test.YtdfpjhlckjognaaGreatTP26
import Derived.Test.YtdfpjhlckjognaaGreatTP27
import Derived.Test.YtdfpjhlckjognaaGreatTP31
import Derived.Test.YtdfpjhlckjognaaGreatTP32
namespace Go.Proofs.YtdfpjhlckjognaaGreat
open Go Go.Proofs.YtdfpjhlckjognaaGreat.Fw
set_option linter.unusedVariables false
set_option maxRecDepth 100000
def L1656 (d : Int) : Fact :=⟨8,[sQ 1188 0,.ag [iI 1,iI 0,iI 0,iU 0,iV 0,iH 0,iV 0,iH 0,.s ⟨⟨[]⟩⟩]],13504,[(1188,Lo206 d),(1259,Lo291),(1262,Lo126),(1263,Lo205 d),(1264,Lo292),(1267,Lo9),(1269,Lo11),(1294,Lo293),(1295,Lo20),(1296,Lo284),(1305,Lo22),(1309,Lo309),(1314,Lo24),(1424,Lo267),(1428,Lo28),(7820,Lo131),(8397,Lo203),(10667,Lo171),(10674,Lo174)],sI 0,13892,[(1188,Lo206 d),(1259,Lo299),(1262,Lo5),(1263,Lo205 d),(1264,Lo300),(1267,Lo9),(1269,Lo11),(1294,Lo293),(1295,Lo20),(1296,Lo284),(1305,Lo22),(1309,Lo309),(1314,Lo24),(1424,Lo268),(1428,Lo28),(8397,Lo214),(10667,Lo209),(10674,Lo174),(13714,Lo210),(13778,Lo211)]⟩
theorem L1656_ok (d : Int) : (L1656 d).okF E := fv1 [L1655 d] ⟨L1655_ok d,trivial⟩ (by kernel_rfl) (by kernel_rfl)
def L1659 (d : Int) : Fact :=⟨8,[sQ 1188 0,.ag [iI 1,iI 0,iI 0,iU 0,iV 0,iH 0,iV 0,iH 0,.s ⟨⟨[]⟩⟩]],15008,[(1188,Lo220 d),(1263,Lo219 d),(1266,Lo298),(1269,Lo11),(1294,Lo293),(1295,Lo20),(1296,Lo288),(1305,Lo22),(1309,Lo309),(1314,Lo24),(1424,Lo268),(1428,Lo28),(8397,Lo227),(10674,Lo174)],sI 0,15110,[(1188,Lo220 d),(1263,Lo219 d),(1266,Lo303),(1269,Lo11),(1294,Lo293),(1295,Lo20),(1296,Lo289),(1305,Lo22),(1309,Lo309),(1314,Lo24),(1424,Lo269),(1428,Lo28),(8397,Lo230),(10674,Lo174)]⟩
theorem L1659_ok (d : Int) : (L1659 d).okF E := fv0 (by kernel_rfl) (by kernel_rfl)
def L1662 (d : Int) : Fact :=⟨8,[sQ 1188 0,.ag [iI 1,iI 0,iI 0,iU 0,iV 0,iH 0,iV 0,iH 0,.s ⟨⟨[]⟩⟩]],15111,[(1188,Lo220 d),(1263,Lo219 d),(1268,Lo164),(1269,Lo11),(1294,Lo293),(1295,Lo20),(1296,Lo289),(1305,Lo22),(1309,Lo309),(1314,Lo24),(1424,Lo269),(1428,Lo28),(8397,Lo230),(10674,Lo174)],sI 0,15194,[(1188,Lo220 d),(1263,Lo219 d),(1268,Lo231),(1269,Lo11),(1294,Lo293),(1295,Lo20),(1296,Lo290),(1305,Lo22),(1309,Lo309),(1314,Lo24),(1424,Lo269),(1428,Lo28),(8397,Lo166),(10674,Lo174)]⟩
theorem L1662_ok (d : Int) : (L1662 d).okF E := fv0 (by kernel_rfl) (by kernel_rfl)
def L1663 (d : Int) : Fact :=⟨9,[sQ 1188 0,sI 30],1438,[(1188,Lo1 d),(1208,Lo2),(1209,Lo3),(1211,Lo4 d),(1212,Lo5),(1213,Lo6 d),(1214,Lo7),(1216,Lo8),(1217,Lo9),(1219,Lo11),(1227,Lo12),(1230,Lo13),(1258,Lo2),(1259,Lo14),(1261,Lo15 d),(1262,Lo5),(1263,Lo16 d),(1264,Lo7),(1266,Lo8),(1267,Lo9),(1268,Lo10),(1269,Lo11),(1286,Lo17),(1288,Lo18),(1294,Lo19),(1295,Lo20),(1296,Lo25),(1305,Lo22),(1309,Lo309),(1314,Lo24),(1424,Lo259),(1428,Lo28),(1435,Lo29)],.tu [],16376,[(1188,Lo240 d),(1208,Lo2),(1209,Lo301),(1211,Lo295 d),(1212,Lo5),(1213,Lo238 d),(1214,Lo302),(1216,Lo297),(1217,Lo216),(1219,Lo121),(1258,Lo2),(1259,Lo299),(1261,Lo280 d),(1262,Lo5),(1263,Lo239 d),(1264,Lo300),(1266,Lo303),(1267,Lo9),(1268,Lo231),(1269,Lo11),(1294,Lo293),(1295,Lo20),(1296,Lo290),(1305,Lo22),(1309,Lo309),(1314,Lo24),(1424,Lo269),(1428,Lo28),(7987,Lo34),(8397,Lo166),(9372,Lo152),(10674,Lo174),(12383,Lo122),(12464,Lo83),(12753,Lo122),(13714,Lo210),(13778,Lo211),(14939,Lo225),(14991,Lo226)]⟩
theorem L1663_ok (d : Int) : (L1663 d).okF E := fv1 [L1606 d,L31 d,L45 d,L59 d,L73 d,L1609 d,L898 d,L1612 d,L933 d,L947 d,L961 d,L975 d,L989 d,L1619 d,L1020 d,L1050 d,L1064 d,L1628 d,L1091 d,L1105 d,L1119 d,L1133 d,L1147 d,L1634 d,L1179 d,L1201 d,L1215 d,L1229 d,L1243 d,L1640 d,L1646 d,L1291 d,L1305 d,L1319 d,L1333 d,L1347 d,L1651 d,L1378 d,L1656 d,L1406 d,L1420 d,L1434 d,L1447 d,L1659 d,L1662 d,L1487 d,L1501 d,L1515 d] ⟨L1606_ok d,L31_ok d,L45_ok d,L59_ok d,L73_ok d,L1609_ok d,L898_ok d,L1612_ok d,L933_ok d,L947_ok d,L961_ok d,L975_ok d,L989_ok d,L1619_ok d,L1020_ok d,L1050_ok d,L1064_ok d,L1628_ok d,L1091_ok d,L1105_ok d,L1119_ok d,L1133_ok d,L1147_ok d,L1634_ok d,L1179_ok d,L1201_ok d,L1215_ok d,L1229_ok d,L1243_ok d,L1640_ok d,L1646_ok d,L1291_ok d,L1305_ok d,L1319_ok d,L1333_ok d,L1347_ok d,L1651_ok d,L1378_ok d,L1656_ok d,L1406_ok d,L1420_ok d,L1434_ok d,L1447_ok d,L1659_ok d,L1662_ok d,L1487_ok d,L1501_ok d,L1515_ok d,trivial⟩ (by kernel_rfl) (by kernel_rfl)
def L1664 (d : Int) : Fact := fS 18 [.ag [sl5 1149 0 2 2 4,iI 1,iU d,iU 8,iU 40,iI 1,iU 100,iI 256],sI 1] 16485 [(1149,Lo307)] (.ag [iV 83886081,iH 7000]) 16487
theorem L1664_ok (d : Int) : (L1664 d).okF E := fv0 (by kernel_rfl) (by kernel_rfl)
def L1665 (d : Int) : Fact := fS 18 [.ag [sl5 1149 0 2 2 4,iI 1,iU d,iU 8,iU 40,iI 1,iU 100,iI 256],sI 1] 16487 [(1149,Lo307)] (.ag [iV 83886081,iH 7000]) 16489
theorem L1665_ok (d : Int) : (L1665 d).okF E := fv0 (by kernel_rfl) (by kernel_rfl)
end Go.Proofs.YtdfpjhlckjognaaGreat
