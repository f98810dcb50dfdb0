/- Runs in parts (facts), printed by a program of mine; each is looked at by the kernel. -/
import Derived.Test.YtdfpjhlckjognaaGreatTPO
import Derived.Test.YtdfpjhlckjognaaGreatTP1
import Derived.Test.YtdfpjhlckjognaaGreatTP17
import Derived.Test.YtdfpjhlckjognaaGreatTP18
import Derived.Test.YtdfpjhlckjognaaGreatTP20
import Derived.Test.YtdfpjhlckjognaaGreatTP22
import Derived.Test.YtdfpjhlckjognaaGreatTP24
import Derived.Test.YtdfpjhlckjognaaGreatTP26
namespace Go.Proofs.YtdfpjhlckjognaaGreat
open Go Go.Proofs.YtdfpjhlckjognaaGreat.Fw
set_option linter.unusedVariables false
set_option maxRecDepth 100000
def L1506 (d : Int) : Fact :=⟨66,[sQ 1213 0,sU 30],15985,[(1208,Lo2),(1212,Lo5),(1213,Lo235 d),(1217,Lo216),(1219,Lo121)],sL none,16099,[(1208,Lo2),(1212,Lo5),(1213,Lo238 d),(1217,Lo216),(1219,Lo121)]⟩
theorem L1506_ok (d : Int) : (L1506 d).okF E := fv0 (by kernel_rfl) (by kernel_rfl)
def L1510 (d : Int) : Fact :=⟨66,[sQ 1263 0,sU 30],16101,[(1258,Lo2),(1259,Lo299),(1262,Lo5),(1263,Lo236 d),(1266,Lo303),(1267,Lo9),(1268,Lo231),(1269,Lo11),(12753,Lo122)],sL none,16374,[(1258,Lo2),(1259,Lo299),(1262,Lo5),(1263,Lo239 d),(1266,Lo303),(1267,Lo9),(1268,Lo231),(1269,Lo11),(12753,Lo122)]⟩
theorem L1510_ok (d : Int) : (L1510 d).okF E := fv0 (by kernel_rfl) (by kernel_rfl)
def L1514 (d : Int) : Fact :=⟨25,[sQ 1188 0,.ag [iI 0,iI 0,iI 0,iU 0,iV 0,iH 0,iV 0,iH 0,.s ⟨⟨[]⟩⟩]],15984,[(1188,Lo237 d),(1208,Lo2),(1212,Lo5),(1213,Lo235 d),(1217,Lo216),(1219,Lo121),(1258,Lo2),(1259,Lo299),(1262,Lo5),(1263,Lo236 d),(1266,Lo303),(1267,Lo9),(1268,Lo231),(1269,Lo11),(1294,Lo293),(9372,Lo152),(10674,Lo174),(12753,Lo122)],sI 0,16376,[(1188,Lo240 d),(1208,Lo2),(1212,Lo5),(1213,Lo238 d),(1217,Lo216),(1219,Lo121),(1258,Lo2),(1259,Lo299),(1262,Lo5),(1263,Lo239 d),(1266,Lo303),(1267,Lo9),(1268,Lo231),(1269,Lo11),(1294,Lo293),(9372,Lo152),(10674,Lo174),(12753,Lo122)]⟩
theorem L1514_ok (d : Int) : (L1514 d).okF E := fv1 [L1506 d,L1510 d] ⟨L1506_ok d,L1510_ok d,trivial⟩ (by kernel_rfl) (by kernel_rfl)
def L1515 (d : Int) : Fact :=⟨8,[sQ 1188 0,.ag [iI 0,iI 0,iI 0,iU 0,iV 0,iH 0,iV 0,iH 0,.s ⟨⟨[]⟩⟩]],15982,[(1188,Lo237 d),(1208,Lo2),(1212,Lo5),(1213,Lo235 d),(1217,Lo216),(1219,Lo121),(1258,Lo2),(1259,Lo299),(1262,Lo5),(1263,Lo236 d),(1266,Lo303),(1267,Lo9),(1268,Lo231),(1269,Lo11),(1294,Lo293),(9372,Lo152),(10674,Lo174),(12753,Lo122)],sI 0,16376,[(1188,Lo240 d),(1208,Lo2),(1212,Lo5),(1213,Lo238 d),(1217,Lo216),(1219,Lo121),(1258,Lo2),(1259,Lo299),(1262,Lo5),(1263,Lo239 d),(1266,Lo303),(1267,Lo9),(1268,Lo231),(1269,Lo11),(1294,Lo293),(9372,Lo152),(10674,Lo174),(12753,Lo122)]⟩
theorem L1515_ok (d : Int) : (L1515 d).okF E := fv1 [L1514 d] ⟨L1514_ok d,trivial⟩ (by kernel_rfl) (by kernel_rfl)
def L1520 (d : Int) : Fact :=⟨9,[sQ 1188 0,sI 30],1438,[(1188,Lo1 d),(1208,Lo2),(1209,Lo3),(1211,Lo4 d),(1212,Lo5),(1213,Lo6 d),(1214,Lo7),(1216,Lo8),(1217,Lo9),(1219,Lo11),(1227,Lo12),(1230,Lo13),(1258,Lo2),(1259,Lo14),(1261,Lo15 d),(1262,Lo5),(1263,Lo16 d),(1264,Lo7),(1266,Lo8),(1267,Lo9),(1268,Lo10),(1269,Lo11),(1286,Lo17),(1288,Lo18),(1294,Lo19),(1295,Lo20),(1296,Lo25),(1305,Lo22),(1309,Lo272),(1314,Lo24),(1424,Lo27),(1428,Lo28),(1435,Lo29)],.tu [],16376,[(1188,Lo240 d),(1208,Lo2),(1209,Lo301),(1211,Lo295 d),(1212,Lo5),(1213,Lo238 d),(1214,Lo302),(1216,Lo297),(1217,Lo216),(1219,Lo121),(1258,Lo2),(1259,Lo299),(1261,Lo280 d),(1262,Lo5),(1263,Lo239 d),(1264,Lo300),(1266,Lo303),(1267,Lo9),(1268,Lo231),(1269,Lo11),(1294,Lo293),(1295,Lo20),(1296,Lo290),(1305,Lo22),(1309,Lo272),(1314,Lo24),(1424,Lo229),(1428,Lo28),(7987,Lo34),(8397,Lo166),(9372,Lo152),(10674,Lo174),(12383,Lo122),(12464,Lo83),(12753,Lo122),(13714,Lo210),(13778,Lo211),(14939,Lo225),(14991,Lo226)]⟩
theorem L1520_ok (d : Int) : (L1520 d).okF E := fv1 [L875 d,L31 d,L45 d,L59 d,L73 d,L884 d,L898 d,L911 d,L933 d,L947 d,L961 d,L975 d,L989 d,L1006 d,L1020 d,L1050 d,L1064 d,L1077 d,L1091 d,L1105 d,L1119 d,L1133 d,L1147 d,L1165 d,L1179 d,L1201 d,L1215 d,L1229 d,L1243 d,L1256 d,L1277 d,L1291 d,L1305 d,L1319 d,L1333 d,L1347 d,L1364 d,L1378 d,L1392 d,L1406 d,L1420 d,L1434 d,L1447 d,L1460 d,L1473 d,L1487 d,L1501 d,L1515 d] ⟨L875_ok d,L31_ok d,L45_ok d,L59_ok d,L73_ok d,L884_ok d,L898_ok d,L911_ok d,L933_ok d,L947_ok d,L961_ok d,L975_ok d,L989_ok d,L1006_ok d,L1020_ok d,L1050_ok d,L1064_ok d,L1077_ok d,L1091_ok d,L1105_ok d,L1119_ok d,L1133_ok d,L1147_ok d,L1165_ok d,L1179_ok d,L1201_ok d,L1215_ok d,L1229_ok d,L1243_ok d,L1256_ok d,L1277_ok d,L1291_ok d,L1305_ok d,L1319_ok d,L1333_ok d,L1347_ok d,L1364_ok d,L1378_ok d,L1392_ok d,L1406_ok d,L1420_ok d,L1434_ok d,L1447_ok d,L1460_ok d,L1473_ok d,L1487_ok d,L1501_ok d,L1515_ok d,trivial⟩ (by kernel_rfl) (by kernel_rfl)
def L1521 (d : Int) : Fact := fS 10 [sQ 1188 0,sI 2] 16376 [(1188,Lo240 d),(1294,Lo293)] (sQ 1263 0) 16376
theorem L1521_ok (d : Int) : (L1521 d).okF E := fv0 (by kernel_rfl) (by kernel_rfl)
def L1522 (d : Int) : Fact := fS 10 [sQ 1188 0,sI 1] 16376 [(1188,Lo240 d),(1294,Lo293)] (sQ 1213 0) 16376
theorem L1522_ok (d : Int) : (L1522 d).okF E := fv0 (by kernel_rfl) (by kernel_rfl)
def L1523 (d : Int) : Fact := fS 11 [sQ 1213 0] 16376 [(1213,Lo238 d)] (sQ 1209 0) 16376
theorem L1523_ok (d : Int) : (L1523 d).okF E := fv0 (by kernel_rfl) (by kernel_rfl)
def L1524 (d : Int) : Fact :=⟨12,[sQ 1263 0,sU 30],16376,[(1263,Lo239 d),(1268,Lo231)],.sc (sl5 16379 0 1 1 1),16411,[(1263,Lo239 d),(1268,Lo231),(16379,Lo34)]⟩
theorem L1524_ok (d : Int) : (L1524 d).okF E := fv0 (by kernel_rfl) (by kernel_rfl)
def L1525 (d : Int) : Fact :=⟨14,[sQ 1213 0],16411,[(1213,Lo238 d),(1217,Lo216)],.sc (sl5 16412 0 1 33 4),16478,[(1213,Lo238 d),(1217,Lo216),(16412,Lo241)]⟩
theorem L1525_ok (d : Int) : (L1525 d).okF E := fv0 (by kernel_rfl) (by kernel_rfl)
end Go.Proofs.YtdfpjhlckjognaaGreat
