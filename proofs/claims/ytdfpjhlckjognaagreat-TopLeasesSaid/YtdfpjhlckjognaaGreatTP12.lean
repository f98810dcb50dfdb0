/- Runs in parts (facts), printed by a program of mine; each is looked at by the kernel. -/
import Derived.Test.YtdfpjhlckjognaaGreatTPO
import Derived.Test.YtdfpjhlckjognaaGreatTP1
import Derived.Test.YtdfpjhlckjognaaGreatTP10
import Derived.Test.YtdfpjhlckjognaaGreatTP2
import Derived.Test.YtdfpjhlckjognaaGreatTP3
import Derived.Test.YtdfpjhlckjognaaGreatTP5
import Derived.Test.YtdfpjhlckjognaaGreatTP7
import Derived.Test.YtdfpjhlckjognaaGreatTP8
namespace Go.Proofs.YtdfpjhlckjognaaGreat
open Go Go.Proofs.YtdfpjhlckjognaaGreat.Fw
set_option linter.unusedVariables false
set_option maxRecDepth 100000
def L717 (d : Int) : Fact :=⟨8,[sQ 1188 0,.ag [iI 0,iI 0,iI 0,iU 0,iV 0,iH 0,iV 0,iH 0,.s ⟨⟨[]⟩⟩]],15974,[(1188,Lo237 d),(1208,Lo2),(1212,Lo5),(1213,Lo235 d),(1217,Lo216),(1219,Lo121),(1258,Lo2),(1259,Lo207),(1262,Lo5),(1263,Lo236 d),(1266,Lo228),(1267,Lo9),(1268,Lo231),(1269,Lo11),(1294,Lo173),(9369,Lo152),(10669,Lo174),(12748,Lo122)],sI 0,16368,[(1188,Lo240 d),(1208,Lo2),(1212,Lo5),(1213,Lo238 d),(1217,Lo216),(1219,Lo121),(1258,Lo2),(1259,Lo207),(1262,Lo5),(1263,Lo239 d),(1266,Lo228),(1267,Lo9),(1268,Lo231),(1269,Lo11),(1294,Lo173),(9369,Lo152),(10669,Lo174),(12748,Lo122)]⟩
theorem L717_ok (d : Int) : (L717 d).okF E := fv1 [L716 d] ⟨L716_ok d,trivial⟩ (by kernel_rfl) (by kernel_rfl)
def L722 (d : Int) : Fact :=⟨9,[sQ 1188 0,sI 30],1438,[(1188,Lo1 d),(1208,Lo2),(1209,Lo3),(1211,Lo4 d),(1212,Lo5),(1213,Lo6 d),(1214,Lo7),(1216,Lo8),(1217,Lo9),(1219,Lo11),(1227,Lo12),(1230,Lo13),(1258,Lo2),(1259,Lo14),(1261,Lo15 d),(1262,Lo5),(1263,Lo16 d),(1264,Lo7),(1266,Lo8),(1267,Lo9),(1268,Lo10),(1269,Lo11),(1286,Lo17),(1288,Lo18),(1294,Lo19),(1295,Lo20),(1296,Lo25),(1305,Lo22),(1309,Lo26),(1314,Lo24),(1424,Lo27),(1428,Lo28),(1435,Lo29)],.tu [],16368,[(1188,Lo240 d),(1208,Lo2),(1209,Lo221),(1211,Lo188 d),(1212,Lo5),(1213,Lo238 d),(1214,Lo223),(1216,Lo192),(1217,Lo216),(1219,Lo121),(1258,Lo2),(1259,Lo207),(1261,Lo125 d),(1262,Lo5),(1263,Lo239 d),(1264,Lo208),(1266,Lo228),(1267,Lo9),(1268,Lo231),(1269,Lo11),(1294,Lo173),(1295,Lo20),(1296,Lo165),(1305,Lo22),(1309,Lo26),(1314,Lo24),(1424,Lo229),(1428,Lo28),(7984,Lo34),(8394,Lo166),(9369,Lo152),(10669,Lo174),(12378,Lo122),(12459,Lo83),(12748,Lo122),(13708,Lo210),(13772,Lo211),(14933,Lo225),(14985,Lo226)]⟩
theorem L722_ok (d : Int) : (L722 d).okF E := fv1 [L17 d,L31 d,L45 d,L59 d,L73 d,L86 d,L100 d,L113 d,L135 d,L149 d,L163 d,L177 d,L191 d,L208 d,L222 d,L252 d,L266 d,L279 d,L293 d,L307 d,L321 d,L335 d,L349 d,L367 d,L381 d,L403 d,L417 d,L431 d,L445 d,L458 d,L479 d,L493 d,L507 d,L521 d,L535 d,L549 d,L566 d,L580 d,L594 d,L608 d,L622 d,L636 d,L649 d,L662 d,L675 d,L689 d,L703 d,L717 d] ⟨L17_ok d,L31_ok d,L45_ok d,L59_ok d,L73_ok d,L86_ok d,L100_ok d,L113_ok d,L135_ok d,L149_ok d,L163_ok d,L177_ok d,L191_ok d,L208_ok d,L222_ok d,L252_ok d,L266_ok d,L279_ok d,L293_ok d,L307_ok d,L321_ok d,L335_ok d,L349_ok d,L367_ok d,L381_ok d,L403_ok d,L417_ok d,L431_ok d,L445_ok d,L458_ok d,L479_ok d,L493_ok d,L507_ok d,L521_ok d,L535_ok d,L549_ok d,L566_ok d,L580_ok d,L594_ok d,L608_ok d,L622_ok d,L636_ok d,L649_ok d,L662_ok d,L675_ok d,L689_ok d,L703_ok d,L717_ok d,trivial⟩ (by kernel_rfl) (by kernel_rfl)
def L723 (d : Int) : Fact := fS 10 [sQ 1188 0,sI 2] 16368 [(1188,Lo240 d),(1294,Lo173)] (sQ 1263 0) 16368
theorem L723_ok (d : Int) : (L723 d).okF E := fv0 (by kernel_rfl) (by kernel_rfl)
def L724 (d : Int) : Fact := fS 10 [sQ 1188 0,sI 1] 16368 [(1188,Lo240 d),(1294,Lo173)] (sQ 1213 0) 16368
theorem L724_ok (d : Int) : (L724 d).okF E := fv0 (by kernel_rfl) (by kernel_rfl)
def L725 (d : Int) : Fact := fS 11 [sQ 1213 0] 16368 [(1213,Lo238 d)] (sQ 1209 0) 16368
theorem L725_ok (d : Int) : (L725 d).okF E := fv0 (by kernel_rfl) (by kernel_rfl)
def L726 (d : Int) : Fact :=⟨12,[sQ 1263 0,sU 30],16368,[(1263,Lo239 d),(1268,Lo231)],.sc (sl5 16371 0 1 1 1),16403,[(1263,Lo239 d),(1268,Lo231),(16371,Lo34)]⟩
theorem L726_ok (d : Int) : (L726 d).okF E := fv0 (by kernel_rfl) (by kernel_rfl)
def L727 (d : Int) : Fact :=⟨14,[sQ 1213 0],16403,[(1213,Lo238 d),(1217,Lo216)],.sc (sl5 16404 0 1 33 4),16470,[(1213,Lo238 d),(1217,Lo216),(16404,Lo241)]⟩
theorem L727_ok (d : Int) : (L727 d).okF E := fv0 (by kernel_rfl) (by kernel_rfl)
def L728 (d : Int) : Fact := fS 11 [sQ 1213 0] 16470 [(1213,Lo238 d)] (sQ 1209 0) 16470
theorem L728_ok (d : Int) : (L728 d).okF E := fv0 (by kernel_rfl) (by kernel_rfl)
def L729 (d : Int) : Fact := fS 15 [sQ 1209 0,sI 2] 16470 [(1209,Lo221)] (.tu [.ag [iI 2,iI 0,iV 1,iV 83886081,iH 7000],.sc (.b true)]) 16471
theorem L729_ok (d : Int) : (L729 d).okF E := fv0 (by kernel_rfl) (by kernel_rfl)
def L730 (d : Int) : Fact := fS 16 [sQ 1263 0] 16472 [(1258,Lo2),(1263,Lo239 d),(1266,Lo228),(12748,Lo122)] (sI 2) 16476
theorem L730_ok (d : Int) : (L730 d).okF E := fv0 (by kernel_rfl) (by kernel_rfl)
end Go.Proofs.YtdfpjhlckjognaaGreat
namespace Go.Proofs.YtdfpjhlckjognaaGreat
open Go Go.Proofs.YtdfpjhlckjognaaGreat.Fw
set_option linter.unusedVariables false
set_option maxRecDepth 100000
def L731 (d : Int) : Fact := fS 17 [sQ 1263 0] 16476 [(1263,Lo239 d)] (.ag [iI 2,iI 0,iV 1,iV 83886081,iH 7000]) 16477
theorem L731_ok (d : Int) : (L731 d).okF E := fv0 (by kernel_rfl) (by kernel_rfl)
def L732 (d : Int) : Fact := fS 18 [.ag [sl5 1149 0 2 2 4,iI 1,iU d,iU 8,iU 40,iI 1,iU 100,iI 256],sI 1] 16477 [(1149,Lo0)] (.ag [iV 83886081,iH 7000]) 16479
theorem L732_ok (d : Int) : (L732 d).okF E := fv0 (by kernel_rfl) (by kernel_rfl)
def L733 (d : Int) : Fact := fS 18 [.ag [sl5 1149 0 2 2 4,iI 1,iU d,iU 8,iU 40,iI 1,iU 100,iI 256],sI 1] 16479 [(1149,Lo0)] (.ag [iV 83886081,iH 7000]) 16481
theorem L733_ok (d : Int) : (L733 d).okF E := fv0 (by kernel_rfl) (by kernel_rfl)
def L734 (d : Int) : Fact :=⟨5,[.ag [sl5 1149 0 2 2 4,iI 1,iU d,iU 8,iU 40,iI 1,iU 100,iI 256]],1151,[(1149,Lo242)],.tu [.sc (pQ 1188 0),.sc (iI 0)],1315,[(1149,Lo242),(1187,Lo242),(1188,Lo1 d),(1208,Lo2),(1209,Lo3),(1211,Lo4 d),(1212,Lo5),(1213,Lo6 d),(1214,Lo7),(1216,Lo8),(1217,Lo9),(1218,Lo10),(1219,Lo11),(1227,Lo12),(1230,Lo13),(1258,Lo2),(1259,Lo14),(1261,Lo15 d),(1262,Lo5),(1263,Lo16 d),(1264,Lo7),(1266,Lo8),(1267,Lo9),(1268,Lo10),(1269,Lo11),(1286,Lo17),(1288,Lo18),(1294,Lo19),(1295,Lo20),(1296,Lo21),(1305,Lo22),(1309,Lo243),(1314,Lo24)]⟩
theorem L734_ok (d : Int) : (L734 d).okF E := fv0 (by kernel_rfl) (by kernel_rfl)
def L736 (d : Int) : Fact :=⟨8,[sQ 1188 0,.ag [iI 8,iI 2,iI 0,iU 0,iV 0,iH 0,iV 0,iH 0,.s ⟨⟨[]⟩⟩]],1315,[(1188,Lo1 d),(1258,Lo2),(1259,Lo14),(1263,Lo16 d),(1288,Lo18),(1294,Lo19),(1295,Lo20),(1296,Lo21),(1305,Lo22),(1309,Lo243),(1314,Lo24)],sI 0,1438,[(1188,Lo1 d),(1258,Lo2),(1259,Lo14),(1263,Lo16 d),(1288,Lo18),(1294,Lo19),(1295,Lo20),(1296,Lo25),(1305,Lo22),(1309,Lo244),(1314,Lo24),(1424,Lo245),(1428,Lo28),(1435,Lo29)]⟩
theorem L736_ok (d : Int) : (L736 d).okF E := fv0 (by kernel_rfl) (by kernel_rfl)
def L739 (d : Int) : Fact :=⟨65,[sQ 1188 0,sI 2,.sc (sl5 1837 0 2 2 3)],1920,[(1188,Lo36 d),(1263,Lo33 d),(1288,Lo18),(1294,Lo19),(1295,Lo20),(1296,Lo25),(1305,Lo22),(1309,Lo244),(1314,Lo24),(1424,Lo245),(1428,Lo28),(1435,Lo29),(1837,Lo35)],.tu [],1976,[(1188,Lo36 d),(1263,Lo33 d),(1288,Lo18),(1294,Lo19),(1295,Lo20),(1296,Lo37),(1305,Lo22),(1309,Lo244),(1314,Lo24),(1424,Lo246),(1428,Lo28),(1837,Lo35),(1973,Lo39)]⟩
theorem L739_ok (d : Int) : (L739 d).okF E := fv0 (by kernel_rfl) (by kernel_rfl)
def L740 (d : Int) : Fact :=⟨25,[sQ 1188 0,.ag [iI 0,iI 0,iI 0,iU 0,iV 0,iH 0,iV 0,iH 0,.s ⟨⟨[]⟩⟩]],1440,[(1188,Lo1 d),(1208,Lo2),(1209,Lo3),(1211,Lo4 d),(1212,Lo5),(1213,Lo6 d),(1216,Lo8),(1217,Lo9),(1219,Lo11),(1230,Lo13),(1258,Lo2),(1259,Lo14),(1261,Lo15 d),(1262,Lo5),(1263,Lo16 d),(1264,Lo7),(1266,Lo8),(1267,Lo9),(1269,Lo11),(1288,Lo18),(1294,Lo19),(1295,Lo20),(1296,Lo25),(1305,Lo22),(1309,Lo244),(1314,Lo24),(1424,Lo245),(1428,Lo28),(1435,Lo29)],sI 0,1976,[(1188,Lo36 d),(1208,Lo2),(1209,Lo3),(1211,Lo4 d),(1212,Lo5),(1213,Lo30 d),(1216,Lo31),(1217,Lo9),(1219,Lo11),(1230,Lo13),(1258,Lo2),(1259,Lo14),(1261,Lo32 d),(1262,Lo5),(1263,Lo33 d),(1264,Lo7),(1266,Lo31),(1267,Lo9),(1269,Lo11),(1288,Lo18),(1294,Lo19),(1295,Lo20),(1296,Lo37),(1305,Lo22),(1309,Lo244),(1314,Lo24),(1424,Lo246),(1428,Lo28),(1783,Lo34),(1973,Lo39)]⟩
theorem L740_ok (d : Int) : (L740 d).okF E := fv1 [L6 d,L10 d,L739 d] ⟨L6_ok d,L10_ok d,L739_ok d,trivial⟩ (by kernel_rfl) (by kernel_rfl)
def L741 (d : Int) : Fact :=⟨8,[sQ 1188 0,.ag [iI 0,iI 0,iI 0,iU 0,iV 0,iH 0,iV 0,iH 0,.s ⟨⟨[]⟩⟩]],1438,[(1188,Lo1 d),(1208,Lo2),(1209,Lo3),(1211,Lo4 d),(1212,Lo5),(1213,Lo6 d),(1216,Lo8),(1217,Lo9),(1219,Lo11),(1230,Lo13),(1258,Lo2),(1259,Lo14),(1261,Lo15 d),(1262,Lo5),(1263,Lo16 d),(1264,Lo7),(1266,Lo8),(1267,Lo9),(1269,Lo11),(1288,Lo18),(1294,Lo19),(1295,Lo20),(1296,Lo25),(1305,Lo22),(1309,Lo244),(1314,Lo24),(1424,Lo245),(1428,Lo28),(1435,Lo29)],sI 0,1976,[(1188,Lo36 d),(1208,Lo2),(1209,Lo3),(1211,Lo4 d),(1212,Lo5),(1213,Lo30 d),(1216,Lo31),(1217,Lo9),(1219,Lo11),(1230,Lo13),(1258,Lo2),(1259,Lo14),(1261,Lo32 d),(1262,Lo5),(1263,Lo33 d),(1264,Lo7),(1266,Lo31),(1267,Lo9),(1269,Lo11),(1288,Lo18),(1294,Lo19),(1295,Lo20),(1296,Lo37),(1305,Lo22),(1309,Lo244),(1314,Lo24),(1424,Lo246),(1428,Lo28),(1783,Lo34),(1973,Lo39)]⟩
theorem L741_ok (d : Int) : (L741 d).okF E := fv1 [L740 d] ⟨L740_ok d,trivial⟩ (by kernel_rfl) (by kernel_rfl)
def L744 (d : Int) : Fact :=⟨8,[sQ 1188 0,.ag [iI 1,iI 0,iI 0,iU 0,iV 0,iH 0,iV 0,iH 0,.s ⟨⟨[]⟩⟩]],2990,[(1188,Lo45 d),(1259,Lo14),(1263,Lo47 d),(1269,Lo11),(1288,Lo18),(1294,Lo19),(1295,Lo20),(1296,Lo37),(1305,Lo22),(1309,Lo244),(1314,Lo24),(1424,Lo246),(1428,Lo28),(1973,Lo50)],sI 0,3203,[(1188,Lo45 d),(1259,Lo14),(1263,Lo47 d),(1269,Lo11),(1288,Lo18),(1294,Lo19),(1295,Lo20),(1296,Lo52),(1305,Lo22),(1309,Lo244),(1314,Lo24),(1424,Lo247),(1428,Lo28),(1973,Lo54)]⟩
theorem L744_ok (d : Int) : (L744 d).okF E := fv0 (by kernel_rfl) (by kernel_rfl)
def L747 (d : Int) : Fact :=⟨8,[sQ 1188 0,.ag [iI 1,iI 0,iI 0,iU 0,iV 0,iH 0,iV 0,iH 0,.s ⟨⟨[]⟩⟩]],3443,[(1188,Lo55 d),(1263,Lo57 d),(1266,Lo31),(1269,Lo11),(1288,Lo18),(1294,Lo19),(1295,Lo20),(1296,Lo52),(1305,Lo22),(1309,Lo244),(1314,Lo24),(1424,Lo247),(1428,Lo28),(1973,Lo54)],sI 0,3544,[(1188,Lo55 d),(1263,Lo57 d),(1266,Lo58),(1269,Lo11),(1288,Lo18),(1294,Lo19),(1295,Lo20),(1296,Lo59),(1305,Lo22),(1309,Lo244),(1314,Lo24),(1424,Lo248),(1428,Lo28),(1973,Lo61)]⟩
theorem L747_ok (d : Int) : (L747 d).okF E := fv0 (by kernel_rfl) (by kernel_rfl)
end Go.Proofs.YtdfpjhlckjognaaGreat
