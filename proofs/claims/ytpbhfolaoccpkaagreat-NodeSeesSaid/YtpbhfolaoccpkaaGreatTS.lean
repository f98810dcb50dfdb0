/- The functions that NodeSees and NodeJoins reach beyond the examples': a table. -/
import Derived.Test.YtpbhfolaoccpkaaGreatTX
import Derived.Test.YtpbhfolaoccpkaaGreatFwZr
namespace Go.Proofs.YtpbhfolaoccpkaaGreat
open Go Go.Proofs.YtpbhfolaoccpkaaGreat.Fw
set_option linter.unusedVariables false
set_option maxRecDepth 100000
noncomputable def a4 (args : List AV) : Tree := bodyK T (hs 4) Tryz.f4 args
theorem a4_ok : TrOk E 4 a4 := ⟨Tryz.f4, Tryz.func4, fun args C n H r _ => rfl⟩
noncomputable def a6 (args : List AV) : Tree := bodyK T (hs 6) Tryz.f6 args
theorem a6_ok : TrOk E 6 a6 := ⟨Tryz.f6, Tryz.func6, fun args C n H r _ => rfl⟩
noncomputable def a64 (args : List AV) : Tree := bodyK T (hs 64) Tryz.f64 args
theorem a64_ok : TrOk E 64 a64 := ⟨Tryz.f64, Tryz.func64, fun args C n H r _ => rfl⟩
noncomputable def a128 (args : List AV) : Tree := bodyK T (hs 128) Tryz.f128 args
theorem a128_ok : TrOk E 128 a128 := ⟨Tryz.f128, Tryz.func128, fun args C n H r _ => rfl⟩
noncomputable def a138 (args : List AV) : Tree := bodyK T (hs 138) Tryz.f138 args
theorem a138_ok : TrOk E 138 a138 := ⟨Tryz.f138, Tryz.func138, fun args C n H r _ => rfl⟩
noncomputable def a139 (args : List AV) : Tree := bodyK T (hs 139) Tryz.f139 args
theorem a139_ok : TrOk E 139 a139 := ⟨Tryz.f139, Tryz.func139, fun args C n H r _ => rfl⟩
noncomputable def a141 (args : List AV) : Tree := bodyK T (hs 141) Tryz.f141 args
theorem a141_ok : TrOk E 141 a141 := ⟨Tryz.f141, Tryz.func141, fun args C n H r _ => rfl⟩
noncomputable def a147 (args : List AV) : Tree := bodyK T (hs 147) Tryz.f147 args
theorem a147_ok : TrOk E 147 a147 := ⟨Tryz.f147, Tryz.func147, fun args C n H r _ => rfl⟩
noncomputable def a148 (args : List AV) : Tree := bodyK T (hs 148) Tryz.f148 args
theorem a148_ok : TrOk E 148 a148 := ⟨Tryz.f148, Tryz.func148, fun args C n H r _ => rfl⟩
noncomputable def a149 (args : List AV) : Tree := bodyK T (hs 149) Tryz.f149 args
theorem a149_ok : TrOk E 149 a149 := ⟨Tryz.f149, Tryz.func149, fun args C n H r _ => rfl⟩
noncomputable def a192 (args : List AV) : Tree := bodyK T (hs 192) Tryz.f192 args
theorem a192_ok : TrOk E 192 a192 := ⟨Tryz.f192, Tryz.func192, fun args C n H r _ => rfl⟩
noncomputable def a194 (args : List AV) : Tree := bodyK T (hs 194) Tryz.f194 args
theorem a194_ok : TrOk E 194 a194 := ⟨Tryz.f194, Tryz.func194, fun args C n H r _ => rfl⟩
noncomputable def a195 (args : List AV) : Tree := bodyK T (hs 195) Tryz.f195 args
theorem a195_ok : TrOk E 195 a195 := ⟨Tryz.f195, Tryz.func195, fun args C n H r _ => rfl⟩
noncomputable def a207 (args : List AV) : Tree := bodyK T (hs 207) Tryz.f207 args
theorem a207_ok : TrOk E 207 a207 := ⟨Tryz.f207, Tryz.func207, fun args C n H r _ => rfl⟩
noncomputable def a215 (args : List AV) : Tree := bodyK T (hs 215) Tryz.f215 args
theorem a215_ok : TrOk E 215 a215 := ⟨Tryz.f215, Tryz.func215, fun args C n H r _ => rfl⟩
noncomputable def a216 (args : List AV) : Tree := bodyK T (hs 216) Tryz.f216 args
theorem a216_ok : TrOk E 216 a216 := ⟨Tryz.f216, Tryz.func216, fun args C n H r _ => rfl⟩
noncomputable def a217 (args : List AV) : Tree := bodyK T (hs 217) Tryz.f217 args
theorem a217_ok : TrOk E 217 a217 := ⟨Tryz.f217, Tryz.func217, fun args C n H r _ => rfl⟩
noncomputable def a218 (args : List AV) : Tree := bodyK T (hs 218) Tryz.f218 args
theorem a218_ok : TrOk E 218 a218 := ⟨Tryz.f218, Tryz.func218, fun args C n H r _ => rfl⟩
noncomputable def a219 (args : List AV) : Tree := bodyK T (hs 219) Tryz.f219 args
theorem a219_ok : TrOk E 219 a219 := ⟨Tryz.f219, Tryz.func219, fun args C n H r _ => rfl⟩
noncomputable def a221 (args : List AV) : Tree := bodyK T (hs 221) Tryz.f221 args
theorem a221_ok : TrOk E 221 a221 := ⟨Tryz.f221, Tryz.func221, fun args C n H r _ => rfl⟩
noncomputable def a227 (args : List AV) : Tree := bodyK T (hs 227) Tryz.f227 args
theorem a227_ok : TrOk E 227 a227 := ⟨Tryz.f227, Tryz.func227, fun args C n H r _ => rfl⟩
noncomputable def a232 (args : List AV) : Tree := bodyK T (hs 232) Tryz.f232 args
theorem a232_ok : TrOk E 232 a232 := ⟨Tryz.f232, Tryz.func232, fun args C n H r _ => rfl⟩
noncomputable def a234 (args : List AV) : Tree := bodyK T (hs 234) Tryz.f234 args
theorem a234_ok : TrOk E 234 a234 := ⟨Tryz.f234, Tryz.func234, fun args C n H r _ => rfl⟩
noncomputable def a237 (args : List AV) : Tree := bodyK T (hs 237) Tryz.f237 args
theorem a237_ok : TrOk E 237 a237 := ⟨Tryz.f237, Tryz.func237, fun args C n H r _ => rfl⟩
noncomputable def a238 (args : List AV) : Tree := bodyK T (hs 238) Tryz.f238 args
theorem a238_ok : TrOk E 238 a238 := ⟨Tryz.f238, Tryz.func238, fun args C n H r _ => rfl⟩
noncomputable def a239 (args : List AV) : Tree := bodyK T (hs 239) Tryz.f239 args
theorem a239_ok : TrOk E 239 a239 := ⟨Tryz.f239, Tryz.func239, fun args C n H r _ => rfl⟩
noncomputable def a240 (args : List AV) : Tree := bodyK T (hs 240) Tryz.f240 args
theorem a240_ok : TrOk E 240 a240 := ⟨Tryz.f240, Tryz.func240, fun args C n H r _ => rfl⟩
noncomputable def a243 (args : List AV) : Tree := bodyK T (hs 243) Tryz.f243 args
theorem a243_ok : TrOk E 243 a243 := ⟨Tryz.f243, Tryz.func243, fun args C n H r _ => rfl⟩
noncomputable def a264 (args : List AV) : Tree := bodyK T (hs 264) Tryz.f264 args
theorem a264_ok : TrOk E 264 a264 := ⟨Tryz.f264, Tryz.func264, fun args C n H r _ => rfl⟩
noncomputable def a285 (args : List AV) : Tree := bodyK T (hs 285) Tryz.f285 args
theorem a285_ok : TrOk E 285 a285 := ⟨Tryz.f285, Tryz.func285, fun args C n H r _ => rfl⟩
noncomputable def a286 (args : List AV) : Tree := bodyK T (hs 286) Tryz.f286 args
theorem a286_ok : TrOk E 286 a286 := ⟨Tryz.f286, Tryz.func286, fun args C n H r _ => rfl⟩
noncomputable def a287 (args : List AV) : Tree := bodyK T (hs 287) Tryz.f287 args
theorem a287_ok : TrOk E 287 a287 := ⟨Tryz.f287, Tryz.func287, fun args C n H r _ => rfl⟩
noncomputable def a288 (args : List AV) : Tree := bodyK T (hs 288) Tryz.f288 args
theorem a288_ok : TrOk E 288 a288 := ⟨Tryz.f288, Tryz.func288, fun args C n H r _ => rfl⟩
noncomputable def a292 (args : List AV) : Tree := bodyK T (hs 292) Tryz.f292 args
theorem a292_ok : TrOk E 292 a292 := ⟨Tryz.f292, Tryz.func292, fun args C n H r _ => rfl⟩
noncomputable def a294 (args : List AV) : Tree := bodyK T (hs 294) Tryz.f294 args
theorem a294_ok : TrOk E 294 a294 := ⟨Tryz.f294, Tryz.func294, fun args C n H r _ => rfl⟩
noncomputable def a298 (args : List AV) : Tree := bodyK T (hs 298) Tryz.f298 args
theorem a298_ok : TrOk E 298 a298 := ⟨Tryz.f298, Tryz.func298, fun args C n H r _ => rfl⟩
noncomputable def a299 (args : List AV) : Tree := bodyK T (hs 299) Tryz.f299 args
theorem a299_ok : TrOk E 299 a299 := ⟨Tryz.f299, Tryz.func299, fun args C n H r _ => rfl⟩
noncomputable def a300 (args : List AV) : Tree := bodyK T (hs 300) Tryz.f300 args
theorem a300_ok : TrOk E 300 a300 := ⟨Tryz.f300, Tryz.func300, fun args C n H r _ => rfl⟩
noncomputable def a301 (args : List AV) : Tree := bodyK T (hs 301) Tryz.f301 args
theorem a301_ok : TrOk E 301 a301 := ⟨Tryz.f301, Tryz.func301, fun args C n H r _ => rfl⟩
noncomputable def a310 (args : List AV) : Tree := bodyK T (hs 310) Tryz.f310 args
theorem a310_ok : TrOk E 310 a310 := ⟨Tryz.f310, Tryz.func310, fun args C n H r _ => rfl⟩
noncomputable def a311 (args : List AV) : Tree := bodyK T (hs 311) Tryz.f311 args
theorem a311_ok : TrOk E 311 a311 := ⟨Tryz.f311, Tryz.func311, fun args C n H r _ => rfl⟩
noncomputable def a339 (args : List AV) : Tree := bodyK T (hs 339) Tryz.f339 args
theorem a339_ok : TrOk E 339 a339 := ⟨Tryz.f339, Tryz.func339, fun args C n H r _ => rfl⟩
noncomputable def a341 (args : List AV) : Tree := bodyK T (hs 341) Tryz.f341 args
theorem a341_ok : TrOk E 341 a341 := ⟨Tryz.f341, Tryz.func341, fun args C n H r _ => rfl⟩
noncomputable def a362 (args : List AV) : Tree := bodyK T (hs 362) Tryz.f362 args
theorem a362_ok : TrOk E 362 a362 := ⟨Tryz.f362, Tryz.func362, fun args C n H r _ => rfl⟩
noncomputable def TBS : Tbl := [(4, a4), (6, a6), (8, a8), (11, a11), (13, a13), (15, a15), (19, a19), (20, a20), (21, a21), (22, a22), (23, a23), (25, a25), (26, a26), (30, a30), (33, a33), (34, a34), (35, a35), (36, a36), (37, a37), (38, a38), (39, a39), (40, a40), (41, a41), (42, a42), (43, a43), (53, a53), (54, a54), (55, a55), (59, a59), (60, a60), (61, a61), (62, a62), (63, a63), (64, a64), (65, a65), (66, a66), (67, a67), (81, a81), (87, a87), (88, a88), (89, a89), (90, a90), (91, a91), (92, a92), (93, a93), (94, a94), (97, a97), (98, a98), (99, a99), (100, a100), (101, a101), (102, a102), (103, a103), (109, a109), (110, a110), (111, a111), (113, a113), (114, a114), (115, a115), (116, a116), (117, a117), (118, a118), (119, a119), (120, a120), (121, a121), (125, a125), (127, a127), (128, a128), (129, a129), (130, a130), (131, a131), (132, a132), (133, a133), (134, a134), (135, a135), (136, a136), (138, a138), (139, a139), (140, a140), (141, a141), (142, a142), (143, a143), (145, a145), (147, a147), (148, a148), (149, a149), (174, a174), (175, a175), (185, a185), (186, a186), (187, a187), (188, a188), (189, a189), (190, a190), (191, a191), (192, a192), (193, a193), (194, a194), (195, a195), (196, a196), (197, a197), (198, a198), (199, a199), (200, a200), (202, a202), (203, a203), (204, a204), (205, a205), (206, a206), (207, a207), (208, a208), (209, a209), (210, a210), (211, a211), (213, a213), (214, a214), (215, a215), (216, a216), (217, a217), (218, a218), (219, a219), (221, a221), (224, a224), (225, a225), (226, a226), (227, a227), (228, a228), (229, a229), (230, a230), (231, a231), (232, a232), (233, a233), (234, a234), (236, a236), (237, a237), (238, a238), (239, a239), (240, a240), (242, a242), (243, a243), (264, a264), (270, a270), (271, a271), (272, a272), (273, a273), (274, a274), (275, a275), (276, a276), (277, a277), (278, a278), (279, a279), (280, a280), (281, a281), (282, a282), (283, a283), (284, a284), (285, a285), (286, a286), (287, a287), (288, a288), (291, a291), (292, a292), (294, a294), (298, a298), (299, a299), (300, a300), (301, a301), (302, a302), (310, a310), (311, a311), (315, a315), (316, a316), (317, a317), (318, a318), (319, a319), (320, a320), (329, a329), (330, a330), (337, a337), (339, a339), (341, a341), (349, a349), (351, a351), (352, a352), (362, a362), (367, a367), (378, a378)]
theorem TBS_ok : TbOk2 E TBS := TbOk.two (E := E) (tb := TBS) ⟨a4_ok, a6_ok, a8_ok, a11_ok, a13_ok, a15_ok, a19_ok, a20_ok, a21_ok, a22_ok, a23_ok, a25_ok, a26_ok, a30_ok, a33_ok, a34_ok, a35_ok, a36_ok, a37_ok, a38_ok, a39_ok, a40_ok, a41_ok, a42_ok, a43_ok, a53_ok, a54_ok, a55_ok, a59_ok, a60_ok, a61_ok, a62_ok, a63_ok, a64_ok, a65_ok, a66_ok, a67_ok, a81_ok, a87_ok, a88_ok, a89_ok, a90_ok, a91_ok, a92_ok, a93_ok, a94_ok, a97_ok, a98_ok, a99_ok, a100_ok, a101_ok, a102_ok, a103_ok, a109_ok, a110_ok, a111_ok, a113_ok, a114_ok, a115_ok, a116_ok, a117_ok, a118_ok, a119_ok, a120_ok, a121_ok, a125_ok, a127_ok, a128_ok, a129_ok, a130_ok, a131_ok, a132_ok, a133_ok, a134_ok, a135_ok, a136_ok, a138_ok, a139_ok, a140_ok, a141_ok, a142_ok, a143_ok, a145_ok, a147_ok, a148_ok, a149_ok, a174_ok, a175_ok, a185_ok, a186_ok, a187_ok, a188_ok, a189_ok, a190_ok, a191_ok, a192_ok, a193_ok, a194_ok, a195_ok, a196_ok, a197_ok, a198_ok, a199_ok, a200_ok, a202_ok, a203_ok, a204_ok, a205_ok, a206_ok, a207_ok, a208_ok, a209_ok, a210_ok, a211_ok, a213_ok, a214_ok, a215_ok, a216_ok, a217_ok, a218_ok, a219_ok, a221_ok, a224_ok, a225_ok, a226_ok, a227_ok, a228_ok, a229_ok, a230_ok, a231_ok, a232_ok, a233_ok, a234_ok, a236_ok, a237_ok, a238_ok, a239_ok, a240_ok, a242_ok, a243_ok, a264_ok, a270_ok, a271_ok, a272_ok, a273_ok, a274_ok, a275_ok, a276_ok, a277_ok, a278_ok, a279_ok, a280_ok, a281_ok, a282_ok, a283_ok, a284_ok, a285_ok, a286_ok, a287_ok, a288_ok, a291_ok, a292_ok, a294_ok, a298_ok, a299_ok, a300_ok, a301_ok, a302_ok, a310_ok, a311_ok, a315_ok, a316_ok, a317_ok, a318_ok, a319_ok, a320_ok, a329_ok, a330_ok, a337_ok, a339_ok, a341_ok, a349_ok, a351_ok, a352_ok, a362_ok, a367_ok, a378_ok, trivial⟩
end Go.Proofs.YtpbhfolaoccpkaaGreat
