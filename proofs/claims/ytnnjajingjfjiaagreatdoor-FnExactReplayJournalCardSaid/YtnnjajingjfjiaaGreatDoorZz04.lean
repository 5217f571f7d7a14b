/- Part of the proof: a machine over plain data, its proof, the functions of the program run on symbols, what they answer. Condition: none. -/
import Derived.Test.YtnnjajingjfjiaaGreatDoorProg
import Derived.Test.YtnnjajingjfjiaaGreatDoorZz03
set_option linter.unusedVariables false
set_option linter.unusedSimpArgs false
open Bool renaming and_eq_true->ai,true->I,false->J
open List renaming mem_cons->aL,replicate->bn,take_succ_cons->cn,range->cB,drop_drop->oP
open Nat renaming blt->fV,beq->gR,lor->lD,ble->n8
open UInt8 renaming ofNat->dz
open Option renaming some->Z,none->O
namespace Go.Proofs.YtnnjajingjfjiaaGreatDoor
set_option maxRecDepth 100000
set_option maxHeartbeats 400000000
section
abbrev v1:SA:=.val J [.d]
abbrev v_(n:Nat):SA:=.val I (bn n .d)
def qq:M (Nat×ny):=[(278,⟨278,[.box [.d,.d,.d]],[([v1],[.box [.d,.d,.d]])]⟩),
 (277,⟨277,[v1],[([v1],[])]⟩),
 (275,⟨275,[.box [.d,.d,.d],v1],[([v1],[.box [.d,.d,.d]])]⟩),
 (250,⟨250,[v1,v1],[([v1],[])]⟩),
 (327,⟨327,[v1,v1],[([v1],[])]⟩),
 (258,⟨258,[v1],[([v1],[])]⟩),
 (241,⟨241,[v1],[([v1],[])]⟩),
 (316,⟨316,[v1],[([v1],[])]⟩),
 (259,⟨259,[v1],[([v1],[])]⟩),
 (201,⟨201,[v1,v1],[([v1],[])]⟩),
 (255,⟨255,[v1],[([v1],[])]⟩),
 (240,⟨240,[v1,v1,v1,v1],[([v1],[])]⟩),
 (256,⟨256,[v1],[([v1],[])]⟩),
 (315,⟨315,[v1,v1,v1],[([v1],[])]⟩),
 (81,⟨81,[v1],[([.val J [.row 19 J I I J]],[])]⟩),
 (242,⟨242,[v1,v1],[([v1],[])]⟩),
 (95,⟨95,[v1],[([.val J [.row 1 I I I J]],[])]⟩),
 (75,⟨75,[v1],[([v1],[])]⟩),
 (317,⟨317,[v1],[([v1],[])]⟩),
 (74,⟨74,[v1,v1,v1],[([v1],[])]⟩),
 (246,⟨246,[v1,v1],[([v1],[])]⟩),
 (322,⟨322,[v1,v1],[([v1],[])]⟩),
 (82,⟨82,[v1,v1],[([v1],[])]⟩),
 (257,⟨257,[v1],[([v1],[])]⟩),
 (94,⟨94,[v1],[([.val J [.row 19 J I I J]],[]),([.val J [.row 19 J J I J]],[])]⟩),
 (99,⟨99,[v1,v1],[([v1],[])]⟩),
 (239,⟨239,[v_ 19,v1],[([v1],[])]⟩),
 (80,⟨80,[v_ 19],[([.val I [.d,.d,.d,.row 2 I I I J,.row 1 I I I J,.d,.d,.row 1 I I I J,.row 1 I I I J,.d,.d,.d,.d,.d,.d,.d,.row 7 J I I J,.row 7 J I I J,.row 19 J I I J]],[])]⟩),
 (245,⟨245,[v_ 19,v_ 3],[([v1],[])]⟩),
 (93,⟨93,[v1,v1],[([.val J [.row 19 J I I J],.val J [.row 1 I I I J]],[]),([.val J [.row 19 J J I J],.val J [.row 1 I I I J]],[])]⟩),
 (96,⟨96,[v1,v1],[([v1],[])]⟩),
 (313,⟨313,[v_ 19],[([v1],[])]⟩),
 (249,⟨249,[v1,v_ 3,v_ 3],[([v1],[])]⟩),
 (97,⟨97,[v1,v1],[([.val I [.d,.d,.d,.row 2 I I I J,.row 1 I I I J,.d,.d,.row 1 I I I J,.row 1 I I I J,.d,.d,.d,.d,.d,.d,.d,.row 7 J I I J,.row 7 J I I J,.row 19 J I I J],v1],[]),([v_ 19,v1],[])]⟩),
 (202,⟨202,[v1],[([v1],[])]⟩),
 (76,⟨76,[v_ 5],[([.val I [.d,.row 2 I I I J,.row 1 I I I J,.d,.d]],[])]⟩),
 (244,⟨244,[v_ 19,v_ 3],[([.val J [.row 1 I I I J],v1],[])]⟩),
 (238,⟨238,[v_ 5,v1],[([v1],[])]⟩),
 (92,⟨92,[v1],[([v1],[])]⟩),
 (261,⟨261,[v1],[([v1],[])]⟩),
 (247,⟨247,[v1],[([v1],[])]⟩),
 (243,⟨243,[v1,v1],[([v1],[])]⟩),
 (237,⟨237,[v_ 5,v1],[([v1,v1],[])]⟩),
 (329,⟨329,[v_ 19,v1,v_ 3],[([v1],[])]⟩),
 (210,⟨210,[v1,v1],[([v1],[])]⟩),
 (78,⟨78,[v_ 7],[([.val I [.d,.d,.d,.d,.d,.row 2 J I I J,.row 7 J I I J]],[])]⟩),
 (260,⟨260,[v1],[([v1],[])]⟩),
 (230,⟨230,[v1],[([v1,v1],[])]⟩),
 (321,⟨321,[v_ 19,v_ 3],[([v1],[])]⟩),
 (211,⟨211,[v_ 5],[([v1],[])]⟩),
 (79,⟨79,[v1],[([.val J [.row 19 J I I J]],[])]⟩),
 (251,⟨251,[v_ 19,v1,v1,v1],[([v1],[])]⟩),
 (248,⟨248,[v1,v1],[([v1],[])]⟩),
 (204,⟨204,[v1],[([v1],[])]⟩),
 (326,⟨326,[v_ 19,v_ 3,v_ 3],[([v1],[])]⟩),
 (209,⟨209,[v_ 7],[([v1],[])]⟩),
 (77,⟨77,[v_ 3],[([.val I [.d,.d,.row 2 J I I J]],[])]⟩),
 (229,⟨229,[v1],[([v1,v1],[])]⟩),
 (214,⟨214,[v_ 19],[([v1],[])]⟩),
 (269,⟨269,[v1,v1],[([v1],[])]⟩),
 (228,⟨228,[v_ 5],[([v1],[])]⟩),
 (328,⟨328,[v_ 19,v_ 3,v_ 3],[([v1],[])]⟩),
 (312,⟨312,[v_ 5,v1],[([v1],[])]⟩),
 (320,⟨320,[v_ 19,v_ 3],[([.val J [.row 1 I I I J],v1],[])]⟩),
 (203,⟨203,[v_ 7],[([v1],[])]⟩),
 (213,⟨213,[v_ 19],[([v1],[])]⟩),
 (270,⟨270,[v_ 5],[([v1],[])]⟩),
 (232,⟨232,[v1,v1],[([v1],[])]⟩),
 (212,⟨212,[v1],[([v1],[])]⟩),
 (268,⟨268,[v_ 7],[([v1],[])]⟩),
 (215,⟨215,[v1],[([v1],[])]⟩),
 (311,⟨311,[v_ 5,v1],[([v1,v1],[])]⟩),
 (9003,⟨9003,[v1,v1],[([v1],[])]⟩),
 (271,⟨271,[v1],[([v1],[])]⟩),
 (231,⟨231,[v1],[([v1],[])]⟩),
 (208,⟨208,[v_ 7],[([v1],[])]⟩),
 (39,⟨39,[v1,v1],[([v1],[])]⟩),
 (262,⟨262,[v_ 7],[([v1],[])]⟩),
 (286,⟨286,[v_ 5],[([v1],[])]⟩),
 (272,⟨272,[v_ 19],[([v1],[])]⟩),
 (236,⟨236,[v1,v1],[([v1],[])]⟩),
 (325,⟨325,[v1,v1],[([v1],[])]⟩),
 (227,⟨227,[v1],[([v1],[])]⟩),
 (100,⟨100,[v1,v1],[([v1],[])]⟩),
 (205,⟨205,[v_ 3],[([v1],[])]⟩),
 (274,⟨274,[v1],[([v1],[])]⟩),
 (267,⟨267,[v_ 7],[([v1],[])]⟩),
 (206,⟨206,[v_ 3],[([v1],[])]⟩),
 (264,⟨264,[v1],[([v1],[])]⟩),
 (226,⟨226,[v1],[([.val I [.d,.d,.row 3 J I I J],v1],[]),([v_ 3,v1],[]),([.val I [.d,.d,.row 3 J J I I],v1],[])]⟩),
 (324,⟨324,[v1,v1],[([v1],[])]⟩),
 (273,⟨273,[v1],[([v1],[])]⟩),
 (314,⟨314,[v1,v1],[([v_ 19,v1],[]),([.val I [.d,.d,.d,.row 2 I I I J,.row 1 I I I J,.d,.d,.row 1 I I I J,.row 1 I I I J,.d,.d,.d,.d,.d,.d,.d,.row 7 J I I J,.row 7 J I I J,.row 19 J I I J],v1],[])]⟩),
 (207,⟨207,[v_ 3],[([v1],[])]⟩),
 (263,⟨263,[v_ 3],[([v1],[])]⟩),
 (223,⟨223,[.box [.d,.d,.d]],[([v_ 3],[.box [.d,.d,.d]]),([.val I [.d,.d,.row 3 J J I I]],[.box [.d,.d,.d]])]⟩),
 (323,⟨323,[v1],[([v1],[])]⟩),
 (287,⟨287,[v1],[([v1,v1],[])]⟩),
 (285,⟨285,[v1],[([v1],[])]⟩),
 (266,⟨266,[v_ 3],[([v1],[])]⟩),
 (225,⟨225,[.box [.d,.d,.d]],[([v_ 3],[.box [.d,.d,.d]]),([.val I [.d,.d,.row 3 J J I I]],[.box [.d,.d,.d]])]⟩),
 (288,⟨288,[v1,v1],[([v1],[])]⟩),
 (235,⟨235,[v_ 3,v1],[([v1],[])]⟩),
 (284,⟨284,[v1],[([.val I [.d,.d,.row 3 J I I J],v1],[]),([v_ 3,v1],[]),([.val I [.d,.d,.row 3 J J I I],v1],[])]⟩),
 (265,⟨265,[v_ 2],[([v1],[])]⟩),
 (222,⟨222,[.box [.d,.d,.d]],[([.val I [.d,.d,.row 3 J I I J]],[.box [.d,.d,.d]]),([v_ 3],[.box [.d,.d,.d]]),([.val I [.d,.d,.row 3 J J I I]],[.box [.d,.d,.d]])]⟩),
 (303,⟨303,[v1],[([v1],[])]⟩),
 (234,⟨234,[v_ 3,v1,v1],[([.val J [.row 1 I I I J]],[])]⟩),
 (280,⟨280,[.box [.d,.d,.d]],[([v_ 3],[.box [.d,.d,.d]]),([.val I [.d,.d,.row 3 J J I I]],[.box [.d,.d,.d]])]⟩),
 (216,⟨216,[.box [.d,.d,.d],v1],[([v1],[.box [.d,.d,.d]])]⟩),
 (310,⟨310,[v1,v1],[([v1],[])]⟩),
 (9001,⟨9001,[v1],[([v1],[])]⟩),
 (283,⟨283,[.box [.d,.d,.d]],[([v_ 3],[.box [.d,.d,.d]]),([.val I [.d,.d,.row 3 J J I I]],[.box [.d,.d,.d]])]⟩),
 (220,⟨220,[.box [.d,.d,.d]],[([.val I [.d,.d,.row 3 J I I J]],[.box [.d,.d,.d]])]⟩),
 (233,⟨233,[v1,v1],[([.val J [.row 1 I I I J]],[])]⟩),
 (309,⟨309,[v_ 3,v1],[([v1],[])]⟩),
 (282,⟨282,[.box [.d,.d,.d]],[([.val I [.d,.d,.row 3 J J I J]],[.box [.d,.d,.d]]),([v_ 3],[.box [.d,.d,.d]]),([.val I [.d,.d,.row 3 J J I I]],[.box [.d,.d,.d]]),([.val I [.d,.d,.row 3 J I I J]],[.box [.d,.d,.d]])]⟩),
 (221,⟨221,[],[([v1],[])]⟩),
 (219,⟨219,[v1],[([v1],[])]⟩),
 (308,⟨308,[v_ 3,v1,v1],[([.val J [.row 1 I I I J]],[])]⟩),
 (279,⟨279,[.box [.d,.d,.d]],[([v_ 3],[.box [.d,.d,.d]]),([.val I [.d,.d,.row 3 J J I I]],[.box [.d,.d,.d]]),([.val I [.d,.d,.row 3 J I I J]],[.box [.d,.d,.d]])]⟩),
 (217,⟨217,[v1],[([v1],[])]⟩),
 (281,⟨281,[v_ 3],[([.val I [.d,.d,.row 3 J I I J]],[])]⟩),
 (9002,⟨9002,[v1,v1],[([v1],[])]⟩),
 (224,⟨224,[v_ 3],[([.val I [.d,.d,.row 3 J I I J]],[])]⟩),
 (218,⟨218,[v1],[([v1],[])]⟩),
 (56,⟨56,[v1,v1],[([v1],[])]⟩),
 (55,⟨55,[v_ 19,v1],[([v1],[])]⟩),
 (47,⟨47,[v_ 5,v1],[([v1],[])]⟩),
 (4,⟨4,[v1,v1],[([v1],[])]⟩),
 (45,⟨45,[v1,v1],[([v1],[])]⟩),
 (3,⟨3,[v_ 3,v1],[([v1],[])]⟩),
 (46,⟨46,[v1,v1],[([v1],[])]⟩),
 (71,⟨71,[v1],[([.val J [.row 19 J I I J]],[])]⟩),
 (54,⟨54,[v1,v1],[([v1],[])]⟩),
 (70,⟨70,[v_ 19],[([.val I [.d,.d,.d,.row 2 I I I J,.row 1 I I I J,.d,.d,.row 1 I I I J,.row 1 I I I J,.d,.d,.d,.d,.d,.d,.d,.row 7 J I I J,.row 7 J I I J,.row 19 J I I J]],[])]⟩),
 (53,⟨53,[v_ 7,v1],[([v1],[])]⟩),
 (62,⟨62,[v_ 5],[([.val I [.d,.row 2 I I I J,.row 1 I I I J,.d,.d]],[])]⟩),
 (6,⟨6,[v1],[([.val J [.row 3 J I I J]],[])]⟩),
 (52,⟨52,[v_ 3,v1],[([v1],[])]⟩),
 (60,⟨60,[v1],[([.val J [.row 2 I I I J]],[])]⟩),
 (5,⟨5,[v_ 3],[([.val I [.d,.d,.row 3 J I I J]],[])]⟩),
 (51,⟨51,[v1,v1],[([v1],[])]⟩),
 (59,⟨59,[v_ 2],[([v_ 2],[])]⟩),
 (50,⟨50,[v_ 2,v1],[([v1],[])]⟩),
 (120,⟨120,[v1,v1],[([v1],[])]⟩),
 (61,⟨61,[v1],[([.val J [.row 1 I I I J]],[])]⟩),
 (49,⟨49,[v1,v1],[([v1],[])]⟩),
 (119,⟨119,[v_ 19,v_ 19],[([v1],[])]⟩),
 (48,⟨48,[v_ 2,v1],[([v1],[])]⟩),
 (111,⟨111,[v_ 5,v_ 5],[([v1],[])]⟩),
 (10,⟨10,[v1,v1],[([v1],[])]⟩),
 (69,⟨69,[v1],[([.val J [.row 7 J I I J]],[])]⟩),
 (109,⟨109,[v1,v1],[([v1],[])]⟩),
 (9,⟨9,[v_ 3,v_ 3],[([v1],[])]⟩),
 (68,⟨68,[v_ 7],[([.val I [.d,.d,.d,.d,.d,.row 2 J I I J,.row 7 J I I J]],[])]⟩),
 (108,⟨108,[v_ 2,v_ 2],[([v1],[])]⟩),
 (110,⟨110,[v1,v1],[([v1],[])]⟩),
 (67,⟨67,[v_ 3],[([.val I [.d,.d,.row 2 J I I J]],[])]⟩),
 (66,⟨66,[v1],[([.val J [.row 2 J I I J]],[])]⟩),
 (118,⟨118,[v1,v1],[([v1],[])]⟩),
 (65,⟨65,[v_ 2],[([.val I [.d,.row 2 I I I J]],[])]⟩),
 (117,⟨117,[v_ 7,v_ 7],[([v1],[])]⟩),
 (64,⟨64,[v1],[([.val J [.row 2 I I I J]],[])]⟩),
 (116,⟨116,[v_ 3,v_ 3],[([v1],[])]⟩),
 (63,⟨63,[v_ 2],[([v_ 2],[])]⟩),
 (115,⟨115,[v1,v1],[([v1],[])]⟩),
 (114,⟨114,[v_ 2,v_ 2],[([v1],[])]⟩),
 (113,⟨113,[v1,v1],[([v1],[])]⟩),
 (112,⟨112,[v_ 2,v_ 2],[([v1],[])]⟩),
 (355,⟨355,[v1,v1,v1],[([.val J [.row 3 J I I J],v1],[])]⟩),
 (365,⟨365,[v1,v1,v1],[([.val J [.row 3 J I I J],v1],[])]⟩),
 (27,⟨27,[v1,v1],[([v1],[])]⟩),
 (32,⟨32,[v1],[([.val J [.row 4 J I I J]],[])]⟩),
 (12,⟨12,[v1,v1],[([v1],[])]⟩),
 (2,⟨2,[v1],[([.val J [.row 3 J I I J]],[])]⟩),
 (1,⟨1,[v1],[([.val J [.row 3 J I I J]],[])]⟩),
 (26,⟨26,[.val I [.d,.d,.d,.d],v1],[([v1],[])]⟩),
 (31,⟨31,[.val I [.d,.d,.d,.d]],[([.val I [.d,.d,.d,.row 4 J I I J]],[])]⟩),
 (11,⟨11,[.val I [.d,.d,.d,.d],.val I [.d,.d,.d,.d]],[([v1],[])]⟩),
 (353,⟨353,[v1,v1,v1],[([v1,v1],[])]⟩),
 (346,⟨346,[v1,v1],[([.val J [.row 4 J I I J]],[])]⟩),
 (357,⟨357,[v1,v1],[([.val J [.row 4 J I I J]],[])]⟩),
 (361,⟨361,[v1,v1,v1],[([v1,v1],[])]⟩),
 (354,⟨354,[v1,v1,.val I [.d,.d,.d,.d]],[([v1,v1],[])]⟩),
 (364,⟨364,[v1,v1,.val I [.d,.d,.d,.d]],[([v1,v1],[])]⟩),
 (348,⟨348,[v_ 19,.val I [.d,.d,.d,.d]],[([v1,.val J [.row 1 I I I J],v1],[])]⟩),
 (358,⟨358,[v_ 19,v1,.val I [.d,.d,.d,.d]],[([v1],[])]⟩),
 (347,⟨347,[v_ 19,.val I [.d,.d,.d,.d]],[([.val J [.row 1 I I I J],v1],[])]⟩),
 (349,⟨349,[v1,v1],[([v1],[])]⟩),
 (359,⟨359,[v_ 19,.val I [.d,.d,.d,.d]],[([.val I [.d,.d,.row 3 J I I J],v1],[])]⟩),
 (352,⟨352,[v1,v_ 19,v1,.val I [.d,.d,.d,.d],v1],[([v1,v1],[])]⟩),
 (360,⟨360,[v1,v1,v_ 19,.val I [.d,.d,.d,.d]],[([v1,v1],[])]⟩),
 (89,⟨89,[v1,v1],[([.val J [.row 1 I I I J],v1],[])]⟩),
 (350,⟨350,[v1,v1],[([v1],[])]⟩),
 (351,⟨351,[v1,v1,v_ 3],[([v1,v1],[])]⟩),
 (363,⟨363,[v1,v1,v_ 19,.val I [.d,.d,.d,.d]],[([v1,v1],[])]⟩),
 (105,⟨105,[v1,v1],[([.val J [.row 1 I I I J],v1],[])]⟩),
 (362,⟨362,[v1,v1,v_ 3],[([v1],[])]⟩),
 (376,⟨376,[v1,v1,v1],[([.val J [.row 4 J I I J],v1],[])]⟩),
 (30,⟨30,[v_ 2,v1],[([v1],[])]⟩),
 (127,⟨127,[.val I [.d,.d,.d,.d,.d,.d,.d,.d,.d,.d],v1],[([v1],[])]⟩),
 (375,⟨375,[v1,v1,v1],[([.val J [.row 4 J I I J],v1],[])]⟩),
 (29,⟨29,[v1,v1],[([v1],[])]⟩),
 (125,⟨125,[v1,v1],[([v1],[])]⟩),
 (374,⟨374,[v1,v1,v1],[([.val J [.row 4 J I I J]],[])]⟩),
 (28,⟨28,[v_ 3,v1],[([v1],[])]⟩),
 (124,⟨124,[v_ 3,v1],[([v1],[])]⟩),
 (380,⟨380,[v1,v1,v1],[([.val J [.row 4 J I I J],v1],[])]⟩),
 (35,⟨35,[v_ 2],[([.val I [.row 3 J I I J,.row 3 J I I J]],[])]⟩),
 (131,⟨131,[.val I [.d,.d,.d,.d,.d,.d,.d,.d,.d,.d]],[([.val I [.row 19 J I I J,.row 3 J I I J,.row 3 J I I J,.d,.row 3 J I I J,.d,.d,.d,.d,.row 3 J I I J]],[])]⟩),
 (252,⟨252,[v_ 19,v1,v_ 3],[([v1],[])]⟩),
 (126,⟨126,[v_ 5,v1],[([v1],[])]⟩),
 (379,⟨379,[v1,v1,v1],[([.val J [.row 4 J I I J],v1],[])]⟩),
 (34,⟨34,[v1],[([.val J [.row 3 J I I J]],[])]⟩),
 (129,⟨129,[v1],[([.val J [.row 3 J I I J]],[])]⟩),
 (373,⟨373,[v_ 19,v_ 3],[([.val J [.row 4 J I I J]],[])]⟩),
 (378,⟨378,[v1,v1,v1],[([.val J [.row 4 J I I J]],[])]⟩),
 (33,⟨33,[v_ 3],[([.val I [.d,.d,.row 4 J I I J]],[])]⟩),
 (128,⟨128,[v_ 3],[([.val I [.row 3 J I I J,.d,.d]],[])]⟩),
 (194,⟨194,[v1,v1],[([v1],[])]⟩),
 (377,⟨377,[v_ 19,v_ 3],[([.val J [.row 4 J I I J]],[])]⟩),
 (130,⟨130,[v_ 5],[([.val I [.d,.d,.d,.d,.row 3 J I I J]],[])]⟩),
 (197,⟨197,[v1,v1],[([v1],[])]⟩),
 (369,⟨369,[v1,v_ 2],[([.val J [.row 3 J I I J],v1],[])]⟩),
 (371,⟨371,[v1,v_ 2],[([.val J [.row 3 J I I J],v1],[])]⟩),
 (382,⟨382,[.val I [.d,.d,.d,.d,.d,.d,.d,.d,.d,.d],v1,v1],[([.val I [.row 19 J I I J,.row 3 J I I J,.row 3 J I I J,.d,.row 3 J I I J,.d,.d,.d,.d,.row 3 J I I J],v1,v1],[])]⟩),
 (370,⟨370,[v1,v_ 2,v1],[([.val J [.row 3 J I I J],v1],[])]⟩),
 (133,⟨133,[.val I [.d,.d,.d,.d,.d,.d,.d,.d,.d,.d]],[([.val I [.row 19 J I I J,.row 3 J I I J,.row 3 J I I J,.d,.row 3 J I I J,.d,.d,.d,.d,.row 3 J I I J]],[])]⟩),
 (132,⟨132,[v1],[([.val J [.row 3 J I I J]],[])]⟩),
 (15,⟨15,[v_ 2,v_ 2],[([v1],[])]⟩),
 (14,⟨14,[v1,v1],[([v1],[])]⟩),
 (167,⟨167,[.val I [.d,.d,.d,.d,.d,.d,.d,.d,.d,.d],v1],[([v1],[])]⟩),
 (13,⟨13,[v_ 3,v_ 3],[([v1],[])]⟩),
 (383,⟨383,[.val I [.d,.d,.d,.d,.d,.d,.d,.d,.d,.d],v1,v1],[([.val I [.row 19 J I I J,.row 3 J I I J,.row 3 J I I J,.d,.row 3 J I I J,.d,.d,.d,.d,.row 3 J I I J],v1,v1],[])]⟩),
 (142,⟨142,[.val I [.d,.d,.d,.d,.d,.d,.d,.d,.d,.d]],[([.val I [.row 19 J I I J,.row 3 J I I J,.row 3 J I I J,.d,.row 3 J I I J,.d,.d,.d,.d,.row 3 J I I J]],[])]⟩),
 (141,⟨141,[v1],[([.val J [.row 19 J I I J]],[])]⟩),
 (140,⟨140,[v_ 19],[([.val I [.d,.d,.d,.row 2 I I I J,.row 1 I I I J,.d,.d,.row 1 I I I J,.row 1 I I I J,.d,.d,.d,.d,.d,.d,.d,.row 7 J I I J,.row 7 J I I J,.row 19 J I I J]],[])]⟩),
 (135,⟨135,[v_ 5],[([.val I [.d,.row 2 I I I J,.row 1 I I I J,.d,.d]],[])]⟩),
 (169,⟨169,[.val I [.d,.d,.d,.d,.d,.d,.d,.d,.d,.d],v1],[([v1],[])]⟩),
 (139,⟨139,[v1],[([.val J [.row 7 J I I J]],[])]⟩),
 (138,⟨138,[v_ 7],[([.val I [.d,.d,.d,.d,.d,.row 2 J I I J,.row 7 J I I J]],[])]⟩),
 (137,⟨137,[v_ 3],[([.val I [.d,.d,.row 2 J I I J]],[])]⟩),
 (147,⟨147,[.val I [.d,.d,.d,.d,.d,.d,.d,.d,.d,.d],.val I [.d,.d,.d,.d,.d,.d,.d,.d,.d,.d]],[([v1],[])]⟩),
 (136,⟨136,[v_ 3],[([.val I [.d,.d,.row 2 J I I J]],[])]⟩),
 (145,⟨145,[v1,v1],[([v1],[])]⟩),
 (144,⟨144,[v_ 3,v_ 3],[([v1],[])]⟩),
 (146,⟨146,[v_ 5,v_ 5],[([v1],[])]⟩)]
end
section
structure TP where
 P:Program
 ids:List (Nat×Nat)
 mks:List Nat
 law:List Nat
 adM:List (Nat×List Nat)
 share:List (Nat×List Nat)
 ami:List (Nat×List Nat)
 TI:List (Nat×List Nat)
abbrev NL:=M Nat
abbrev ML:=M (Nat×M Nat)
def aeY(d:Nat):NL->NL
 |[]=>[d]
 |e::l=>if fV d e then d::e::l else if gR d e then e::l else e::aeY d l
def DE(a b:NL):NL:=a.foldr aeY b
def xW(d:Nat):NL->Bool
 |[]=>J
 |e::l=>if gR d e then I else xW d l
def apc(a b:NL):Bool:=a.all λx=>xW x b
def Zk(a b:NL):Bool:=a.any λx=>xW x b
def wP(m:ML)(k:Nat):NL:=match look m k with
 |some l=>l
 |none=>[]
def uL(k:Nat)(v:NL):ML->ML
 |[]=>if v.isEmpty then [] else [(k,v)]
 |(j,w)::m=>if gR j k then (j,DE v w)::m else (j,w)::uL k v m
def Eb(k:Nat)(m:ML):ML:=match look m k with
 |some _=>m
 |none=>(k,[])::m
def abC:M (Nat×Nat)->Nat->u Nat
 |[],_=>O
 |(k,F)::l,G=>if gR F G then Z k else abC l G
def bt_(i:Nat):Nat:=Nat.shiftLeft 1 i
def Ao(m i:Nat):Bool:=gR (Nat.mod (Nat.shiftRight m i) 2) 1
def ad7(m n:Nat):Bool:=gR (Nat.land m n) m
def adu(m n:Nat):Nat:=Nat.xor m (Nat.land m n)
def afg(n m:Nat):NL:=(cB n).filter (Ao m)
section
variable (P:Program)
def I9:Nat->TypeId->M TypeId
 |0,_=>[]
 |n+1,T=>match P.underlying T with
  |some (.struct fs)=>fs.toList.flatMap λf=>I9 n f.type
  |some (.array k a)=>(bn k (I9 n a)).flatten
  |_=>[T]
def IM(a:TypeId):Bool:=(I9 P 9 a).all λt=>!N3 P t
def sd(a:TypeId):Nat:=(pg P a).getD 0
def IC(T:TypeId):u TypeId:=match P.underlying T with
 |some (.slice a)=>Z a
 |_=>O
def zcT(T:TypeId):u C:=match P.underlying T with
 |some (.int k)=>Z (.d (.int k 0))
 |some .bool=>Z (.d (.bool J))
 |some .string=>Z (.d (.str ⟨#[]⟩))
 |some (.slice a)=>Z (.nil (sd P a) (IM P a))
 |_=>O
def zdT(T:TypeId):u D:=match P.underlying T with
 |some (.int k)=>Z (.int k 0)
 |some .bool=>Z (.bool J)
 |some .string=>Z (.str ⟨#[]⟩)
 |some (.slice a)=>Z (.list (sd P a) (IM P a) [])
 |_=>O
def zsT(T:TypeId):u (M C):=gB (zcT P) (I9 P 9 T)
def P4(T:TypeId):NL:=((I9 P 9 T).zipIdx).filterMap λp=>if N3 P p.1 then Z p.2 else O
def afG(T:TypeId):u TypeId:=match P.underlying T with
 |some (.pointer a)=>Z a
 |_=>O
def tX(T:u TypeId):Operand->u KX
 | .tmp d=>Z (.s d)
 | .const (.int k n)=>Z (.k (.d (.int k n)))
 | .const (.bool b)=>Z (.k (.d (.bool b)))
 | .const (.string s)=>Z (.k (.d (.str s)))
 | .const (.slice O 0 0)=>match T.bind (IC P) with
  |some a=>Z (.k (.nil (sd P a) (IM P a)))
  |none=>O
 |_=>O
def MD(f:KX->KO)(T:u TypeId)(x:Operand):u KO:=(tX P T x).map f
def V6(f:KX->KX->KO)(T U:u TypeId)(x y:Operand):u KO:=match tX P T x,tX P U y with
 |some a,Z b=>Z (f a b)
 |_,_=>O
def tXs:M Operand->M TypeId->u (M KX)
 |x::xs,t::b=>match tX P (Z t) x,tXs xs b with
  |some a,Z l=>Z (a::l)
  |_,_=>O
 |_,_=>Z []
def tXo:u Operand->u (u KX)
 |none=>Z O
 |some x=>(tX P O x).map Z
def aap(pl:M (Nat×Nat))(a:M TypeId):M (Nat×Operand)->u (M (Nat×Nat×KX))
 |[]=>Z []
 |(i,x)::b=>match nth pl i,tX P (nth a i) x,aap pl a b with
  |some (o,n),Z y,Z l=>Z ((o,n,y)::l)
  |_,_,_=>O
def abl(T:TypeId):M TypeId:=match P.underlying T with
 |some (.struct fs)=>fs.toList.map (·.type)
 |_=>[]
end
def aei(Q:TP)(h:Nat)(c:Call):u KO:=
 match c.callee with
 | .builtin .len=>match c.args.toList,c.argTypes.toList with
  |[x],[T]=>if N3 Q.P T then MD Q.P .len (Z T) x else MD Q.P .sln O x
  |_,_=>O
 | .builtin .min=>match c.args.toList with
  |[x,y]=>V6 Q.P .min O O x y
  |_=>O
 | .builtin .max=>match c.args.toList with
  |[x,y]=>V6 Q.P .max O O x y
  |_=>O
 | .builtin .copy=>match c.args.toList,c.argTypes.toList with
  |[x,y],[T,U]=>match IC Q.P T with
   |some f=>V6 Q.P (.Iy (sd Q.P f)) (Z T) (Z U) x y
   |none=>O
  |_,_=>O
 | .builtin .append=>match c.args.toList,c.argTypes.toList with
  |[x,y],[T,U]=>match IC Q.P T with
   |some f=>match Q.P.info? f with
    |some i=>V6 Q.P (.app (sd Q.P f) i.bytes (IM Q.P f)) (Z T) (Z U) x y
    |none=>O
   |none=>O
  |_,_=>O
 | .value (.func F)=>match abC Q.ids F with
  |some g=>if gR g 9004 then (match c.args.toList,c.argTypes.toList with
    |[x,y],[T,U]=>V6 Q.P .jn (Z T) (Z U) x y
    |_,_=>O)
   else if gR g 9005 ||gR g 9006 then (match c.args.toList,c.argTypes.toList with
    |[x,y,d],[T,U,V]=>match tX Q.P (Z T) x,tX Q.P (Z U) y,tX Q.P (Z V) d with
     |some a,Z b,Z e=>Z (.yv (gR g 9006) a b e)
     |_,_,_=>O
    |_,_=>O)
   else if xW h Q.law && xW g Q.mks then (match c.args.toList,c.argTypes.toList with
    |[x,y],T::_=>V6 Q.P (.mrk g) (Z T) O x y
    |_,_=>O)
   else (tXs Q.P c.args.toList c.argTypes.toList).map (.call g)
  |none=>O
 |_=>O
def ane(Q:TP)(f:Nat)(cut mv:Bool)(o:Oper):u KO:=
 match o.op with
 | .assign x=>MD Q.P (if mv then .TI else .mv) (Z o.type) x
 | .move x=>MD Q.P .mv (Z o.type) x
 | .pick c x y=>match tX Q.P O c with
  |some m=>V6 Q.P (.pick m) (Z o.type) (Z o.type) x y
  |none=>O
 | .alloc T=>(zsT Q.P T).map .alloc
 | .box T x=>MD Q.P .box (Z T) x
 | .build T e=>match zsT Q.P T with
  |some d=>match AO Q.P T with
   |some pl=>(aap Q.P pl (abl Q.P T) e.toList).map (.build d)
   |none=>Z (.zro d)
  |none=>O
 | .buildSlice T n e=>match IC Q.P T with
  |some a=>(gB (λp:Nat×Operand=>tX Q.P (Z a) p.2) e.toList).map (.vn (sd Q.P a) (IM Q.P a))
  |none=>O
 | .makeSlice T x _=>match IC Q.P T with
  |some a=>match Q.P.info? a,gB (zdT Q.P) (I9 Q.P 9 a) with
   |some i,Z d=>MD Q.P (.make (sd Q.P a) i.bytes (IM Q.P a) d) O x
   |_,_=>O
  |none=>O
 | .load T x=>MD Q.P (.ld (if MK Q.P T ==Z I then sd Q.P T else 0)) O x
 | .store T x v=>V6 Q.P (.st (sd Q.P T)) O (Z T) x v
 | .fieldAddr T x i=>match AO Q.P T with
  |some pl=>match nth pl i with
   |some (o,_)=>MD Q.P (.fa o) O x
   |none=>O
  |none=>O
 | .indexAddr T x i=>match Q.P.underlying T with
  |some (.array n a)=>V6 Q.P (.ixa n (sd Q.P a)) (Z T) O x i
  |some (.slice a)=>V6 Q.P (.ia (sd Q.P a)) (Z T) O x i
  |_=>O
 | .index _ x i=>V6 Q.P .Z3 O O x i
 | .binOp op T x y _=>if isBool Q.P T then V6 Q.P (.Wi op) O O x y else V6 Q.P (.bin op) O O x y
 | .unOp .not _ x=>MD Q.P .not O x
 | .unOp .neg _ x=>MD Q.P .neg O x
 | .convert _ T x=>match abG Q.P T with
  |some k=>MD Q.P (.conv k) O x
  |none=>MD Q.P .P0 O x
 | .nilCheck x=>MD Q.P .nck O x
 | .slice T x g j O=>match tXo Q.P g,tXo Q.P j with
  |some l,Z h=>match IC Q.P T with
   |none=>MD Q.P (.VZ · l h) O x
   |some a=>if cut then MD Q.P (.cut (sd Q.P a) · l h) (Z T) x else match l,h with
    |none,Z b=>MD Q.P (.slc · b) (Z T) x
    |_,_=>MD Q.P (.AZ (sd Q.P a) · l h) (Z T) x
  |_,_=>O
 | .extract x i=>MD Q.P (.ext · i) O x
 | .call c=>aei Q f c
 |_=>O
def aar:Operand->NL
 | .tmp t=>[t]
 |_=>[]
def A8(o:Oper):NL:=o.op.operands.toList.flatMap aar
def Q9:Code->M Oper
 | .region _ ops _=>ops.toList
 | .seq a b=>Q9 a++Q9 b
 | .cond _ a b=>Q9 a++Q9 b
 | .block _ a=>Q9 a
 | .loop a=>Q9 a
 |_=>[]
structure Pt where
 box:ML
 row:ML
 Py:ML
def nH(m:ML)(b:NL):NL:=b.foldr (λa l=>DE (wP m a) l) []
def VY(p:Pt):Operand->NL
 | .tmp t=>wP p.row t
 |_=>[]
def Ua(P:Program)(d:Nat):Nat->M TypeId->NL
 |_,[]=>[]
 |q,T::a=>(P4 P T).map (λj=>yc d (30 * q+j))++Ua P d (q+1) a
def ZG(P:Program):M (Operand×TypeId)->Pt->Pt
 |[],p=>p
 |(x,T)::l,p=>ZG P l (match afG P T with
  |some a=>{p with Py:=((aar x).flatMap (wP p.box)).foldr (λb m=>uL b ((P4 P a).map (yc (b+500))) m) p.Py }
  |none=>p)
def alw(d:Nat)(a:NL)(p:Pt):Pt:=⟨uL d (nH p.box a) p.box,uL d (nH p.row a) p.row,p.Py⟩
def alC:u Nat->Bool
 |some g=>gR g 9005 ||gR g 9006
 |none=>J
def ptO(Q:TP)(e:Nat)(p:Pt)(o:Oper):Pt:=
 let a:=A8 o
 match o.op,o.dst with
 | .alloc _,Z d=>{p with box:=uL d [d] p.box,Py:=Eb d (uL d (nH p.row a) p.Py) }
 | .box _ _,Z d=>{p with box:=uL d [d] p.box,Py:=Eb d (uL d (nH p.row a) p.Py) }
 | .buildSlice _ _ _,Z d=>{p with row:=uL d [d] p.row }
 | .makeSlice _ _ _,Z d=>{p with row:=uL d [d] p.row }
 | .load _ _,Z d=>{p with row:=uL d (nH p.Py (nH p.box a)) p.row }
 | .store _ x v,_=>{p with Py:=((aar x).flatMap (wP p.box)).foldr (λb m=>uL b (VY p v) m) p.Py }
 | .call c,d=>match c.callee with
  | .builtin .append=>match d with
   |some d=>{p with row:=uL d (aeY d (c.args.toList.take 1 |>.flatMap (VY p))) p.row }
   |none=>p
  | .value (.func F)=>if alC (abC Q.ids F) then (match d with
   |some d=>{p with row:=uL d (c.args.toList.take 1 |>.flatMap (VY p)) p.row }
   |none=>p) else match Q.P.funcs[F]? with
   |some f=>ZG Q.P (c.args.toList.zip c.argTypes.toList) (match d with
    |some d=>{p with row:=uL d (Ua Q.P d 0 f.resultTypes.toList) p.row }
    |none=>p)
   |none=>p
  |_=>p
 |op,Z d=>alw d a (if (match op with
   | .assign _=>I
   |_=>J) && xW d (wP Q.TI e) && !(nH p.row a).isEmpty then ⟨p.box,uL d [yc d 0] (p.row.map λx=>if Zk x.2 (nH p.row a) then (x.1,DE [yc d 0] x.2) else x),p.Py⟩ else p)
 |_,O=>p
def ad4(p:Pt):Nat:=(p.box++p.row++p.Py).foldr (λx n=>Nat.add x.2.length n) 0
def ail(f:Pt->Pt):Nat->Nat->Pt->Pt
 |0,_,p=>p
 |n+1,k,p=>match gR (ad4 (f p)) k with
  |true=>p
  |false=>ail f n (ad4 (f p)) (f p)
structure Fi where
 Q:TP
 cur:Nat
 n:Nat
 p:Pt
 rl:Nat
 pb:NL
 bad:NL
def Fi.dF(F:Fi)(live:Nat):lE:=
 let s:=afg F.n live
 let b:=DE F.pb (nH F.p.box s)
 ⟨s,b,DE (nH F.p.row s) (nH F.p.Py b)⟩
def Fi.cut(F:Fi)(o:Oper):Bool:=match o.op with
 | .slice T (.tmp x) _ _ _=>N3 F.Q.P T && !(wP F.p.row x).isEmpty
 |_=>J
def Fi.Ow(F:Fi)(o:Oper):Bool:=match o.op with
 | .alloc _=>I
 | .box _ _=>I
 | .store _ _ _=>I
 | .buildSlice _ _ _=>I
 | .makeSlice _ _ _=>I
 | .slice _ _ _ _ _=>F.cut o
 | .call c=>(match c.callee with
  | .builtin .len=>J
  | .builtin .min=>J
  | .builtin .max=>J
  |_=>I)
 |_=>J
def Fi.ins(F:Fi)(a:M Oper)(o:Oper):u KI:=
 match ane F.Q F.cur (F.cut o) (match o.dst with
  |some d=>xW d (wP F.Q.TI F.cur)
  |none=>J) o with
 |some k=>match o.guard with
  |none=>Z ⟨o.dst,k,O⟩
  |some (j,w)=>match (nth a j).bind (·.dst) with
   |some g=>Z ⟨o.dst,k,Z (g,w)⟩
   |none=>O
 |none=>O
def adz(o:Oper):Nat:=match o.dst with
 |some d=>bt_ d
 |none=>0
def agX(o:Oper):Nat:=(A8 o).foldr (λa m=>lD (bt_ a) m) 0
def ao5(a:M Oper)(live:Nat):Nat:=a.foldr (λo l=>lD (agX o) (adu l (adz o))) live
def afv(o:Oper):Nat:=o.after.toList.foldr (λe m=>match e.ground with
 | .textOnly _=>m
 | .gcOnly _=>m
 |_=>lD (bt_ e.on) m) 0
structure De where
 i:Nat
 o:Oper
 on:Nat
 de:Nat
 q:Bool
 tch:NL
def ahr:M Oper->M Nat->M Nat
 |[],acc=>acc
 |o::l,acc=>ahr l (acc++[(acc.zipIdx).foldr (λp m=>if Ao (afv o) p.2 then lD p.1 m else m) (afv o)])
def Fi.tch(F:Fi)(o:Oper):NL:=match o.op with
 | .alloc _=>(match o.dst with
  |some d=>[d]
  |none=>[])
 | .box _ _=>(match o.dst with
  |some d=>[d]
  |none=>[])
 | .store _ x _=>(aar x).flatMap (wP F.p.box)
 | .call c=>(match c.callee with
  | .builtin _=>[]
  |_=>nH F.p.box (A8 o))
 |_=>[]
def Fi.Pu(F:Fi)(a:M Oper):M De:=
 let b:=ahr a []
 a.zipIdx.map λp=>⟨p.2,p.1,afv p.1,b.zipIdx.foldr (λq m=>if Ao q.1 p.2 then lD (bt_ q.2) m else m) 0,!F.Ow p.1,F.tch p.1⟩
def Fi.amj(F:Fi)(b:M Oper):NL:=
 let f:=b.foldr (λo m=>lD (adz o) m) 0
 let c:=b.foldr (λo l=>if F.Ow o then (match o.dst with
  |some d=>d::l
  |none=>l) else l) []
 let e:=b.foldr (λo l=>DE (A8 o) l) []
 e.filter λa=>!Ao f a && !(wP F.p.row a).isEmpty && (wP F.p.box a).isEmpty && (wP F.p.row a).all λr=>!xW r F.bad && !xW r c && !(n8 1000 r && xW (Nat.sub (Nat.div r 1000) 1) c)
def Fi.quiet(F:Fi)(Pu:M De)(b:NL)(done:Nat)(x:De):Bool:=x.q && match x.o.op with
 | .load _ (.tmp a)=>!(!(wP F.p.row a).isEmpty && (wP F.p.box a).isEmpty && !apc (wP F.p.row a) b) &&
   !(Pu.any λy=>!Ao done y.i && !Ao x.de y.i && Zk y.tch (wP F.p.box a))
 |_=>I
def Yd(done:Nat)(p:De->Bool):M De->u De
 |[]=>O
 |x::l=>if !Ao done x.i && ad7 x.on done && p x then Z x else Yd done p l
def YR(o:Oper):Bool:=match o.op with
 | .load _ _=>I
 |_=>J
def adr(ins:Oper->u KI)(k:Nat->u (KT×Nat))(done:Nat):M De->u (KT×Nat)
 |[]=>O
 |x::l=>match ins x.o,k (lD (bt_ x.i) done) with
  |some i,Z (t,q)=>match l with
   |[]=>Z (.op ⟨x.i,J,[],[],i⟩ t,q)
   |l=>match adr ins k done l with
    |some (r,a)=>Z (.alt ⟨x.i,J,[],[],i⟩ t r,lD q a)
    |none=>O
  |_,_=>O
def Fi.draw(F:Fi)(Pu:M De)(a:NL)(ins:Oper->u KI):Nat->Nat->u (KT×Nat)
 |0,done=>Z (.nil,0)
 |n+1,done=>match Yd done (F.quiet Pu a done) Pu with
  |some x=>match ins x.o,F.draw Pu a ins n (lD (bt_ x.i) done) with
   |some i,Z (t,q)=>Z (.op ⟨x.i,I,if YR x.o then afg Pu.length x.de else [],if YR x.o then afg Pu.length (adu x.de q) else [],i⟩ t,lD (bt_ x.i) q)
   |_,_=>O
  |none=>adr ins (F.draw Pu a ins n) done (Pu.filter λx=>!Ao done x.i && ad7 x.on done)
def KT.alts:KT->Bool
 | .nil=>J
 | .op _ t=>t.alts
 | .alt _ _ _=>I
def aeo(l:NL)(k:K):K:=l.foldr .Mu k
def amo:M Oper->Nat
 |o::_=>(match o.dst with
  |some d=>d+1
  |none=>0)
 |[]=>0
def Fi.kr(F:Fi)(a:M Oper):u (M Nat):=match look F.Q.adM (F.cur+1000000 * amo a) with
 |some r=>Z r
 |none=>look F.Q.adM F.cur
def Fi.drawn(F:Fi)(a:M Oper)(live:Nat):u K:=
 let Mu:=F.amj a
 match F.draw (F.Pu a) (nH F.p.row Mu) (F.ins a) a.length 0 with
 |some (t,_)=>match F.kr a with
  |some r=>if t.alts then Z (aeo (Mu++wP F.Q.ami F.cur) (.Wk t {F.dF live with r:=r })) else Z (aeo Mu (.Wk t (F.dF live)))
  |none=>Z (aeo Mu (.Wk t (F.dF live)))
 |none=>O
def amq(a:M (Nat×Nat))(id:Nat):Nat:=match look a id with
 |some l=>l
 |none=>0
def aeB(f:Nat->Nat):Nat->Nat->Nat
 |0,l=>l
 |n+1,l=>match gR (lD (f l) l) l with
  |true=>l
  |false=>aeB f n (lD (f l) l)
def Fi.lv(F:Fi):Code->Nat->M (Nat×Nat)->Nat
 | .skip,l,_=>l
 | .ret,_,_=>F.rl
 | .seq a b,l,ex=>F.lv a (F.lv b l ex) ex
 | .cond c a b,l,ex=>lD ((aar c).foldr (λd m=>lD (bt_ d) m) 0) (lD (F.lv a l ex) (F.lv b l ex))
 | .block id a,l,ex=>F.lv a l ((id,l)::ex)
 | .exit id,_,ex=>amq ex id
 | .loop a,_,ex=>aeB (λl=>F.lv a l ex) 9 0
 | .region _ ops _,l,_=>ao5 ops.toList l
 |_,l,_=>l
def Fi.shares(F:Fi)(c:Code):NL:=match c with
 | .region _ ops _=>(wP F.Q.share F.cur).filter λr=>ops.toList.any λo=>match o.dst with
  |some d=>gR r d ||(n8 1000000 r && gR (Nat.sub r 1000000) d) ||(n8 1000 r && fV r 1000000 && gR (Nat.sub (Nat.div r 1000) 1) d)
  |none=>J
 |_=>[]
def Fi.code(F:Fi):Code->Nat->M (Nat×Nat)->u K
 | .skip,_,_=>Z .skip
 | .ret,_,_=>Z .ret
 | .seq a b,l,ex=>match F.code b l ex,F.code a (F.lv b l ex) ex with
  |some y,Z x=>Z (.seq x ((F.shares a).foldr (λr k=>if n8 1000000 r then (if Ao (F.lv b l ex) (Nat.sub r 1000000) then .Mu (Nat.sub r 1000000) k else k) else .share r k) y))
  |_,_=>O
 | .cond c a b,l,ex=>match tX F.Q.P O c,F.code a l ex,F.code b l ex with
  |some c,Z x,Z y=>Z (.cond c x y)
  |_,_,_=>O
 | .block id a,l,ex=>(F.code a l ((id,l)::ex)).map (.block id)
 | .exit id,_,_=>Z (.exit id)
 | .loop a,_,ex=>(F.code a (aeB (λl=>F.lv a l ex) 9 0) ex).map .loop
 | .region _ ops J,l,_=>(gB (F.ins ops.toList) ops.toList).map λd=>.Rf d (F.dF l)
 | .region _ ops I,l,_=>F.drawn ops.toList l
 |_,_,_=>O
def al7(Q:TP)(p:Pt)(o:Oper):NL:=match o.op with
 | .store _ x v=>DE (VY p x) (VY p v)
 | .slice _ x _ _ _=>VY p x
 | .buildSlice _ _ _=>nH p.row (A8 o)
 | .build _ _=>nH p.row (A8 o)
 | .box _ _=>nH p.row (A8 o)
 | .call c=>(match c.callee with
  | .builtin .append=>nH p.row (A8 o)
  | .value (.func F)=>(match abC Q.ids F with
   |some g=>if xW g Q.mks ||alC (Z g) then nH p.row (A8 o) else []
   |none=>[])
  |_=>[])
 |_=>[]
def ao7(P:Program):ResultVar->u KR
 | .tmp t=>Z (.t t)
 | .cell a T=>match MK P T with
  |some I=>Z (.c a (sd P T))
  |some J=>Z (.c a 0)
  |none=>O
def ao6:ResultVar->Nat
 | .tmp t=>t
 | .cell a _=>a
def pt0(P:Program)(k nfree:Nat):M TypeId->Pt
 |[]=>(cB nfree).foldr (λj p=>⟨uL (k+j) [900+k+j] p.box,p.row,Eb (900+k+j) p.Py⟩) ⟨[],[],[]⟩
 |T::b=>let p:=pt0 P (k+1) nfree b
  match afG P T with
  |some a=>⟨uL k [900+k] p.box,p.row,Eb (900+k) (uL (900+k) ((P4 P a).map (yc (k+500))) p.Py)⟩
  |none=>p
def VU(P:Program):Nat->M TypeId->NL
 |_,[]=>[]
 |k,T::a=>match afG P T with
  |some _=>k::VU P (k+1) a
  |none=>VU P (k+1) a
def toF(Q:TP)(f:Nat):u KF:=
 match (look Q.ids f).bind λF=>Q.P.funcs[F]? with
 |some b=>match b.body,gB (ao7 Q.P) b.results.toList with
  |some c,Z res=>
   let h:=VU Q.P 0 b.params.toList++(cB b.nfree).map (b.params.size+·)
   let e:=DE (b.results.toList.map ao6) h
   let d:=Q9 c
   let p:=ail (λp=>d.foldl (ptO Q f) p) 9 0 (pt0 Q.P 0 b.nfree b.params.toList)
   let g:=DE (nH p.row e) (DE (p.Py.foldr (λx l=>DE x.2 l) []) (d.foldr (λo l=>DE (al7 Q p o) l) []))
   match (Fi.mk Q f b.ntmps p (e.foldr (λa m=>lD (bt_ a) m) 0) (h.map (900+·)) g).code c ((e.foldr (λa m=>lD (bt_ a) m) 0)) []with
   |some k=>Z ⟨b.params.size+b.nfree,k,res⟩
   |none=>O
  |_,_=>O
 |none=>O
end
section
open Go.RowKit
def ids:M (Nat×Nat):=[(1,91),(2,37),(3,52),(4,19),(5,55),(6,22),(9,44),(10,12),(11,59),(12,25),(13,95),(14,46),(15,14),(16,47),(17,17),(18,26),(19,51),(20,16),(21,18),(22,27),(26,53),(27,20),(28,78),(29,36),(30,7),(31,56),(32,23),(33,87),(34,41),(35,10),(39,254),(45,109),(46,76),(47,75),(48,253),(49,235),(50,208),(51,178),(52,144),(53,110),(54,77),(55,35),(56,6),(59,157),(60,119),(61,85),(62,84),(63,260),(64,241),(65,218),(66,191),(67,158),(68,120),(69,86),(70,40),(71,9),(74,150),(75,116),(76,151),(77,186),(78,152),(79,101),(80,117),(81,82),(82,113),(89,188),(92,196),(93,162),(94,124),(95,125),(96,126),(97,137),(99,192),(100,206),(105,204),(108,166),(109,129),(110,93),(111,92),(112,266),(113,249),(114,232),(115,203),(116,167),(117,130),(118,94),(119,45),(120,13),(124,100),(125,60),(126,61),(127,28),(128,103),(129,64),(130,65),(131,30),(132,102),(133,62),(135,175),(136,252),(137,234),(138,207),(139,176),(140,142),(141,104),(142,66),(144,105),(145,68),(146,69),(147,32),(148,48),(149,49),(150,131),(151,96),(152,50),(153,15),(154,70),(155,71),(156,33),(157,106),(158,107),(159,177),(160,143),(161,108),(162,72),(163,73),(164,74),(165,34),(167,63),(169,67),(194,135),(197,141),(201,111),(202,179),(203,236),(204,213),(205,255),(206,256),(207,257),(208,237),(209,209),(210,180),(211,181),(212,210),(213,184),(214,182),(215,211),(216,269),(217,288),(218,289),(219,298),(220,286),(221,287),(222,278),(223,258),(224,279),(225,268),(226,238),(227,212),(228,183),(229,239),(230,214),(231,215),(232,216),(233,270),(234,259),(235,240),(236,217),(237,185),(238,146),(239,145),(240,112),(241,79),(242,80),(243,168),(244,147),(245,114),(246,81),(247,148),(248,149),(249,115),(250,38),(251,154),(252,132),(255,121),(256,122),(257,159),(258,219),(259,242),(260,220),(261,193),(262,243),(263,261),(264,224),(265,271),(266,262),(267,244),(268,221),(269,194),(270,195),(271,197),(272,198),(273,245),(274,222),(275,273),(276,299),(277,303),(278,300),(279,290),(280,263),(281,291),(282,280),(283,272),(284,246),(285,223),(286,199),(287,225),(288,226),(303,227),(308,265),(309,248),(310,228),(311,200),(312,163),(313,160),(314,161),(315,123),(316,88),(317,89),(320,164),(321,127),(322,90),(323,231),(324,202),(325,165),(326,128),(327,42),(328,174),(329,138),(333,230),(346,134),(347,187),(348,153),(349,155),(350,190),(351,189),(352,156),(353,83),(354,118),(355,39),(357,140),(358,169),(359,170),(360,171),(361,98),(362,205),(363,173),(364,136),(365,57),(369,8),(370,43),(371,11),(372,3),(373,133),(374,97),(375,54),(376,21),(377,139),(378,99),(379,58),(380,24),(381,4),(382,29),(383,31),(384,5),(9001,247),(9002,275),(9003,201),(9004,276),(9005,172),(9006,233)]
def num(f:Nat):FuncId:=match look ids f with
 |some F=>F
 |none=>1000000
noncomputable def tp:TP:=⟨Tryz.prog,ids,[153,20,17,18,156,16,148,149,152,19,154,155,151,150],[372,381,384],[(78,[14002]),(282,[20]),(234,[8000,119000]),(347,[13]),(351,[39]),(362,[54]),(44000374,[18,18000,51000]),(151000374,[18,18000,158000]),(378,[18,43000])],[(374,[18000]),(225,[5]),(283,[4]),(223,[6]),(280,[6]),(349,[1000004]),(350,[1000004,9]),(351,[1000006]),(352,[1000010,1000015]),(353,[1000006,1000009]),(354,[1000006,1000016,21000]),(360,[1000008,1000011]),(361,[1000006,1000010]),(362,[1000006,1000007]),(363,[1000008,1000016,25]),(364,[1000006,1000001,1000008]),(359,[1000012])],[(282,[3]),(378,[10])],[(234,[7])]⟩
def klp:K->M K
 | .seq a b=>klp b++klp a
 | .cond _ a b=>klp a++klp b
 | .block _ a=>klp a
 | .loop a=>klp a++[a]
 | .share _ a=>klp a
 | .Mu _ a=>klp a
 |_=>[]
noncomputable def kx(f:Nat):KF:=match toF tp f with
 |some k=>k
 |none=>⟨0,.skip,[]⟩
noncomputable def kb(f j:Nat):K:=match nth (klp (kx f).body) j with
 |some b=>b
 |none=>.skip
theorem aM{a:Type}(l:M a):Array.mk l=l.toArray:=(rfl)
theorem uM(n:Nat)(h:n < 2 ^ 8):UInt8.ofBitVec (BitVec.ofFin (Fin.mk n h))=dz n:=by
 rw[dz]
 congr 2
 exact Fin.ext (Nat.mod_eq_of_lt h).symm
attribute [go_sem] Int.reduceOfNat Int.reduceNegSucc aM uM UInt8.reduceOfNat
noncomputable section
def AE:K:=by refine (?f:kb 276 0=?t->K) ?p;exact λ_=>?t;conv=>lhs;reduce
def ajp:KF:=by refine (?f:kx 276=?t->KF) ?p;exact λ_=>?t;conv=>lhs;reduce;rw[<- AE.eq_1]
theorem akm:okF Tryz.prog num 276 ajp=I:=by kernel_rfl
def xC:K:=by refine (?f:kb 279 0=?t->K) ?p;exact λ_=>?t;conv=>lhs;reduce
def qg:K:=by refine (?f:kb 279 1=?t->K) ?p;exact λ_=>?t;conv=>lhs;reduce
def iL:K:=by refine (?f:kb 279 2=?t->K) ?p;exact λ_=>?t;conv=>lhs;reduce;rw[<- qg.eq_1]
def ajq:KF:=by refine (?f:kx 279=?t->KF) ?p;exact λ_=>?t;conv=>lhs;reduce;rw[<- xC.eq_1,<- qg.eq_1,<- iL.eq_1]
theorem akn:okF Tryz.prog num 279 ajq=I:=by kernel_rfl
def wN:K:=by refine (?f:kb 16 0=?t->K) ?p;exact λ_=>?t;conv=>lhs;reduce
def k16:KF:=by refine (?f:kx 16=?t->KF) ?p;exact λ_=>?t;conv=>lhs;reduce;rw[<- wN.eq_1]
theorem anp:okF Tryz.prog num 16 k16=I:=by kernel_rfl
def Lm:K:=by refine (?f:kb 17 0=?t->K) ?p;exact λ_=>?t;conv=>lhs;reduce
def k17:KF:=by refine (?f:kx 17=?t->KF) ?p;exact λ_=>?t;conv=>lhs;reduce;rw[<- Lm.eq_1]
theorem anq:okF Tryz.prog num 17 k17=I:=by kernel_rfl
def Ln:K:=by refine (?f:kb 18 0=?t->K) ?p;exact λ_=>?t;conv=>lhs;reduce
def k18:KF:=by refine (?f:kx 18=?t->KF) ?p;exact λ_=>?t;conv=>lhs;reduce;rw[<- Ln.eq_1]
theorem anr:okF Tryz.prog num 18 k18=I:=by kernel_rfl
def Lo:K:=by refine (?f:kb 19 0=?t->K) ?p;exact λ_=>?t;conv=>lhs;reduce
def k19:KF:=by refine (?f:kx 19=?t->KF) ?p;exact λ_=>?t;conv=>lhs;reduce;rw[<- Lo.eq_1]
theorem ans:okF Tryz.prog num 19 k19=I:=by kernel_rfl
def k20:KF:=by refine (?f:kx 20=?t->KF) ?p;exact λ_=>?t;conv=>lhs;reduce
theorem ant:okF Tryz.prog num 20 k20=I:=by kernel_rfl
def Lp:K:=by refine (?f:kb 21 0=?t->K) ?p;exact λ_=>?t;conv=>lhs;reduce
def k21:KF:=by refine (?f:kx 21=?t->KF) ?p;exact λ_=>?t;conv=>lhs;reduce;rw[<- Lp.eq_1]
theorem anu:okF Tryz.prog num 21 k21=I:=by kernel_rfl
def Lq:K:=by refine (?f:kb 22 0=?t->K) ?p;exact λ_=>?t;conv=>lhs;reduce
def k22:KF:=by refine (?f:kx 22=?t->KF) ?p;exact λ_=>?t;conv=>lhs;reduce;rw[<- Lq.eq_1]
theorem anv:okF Tryz.prog num 22 k22=I:=by kernel_rfl
def DY:K:=by refine (?f:kb 148 0=?t->K) ?p;exact λ_=>?t;conv=>lhs;reduce
def ai8:KF:=by refine (?f:kx 148=?t->KF) ?p;exact λ_=>?t;conv=>lhs;reduce;rw[<- DY.eq_1]
theorem aj5:okF Tryz.prog num 148 ai8=I:=by kernel_rfl
def DZ:K:=by refine (?f:kb 149 0=?t->K) ?p;exact λ_=>?t;conv=>lhs;reduce
def ai9:KF:=by refine (?f:kx 149=?t->KF) ?p;exact λ_=>?t;conv=>lhs;reduce;rw[<- DZ.eq_1]
theorem aj6:okF Tryz.prog num 149 ai9=I:=by kernel_rfl
def D0:K:=by refine (?f:kb 150 0=?t->K) ?p;exact λ_=>?t;conv=>lhs;reduce
def ai_:KF:=by refine (?f:kx 150=?t->KF) ?p;exact λ_=>?t;conv=>lhs;reduce;rw[<- D0.eq_1]
theorem aj7:okF Tryz.prog num 150 ai_=I:=by kernel_rfl
def D1:K:=by refine (?f:kb 151 0=?t->K) ?p;exact λ_=>?t;conv=>lhs;reduce
def aja:KF:=by refine (?f:kx 151=?t->KF) ?p;exact λ_=>?t;conv=>lhs;reduce;rw[<- D1.eq_1]
theorem aj8:okF Tryz.prog num 151 aja=I:=by kernel_rfl
def D2:K:=by refine (?f:kb 152 0=?t->K) ?p;exact λ_=>?t;conv=>lhs;reduce
def ajb:KF:=by refine (?f:kx 152=?t->KF) ?p;exact λ_=>?t;conv=>lhs;reduce;rw[<- D2.eq_1]
theorem aj9:okF Tryz.prog num 152 ajb=I:=by kernel_rfl
def D3:K:=by refine (?f:kb 153 0=?t->K) ?p;exact λ_=>?t;conv=>lhs;reduce
def ajc:KF:=by refine (?f:kx 153=?t->KF) ?p;exact λ_=>?t;conv=>lhs;reduce;rw[<- D3.eq_1]
theorem aj_:okF Tryz.prog num 153 ajc=I:=by kernel_rfl
def D4:K:=by refine (?f:kb 154 0=?t->K) ?p;exact λ_=>?t;conv=>lhs;reduce
def ajd:KF:=by refine (?f:kx 154=?t->KF) ?p;exact λ_=>?t;conv=>lhs;reduce;rw[<- D4.eq_1]
theorem aka:okF Tryz.prog num 154 ajd=I:=by kernel_rfl
def aje:KF:=by refine (?f:kx 155=?t->KF) ?p;exact λ_=>?t;conv=>lhs;reduce
theorem akb:okF Tryz.prog num 155 aje=I:=by kernel_rfl
def ajf:KF:=by refine (?f:kx 156=?t->KF) ?p;exact λ_=>?t;conv=>lhs;reduce
theorem akc:okF Tryz.prog num 156 ajf=I:=by kernel_rfl
def D5:K:=by refine (?f:kb 157 0=?t->K) ?p;exact λ_=>?t;conv=>lhs;reduce
def ajg:KF:=by refine (?f:kx 157=?t->KF) ?p;exact λ_=>?t;conv=>lhs;reduce;rw[<- D5.eq_1]
theorem akd:okF Tryz.prog num 157 ajg=I:=by kernel_rfl
def D6:K:=by refine (?f:kb 158 0=?t->K) ?p;exact λ_=>?t;conv=>lhs;reduce
def ajh:KF:=by refine (?f:kx 158=?t->KF) ?p;exact λ_=>?t;conv=>lhs;reduce;rw[<- D6.eq_1]
theorem ake:okF Tryz.prog num 158 ajh=I:=by kernel_rfl
def D7:K:=by refine (?f:kb 159 0=?t->K) ?p;exact λ_=>?t;conv=>lhs;reduce
def aji:KF:=by refine (?f:kx 159=?t->KF) ?p;exact λ_=>?t;conv=>lhs;reduce;rw[<- D7.eq_1]
theorem akf:okF Tryz.prog num 159 aji=I:=by kernel_rfl
def D8:K:=by refine (?f:kb 160 0=?t->K) ?p;exact λ_=>?t;conv=>lhs;reduce
def ajj:KF:=by refine (?f:kx 160=?t->KF) ?p;exact λ_=>?t;conv=>lhs;reduce;rw[<- D8.eq_1]
theorem akg:okF Tryz.prog num 160 ajj=I:=by kernel_rfl
def D9:K:=by refine (?f:kb 161 0=?t->K) ?p;exact λ_=>?t;conv=>lhs;reduce
def ajk:KF:=by refine (?f:kx 161=?t->KF) ?p;exact λ_=>?t;conv=>lhs;reduce;rw[<- D9.eq_1]
theorem akh:okF Tryz.prog num 161 ajk=I:=by kernel_rfl
def D_:K:=by refine (?f:kb 162 0=?t->K) ?p;exact λ_=>?t;conv=>lhs;reduce
def ajl:KF:=by refine (?f:kx 162=?t->KF) ?p;exact λ_=>?t;conv=>lhs;reduce;rw[<- D_.eq_1]
theorem aki:okF Tryz.prog num 162 ajl=I:=by kernel_rfl
def Ea:K:=by refine (?f:kb 163 0=?t->K) ?p;exact λ_=>?t;conv=>lhs;reduce
def ajm:KF:=by refine (?f:kx 163=?t->KF) ?p;exact λ_=>?t;conv=>lhs;reduce;rw[<- Ea.eq_1]
theorem akj:okF Tryz.prog num 163 ajm=I:=by kernel_rfl
def ajn:KF:=by refine (?f:kx 164=?t->KF) ?p;exact λ_=>?t;conv=>lhs;reduce
theorem akk:okF Tryz.prog num 164 ajn=I:=by kernel_rfl
def ajo:KF:=by refine (?f:kx 165=?t->KF) ?p;exact λ_=>?t;conv=>lhs;reduce
theorem akl:okF Tryz.prog num 165 ajo=I:=by kernel_rfl
def ajr:KF:=by refine (?f:kx 333=?t->KF) ?p;exact λ_=>?t;conv=>lhs;reduce
theorem ako:okF Tryz.prog num 333 ajr=I:=by kernel_rfl
def fs:M Nat:=[1,2,3,4,5,6,9,10,11,12,13,14,15,26,27,28,29,30,31,32,33,34,35,39,45,46,47,48,49,50,51,52,53,54,55,56,59,60,61,62,63,64,65,66,67,68,69,70,71,74,75,76,77,78,79,80,81,82,89,92,93,94,95,96,97,99,100,105,108,109,110,111,112,113,114,115,116,117,118,119,120,124,125,126,127,128,129,130,131,132,133,135,136,137,138,139,140,141,142,144,145,146,147,167,169,194,197,201,202,203,204,205,206,207,208,209,210,211,212,213,214,215,216,217,218,219,220,221,222,223,224,225,226,227,228,229,230,231,232,233,234,235,236,237,238,239,240,241,242,243,244,245,246,247,248,249,250,251,252,255,256,257,258,259,260,261,262,263,264,265,266,267,268,269,270,271,272,273,274,275,277,278,280,281,282,283,284,285,286,287,288,303,308,309,310,311,312,313,314,315,316,317,320,321,322,323,324,325,326,327,328,329,346,347,348,349,350,351,352,353,354,355,357,358,359,360,361,362,363,364,365,369,370,371,373,374,375,376,377,378,379,380,382,383]
def adg:M (Nat×KF):=[(276,ajp),(279,ajq),(16,k16),(17,k17),(18,k18),(19,k19),(20,k20),(21,k21),(22,k22),(148,ai8),(149,ai9),(150,ai_),(151,aja),(152,ajb),(153,ajc),(154,ajd),(155,aje),(156,ajf),(157,ajg),(158,ajh),(159,aji),(160,ajj),(161,ajk),(162,ajl),(163,ajm),(164,ajn),(165,ajo),(9001,⟨999,.skip,[]⟩),(9002,⟨999,.skip,[]⟩),(9003,⟨999,.skip,[]⟩)]
noncomputable def T(f:Nat):u KF:=match look adg f with
 |some k=>Z k
 |none=>if xW f fs=I then toF tp f else O
end
end
section
noncomputable def txk(h:M Nat)(i:Nat)(a:KF):u ST:=match look qq i with
 |some b=>match fV a.np 999 with
  |true=>Z8 h qq a b
  |false=>O
 |none=>O
noncomputable def tT(i:Nat):u KF:=match look qq i with
 |some a=>T a.f
 |none=>O
noncomputable def tx(h:M Nat)(i:Nat):u ST:=match tT i with
 |some a=>txk h i a
 |none=>O
theorem aaF{h:M Nat}{i:Nat}{r t:ST}(b:tx h i=Z r)(a:r=t):tx h i=Z t:=a▸b
noncomputable def rx(h:M Nat)(i:Nat)(a:KF):ST:=match txk h i a with
 |some t=>t
 |none=>.nil
def abc(i:Nat)(a:M D):u (M A):=match look qq i with
 |some b=>iC b.args a
 |none=>O
def exs:M Nat:=[9001,9002,9003]
noncomputable def cg1(p:Nat×ny):Bool:=match T p.2.f with
 |some a=>xW p.2.f exs ||(okF Tryz.prog num p.2.f a && (p.2.args.length ==a.np && fV a.np 999 && decide p.2.res.Nodup))
 |none=>J
noncomputable def Bo:M (Nat×ny)->Bool
 |[]=>I
 |p::l=>cg1 p && Bo l
theorem pZ{a b:Nat}(h:Bo ((qq.drop a).take b)=I)(c:∀p∈qq.drop (a+b),cg1 p=I):∀p∈qq.drop a,cg1 p=I:=by
 rw[<- oP]at c
 revert h c
 generalize qq.drop a=l
 induction b generalizing l with
 |zero=>exact λ_ h=>h
 |succ b e=>
  intro h c;cases l with
  |nil=>exact c
  |cons p l=>
   simp only[cn,Bo,ai]at h;intro q d;rcases aL.1 d with rfl|d
   ·exact h.1
   ·exact e l h.2 c q d
structure R_ (h:List Nat) (i:Nat) where
 t:ST
 ok:tx h i=some t
def VI:ST->M ST
 | .cons a b=>VI a++VI b
 | .op _ _ _ t=>VI t
 | .gd _ a b=>VI a++VI b
 | .call _ _ c=>VI c
 | .map _ t=>VI t
 | .seq t c=>VI t++VI c
 | .loop _ _ d=>VI d++[d]
 | .both a b=>VI a++VI b
 |_=>[]
def lq(t:ST)(j:Nat):ST:=match nth (VI t) j with
 |some b=>b
 |none=>.nil
noncomputable def lp(h:M Nat)(i j:Nat):ST:=match tx h i with
 |some t=>lq t j
 |none=>.nil
end
end Go.Proofs.YtnnjajingjfjiaaGreatDoor
