/- Part of the proof: a machine over plain data, its proof, the functions of the program run on symbols, what they answer. Condition: none. -/
import Derived.Test.YthlpjklbafakfaaGreatDoorProg
import Derived.Test.YthlpjklbafakfaaGreatDoorZz03
set_option linter.unusedVariables false
set_option linter.unusedSimpArgs false
open Bool renaming and_eq_true->af,true->I,false->J
open List renaming mem_cons->aP,replicate->bc,range->bW,take_succ_cons->fE,drop_drop->kO
open Nat renaming beq->fj,blt->gf,ble->gV,lor->ly,sub->zJ
open UInt8 renaming ofNat->dX
open Option renaming some->Z,none->O
namespace Go.Proofs.YthlpjklbafakfaaGreatDoor
set_option maxRecDepth 100000
set_option maxHeartbeats 400000000
section
abbrev v1:SA:=.val J [.d]
abbrev v_(n:Nat):SA:=.val I (bc n .d)
def nY:M (Nat×lP):=[(278,⟨278,[.box [.d,.d,.d]],[([v1],[.box [.d,.d,.d]])]⟩),
 (277,⟨277,[v1],[([v1],[])]⟩),
 (275,⟨275,[.box [.d,.d,.d],v1],[([v1],[.box [.d,.d,.d]])]⟩),
 (250,⟨250,[v1,v1],[([v1],[])]⟩),
 (327,⟨327,[v1,v1],[([v1],[])]⟩),
 (258,⟨258,[v1],[([v1],[])]⟩),
 (241,⟨241,[v1],[([v1],[])]⟩),
 (316,⟨316,[v1],[([v1],[])]⟩),
 (259,⟨259,[v1],[([v1],[])]⟩),
 (201,⟨201,[v1,v1],[([v1],[])]⟩),
 (255,⟨255,[v1],[([v1],[])]⟩),
 (240,⟨240,[v1,v1,v1,v1],[([v1],[])]⟩),
 (256,⟨256,[v1],[([v1],[])]⟩),
 (315,⟨315,[v1,v1,v1],[([v1],[])]⟩),
 (81,⟨81,[v1],[([.val J [.row 19 J I I J]],[])]⟩),
 (242,⟨242,[v1,v1],[([v1],[])]⟩),
 (95,⟨95,[v1],[([.val J [.row 1 I I I J]],[])]⟩),
 (75,⟨75,[v1],[([v1],[])]⟩),
 (317,⟨317,[v1],[([v1],[])]⟩),
 (74,⟨74,[v1,v1,v1],[([v1],[])]⟩),
 (246,⟨246,[v1,v1],[([v1],[])]⟩),
 (322,⟨322,[v1,v1],[([v1],[])]⟩),
 (82,⟨82,[v1,v1],[([v1],[])]⟩),
 (257,⟨257,[v1],[([v1],[])]⟩),
 (94,⟨94,[v1],[([.val J [.row 19 J I I J]],[]),([.val J [.row 19 J J I J]],[])]⟩),
 (99,⟨99,[v1,v1],[([v1],[])]⟩),
 (239,⟨239,[v_ 19,v1],[([v1],[])]⟩),
 (80,⟨80,[v_ 19],[([.val I [.d,.d,.d,.row 2 I I I J,.row 1 I I I J,.d,.d,.row 1 I I I J,.row 1 I I I J,.d,.d,.d,.d,.d,.d,.d,.row 7 J I I J,.row 7 J I I J,.row 19 J I I J]],[])]⟩),
 (245,⟨245,[v_ 19,v_ 3],[([v1],[])]⟩),
 (93,⟨93,[v1,v1],[([.val J [.row 19 J I I J],.val J [.row 1 I I I J]],[]),([.val J [.row 19 J J I J],.val J [.row 1 I I I J]],[])]⟩),
 (96,⟨96,[v1,v1],[([v1],[])]⟩),
 (313,⟨313,[v_ 19],[([v1],[])]⟩),
 (249,⟨249,[v1,v_ 3,v_ 3],[([v1],[])]⟩),
 (97,⟨97,[v1,v1],[([.val I [.d,.d,.d,.row 2 I I I J,.row 1 I I I J,.d,.d,.row 1 I I I J,.row 1 I I I J,.d,.d,.d,.d,.d,.d,.d,.row 7 J I I J,.row 7 J I I J,.row 19 J I I J],v1],[]),([v_ 19,v1],[])]⟩),
 (202,⟨202,[v1],[([v1],[])]⟩),
 (76,⟨76,[v_ 5],[([.val I [.d,.row 2 I I I J,.row 1 I I I J,.d,.d]],[])]⟩),
 (244,⟨244,[v_ 19,v_ 3],[([.val J [.row 1 I I I J],v1],[])]⟩),
 (238,⟨238,[v_ 5,v1],[([v1],[])]⟩),
 (92,⟨92,[v1],[([v1],[])]⟩),
 (261,⟨261,[v1],[([v1],[])]⟩),
 (247,⟨247,[v1],[([v1],[])]⟩),
 (243,⟨243,[v1,v1],[([v1],[])]⟩),
 (237,⟨237,[v_ 5,v1],[([v1,v1],[])]⟩),
 (329,⟨329,[v_ 19,v1,v_ 3],[([v1],[])]⟩),
 (210,⟨210,[v1,v1],[([v1],[])]⟩),
 (78,⟨78,[v_ 7],[([.val I [.d,.d,.d,.d,.d,.row 2 J I I J,.row 7 J I I J]],[])]⟩),
 (260,⟨260,[v1],[([v1],[])]⟩),
 (230,⟨230,[v1],[([v1,v1],[])]⟩),
 (321,⟨321,[v_ 19,v_ 3],[([v1],[])]⟩),
 (211,⟨211,[v_ 5],[([v1],[])]⟩),
 (79,⟨79,[v1],[([.val J [.row 19 J I I J]],[])]⟩),
 (248,⟨248,[v1,v1],[([v1],[])]⟩),
 (204,⟨204,[v1],[([v1],[])]⟩),
 (326,⟨326,[v_ 19,v_ 3,v_ 3],[([v1],[])]⟩),
 (209,⟨209,[v_ 7],[([v1],[])]⟩),
 (77,⟨77,[v_ 3],[([.val I [.d,.d,.row 2 J I I J]],[])]⟩),
 (229,⟨229,[v1],[([v1,v1],[])]⟩),
 (214,⟨214,[v_ 19],[([v1],[])]⟩),
 (269,⟨269,[v1,v1],[([v1],[])]⟩),
 (228,⟨228,[v_ 5],[([v1],[])]⟩),
 (328,⟨328,[v_ 19,v_ 3,v_ 3],[([v1],[])]⟩),
 (312,⟨312,[v_ 5,v1],[([v1],[])]⟩),
 (320,⟨320,[v_ 19,v_ 3],[([.val J [.row 1 I I I J],v1],[])]⟩),
 (203,⟨203,[v_ 7],[([v1],[])]⟩),
 (213,⟨213,[v_ 19],[([v1],[])]⟩),
 (270,⟨270,[v_ 5],[([v1],[])]⟩),
 (232,⟨232,[v1,v1],[([v1],[])]⟩),
 (212,⟨212,[v1],[([v1],[])]⟩),
 (268,⟨268,[v_ 7],[([v1],[])]⟩),
 (215,⟨215,[v1],[([v1],[])]⟩),
 (311,⟨311,[v_ 5,v1],[([v1,v1],[])]⟩),
 (9003,⟨9003,[v1,v1],[([v1],[])]⟩),
 (271,⟨271,[v1],[([v1],[])]⟩),
 (231,⟨231,[v1],[([v1],[])]⟩),
 (208,⟨208,[v_ 7],[([v1],[])]⟩),
 (39,⟨39,[v1,v1],[([v1],[])]⟩),
 (262,⟨262,[v_ 7],[([v1],[])]⟩),
 (286,⟨286,[v_ 5],[([v1],[])]⟩),
 (272,⟨272,[v_ 19],[([v1],[])]⟩),
 (236,⟨236,[v1,v1],[([v1],[])]⟩),
 (325,⟨325,[v1,v1],[([v1],[])]⟩),
 (227,⟨227,[v1],[([v1],[])]⟩),
 (100,⟨100,[v1,v1],[([v1],[])]⟩),
 (205,⟨205,[v_ 3],[([v1],[])]⟩),
 (274,⟨274,[v1],[([v1],[])]⟩),
 (267,⟨267,[v_ 7],[([v1],[])]⟩),
 (206,⟨206,[v_ 3],[([v1],[])]⟩),
 (264,⟨264,[v1],[([v1],[])]⟩),
 (226,⟨226,[v1],[([.val I [.d,.d,.row 3 J I I J],v1],[]),([v_ 3,v1],[]),([.val I [.d,.d,.row 3 J J I I],v1],[])]⟩),
 (324,⟨324,[v1,v1],[([v1],[])]⟩),
 (273,⟨273,[v1],[([v1],[])]⟩),
 (314,⟨314,[v1,v1],[([v_ 19,v1],[]),([.val I [.d,.d,.d,.row 2 I I I J,.row 1 I I I J,.d,.d,.row 1 I I I J,.row 1 I I I J,.d,.d,.d,.d,.d,.d,.d,.row 7 J I I J,.row 7 J I I J,.row 19 J I I J],v1],[])]⟩),
 (207,⟨207,[v_ 3],[([v1],[])]⟩),
 (263,⟨263,[v_ 3],[([v1],[])]⟩),
 (223,⟨223,[.box [.d,.d,.d]],[([v_ 3],[.box [.d,.d,.d]]),([.val I [.d,.d,.row 3 J J I I]],[.box [.d,.d,.d]])]⟩),
 (323,⟨323,[v1],[([v1],[])]⟩),
 (287,⟨287,[v1],[([v1,v1],[])]⟩),
 (285,⟨285,[v1],[([v1],[])]⟩),
 (266,⟨266,[v_ 3],[([v1],[])]⟩),
 (225,⟨225,[.box [.d,.d,.d]],[([v_ 3],[.box [.d,.d,.d]]),([.val I [.d,.d,.row 3 J J I I]],[.box [.d,.d,.d]])]⟩),
 (288,⟨288,[v1,v1],[([v1],[])]⟩),
 (235,⟨235,[v_ 3,v1],[([v1],[])]⟩),
 (284,⟨284,[v1],[([.val I [.d,.d,.row 3 J I I J],v1],[]),([v_ 3,v1],[]),([.val I [.d,.d,.row 3 J J I I],v1],[])]⟩),
 (265,⟨265,[v_ 2],[([v1],[])]⟩),
 (222,⟨222,[.box [.d,.d,.d]],[([.val I [.d,.d,.row 3 J I I J]],[.box [.d,.d,.d]]),([v_ 3],[.box [.d,.d,.d]]),([.val I [.d,.d,.row 3 J J I I]],[.box [.d,.d,.d]])]⟩),
 (303,⟨303,[v1],[([v1],[])]⟩),
 (234,⟨234,[v_ 3,v1,v1],[([.val J [.row 1 I I I J]],[])]⟩),
 (280,⟨280,[.box [.d,.d,.d]],[([v_ 3],[.box [.d,.d,.d]]),([.val I [.d,.d,.row 3 J J I I]],[.box [.d,.d,.d]])]⟩),
 (216,⟨216,[.box [.d,.d,.d],v1],[([v1],[.box [.d,.d,.d]])]⟩),
 (310,⟨310,[v1,v1],[([v1],[])]⟩),
 (9001,⟨9001,[v1],[([v1],[])]⟩),
 (283,⟨283,[.box [.d,.d,.d]],[([v_ 3],[.box [.d,.d,.d]]),([.val I [.d,.d,.row 3 J J I I]],[.box [.d,.d,.d]])]⟩),
 (220,⟨220,[.box [.d,.d,.d]],[([.val I [.d,.d,.row 3 J I I J]],[.box [.d,.d,.d]])]⟩),
 (233,⟨233,[v1,v1],[([.val J [.row 1 I I I J]],[])]⟩),
 (309,⟨309,[v_ 3,v1],[([v1],[])]⟩),
 (282,⟨282,[.box [.d,.d,.d]],[([.val I [.d,.d,.row 3 J J I J]],[.box [.d,.d,.d]]),([v_ 3],[.box [.d,.d,.d]]),([.val I [.d,.d,.row 3 J J I I]],[.box [.d,.d,.d]]),([.val I [.d,.d,.row 3 J I I J]],[.box [.d,.d,.d]])]⟩),
 (221,⟨221,[],[([v1],[])]⟩),
 (219,⟨219,[v1],[([v1],[])]⟩),
 (308,⟨308,[v_ 3,v1,v1],[([.val J [.row 1 I I I J]],[])]⟩),
 (279,⟨279,[.box [.d,.d,.d]],[([v_ 3],[.box [.d,.d,.d]]),([.val I [.d,.d,.row 3 J J I I]],[.box [.d,.d,.d]]),([.val I [.d,.d,.row 3 J I I J]],[.box [.d,.d,.d]])]⟩),
 (217,⟨217,[v1],[([v1],[])]⟩),
 (281,⟨281,[v_ 3],[([.val I [.d,.d,.row 3 J I I J]],[])]⟩),
 (9002,⟨9002,[v1,v1],[([v1],[])]⟩),
 (224,⟨224,[v_ 3],[([.val I [.d,.d,.row 3 J I I J]],[])]⟩),
 (218,⟨218,[v1],[([v1],[])]⟩),
 (357,⟨357,[v1,v1],[([.val J [.row 4 J I I J]],[])]⟩),
 (351,⟨351,[v1,v1,v_ 3],[([v1,v1],[])]⟩),
 (105,⟨105,[v1,v1],[([.val J [.row 1 I I I J],v1],[])]⟩),
 (197,⟨197,[v1,v1],[([v1],[])]⟩),
 (437,⟨437,[v1],[([v1],[])]⟩),
 (385,⟨385,[v1],[([v1],[])]⟩),
 (435,⟨435,[v1],[([.val J [.row 19 J J I I],.val J [.row 3 J I I J],.val J [.row 4 J I I J],v1],[]),([.val J [.row 19 J J I I],.val J [.row 3 J I I J],.val J [.row 4 J J I J],v1],[]),([.val J [.row 19 J J I I],v1,.val J [.row 4 J I I J],v1],[]),([.val J [.row 19 J J I I],v1,.val J [.row 4 J J I J],v1],[])]⟩),
 (386,⟨386,[v1],[([.box [.d,.d,.d]],[])]⟩),
 (425,⟨425,[.box [.d,.d,.d]],[([.val J [.row 19 J J I J]],[.box [.d,.d,.d]])]⟩),
 (416,⟨416,[.box [.d,.d,.d]],[([.val J [.row 19 J J I J]],[.box [.d,.d,.d]])]⟩),
 (387,⟨387,[v1,v_ 5],[([.val I [.d,.d,.d,.d,.d,.d,.d,.row 1 I I I J,.row 1 I I I J,.d,.d,.d,.d,.d,.d,.d,.row 7 J I I J,.row 7 J I I J,.row 19 J I I J]],[])]⟩),
 (390,⟨390,[.box [.d,.d,.d],v1],[([v1],[.box [.d,.d,.d]])]⟩),
 (389,⟨389,[.box [.d,.d,.d],v1],[([v1],[.box [.d,.d,.d]])]⟩),
 (388,⟨388,[.box [.d,.d,.d]],[([v1],[.box [.d,.d,.d]])]⟩),
 (415,⟨415,[v1],[([.val J [.row 7 J I I J]],[]),([.val J [.row 7 J J I J]],[])]⟩),
 (414,⟨414,[v1],[([.val I [.d,.d,.d,.d,.d,.row 2 J I I J,.row 7 J I I J],v1],[]),([.val I [.d,.d,.d,.d,.d,.row 2 J I I J,.row 7 J J I J],v1],[])]⟩),
 (396,⟨396,[v1],[([.box [.row 3 I I I J,.d,.d,.d]],[])]⟩),
 (395,⟨395,[v1],[([.val J [.row 3 I I I J],v1],[])]⟩),
 (391,⟨391,[v1,v1],[([v1],[])]⟩),
 (392,⟨392,[v1,v1],[([v1],[])]⟩),
 (394,⟨394,[v1,v1],[([v1],[])]⟩),
 (393,⟨393,[v1],[([v1,v1],[])]⟩),
 (404,⟨404,[.box [.row 3 I I I J,.d,.d,.d]],[([.val I [.d,.d,.d,.d,.d,.row 2 J I I J,.row 7 J I I J]],[.box [.row 3 I I I J,.d,.d,.d]]),([.val I [.d,.d,.d,.d,.d,.row 2 J I I J,.row 7 J J I J]],[.box [.row 3 I I I J,.d,.d,.d]])]⟩),
 (412,⟨412,[.box [.row 3 I I I J,.d,.d,.d]],[([.val I [.d,.d,.d,.d,.d,.row 2 J I I J,.row 7 J I I J]],[.box [.row 3 I I I J,.d,.d,.d]]),([.val I [.d,.d,.d,.d,.d,.row 2 J I I J,.row 7 J J I J]],[.box [.row 3 I I I J,.d,.d,.d]])]⟩),
 (411,⟨411,[.box [.row 3 I I I J,.d,.d,.d]],[([.val I [.d,.d,.d,.d,.d,.row 2 J I I J,.row 7 J I I J]],[.box [.row 3 I I I J,.d,.d,.d]]),([.val I [.d,.d,.d,.d,.d,.row 2 J I I J,.row 7 J J I J]],[.box [.row 3 I I I J,.d,.d,.d]])]⟩),
 (409,⟨409,[.box [.row 3 I I I J,.d,.d,.d]],[([.val I [.d,.d,.d,.d,.d,.row 2 J I I J,.row 7 J I I J]],[.box [.row 3 I I I J,.d,.d,.d]]),([.val I [.d,.d,.d,.d,.d,.row 2 J I I J,.row 7 J J I J]],[.box [.row 3 I I I J,.d,.d,.d]])]⟩),
 (407,⟨407,[.box [.row 3 I I I J,.d,.d,.d]],[([.val I [.d,.d,.d,.d,.d,.row 2 J I I J,.row 7 J I I J]],[.box [.row 3 I I I J,.d,.d,.d]]),([.val I [.d,.d,.d,.d,.d,.row 2 J I I J,.row 7 J J I J]],[.box [.row 3 I I I J,.d,.d,.d]])]⟩),
 (397,⟨397,[.box [.row 3 I I I J,.d,.d,.d],v1,v1],[([v1],[.box [.row 3 I I I J,.d,.d,.d]])]⟩),
 (398,⟨398,[.box [.row 3 I I I J,.d,.d,.d],v1],[([v1],[.box [.row 3 I I I J,.d,.d,.d]])]⟩),
 (401,⟨401,[.box [.row 3 I I I J,.d,.d,.d],v1],[([v1],[.box [.row 3 I I I J,.d,.d,.d]])]⟩),
 (399,⟨399,[v1],[([v1,v1],[])]⟩),
 (400,⟨400,[.box [.row 3 I I I J,.d,.d,.d],v1],[([v1],[.box [.row 3 I I I J,.d,.d,.d]])]⟩),
 (410,⟨410,[v1],[([v1,v1],[])]⟩),
 (408,⟨408,[v1,v_ 7,v_ 7],[([.val I [.d,.d,.d,.d,.d,.row 2 J I I J,.row 7 J J I J]],[])]⟩),
 (403,⟨403,[.box [.row 3 I I I J,.d,.d,.d]],[([.val I [.d,.d,.d,.d,.d,.row 2 J I I J,.row 7 J I I J]],[.box [.row 3 I I I J,.d,.d,.d]]),([.val I [.d,.d,.d,.d,.d,.row 2 J I I J,.row 7 J J I J]],[.box [.row 3 I I I J,.d,.d,.d]])]⟩),
 (405,⟨405,[.box [.row 3 I I I J,.d,.d,.d],v1],[([v1],[.box [.row 3 I I I J,.d,.d,.d]])]⟩),
 (402,⟨402,[.box [.row 3 I I I J,.d,.d,.d],v1],[([],[.box [.row 3 I I I J,.d,.d,.d]])]⟩),
 (406,⟨406,[.box [.row 3 I I I J,.d,.d,.d]],[([.val I [.d,.d,.row 2 J I I J]],[.box [.row 3 I I I J,.d,.d,.d]])]⟩),
 (424,⟨424,[v1],[([v1,.val J [.row 1 I I I J]],[])]⟩),
 (413,⟨413,[.box [.row 3 I I I J,.d,.d,.d]],[([v1],[.box [.row 3 I I I J,.d,.d,.d]])]⟩),
 (423,⟨423,[v1,v1,v1],[([v1,.val J [.row 1 I I I J]],[]),([v1,v1],[])]⟩),
 (432,⟨432,[.box [.d,.d,.d],v1],[([v1],[.box [.d,.d,.d]])]⟩),
 (430,⟨430,[.box [.d,.d,.d]],[([.val J [.row 3 J I I J]],[.box [.d,.d,.d]])]⟩),
 (426,⟨426,[.box [.d,.d,.d],v1],[([v1],[.box [.d,.d,.d]])]⟩),
 (428,⟨428,[.box [.d,.d,.d]],[([v1],[.box [.d,.d,.d]])]⟩),
 (427,⟨427,[v1,v1],[([.val I [.d,.d,.row 3 J I I J]],[])]⟩),
 (431,⟨431,[v1,v1],[([.val J [.row 3 J I I J],v1],[]),([v1,v1],[])]⟩),
 (433,⟨433,[.box [.d,.d,.d]],[([.val J [.row 4 J I I J]],[.box [.d,.d,.d]]),([.val J [.row 4 J J I J]],[.box [.d,.d,.d]])]⟩),
 (434,⟨434,[.box [.d,.d,.d]],[([v1],[.box [.d,.d,.d]])]⟩),
 (343,⟨343,[v1,v1,v1,v1],[([.val J [.row 3 J I I J],v1],[])]⟩),
 (342,⟨342,[v_ 2,v1,v1,v1],[([.val J [.row 3 J I I J]],[])]⟩),
 (98,⟨98,[v1,v1],[([.val J [.row 1 I I I J]],[])]⟩),
 (436,⟨436,[v1,v1],[([v1],[])]⟩),
 (102,⟨102,[v_ 2,v1],[([v1],[])]⟩),
 (107,⟨107,[v1,v1,v1,v1],[([v1],[])]⟩),
 (101,⟨101,[v1,v1,v1,v1],[([v1],[])]⟩),
 (331,⟨331,[v1,v1,v1],[([v1],[])]⟩),
 (106,⟨106,[v_ 2,v1,v1,v1],[([v1],[])]⟩),
 (330,⟨330,[v1,v1,v1],[([v1],[])]⟩),
 (103,⟨103,[v_ 2,v1],[([v1],[])]⟩),
 (104,⟨104,[v_ 2,v_ 19,v1],[([v1],[])]⟩),
 (420,⟨420,[v1,v1,v1],[([v1],[])]⟩),
 (429,⟨429,[.box [.d,.d,.d]],[([v1],[.box [.d,.d,.d]])]⟩),
 (417,⟨417,[v_ 7],[([.val J [.row 3 J I I J]],[])]⟩),
 (422,⟨422,[v1,v1,v_ 5],[([.val J [.row 1 I I I J],v1],[]),([.val J [.row 1 I I I I],v1],[])]⟩),
 (419,⟨419,[v1,v1,v_ 3],[([.val J [.row 1 I I I J],v1],[]),([.val J [.row 1 I I I I],v1],[])]⟩),
 (421,⟨421,[v1],[([.val I [.d,.d,.row 2 J I I J],v1],[])]⟩),
 (418,⟨418,[v1,v1],[([.val I [.d,.d,.d,.row 2 I I I J,.row 1 I I I J,.d,.d,.row 1 I I I J,.row 1 I I I J,.d,.d,.d,.d,.d,.d,.d,.row 7 J I I J,.row 7 J I I J,.row 19 J I I J],v1],[]),([v_ 19,v1],[])]⟩)]
end
section
structure TP where
 P:Program
 ids:List (Nat×Nat)
 mks:List Nat
 law:List Nat
 abW:List (Nat×List Nat)
 share:List (Nat×List Nat)
 akL:List (Nat×List Nat)
 P9:List (Nat×List Nat)
abbrev NL:=M Nat
abbrev ML:=M (Nat×M Nat)
def adw(d:Nat):NL->NL
 |[]=>[d]
 |e::l=>if gf d e then d::e::l else if fj d e then e::l else e::adw d l
def Bd(a b:NL):NL:=a.foldr adw b
def ud(d:Nat):NL->Bool
 |[]=>J
 |e::l=>if fj d e then I else ud d l
def afh(a b:NL):Bool:=a.all λx=>ud x b
def Wr(a b:NL):Bool:=a.any λx=>ud x b
def ou(m:ML)(k:Nat):NL:=match look m k with
 |some l=>l
 |none=>[]
def qS(k:Nat)(v:NL):ML->ML
 |[]=>if v.isEmpty then [] else [(k,v)]
 |(j,w)::m=>if fj j k then (j,Bd v w)::m else (j,w)::qS k v m
def yW(k:Nat)(m:ML):ML:=match look m k with
 |some _=>m
 |none=>(k,[])::m
def ZL:M (Nat×Nat)->Nat->u Nat
 |[],_=>O
 |(k,F)::l,G=>if fj F G then Z k else ZL l G
def Yt(i:Nat):Nat:=Nat.shiftLeft 1 i
def yG(m i:Nat):Bool:=fj (Nat.mod (Nat.shiftRight m i) 2) 1
def ack(m n:Nat):Bool:=fj (Nat.land m n) m
def abD(m n:Nat):Nat:=Nat.xor m (Nat.land m n)
def adS(n m:Nat):NL:=(bW n).filter (yG m)
section
variable (P:Program)
def Hd:Nat->TypeId->M TypeId
 |0,_=>[]
 |n+1,T=>match P.underlying T with
  |some (.struct fs)=>fs.toList.flatMap λf=>Hd n f.type
  |some (.array k a)=>(bc k (Hd n a)).flatten
  |_=>[T]
def GD(a:TypeId):Bool:=(Hd P 9 a).all λt=>!Ny P t
def qD(a:TypeId):Nat:=(nK P a).getD 0
def Gx(T:TypeId):u TypeId:=match P.underlying T with
 |some (.slice a)=>Z a
 |_=>O
def zcT(T:TypeId):u C:=match P.underlying T with
 |some (.int k)=>Z (.d (.int k 0))
 |some .bool=>Z (.d (.bool J))
 |some .string=>Z (.d (.str ⟨#[]⟩))
 |some (.slice a)=>Z (.nil (qD P a) (GD P a))
 |_=>O
def zdT(T:TypeId):u D:=match P.underlying T with
 |some (.int k)=>Z (.int k 0)
 |some .bool=>Z (.bool J)
 |some .string=>Z (.str ⟨#[]⟩)
 |some (.slice a)=>Z (.list (qD P a) (GD P a) [])
 |_=>O
def zsT(T:TypeId):u (M C):=gJ (zcT P) (Hd P 9 T)
def HX(T:TypeId):NL:=((Hd P 9 T).zipIdx).filterMap λp=>if Ny P p.1 then Z p.2 else O
def Te(T:TypeId):u TypeId:=match P.underlying T with
 |some (.pointer a)=>Z a
 |_=>O
def tX(T:u TypeId):Operand->u KX
 | .tmp d=>Z (.s d)
 | .const (.int k n)=>Z (.k (.d (.int k n)))
 | .const (.bool b)=>Z (.k (.d (.bool b)))
 | .const (.string s)=>Z (.k (.d (.str s)))
 | .const (.slice O 0 0)=>match T.bind (Gx P) with
  |some a=>Z (.k (.nil (qD P a) (GD P a)))
  |none=>O
 | .const (.pointer O)=>Z (.k .any)
 |_=>O
def J1(f:KX->KO)(T:u TypeId)(x:Operand):u KO:=(tX P T x).map f
def Ts(f:KX->KX->KO)(T U:u TypeId)(x y:Operand):u KO:=match tX P T x,tX P U y with
 |some a,Z b=>Z (f a b)
 |_,_=>O
def tXs:M Operand->M TypeId->u (M KX)
 |x::xs,t::b=>match tX P (Z t) x,tXs xs b with
  |some a,Z l=>Z (a::l)
  |_,_=>O
 |_,_=>Z []
def tXo:u Operand->u (u KX)
 |none=>Z O
 |some x=>(tX P O x).map Z
def XU(pl:M (Nat×Nat))(a:M TypeId):M (Nat×Operand)->u (M (Nat×Nat×KX))
 |[]=>Z []
 |(i,x)::b=>match nth pl i,tX P (nth a i) x,XU pl a b with
  |some (o,n),Z y,Z l=>Z ((o,n,y)::l)
  |_,_,_=>O
def Zk(T:TypeId):M TypeId:=match P.underlying T with
 |some (.struct fs)=>fs.toList.map (·.type)
 |_=>[]
end
def acG(Q:TP)(h:Nat)(c:Call):u KO:=
 match c.callee with
 | .builtin .len=>match c.args.toList,c.argTypes.toList with
  |[x],[T]=>if Ny Q.P T then J1 Q.P .len (Z T) x else J1 Q.P .sln O x
  |_,_=>O
 | .builtin .min=>match c.args.toList with
  |[x,y]=>Ts Q.P .min O O x y
  |_=>O
 | .builtin .max=>match c.args.toList with
  |[x,y]=>Ts Q.P .max O O x y
  |_=>O
 | .builtin .copy=>match c.args.toList,c.argTypes.toList with
  |[x,y],[T,U]=>match Gx Q.P T with
   |some f=>Ts Q.P (.Gn (qD Q.P f)) (Z T) (Z U) x y
   |none=>O
  |_,_=>O
 | .builtin .append=>match c.args.toList,c.argTypes.toList with
  |[x,y],[T,U]=>match Gx Q.P T with
   |some f=>match Q.P.info? f with
    |some i=>Ts Q.P (.app (qD Q.P f) i.bytes (GD Q.P f)) (Z T) (Z U) x y
    |none=>O
   |none=>O
  |_,_=>O
 | .value (.func F)=>match ZL Q.ids F with
  |some g=>if fj g 9004 then (match c.args.toList,c.argTypes.toList with
    |[x,y],[T,U]=>Ts Q.P .jn (Z T) (Z U) x y
    |_,_=>O)
   else if fj g 9005 ||fj g 9006 then (match c.args.toList,c.argTypes.toList with
    |[x,y,d],[T,U,V]=>match tX Q.P (Z T) x,tX Q.P (Z U) y,tX Q.P (Z V) d with
     |some a,Z b,Z e=>Z (.zt (fj g 9006) a b e)
     |_,_,_=>O
    |_,_=>O)
   else if ud h Q.law && ud g Q.mks then (match c.args.toList,c.argTypes.toList with
    |[x,y],T::_=>Ts Q.P (.YF g) (Z T) O x y
    |_,_=>O)
   else (tXs Q.P c.args.toList c.argTypes.toList).map (.call g)
  |none=>O
 |_=>O
def alC(Q:TP)(e:Nat)(cut mv:Bool)(o:Oper):u KO:=
 match o.op with
 | .assign x=>J1 Q.P (if mv then .P9 else .mv) (Z o.type) x
 | .move x=>J1 Q.P .mv (Z o.type) x
 | .pick c x y=>match tX Q.P O c with
  |some s=>Ts Q.P (.pick s) (Z o.type) (Z o.type) x y
  |none=>O
 | .alloc T=>(zsT Q.P T).map .alloc
 | .box T x=>J1 Q.P .box (Z T) x
 | .build T j=>match zsT Q.P T with
  |some f=>match zj Q.P T with
   |some pl=>(XU Q.P pl (Zk Q.P T) j.toList).map (.build f)
   |none=>Z (.zro f)
  |none=>O
 | .buildSlice T n j=>match Gx Q.P T with
  |some a=>(gJ (λp:Nat×Operand=>tX Q.P (Z a) p.2) j.toList).map ((match o.dst with
   |some d=>if ud (5000000+d) (ou Q.share e) then KO.Wt else KO.qx
   |none=>KO.qx) (qD Q.P a) (GD Q.P a))
  |none=>O
 | .makeSlice T x _=>match Gx Q.P T with
  |some a=>match Q.P.info? a,gJ (zdT Q.P) (Hd Q.P 9 a) with
   |some i,Z f=>J1 Q.P (.make (qD Q.P a) i.bytes (GD Q.P a) f) O x
   |_,_=>O
  |none=>O
 | .load T x=>J1 Q.P (.ld (if J9 Q.P T ==Z I then qD Q.P T else 0)) O x
 | .store T x v=>Ts Q.P (.st (qD Q.P T)) O (Z T) x v
 | .fieldAddr T x i=>match zj Q.P T with
  |some pl=>match nth pl i with
   |some (o,_)=>J1 Q.P (.fa o) O x
   |none=>O
  |none=>O
 | .indexAddr T x i=>match Q.P.underlying T with
  |some (.array n a)=>Ts Q.P (.ixa n (qD Q.P a)) (Z T) O x i
  |some (.slice a)=>Ts Q.P (.ia (qD Q.P a)) (Z T) O x i
  |_=>O
 | .index _ x i=>Ts Q.P .XA O O x i
 | .binOp op T x y _=>if isBool Q.P T then Ts Q.P (.TL op) O O x y else Ts Q.P (.bin op) O O x y
 | .unOp .not _ x=>J1 Q.P .not O x
 | .unOp .neg _ x=>J1 Q.P .neg O x
 | .convert _ T x=>match ZQ Q.P T with
  |some k=>J1 Q.P (.conv k) O x
  |none=>J1 Q.P .Mw O x
 | .nilCheck x=>J1 Q.P .nck O x
 | .slice T x m q O=>match tXo Q.P m,tXo Q.P q with
  |some l,Z h=>match Gx Q.P T with
   |none=>J1 Q.P (.MI · l h) O x
   |some a=>if cut then J1 Q.P (.cut (qD Q.P a) · l h) (Z T) x else match l,h with
    |none,Z b=>J1 Q.P (.slc · b) (Z T) x
    |_,_=>J1 Q.P (.v8 (qD Q.P a) · l h) (Z T) x
  |_,_=>O
 | .extract x i=>J1 Q.P (.ext · i) O x
 | .call c=>match acG Q e c with
  |some (.call g xs)=>Z (match Te Q.P o.type with
   |some _=>.cbx g xs
   |none=>.call g xs)
  |r=>r
 |_=>O
def XX:Operand->NL
 | .tmp t=>[t]
 |_=>[]
def w9(o:Oper):NL:=o.op.operands.toList.flatMap XX
def N3:Code->M Oper
 | .region _ ops _=>ops.toList
 | .seq a b=>N3 a++N3 b
 | .cond _ a b=>N3 a++N3 b
 | .block _ a=>N3 a
 | .loop a=>N3 a
 |_=>[]
structure Pt where
 box:ML
 row:ML
 J0:ML
def mL(m:ML)(b:NL):NL:=b.foldr (λa l=>Bd (ou m a) l) []
def Tj(p:Pt):Operand->NL
 | .tmp t=>ou p.row t
 |_=>[]
def QL(P:Program)(d:Nat):Nat->M TypeId->NL
 |_,[]=>[]
 |q,T::a=>(HX P T).map (λj=>um d (30 * q+j))++QL P d (q+1) a
def W2(P:Program):M (Operand×TypeId)->Pt->Pt
 |[],p=>p
 |(x,T)::l,p=>W2 P l (match Te P T with
  |some a=>{p with J0:=((XX x).flatMap (ou p.box)).foldr (λb m=>qS b ((HX P a).map (um (b+500))) m) p.J0 }
  |none=>p)
def ajv(d:Nat)(a:NL)(p:Pt):Pt:=⟨qS d (mL p.box a) p.box,qS d (mL p.row a) p.row,p.J0⟩
def ajH:u Nat->Bool
 |some g=>fj g 9005 ||fj g 9006
 |none=>J
def ptO(Q:TP)(f:Nat)(p:Pt)(o:Oper):Pt:=
 let e:=w9 o
 match o.op,o.dst with
 | .alloc _,Z d=>{p with box:=qS d [d] p.box,J0:=yW d (qS d (mL p.row e) p.J0) }
 | .box _ _,Z d=>{p with box:=qS d [d] p.box,J0:=yW d (qS d (mL p.row e) p.J0) }
 | .buildSlice _ _ _,Z d=>{p with row:=qS d [d] p.row }
 | .makeSlice _ _ _,Z d=>{p with row:=qS d [d] p.row }
 | .load _ _,Z d=>{p with row:=qS d (mL p.J0 (mL p.box e)) p.row }
 | .store _ x v,_=>{p with J0:=((XX x).flatMap (ou p.box)).foldr (λb m=>qS b (Tj p v) m) p.J0 }
 | .call c,d=>match c.callee with
  | .builtin .append=>match d with
   |some d=>{p with row:=qS d (adw d (c.args.toList.take 1 |>.flatMap (Tj p))) p.row }
   |none=>p
  | .value (.func F)=>if ajH (ZL Q.ids F) then (match d with
   |some d=>{p with row:=qS d (c.args.toList.take 1 |>.flatMap (Tj p)) p.row }
   |none=>p) else match Q.P.funcs[F]? with
   |some g=>W2 Q.P (c.args.toList.zip c.argTypes.toList) (match d with
    |some d=>(match Te Q.P o.type with
     |some a=>{p with box:=qS d [d] p.box,J0:=yW d (qS d ((HX Q.P a).map (um (d+500))) p.J0) }
     |none=>{p with row:=qS d (QL Q.P d 0 g.resultTypes.toList) p.row })
    |none=>p)
   |none=>p
  |_=>p
 |op,Z d=>ajv d e (if (match op with
   | .assign _=>I
   |_=>J) && ud d (ou Q.P9 f) && !(mL p.row e).isEmpty then ⟨p.box,qS d [um d 0] (p.row.map λx=>if Wr x.2 (mL p.row e) then (x.1,Bd [um d 0] x.2) else x),p.J0⟩ else p)
 |_,O=>p
def aci(p:Pt):Nat:=(p.box++p.row++p.J0).foldr (λx n=>Nat.add x.2.length n) 0
def agF(f:Pt->Pt):Nat->Nat->Pt->Pt
 |0,_,p=>p
 |n+1,k,p=>match fj (aci (f p)) k with
  |true=>p
  |false=>agF f n (aci (f p)) (f p)
structure Fi where
 Q:TP
 cur:Nat
 n:Nat
 p:Pt
 rl:Nat
 pb:NL
 bad:NL
def Fi.eB(F:Fi)(live:Nat):n_:=
 let s:=adS F.n live
 let b:=Bd F.pb (mL F.p.box s)
 ⟨s,b,Bd (mL F.p.row s) (mL F.p.J0 b)⟩
def Fi.cut(F:Fi)(o:Oper):Bool:=match o.op with
 | .slice T (.tmp x) _ _ _=>Ny F.Q.P T && !(ou F.p.row x).isEmpty && !((ou F.Q.share F.cur).any λa=>gV 1000000 a && afh (ou F.p.row x) (ou F.p.row (zJ a 1000000)) && afh (ou F.p.row (zJ a 1000000)) (ou F.p.row x))
 |_=>J
def Fi.LI(F:Fi)(o:Oper):Bool:=match o.op with
 | .alloc _=>I
 | .box _ _=>I
 | .store _ _ _=>I
 | .buildSlice _ _ _=>I
 | .makeSlice _ _ _=>I
 | .slice _ _ _ _ _=>F.cut o
 | .call c=>(match c.callee with
  | .builtin .len=>J
  | .builtin .min=>J
  | .builtin .max=>J
  |_=>I)
 |_=>J
def Fi.ins(F:Fi)(a:M Oper)(o:Oper):u KI:=
 match alC F.Q F.cur (F.cut o) (match o.dst with
  |some d=>ud d (ou F.Q.P9 F.cur)
  |none=>J) o with
 |some k=>match o.guard with
  |none=>Z ⟨o.dst,k,O⟩
  |some (j,w)=>match (nth a j).bind (·.dst) with
   |some g=>Z ⟨o.dst,k,Z (g,w)⟩
   |none=>O
 |none=>O
def abJ(o:Oper):Nat:=match o.dst with
 |some d=>Yt d
 |none=>0
def afs(o:Oper):Nat:=(w9 o).foldr (λa m=>ly (Yt a) m) 0
def anb(a:M Oper)(live:Nat):Nat:=a.foldr (λo l=>ly (afs o) (abD l (abJ o))) live
def ad3(o:Oper):Nat:=o.after.toList.foldr (λe m=>match e.ground with
 | .textOnly _=>m
 | .gcOnly _=>m
 |_=>ly (Yt e.on) m) 0
structure De where
 i:Nat
 o:Oper
 on:Nat
 de:Nat
 q:Bool
 tch:NL
def afM:M Oper->M Nat->M Nat
 |[],acc=>acc
 |o::l,acc=>afM l (acc++[(acc.zipIdx).foldr (λp m=>if yG (ad3 o) p.2 then ly p.1 m else m) (ad3 o)])
def Fi.tch(F:Fi)(o:Oper):NL:=match o.op with
 | .alloc _=>(match o.dst with
  |some d=>[d]
  |none=>[])
 | .box _ _=>(match o.dst with
  |some d=>[d]
  |none=>[])
 | .store _ x _=>(XX x).flatMap (ou F.p.box)
 | .call c=>(match c.callee with
  | .builtin _=>[]
  |_=>(match o.dst with
   |some d=>Bd (ou F.p.box d) (mL F.p.box (w9 o))
   |none=>mL F.p.box (w9 o)))
 |_=>[]
def Fi.My(F:Fi)(a:M Oper):M De:=
 let b:=afM a []
 a.zipIdx.map λp=>⟨p.2,p.1,ad3 p.1,b.zipIdx.foldr (λq m=>if yG q.1 p.2 then ly (Yt q.2) m else m) 0,!F.LI p.1,F.tch p.1⟩
def Fi.akM(F:Fi)(b:M Oper):NL:=
 let f:=b.foldr (λo m=>ly (abJ o) m) 0
 let c:=b.foldr (λo l=>if F.LI o then (match o.dst with
  |some d=>d::l
  |none=>l) else l) []
 let e:=b.foldr (λo l=>Bd (w9 o) l) []
 e.filter λa=>!yG f a && !(ou F.p.row a).isEmpty && (ou F.p.box a).isEmpty && (ou F.p.row a).all λr=>!ud r F.bad && !ud r c && !(gV 1000 r && ud (zJ (Nat.div r 1000) 1) c)
def Fi.quiet(F:Fi)(My:M De)(b:NL)(done:Nat)(x:De):Bool:=x.q && match x.o.op with
 | .load _ (.tmp a)=>!(!(ou F.p.row a).isEmpty && (ou F.p.box a).isEmpty && !afh (ou F.p.row a) b) &&
   !(My.any λy=>!yG done y.i && !yG x.de y.i && Wr y.tch (ou F.p.box a))
 |_=>I
def Vd(done:Nat)(p:De->Bool):M De->u De
 |[]=>O
 |x::l=>if !yG done x.i && ack x.on done && p x then Z x else Vd done p l
def V0(o:Oper):Bool:=match o.op with
 | .load _ _=>I
 |_=>J
def abA(ins:Oper->u KI)(k:Nat->u (KT×Nat))(done:Nat):M De->u (KT×Nat)
 |[]=>O
 |x::l=>match ins x.o,k (ly (Yt x.i) done) with
  |some i,Z (t,q)=>match l with
   |[]=>Z (.op ⟨x.i,J,[],[],i⟩ t,q)
   |l=>match abA ins k done l with
    |some (r,a)=>Z (.alt ⟨x.i,J,[],[],i⟩ t r,ly q a)
    |none=>O
  |_,_=>O
def Fi.draw(F:Fi)(My:M De)(a:NL)(ins:Oper->u KI):Nat->Nat->u (KT×Nat)
 |0,done=>Z (.nil,0)
 |n+1,done=>match Vd done (F.quiet My a done) My with
  |some x=>match ins x.o,F.draw My a ins n (ly (Yt x.i) done) with
   |some i,Z (t,q)=>Z (.op ⟨x.i,I,if V0 x.o then adS My.length x.de else [],if V0 x.o then adS My.length (abD x.de q) else [],i⟩ t,ly (Yt x.i) q)
   |_,_=>O
  |none=>abA ins (F.draw My a ins n) done (My.filter λx=>!yG done x.i && ack x.on done)
def KT.alts:KT->Bool
 | .nil=>J
 | .op _ t=>t.alts
 | .alt _ _ _=>I
def acN(l:NL)(k:K):K:=l.foldr .Ci k
def akS:M Oper->Nat
 |o::_=>(match o.dst with
  |some d=>d+1
  |none=>0)
 |[]=>0
def Fi.kr(F:Fi)(a:M Oper):u (M Nat):=match look F.Q.abW (F.cur+1000000 * akS a) with
 |some r=>Z r
 |none=>look F.Q.abW F.cur
def Fi.drawn(F:Fi)(a:M Oper)(live:Nat):u K:=
 let Ci:=F.akM a
 match F.draw (F.My a) (mL F.p.row Ci) (F.ins a) a.length 0 with
 |some (t,_)=>match F.kr a with
  |some r=>if t.alts then Z (acN (Ci++ou F.Q.akL F.cur) (.UK t {F.eB live with r:=r })) else Z (acN Ci (.UK t (F.eB live)))
  |none=>Z (acN Ci (.UK t (F.eB live)))
 |none=>O
def akT(a:M (Nat×Nat))(id:Nat):Nat:=match look a id with
 |some l=>l
 |none=>0
def ac3(f:Nat->Nat):Nat->Nat->Nat
 |0,l=>l
 |n+1,l=>match fj (ly (f l) l) l with
  |true=>l
  |false=>ac3 f n (ly (f l) l)
def Fi.lv(F:Fi):Code->Nat->M (Nat×Nat)->Nat
 | .skip,l,_=>l
 | .ret,_,_=>F.rl
 | .seq a b,l,ex=>F.lv a (F.lv b l ex) ex
 | .cond c a b,l,ex=>ly ((XX c).foldr (λd m=>ly (Yt d) m) 0) (ly (F.lv a l ex) (F.lv b l ex))
 | .block id a,l,ex=>F.lv a l ((id,l)::ex)
 | .exit id,_,ex=>akT ex id
 | .loop a,_,ex=>ac3 (λl=>F.lv a l ex) 9 0
 | .region _ ops _,l,_=>anb ops.toList l
 |_,l,_=>l
def Fi.shares(F:Fi)(c:Code):NL:=match c with
 | .region _ ops _=>(ou F.Q.share F.cur).filter λr=>ops.toList.any λo=>match o.dst with
  |some d=>fj r d ||(gV 1000000 r && fj (zJ r 1000000) d) ||(gV 1000 r && gf r 1000000 && fj (zJ (Nat.div r 1000) 1) d)
  |none=>J
 |_=>[]
def Me(a:NL):K->Code->K
 | .Ci r k,c=>.Ci r (Me a k c)
 | .share r k,c=>.share r (Me a k c)
 | .seq x y,.seq _ b=>.seq x (Me a y b)
 | .skip,.skip=>a.foldr .Ci .skip
 |k,.ret=>k
 |k,.exit _=>k
 |k,_=>a.foldl (λk d=>.seq k (.Ci d .skip)) k
def Fi.agk(F:Fi):Operand->NL
 | .tmp t=>(ou F.Q.share F.cur).filterMap λa=>if gV 3000000 a && fj (Nat.div (zJ a 3000000) 1000) t then Z (Nat.mod a 1000) else O
 |_=>[]
def Fi.code(F:Fi):Code->Nat->M (Nat×Nat)->u K
 | .skip,l,_=>Z (if ud 4000000 (ou F.Q.share F.cur) then .QH [] (F.eB l) else .skip)
 | .ret,_,_=>Z .ret
 | .seq a b,l,ex=>match F.code b l ex,F.code a (F.lv b l ex) ex with
  |some y,Z x=>Z (.seq x ((F.shares a).foldr (λr k=>if gV 1000000 r then (if yG (F.lv b l ex) (zJ r 1000000) then .Ci (zJ r 1000000) k else k) else .share r k) y))
  |_,_=>O
 | .cond c a b,l,ex=>match tX F.Q.P O c,F.code a l ex,F.code b l ex with
  |some e,Z x,Z y=>Z (match F.agk c with
   |[]=>.cond e x y
   |d=>.cond e (Me d x a) (Me d y b))
  |_,_,_=>O
 | .block id a,l,ex=>(F.code a l ((id,l)::ex)).map (.block id)
 | .exit id,_,_=>Z (.exit id)
 | .loop a,_,ex=>(F.code a (ac3 (λl=>F.lv a l ex) 9 0) ex).map .loop
 | .region _ ops J,l,_=>(gJ (F.ins ops.toList) ops.toList).map λf=>.QH f (F.eB l)
 | .region _ ops I,l,_=>F.drawn ops.toList l
 |_,_,_=>O
def akw(Q:TP)(p:Pt)(o:Oper):NL:=match o.op with
 | .store _ x v=>Bd (Tj p x) (Tj p v)
 | .slice _ x _ _ _=>Tj p x
 | .buildSlice _ _ _=>mL p.row (w9 o)
 | .build _ _=>mL p.row (w9 o)
 | .box _ _=>mL p.row (w9 o)
 | .call c=>(match c.callee with
  | .builtin .append=>mL p.row (w9 o)
  | .value (.func F)=>(match ZL Q.ids F with
   |some g=>if ud g Q.mks ||ajH (Z g) then mL p.row (w9 o) else []
   |none=>[])
  |_=>[])
 |_=>[]
def ane(P:Program)(R:TypeId):ResultVar->u KR
 | .tmp t=>Z (match Te P R with
  |some _=>.b t
  |none=>.t t)
 | .cell a T=>match J9 P T with
  |some I=>Z (.c a (qD P T))
  |some J=>Z (.c a 0)
  |none=>O
def anc:ResultVar->Nat
 | .tmp t=>t
 | .cell a _=>a
def pt0(P:Program)(k nfree:Nat):M TypeId->Pt
 |[]=>(bW nfree).foldr (λj p=>⟨qS (k+j) [900+k+j] p.box,p.row,yW (900+k+j) p.J0⟩) ⟨[],[],[]⟩
 |T::b=>let p:=pt0 P (k+1) nfree b
  match Te P T with
  |some a=>⟨qS k [900+k] p.box,p.row,yW (900+k) (qS (900+k) ((HX P a).map (um (k+500))) p.J0)⟩
  |none=>p
def Tf(P:Program):Nat->M TypeId->NL
 |_,[]=>[]
 |k,T::a=>match Te P T with
  |some _=>k::Tf P (k+1) a
  |none=>Tf P (k+1) a
def toF(Q:TP)(f:Nat):u KF:=
 match (look Q.ids f).bind λF=>Q.P.funcs[F]? with
 |some b=>match b.body,gJ (λp:ResultVar×TypeId=>ane Q.P p.2 p.1) (b.results.toList.zip b.resultTypes.toList) with
  |some c,Z res=>
   let h:=Tf Q.P 0 b.params.toList++(bW b.nfree).map (b.params.size+·)
   let e:=Bd (b.results.toList.map anc) h
   let d:=N3 c
   let p:=agF (λp=>d.foldl (ptO Q f) p) 9 0 (pt0 Q.P 0 b.nfree b.params.toList)
   let g:=Bd (mL p.row e) (Bd (p.J0.foldr (λx l=>Bd x.2 l) []) (d.foldr (λo l=>Bd (akw Q p o) l) []))
   match (Fi.mk Q f b.ntmps p (e.foldr (λa m=>ly (Yt a) m) 0) (h.map (900+·)) g).code c ((e.foldr (λa m=>ly (Yt a) m) 0)) []with
   |some k=>Z ⟨b.params.size+b.nfree,k,res⟩
   |none=>O
  |_,_=>O
 |none=>O
end
section
open Go.RowKit
def ids:M (Nat×Nat):=[(39,201),(74,86),(75,57),(76,87),(77,124),(78,88),(79,89),(80,58),(81,30),(82,54),(92,90),(93,113),(94,76),(95,77),(96,78),(97,49),(98,50),(99,117),(100,118),(101,81),(102,51),(103,59),(104,60),(105,61),(106,31),(107,10),(197,12),(201,52),(202,119),(203,167),(204,106),(205,169),(206,202),(207,203),(208,168),(209,135),(210,120),(211,121),(212,154),(213,123),(214,122),(215,143),(216,208),(217,193),(218,195),(219,245),(220,234),(221,235),(222,224),(223,171),(224,225),(225,207),(226,141),(227,144),(228,108),(229,140),(230,103),(231,104),(232,105),(233,209),(234,172),(235,142),(236,107),(237,70),(238,83),(239,82),(240,53),(241,27),(242,28),(243,109),(244,71),(245,55),(246,29),(247,84),(248,85),(249,56),(250,8),(255,73),(256,74),(257,110),(258,173),(259,210),(260,174),(261,145),(262,211),(263,226),(264,178),(265,236),(266,227),(267,212),(268,175),(269,146),(270,147),(271,148),(272,149),(273,213),(274,176),(275,238),(276,261),(277,265),(278,262),(279,253),(280,228),(281,254),(282,246),(283,237),(284,214),(285,177),(286,150),(287,179),(288,180),(303,181),(308,230),(309,216),(310,182),(311,151),(312,114),(313,111),(314,112),(315,75),(316,46),(317,47),(320,115),(321,79),(322,48),(323,185),(324,153),(325,116),(326,80),(327,25),(328,91),(329,62),(330,32),(331,13),(333,184),(342,26),(343,7),(351,40),(357,11),(385,5),(386,18),(387,67),(388,72),(389,41),(390,21),(391,194),(392,196),(393,197),(394,198),(395,163),(396,132),(397,200),(398,205),(399,243),(400,223),(401,204),(402,206),(403,244),(404,133),(405,165),(406,170),(407,233),(408,166),(409,221),(410,222),(411,199),(412,164),(413,134),(414,100),(415,68),(416,37),(417,136),(418,139),(419,137),(420,101),(421,138),(422,102),(423,69),(424,38),(425,19),(426,43),(427,42),(428,44),(429,45),(430,22),(431,39),(432,20),(433,23),(434,24),(435,6),(436,9),(437,3),(9001,215),(9002,240),(9003,152),(9004,241),(9005,161),(9006,220)]
def num(f:Nat):FuncId:=match look ids f with
 |some F=>F
 |none=>1000000
noncomputable def tp:TP:=⟨Tryz.prog,ids,[],[437],[(30000423,[29]),(98000430,[7,95]),(78,[14002]),(282,[20]),(234,[8000,119000]),(351,[39])],[(418,[1000006]),(420,[1000008]),(433,[5000029]),(434,[5000007]),(416,[4000000,1000004,3029006,3052008]),(431,[5000013]),(432,[1000007,1000009,5000011]),(225,[5]),(283,[4]),(223,[6]),(280,[6]),(351,[1000006])],[(282,[3])],[(234,[7])]⟩
def ZV:K->M K
 | .seq a b=>ZV b++ZV a
 | .cond _ a b=>ZV a++ZV b
 | .block _ a=>ZV a
 | .loop a=>ZV a++[a]
 | .share _ a=>ZV a
 | .Ci _ a=>ZV a
 |_=>[]
noncomputable def kx(f:Nat):KF:=match toF tp f with
 |some k=>k
 |none=>⟨0,.skip,[]⟩
noncomputable def kb(f j:Nat):K:=match nth (ZV (kx f).body) j with
 |some b=>b
 |none=>.skip
theorem aM{a:Type}(l:M a):Array.mk l=l.toArray:=(rfl)
theorem uM(n:Nat)(h:n < 2 ^ 8):UInt8.ofBitVec (BitVec.ofFin (Fin.mk n h))=dX n:=by
 rw[dX]
 congr 2
 exact Fin.ext (Nat.mod_eq_of_lt h).symm
attribute [go_sem] Int.reduceOfNat Int.reduceNegSucc aM uM UInt8.reduceOfNat
noncomputable section
def yV:K:=by refine (?f:kb 276 0=?t->K) ?p;exact λ_=>?t;conv=>lhs;reduce
def ahr:KF:=by refine (?f:kx 276=?t->KF) ?p;exact λ_=>?t;conv=>lhs;reduce;rw[<- yV.eq_1]
theorem aii:okF Tryz.prog num 276 ahr=I:=by kernel_rfl
def vT:K:=by refine (?f:kb 279 0=?t->K) ?p;exact λ_=>?t;conv=>lhs;reduce
def pc:K:=by refine (?f:kb 279 1=?t->K) ?p;exact λ_=>?t;conv=>lhs;reduce
def iO:K:=by refine (?f:kb 279 2=?t->K) ?p;exact λ_=>?t;conv=>lhs;reduce;rw[<- pc.eq_1]
def ahs:KF:=by refine (?f:kx 279=?t->KF) ?p;exact λ_=>?t;conv=>lhs;reduce;rw[<- vT.eq_1,<- pc.eq_1,<- iO.eq_1]
theorem aij:okF Tryz.prog num 279 ahs=I:=by kernel_rfl
def aht:KF:=by refine (?f:kx 333=?t->KF) ?p;exact λ_=>?t;conv=>lhs;reduce
theorem aik:okF Tryz.prog num 333 aht=I:=by kernel_rfl
def fs:M Nat:=[39,74,75,76,77,78,79,80,81,82,92,93,94,95,96,97,98,99,100,101,102,103,104,105,106,107,197,201,202,203,204,205,206,207,208,209,210,211,212,213,214,215,216,217,218,219,220,221,222,223,224,225,226,227,228,229,230,231,232,233,234,235,236,237,238,239,240,241,242,243,244,245,246,247,248,249,250,255,256,257,258,259,260,261,262,263,264,265,266,267,268,269,270,271,272,273,274,275,277,278,280,281,282,283,284,285,286,287,288,303,308,309,310,311,312,313,314,315,316,317,320,321,322,323,324,325,326,327,328,329,330,331,342,343,351,357,385,386,387,388,389,390,391,392,393,394,395,396,397,398,399,400,401,402,403,404,405,406,407,408,409,410,411,412,413,414,415,416,417,418,419,420,421,422,423,424,425,426,427,428,429,430,431,432,433,434,435,436,437]
def abm:M (Nat×KF):=[(276,ahr),(279,ahs),(9001,⟨999,.skip,[]⟩),(9002,⟨999,.skip,[]⟩),(9003,⟨999,.skip,[]⟩)]
noncomputable def T(f:Nat):u KF:=match look abm f with
 |some k=>Z k
 |none=>if ud f fs=I then toF tp f else O
end
end
section
noncomputable def txk(h:M Nat)(i:Nat)(kf:KF):u ST:=match look nY i with
 |some a=>match gf kf.np 999 with
  |true=>XG h nY kf a
  |false=>O
 |none=>O
noncomputable def tT(i:Nat):u KF:=match look nY i with
 |some a=>T a.f
 |none=>O
noncomputable def tx(h:M Nat)(i:Nat):u ST:=match tT i with
 |some kf=>txk h i kf
 |none=>O
theorem nU{h:M Nat}{i:Nat}{r t:ST}(b:tx h i=Z r)(a:r=t):tx h i=Z t:=a▸b
noncomputable def rx(h:M Nat)(i:Nat)(kf:KF):ST:=match txk h i kf with
 |some t=>t
 |none=>.nil
def Rq(i:Nat)(a:M D):u (M A):=match look nY i with
 |some b=>gN b.args a
 |none=>O
def exs:M Nat:=[9001,9002,9003]
noncomputable def cg1(p:Nat×lP):Bool:=match T p.2.f with
 |some kf=>ud p.2.f exs ||(okF Tryz.prog num p.2.f kf && (p.2.args.length ==kf.np && gf kf.np 999 && decide p.2.res.Nodup))
 |none=>J
noncomputable def zX:M (Nat×lP)->Bool
 |[]=>I
 |p::l=>cg1 p && zX l
theorem oY{a b:Nat}(h:zX ((nY.drop a).take b)=I)(c:∀p∈nY.drop (a+b),cg1 p=I):∀p∈nY.drop a,cg1 p=I:=by
 rw[<- kO]at c
 revert h c
 generalize nY.drop a=l
 induction b generalizing l with
 |zero=>exact λ_ h=>h
 |succ b e=>
  intro h c;cases l with
  |nil=>exact c
  |cons p l=>
   simp only[fE,zX,af]at h;intro q d;rcases aP.1 d with rfl|d
   ·exact h.1
   ·exact e l h.2 c q d
structure R_ (h:List Nat) (i:Nat) where
 t:ST
 ok:tx h i=some t
def SV:ST->M ST
 | .cons a b=>SV a++SV b
 | .op _ _ _ t=>SV t
 | .gd _ a b=>SV a++SV b
 | .call _ _ c=>SV c
 | .map _ t=>SV t
 | .seq t c=>SV t++SV c
 | .loop _ _ d=>SV d++[d]
 | .both a b=>SV a++SV b
 |_=>[]
def lq(t:ST)(j:Nat):ST:=match nth (SV t) j with
 |some b=>b
 |none=>.nil
noncomputable def lp(h:M Nat)(i j:Nat):ST:=match tx h i with
 |some t=>lq t j
 |none=>.nil
end
end Go.Proofs.YthlpjklbafakfaaGreatDoor
