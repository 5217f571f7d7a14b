/- Part of the proof: a machine over plain data, its proof, the functions of the program run on symbols, what they answer. Condition: none. -/
import Derived.Test.YtgfcijiikgjbcaaGreatDoorProg
import Derived.Test.YtgfcijiikgjbcaaGreatDoorZz03
set_option linter.unusedVariables false
set_option linter.unusedSimpArgs false
open Bool renaming and_eq_true->ai,true->I,false->J
open List renaming mem_cons->aI,replicate->aY,range->cu,take_succ_cons->dy,drop_drop->oy
open Nat renaming blt->gh,beq->hX,lor->lE,ble->nP
open UInt8 renaming ofNat->dD
open Option renaming some->Z,none->O
namespace Go.Proofs.YtgfcijiikgjbcaaGreatDoor
set_option maxRecDepth 100000
set_option maxHeartbeats 400000000
section
abbrev v1:SA:=.val J [.d]
abbrev v_(n:Nat):SA:=.val I (aY n .d)
def xf:M (Nat×nh):=[(278,⟨278,[.box [.d,.d,.d]],[([v1],[.box [.d,.d,.d]])]⟩),
 (277,⟨277,[v1],[([v1],[])]⟩),
 (275,⟨275,[.box [.d,.d,.d],v1],[([v1],[.box [.d,.d,.d]])]⟩),
 (250,⟨250,[v1,v1],[([v1],[])]⟩),
 (327,⟨327,[v1,v1],[([v1],[])]⟩),
 (258,⟨258,[v1],[([v1],[])]⟩),
 (241,⟨241,[v1],[([v1],[])]⟩),
 (316,⟨316,[v1],[([v1],[])]⟩),
 (259,⟨259,[v1],[([v1],[])]⟩),
 (201,⟨201,[v1,v1],[([v1],[])]⟩),
 (255,⟨255,[v1],[([v1],[])]⟩),
 (240,⟨240,[v1,v1,v1,v1],[([v1],[])]⟩),
 (256,⟨256,[v1],[([v1],[])]⟩),
 (315,⟨315,[v1,v1,v1],[([v1],[])]⟩),
 (81,⟨81,[v1],[([.val J [.row 19 J I I J]],[])]⟩),
 (242,⟨242,[v1,v1],[([v1],[])]⟩),
 (95,⟨95,[v1],[([.val J [.row 1 I I I J]],[])]⟩),
 (75,⟨75,[v1],[([v1],[])]⟩),
 (317,⟨317,[v1],[([v1],[])]⟩),
 (74,⟨74,[v1,v1,v1],[([v1],[])]⟩),
 (246,⟨246,[v1,v1],[([v1],[])]⟩),
 (322,⟨322,[v1,v1],[([v1],[])]⟩),
 (82,⟨82,[v1,v1],[([v1],[])]⟩),
 (257,⟨257,[v1],[([v1],[])]⟩),
 (94,⟨94,[v1],[([.val J [.row 19 J I I J]],[]),([.val J [.row 19 J J I J]],[])]⟩),
 (99,⟨99,[v1,v1],[([v1],[])]⟩),
 (239,⟨239,[v_ 19,v1],[([v1],[])]⟩),
 (80,⟨80,[v_ 19],[([.val I [.d,.d,.d,.row 2 I I I J,.row 1 I I I J,.d,.d,.row 1 I I I J,.row 1 I I I J,.d,.d,.d,.d,.d,.d,.d,.row 7 J I I J,.row 7 J I I J,.row 19 J I I J]],[])]⟩),
 (245,⟨245,[v_ 19,v_ 3],[([v1],[])]⟩),
 (93,⟨93,[v1,v1],[([.val J [.row 19 J I I J],.val J [.row 1 I I I J]],[]),([.val J [.row 19 J J I J],.val J [.row 1 I I I J]],[])]⟩),
 (96,⟨96,[v1,v1],[([v1],[])]⟩),
 (313,⟨313,[v_ 19],[([v1],[])]⟩),
 (249,⟨249,[v1,v_ 3,v_ 3],[([v1],[])]⟩),
 (97,⟨97,[v1,v1],[([.val I [.d,.d,.d,.row 2 I I I J,.row 1 I I I J,.d,.d,.row 1 I I I J,.row 1 I I I J,.d,.d,.d,.d,.d,.d,.d,.row 7 J I I J,.row 7 J I I J,.row 19 J I I J],v1],[]),([v_ 19,v1],[])]⟩),
 (202,⟨202,[v1],[([v1],[])]⟩),
 (76,⟨76,[v_ 5],[([.val I [.d,.row 2 I I I J,.row 1 I I I J,.d,.d]],[])]⟩),
 (244,⟨244,[v_ 19,v_ 3],[([.val J [.row 1 I I I J],v1],[])]⟩),
 (238,⟨238,[v_ 5,v1],[([v1],[])]⟩),
 (92,⟨92,[v1],[([v1],[])]⟩),
 (261,⟨261,[v1],[([v1],[])]⟩),
 (247,⟨247,[v1],[([v1],[])]⟩),
 (243,⟨243,[v1,v1],[([v1],[])]⟩),
 (237,⟨237,[v_ 5,v1],[([v1,v1],[])]⟩),
 (329,⟨329,[v_ 19,v1,v_ 3],[([v1],[])]⟩),
 (210,⟨210,[v1,v1],[([v1],[])]⟩),
 (78,⟨78,[v_ 7],[([.val I [.d,.d,.d,.d,.d,.row 2 J I I J,.row 7 J I I J]],[])]⟩),
 (260,⟨260,[v1],[([v1],[])]⟩),
 (230,⟨230,[v1],[([v1,v1],[])]⟩),
 (321,⟨321,[v_ 19,v_ 3],[([v1],[])]⟩),
 (211,⟨211,[v_ 5],[([v1],[])]⟩),
 (79,⟨79,[v1],[([.val J [.row 19 J I I J]],[])]⟩),
 (251,⟨251,[v_ 19,v1,v1,v1],[([v1],[])]⟩),
 (248,⟨248,[v1,v1],[([v1],[])]⟩),
 (204,⟨204,[v1],[([v1],[])]⟩),
 (326,⟨326,[v_ 19,v_ 3,v_ 3],[([v1],[])]⟩),
 (209,⟨209,[v_ 7],[([v1],[])]⟩),
 (77,⟨77,[v_ 3],[([.val I [.d,.d,.row 2 J I I J]],[])]⟩),
 (229,⟨229,[v1],[([v1,v1],[])]⟩),
 (214,⟨214,[v_ 19],[([v1],[])]⟩),
 (269,⟨269,[v1,v1],[([v1],[])]⟩),
 (228,⟨228,[v_ 5],[([v1],[])]⟩),
 (328,⟨328,[v_ 19,v_ 3,v_ 3],[([v1],[])]⟩),
 (312,⟨312,[v_ 5,v1],[([v1],[])]⟩),
 (320,⟨320,[v_ 19,v_ 3],[([.val J [.row 1 I I I J],v1],[])]⟩),
 (203,⟨203,[v_ 7],[([v1],[])]⟩),
 (213,⟨213,[v_ 19],[([v1],[])]⟩),
 (270,⟨270,[v_ 5],[([v1],[])]⟩),
 (232,⟨232,[v1,v1],[([v1],[])]⟩),
 (212,⟨212,[v1],[([v1],[])]⟩),
 (268,⟨268,[v_ 7],[([v1],[])]⟩),
 (215,⟨215,[v1],[([v1],[])]⟩),
 (311,⟨311,[v_ 5,v1],[([v1,v1],[])]⟩),
 (9003,⟨9003,[v1,v1],[([v1],[])]⟩),
 (271,⟨271,[v1],[([v1],[])]⟩),
 (231,⟨231,[v1],[([v1],[])]⟩),
 (208,⟨208,[v_ 7],[([v1],[])]⟩),
 (39,⟨39,[v1,v1],[([v1],[])]⟩),
 (262,⟨262,[v_ 7],[([v1],[])]⟩),
 (286,⟨286,[v_ 5],[([v1],[])]⟩),
 (272,⟨272,[v_ 19],[([v1],[])]⟩),
 (236,⟨236,[v1,v1],[([v1],[])]⟩),
 (325,⟨325,[v1,v1],[([v1],[])]⟩),
 (227,⟨227,[v1],[([v1],[])]⟩),
 (100,⟨100,[v1,v1],[([v1],[])]⟩),
 (205,⟨205,[v_ 3],[([v1],[])]⟩),
 (274,⟨274,[v1],[([v1],[])]⟩),
 (267,⟨267,[v_ 7],[([v1],[])]⟩),
 (206,⟨206,[v_ 3],[([v1],[])]⟩),
 (264,⟨264,[v1],[([v1],[])]⟩),
 (226,⟨226,[v1],[([.val I [.d,.d,.row 3 J I I J],v1],[]),([v_ 3,v1],[]),([.val I [.d,.d,.row 3 J J I I],v1],[])]⟩),
 (324,⟨324,[v1,v1],[([v1],[])]⟩),
 (273,⟨273,[v1],[([v1],[])]⟩),
 (314,⟨314,[v1,v1],[([v_ 19,v1],[]),([.val I [.d,.d,.d,.row 2 I I I J,.row 1 I I I J,.d,.d,.row 1 I I I J,.row 1 I I I J,.d,.d,.d,.d,.d,.d,.d,.row 7 J I I J,.row 7 J I I J,.row 19 J I I J],v1],[])]⟩),
 (207,⟨207,[v_ 3],[([v1],[])]⟩),
 (263,⟨263,[v_ 3],[([v1],[])]⟩),
 (223,⟨223,[.box [.d,.d,.d]],[([v_ 3],[.box [.d,.d,.d]]),([.val I [.d,.d,.row 3 J J I I]],[.box [.d,.d,.d]])]⟩),
 (323,⟨323,[v1],[([v1],[])]⟩),
 (287,⟨287,[v1],[([v1,v1],[])]⟩),
 (285,⟨285,[v1],[([v1],[])]⟩),
 (266,⟨266,[v_ 3],[([v1],[])]⟩),
 (225,⟨225,[.box [.d,.d,.d]],[([v_ 3],[.box [.d,.d,.d]]),([.val I [.d,.d,.row 3 J J I I]],[.box [.d,.d,.d]])]⟩),
 (288,⟨288,[v1,v1],[([v1],[])]⟩),
 (235,⟨235,[v_ 3,v1],[([v1],[])]⟩),
 (284,⟨284,[v1],[([.val I [.d,.d,.row 3 J I I J],v1],[]),([v_ 3,v1],[]),([.val I [.d,.d,.row 3 J J I I],v1],[])]⟩),
 (265,⟨265,[v_ 2],[([v1],[])]⟩),
 (222,⟨222,[.box [.d,.d,.d]],[([.val I [.d,.d,.row 3 J I I J]],[.box [.d,.d,.d]]),([v_ 3],[.box [.d,.d,.d]]),([.val I [.d,.d,.row 3 J J I I]],[.box [.d,.d,.d]])]⟩),
 (303,⟨303,[v1],[([v1],[])]⟩),
 (234,⟨234,[v_ 3,v1,v1],[([.val J [.row 1 I I I J]],[])]⟩),
 (280,⟨280,[.box [.d,.d,.d]],[([v_ 3],[.box [.d,.d,.d]]),([.val I [.d,.d,.row 3 J J I I]],[.box [.d,.d,.d]])]⟩),
 (216,⟨216,[.box [.d,.d,.d],v1],[([v1],[.box [.d,.d,.d]])]⟩),
 (310,⟨310,[v1,v1],[([v1],[])]⟩),
 (9001,⟨9001,[v1],[([v1],[])]⟩),
 (283,⟨283,[.box [.d,.d,.d]],[([v_ 3],[.box [.d,.d,.d]]),([.val I [.d,.d,.row 3 J J I I]],[.box [.d,.d,.d]])]⟩),
 (220,⟨220,[.box [.d,.d,.d]],[([.val I [.d,.d,.row 3 J I I J]],[.box [.d,.d,.d]])]⟩),
 (233,⟨233,[v1,v1],[([.val J [.row 1 I I I J]],[])]⟩),
 (309,⟨309,[v_ 3,v1],[([v1],[])]⟩),
 (282,⟨282,[.box [.d,.d,.d]],[([.val I [.d,.d,.row 3 J J I J]],[.box [.d,.d,.d]]),([v_ 3],[.box [.d,.d,.d]]),([.val I [.d,.d,.row 3 J J I I]],[.box [.d,.d,.d]]),([.val I [.d,.d,.row 3 J I I J]],[.box [.d,.d,.d]])]⟩),
 (221,⟨221,[],[([v1],[])]⟩),
 (219,⟨219,[v1],[([v1],[])]⟩),
 (308,⟨308,[v_ 3,v1,v1],[([.val J [.row 1 I I I J]],[])]⟩),
 (279,⟨279,[.box [.d,.d,.d]],[([v_ 3],[.box [.d,.d,.d]]),([.val I [.d,.d,.row 3 J J I I]],[.box [.d,.d,.d]]),([.val I [.d,.d,.row 3 J I I J]],[.box [.d,.d,.d]])]⟩),
 (217,⟨217,[v1],[([v1],[])]⟩),
 (281,⟨281,[v_ 3],[([.val I [.d,.d,.row 3 J I I J]],[])]⟩),
 (9002,⟨9002,[v1,v1],[([v1],[])]⟩),
 (224,⟨224,[v_ 3],[([.val I [.d,.d,.row 3 J I I J]],[])]⟩),
 (218,⟨218,[v1],[([v1],[])]⟩),
 (56,⟨56,[v1,v1],[([v1],[])]⟩),
 (55,⟨55,[v_ 19,v1],[([v1],[])]⟩),
 (47,⟨47,[v_ 5,v1],[([v1],[])]⟩),
 (4,⟨4,[v1,v1],[([v1],[])]⟩),
 (45,⟨45,[v1,v1],[([v1],[])]⟩),
 (3,⟨3,[v_ 3,v1],[([v1],[])]⟩),
 (46,⟨46,[v1,v1],[([v1],[])]⟩),
 (71,⟨71,[v1],[([.val J [.row 19 J I I J]],[])]⟩),
 (54,⟨54,[v1,v1],[([v1],[])]⟩),
 (70,⟨70,[v_ 19],[([.val I [.d,.d,.d,.row 2 I I I J,.row 1 I I I J,.d,.d,.row 1 I I I J,.row 1 I I I J,.d,.d,.d,.d,.d,.d,.d,.row 7 J I I J,.row 7 J I I J,.row 19 J I I J]],[])]⟩),
 (53,⟨53,[v_ 7,v1],[([v1],[])]⟩),
 (62,⟨62,[v_ 5],[([.val I [.d,.row 2 I I I J,.row 1 I I I J,.d,.d]],[])]⟩),
 (6,⟨6,[v1],[([.val J [.row 3 J I I J]],[])]⟩),
 (52,⟨52,[v_ 3,v1],[([v1],[])]⟩),
 (60,⟨60,[v1],[([.val J [.row 2 I I I J]],[])]⟩),
 (5,⟨5,[v_ 3],[([.val I [.d,.d,.row 3 J I I J]],[])]⟩),
 (51,⟨51,[v1,v1],[([v1],[])]⟩),
 (59,⟨59,[v_ 2],[([v_ 2],[])]⟩),
 (50,⟨50,[v_ 2,v1],[([v1],[])]⟩),
 (120,⟨120,[v1,v1],[([v1],[])]⟩),
 (61,⟨61,[v1],[([.val J [.row 1 I I I J]],[])]⟩),
 (49,⟨49,[v1,v1],[([v1],[])]⟩),
 (119,⟨119,[v_ 19,v_ 19],[([v1],[])]⟩),
 (48,⟨48,[v_ 2,v1],[([v1],[])]⟩),
 (111,⟨111,[v_ 5,v_ 5],[([v1],[])]⟩),
 (10,⟨10,[v1,v1],[([v1],[])]⟩),
 (69,⟨69,[v1],[([.val J [.row 7 J I I J]],[])]⟩),
 (109,⟨109,[v1,v1],[([v1],[])]⟩),
 (9,⟨9,[v_ 3,v_ 3],[([v1],[])]⟩),
 (68,⟨68,[v_ 7],[([.val I [.d,.d,.d,.d,.d,.row 2 J I I J,.row 7 J I I J]],[])]⟩),
 (108,⟨108,[v_ 2,v_ 2],[([v1],[])]⟩),
 (110,⟨110,[v1,v1],[([v1],[])]⟩),
 (67,⟨67,[v_ 3],[([.val I [.d,.d,.row 2 J I I J]],[])]⟩),
 (66,⟨66,[v1],[([.val J [.row 2 J I I J]],[])]⟩),
 (118,⟨118,[v1,v1],[([v1],[])]⟩),
 (65,⟨65,[v_ 2],[([.val I [.d,.row 2 I I I J]],[])]⟩),
 (117,⟨117,[v_ 7,v_ 7],[([v1],[])]⟩),
 (64,⟨64,[v1],[([.val J [.row 2 I I I J]],[])]⟩),
 (116,⟨116,[v_ 3,v_ 3],[([v1],[])]⟩),
 (63,⟨63,[v_ 2],[([v_ 2],[])]⟩),
 (115,⟨115,[v1,v1],[([v1],[])]⟩),
 (114,⟨114,[v_ 2,v_ 2],[([v1],[])]⟩),
 (113,⟨113,[v1,v1],[([v1],[])]⟩),
 (112,⟨112,[v_ 2,v_ 2],[([v1],[])]⟩),
 (355,⟨355,[v1,v1,v1],[([.val J [.row 3 J I I J],v1],[])]⟩),
 (365,⟨365,[v1,v1,v1],[([.val J [.row 3 J I I J],v1],[])]⟩),
 (356,⟨356,[v1,v1,v1],[([.val J [.row 3 J I I J],v1],[])]⟩),
 (366,⟨366,[v1,v1,v1],[([.val J [.row 3 J I I J],v1],[])]⟩),
 (27,⟨27,[v1,v1],[([v1],[])]⟩),
 (32,⟨32,[v1],[([.val J [.row 4 J I I J]],[])]⟩),
 (12,⟨12,[v1,v1],[([v1],[])]⟩),
 (2,⟨2,[v1],[([.val J [.row 3 J I I J]],[])]⟩),
 (1,⟨1,[v1],[([.val J [.row 3 J I I J]],[])]⟩),
 (26,⟨26,[.val I [.d,.d,.d,.d],v1],[([v1],[])]⟩),
 (31,⟨31,[.val I [.d,.d,.d,.d]],[([.val I [.d,.d,.d,.row 4 J I I J]],[])]⟩),
 (11,⟨11,[.val I [.d,.d,.d,.d],.val I [.d,.d,.d,.d]],[([v1],[])]⟩),
 (353,⟨353,[v1,v1,v1],[([v1,v1],[])]⟩),
 (346,⟨346,[v1,v1],[([.val J [.row 4 J I I J]],[])]⟩),
 (357,⟨357,[v1,v1],[([.val J [.row 4 J I I J]],[])]⟩),
 (361,⟨361,[v1,v1,v1],[([v1,v1],[])]⟩),
 (354,⟨354,[v1,v1,.val I [.d,.d,.d,.d]],[([v1,v1],[])]⟩),
 (364,⟨364,[v1,v1,.val I [.d,.d,.d,.d]],[([v1,v1],[])]⟩),
 (348,⟨348,[v_ 19,.val I [.d,.d,.d,.d]],[([v1,.val J [.row 1 I I I J],v1],[])]⟩),
 (358,⟨358,[v_ 19,v1,.val I [.d,.d,.d,.d]],[([v1],[])]⟩),
 (347,⟨347,[v_ 19,.val I [.d,.d,.d,.d]],[([.val J [.row 1 I I I J],v1],[])]⟩),
 (349,⟨349,[v1,v1],[([v1],[])]⟩),
 (359,⟨359,[v_ 19,.val I [.d,.d,.d,.d]],[([.val I [.d,.d,.row 3 J I I J],v1],[])]⟩),
 (352,⟨352,[v1,v_ 19,v1,.val I [.d,.d,.d,.d],v1],[([v1,v1],[])]⟩),
 (360,⟨360,[v1,v1,v_ 19,.val I [.d,.d,.d,.d]],[([v1,v1],[])]⟩),
 (89,⟨89,[v1,v1],[([.val J [.row 1 I I I J],v1],[])]⟩),
 (350,⟨350,[v1,v1],[([v1],[])]⟩),
 (351,⟨351,[v1,v1,v_ 3],[([v1,v1],[])]⟩),
 (363,⟨363,[v1,v1,v_ 19,.val I [.d,.d,.d,.d]],[([v1,v1],[])]⟩),
 (105,⟨105,[v1,v1],[([.val J [.row 1 I I I J],v1],[])]⟩),
 (362,⟨362,[v1,v1,v_ 3],[([v1],[])]⟩)]
end
section
structure TP where
 P:Program
 ids:List (Nat×Nat)
 mks:List Nat
 law:List Nat
 agF:List (Nat×List Nat)
 share:List (Nat×List Nat)
 ajp:List (Nat×List Nat)
 QJ:List (Nat×List Nat)
abbrev NL:=M Nat
abbrev ML:=M (Nat×M Nat)
def acL(d:Nat):NL->NL
 |[]=>[d]
 |e::l=>if gh d e then d::e::l else if hX d e then e::l else e::acL d l
def Ck(a b:NL):NL:=a.foldr acL b
def wV(d:Nat):NL->Bool
 |[]=>J
 |e::l=>if hX d e then I else wV d l
def alR(a b:NL):Bool:=a.all λx=>wV x b
def WH(a b:NL):Bool:=a.any λx=>wV x b
def vx(m:ML)(k:Nat):NL:=match look m k with
 |some l=>l
 |none=>[]
def tz(k:Nat)(v:NL):ML->ML
 |[]=>if v.isEmpty then [] else [(k,v)]
 |(j,w)::m=>if hX j k then (j,Ck v w)::m else (j,w)::tz k v m
def CL(k:Nat)(m:ML):ML:=match look m k with
 |some _=>m
 |none=>(k,[])::m
def ZJ:M (Nat×Nat)->Nat->u Nat
 |[],_=>O
 |(k,F)::l,G=>if hX F G then Z k else ZJ l G
def Yu(i:Nat):Nat:=Nat.shiftLeft 1 i
def yV(m i:Nat):Bool:=hX (Nat.mod (Nat.shiftRight m i) 2) 1
def abX(m n:Nat):Bool:=hX (Nat.land m n) m
def abr(m n:Nat):Nat:=Nat.xor m (Nat.land m n)
def ac3(n m:Nat):NL:=(cu n).filter (yV m)
section
variable (P:Program)
def Hw:Nat->TypeId->M TypeId
 |0,_=>[]
 |n+1,T=>match P.underlying T with
  |some (.struct fs)=>fs.toList.flatMap λf=>Hw n f.type
  |some (.array k a)=>(aY k (Hw n a)).flatten
  |_=>[T]
def Hd(a:TypeId):Bool:=(Hw P 9 a).all λt=>!LL P t
def rf(a:TypeId):Nat:=(oR P a).getD 0
def GZ(T:TypeId):u TypeId:=match P.underlying T with
 |some (.slice a)=>Z a
 |_=>O
def zcT(T:TypeId):u C:=match P.underlying T with
 |some (.int k)=>Z (.d (.int k 0))
 |some .bool=>Z (.d (.bool J))
 |some .string=>Z (.d (.str ⟨#[]⟩))
 |some (.slice a)=>Z (.nil (rf P a) (Hd P a))
 |_=>O
def zdT(T:TypeId):u D:=match P.underlying T with
 |some (.int k)=>Z (.int k 0)
 |some .bool=>Z (.bool J)
 |some .string=>Z (.str ⟨#[]⟩)
 |some (.slice a)=>Z (.list (rf P a) (Hd P a) [])
 |_=>O
def zsT(T:TypeId):u (M C):=gH (zcT P) (Hw P 9 T)
def Nw(T:TypeId):NL:=((Hw P 9 T).zipIdx).filterMap λp=>if LL P p.1 then Z p.2 else O
def adz(T:TypeId):u TypeId:=match P.underlying T with
 |some (.pointer a)=>Z a
 |_=>O
def tX(T:u TypeId):Operand->u KX
 | .tmp d=>Z (.s d)
 | .const (.int k n)=>Z (.k (.d (.int k n)))
 | .const (.bool b)=>Z (.k (.d (.bool b)))
 | .const (.string s)=>Z (.k (.d (.str s)))
 | .const (.slice O 0 0)=>match T.bind (GZ P) with
  |some a=>Z (.k (.nil (rf P a) (Hd P a)))
  |none=>O
 |_=>O
def Ku(f:KX->KO)(T:u TypeId)(x:Operand):u KO:=(tX P T x).map f
def Tq(f:KX->KX->KO)(T U:u TypeId)(x y:Operand):u KO:=match tX P T x,tX P U y with
 |some a,Z b=>Z (f a b)
 |_,_=>O
def tXs:M Operand->M TypeId->u (M KX)
 |x::xs,t::b=>match tX P (Z t) x,tXs xs b with
  |some a,Z l=>Z (a::l)
  |_,_=>O
 |_,_=>Z []
def tXo:u Operand->u (u KX)
 |none=>Z O
 |some x=>(tX P O x).map Z
def XO(pl:M (Nat×Nat))(a:M TypeId):M (Nat×Operand)->u (M (Nat×Nat×KX))
 |[]=>Z []
 |(i,x)::b=>match nth pl i,tX P (nth a i) x,XO pl a b with
  |some (o,n),Z y,Z l=>Z ((o,n,y)::l)
  |_,_,_=>O
def Zh(T:TypeId):M TypeId:=match P.underlying T with
 |some (.struct fs)=>fs.toList.map (·.type)
 |_=>[]
end
def ab7(Q:TP)(h:Nat)(c:Call):u KO:=
 match c.callee with
 | .builtin .len=>match c.args.toList,c.argTypes.toList with
  |[x],[T]=>if LL Q.P T then Ku Q.P .len (Z T) x else Ku Q.P .sln O x
  |_,_=>O
 | .builtin .min=>match c.args.toList with
  |[x,y]=>Tq Q.P .min O O x y
  |_=>O
 | .builtin .max=>match c.args.toList with
  |[x,y]=>Tq Q.P .max O O x y
  |_=>O
 | .builtin .copy=>match c.args.toList,c.argTypes.toList with
  |[x,y],[T,U]=>match GZ Q.P T with
   |some f=>Tq Q.P (.GV (rf Q.P f)) (Z T) (Z U) x y
   |none=>O
  |_,_=>O
 | .builtin .append=>match c.args.toList,c.argTypes.toList with
  |[x,y],[T,U]=>match GZ Q.P T with
   |some f=>match Q.P.info? f with
    |some i=>Tq Q.P (.app (rf Q.P f) i.bytes (Hd Q.P f)) (Z T) (Z U) x y
    |none=>O
   |none=>O
  |_,_=>O
 | .value (.func F)=>match ZJ Q.ids F with
  |some g=>if hX g 9004 then (match c.args.toList,c.argTypes.toList with
    |[x,y],[T,U]=>Tq Q.P .jn (Z T) (Z U) x y
    |_,_=>O)
   else if hX g 9005 ||hX g 9006 then (match c.args.toList,c.argTypes.toList with
    |[x,y,d],[T,U,V]=>match tX Q.P (Z T) x,tX Q.P (Z U) y,tX Q.P (Z V) d with
     |some a,Z b,Z e=>Z (.xt (hX g 9006) a b e)
     |_,_,_=>O
    |_,_=>O)
   else if wV h Q.law && wV g Q.mks then (match c.args.toList,c.argTypes.toList with
    |[x,y],T::_=>Tq Q.P (.YD g) (Z T) O x y
    |_,_=>O)
   else (tXs Q.P c.args.toList c.argTypes.toList).map (.call g)
  |none=>O
 |_=>O
def akg(Q:TP)(f:Nat)(cut mv:Bool)(o:Oper):u KO:=
 match o.op with
 | .assign x=>Ku Q.P (if mv then .QJ else .mv) (Z o.type) x
 | .move x=>Ku Q.P .mv (Z o.type) x
 | .pick c x y=>match tX Q.P O c with
  |some m=>Tq Q.P (.pick m) (Z o.type) (Z o.type) x y
  |none=>O
 | .alloc T=>(zsT Q.P T).map .alloc
 | .box T x=>Ku Q.P .box (Z T) x
 | .build T e=>match zsT Q.P T with
  |some d=>match zA Q.P T with
   |some pl=>(XO Q.P pl (Zh Q.P T) e.toList).map (.build d)
   |none=>Z (.zro d)
  |none=>O
 | .buildSlice T n e=>match GZ Q.P T with
  |some a=>(gH (λp:Nat×Operand=>tX Q.P (Z a) p.2) e.toList).map (.uf (rf Q.P a) (Hd Q.P a))
  |none=>O
 | .makeSlice T x _=>match GZ Q.P T with
  |some a=>match Q.P.info? a,gH (zdT Q.P) (Hw Q.P 9 a) with
   |some i,Z d=>Ku Q.P (.make (rf Q.P a) i.bytes (Hd Q.P a) d) O x
   |_,_=>O
  |none=>O
 | .load T x=>Ku Q.P (.ld (if KA Q.P T ==Z I then rf Q.P T else 0)) O x
 | .store T x v=>Tq Q.P (.st (rf Q.P T)) O (Z T) x v
 | .fieldAddr T x i=>match zA Q.P T with
  |some pl=>match nth pl i with
   |some (o,_)=>Ku Q.P (.fa o) O x
   |none=>O
  |none=>O
 | .indexAddr T x i=>match Q.P.underlying T with
  |some (.array n a)=>Tq Q.P (.ixa n (rf Q.P a)) (Z T) O x i
  |some (.slice a)=>Tq Q.P (.ia (rf Q.P a)) (Z T) O x i
  |_=>O
 | .index _ x i=>Tq Q.P .Xp O O x i
 | .binOp op T x y _=>if isBool Q.P T then Tq Q.P (.TI op) O O x y else Tq Q.P (.bin op) O O x y
 | .unOp .not _ x=>Ku Q.P .not O x
 | .unOp .neg _ x=>Ku Q.P .neg O x
 | .convert _ T x=>match ZP Q.P T with
  |some k=>Ku Q.P (.conv k) O x
  |none=>Ku Q.P .Nu O x
 | .nilCheck x=>Ku Q.P .nck O x
 | .slice T x g j O=>match tXo Q.P g,tXo Q.P j with
  |some l,Z h=>match GZ Q.P T with
   |none=>Ku Q.P (.Ti · l h) O x
   |some a=>if cut then Ku Q.P (.cut (rf Q.P a) · l h) (Z T) x else match l,h with
    |none,Z b=>Ku Q.P (.slc · b) (Z T) x
    |_,_=>Ku Q.P (.zZ (rf Q.P a) · l h) (Z T) x
  |_,_=>O
 | .extract x i=>Ku Q.P (.ext · i) O x
 | .call c=>ab7 Q f c
 |_=>O
def XQ:Operand->NL
 | .tmp t=>[t]
 |_=>[]
def zR(o:Oper):NL:=o.op.operands.toList.flatMap XQ
def Oy:Code->M Oper
 | .region _ ops _=>ops.toList
 | .seq a b=>Oy a++Oy b
 | .cond _ a b=>Oy a++Oy b
 | .block _ a=>Oy a
 | .loop a=>Oy a
 |_=>[]
structure Pt where
 box:ML
 row:ML
 M9:ML
def nt(m:ML)(b:NL):NL:=b.foldr (λa l=>Ck (vx m a) l) []
def Th(p:Pt):Operand->NL
 | .tmp t=>vx p.row t
 |_=>[]
def Q9(P:Program)(d:Nat):Nat->M TypeId->NL
 |_,[]=>[]
 |q,T::a=>(Nw P T).map (λj=>w8 d (30 * q+j))++Q9 P d (q+1) a
def W2(P:Program):M (Operand×TypeId)->Pt->Pt
 |[],p=>p
 |(x,T)::l,p=>W2 P l (match adz P T with
  |some a=>{p with M9:=((XQ x).flatMap (vx p.box)).foldr (λb m=>tz b ((Nw P a).map (w8 (b+500))) m) p.M9 }
  |none=>p)
def aii(d:Nat)(a:NL)(p:Pt):Pt:=⟨tz d (nt p.box a) p.box,tz d (nt p.row a) p.row,p.M9⟩
def aio:u Nat->Bool
 |some g=>hX g 9005 ||hX g 9006
 |none=>J
def ptO(Q:TP)(e:Nat)(p:Pt)(o:Oper):Pt:=
 let a:=zR o
 match o.op,o.dst with
 | .alloc _,Z d=>{p with box:=tz d [d] p.box,M9:=CL d (tz d (nt p.row a) p.M9) }
 | .box _ _,Z d=>{p with box:=tz d [d] p.box,M9:=CL d (tz d (nt p.row a) p.M9) }
 | .buildSlice _ _ _,Z d=>{p with row:=tz d [d] p.row }
 | .makeSlice _ _ _,Z d=>{p with row:=tz d [d] p.row }
 | .load _ _,Z d=>{p with row:=tz d (nt p.M9 (nt p.box a)) p.row }
 | .store _ x v,_=>{p with M9:=((XQ x).flatMap (vx p.box)).foldr (λb m=>tz b (Th p v) m) p.M9 }
 | .call c,d=>match c.callee with
  | .builtin .append=>match d with
   |some d=>{p with row:=tz d (acL d (c.args.toList.take 1 |>.flatMap (Th p))) p.row }
   |none=>p
  | .value (.func F)=>if aio (ZJ Q.ids F) then (match d with
   |some d=>{p with row:=tz d (c.args.toList.take 1 |>.flatMap (Th p)) p.row }
   |none=>p) else match Q.P.funcs[F]? with
   |some f=>W2 Q.P (c.args.toList.zip c.argTypes.toList) (match d with
    |some d=>{p with row:=tz d (Q9 Q.P d 0 f.resultTypes.toList) p.row }
    |none=>p)
   |none=>p
  |_=>p
 |op,Z d=>aii d a (if (match op with
   | .assign _=>I
   |_=>J) && wV d (vx Q.QJ e) && !(nt p.row a).isEmpty then ⟨p.box,tz d [w8 d 0] (p.row.map λx=>if WH x.2 (nt p.row a) then (x.1,Ck [w8 d 0] x.2) else x),p.M9⟩ else p)
 |_,O=>p
def abV(p:Pt):Nat:=(p.box++p.row++p.M9).foldr (λx n=>Nat.add x.2.length n) 0
def afJ(f:Pt->Pt):Nat->Nat->Pt->Pt
 |0,_,p=>p
 |n+1,k,p=>match hX (abV (f p)) k with
  |true=>p
  |false=>afJ f n (abV (f p)) (f p)
structure Fi where
 Q:TP
 cur:Nat
 n:Nat
 p:Pt
 rl:Nat
 pb:NL
 bad:NL
def Fi.dL(F:Fi)(live:Nat):mo:=
 let s:=ac3 F.n live
 let b:=Ck F.pb (nt F.p.box s)
 ⟨s,b,Ck (nt F.p.row s) (nt F.p.M9 b)⟩
def Fi.cut(F:Fi)(o:Oper):Bool:=match o.op with
 | .slice T (.tmp x) _ _ _=>LL F.Q.P T && !(vx F.p.row x).isEmpty
 |_=>J
def Fi.Me(F:Fi)(o:Oper):Bool:=match o.op with
 | .alloc _=>I
 | .box _ _=>I
 | .store _ _ _=>I
 | .buildSlice _ _ _=>I
 | .makeSlice _ _ _=>I
 | .slice _ _ _ _ _=>F.cut o
 | .call c=>(match c.callee with
  | .builtin .len=>J
  | .builtin .min=>J
  | .builtin .max=>J
  |_=>I)
 |_=>J
def Fi.ins(F:Fi)(a:M Oper)(o:Oper):u KI:=
 match akg F.Q F.cur (F.cut o) (match o.dst with
  |some d=>wV d (vx F.Q.QJ F.cur)
  |none=>J) o with
 |some k=>match o.guard with
  |none=>Z ⟨o.dst,k,O⟩
  |some (j,w)=>match (nth a j).bind (·.dst) with
   |some g=>Z ⟨o.dst,k,Z (g,w)⟩
   |none=>O
 |none=>O
def abw(o:Oper):Nat:=match o.dst with
 |some d=>Yu d
 |none=>0
def aeD(o:Oper):Nat:=(zR o).foldr (λa m=>lE (Yu a) m) 0
def alK(a:M Oper)(live:Nat):Nat:=a.foldr (λo l=>lE (aeD o) (abr l (abw o))) live
def adm(o:Oper):Nat:=o.after.toList.foldr (λe m=>match e.ground with
 | .textOnly _=>m
 | .gcOnly _=>m
 |_=>lE (Yu e.on) m) 0
structure De where
 i:Nat
 o:Oper
 on:Nat
 de:Nat
 q:Bool
 tch:NL
def ae5:M Oper->M Nat->M Nat
 |[],acc=>acc
 |o::l,acc=>ae5 l (acc++[(acc.zipIdx).foldr (λp m=>if yV (adm o) p.2 then lE p.1 m else m) (adm o)])
def Fi.tch(F:Fi)(o:Oper):NL:=match o.op with
 | .alloc _=>(match o.dst with
  |some d=>[d]
  |none=>[])
 | .box _ _=>(match o.dst with
  |some d=>[d]
  |none=>[])
 | .store _ x _=>(XQ x).flatMap (vx F.p.box)
 | .call c=>(match c.callee with
  | .builtin _=>[]
  |_=>nt F.p.box (zR o))
 |_=>[]
def Fi.M6(F:Fi)(a:M Oper):M De:=
 let b:=ae5 a []
 a.zipIdx.map λp=>⟨p.2,p.1,adm p.1,b.zipIdx.foldr (λq m=>if yV q.1 p.2 then lE (Yu q.2) m else m) 0,!F.Me p.1,F.tch p.1⟩
def Fi.ajq(F:Fi)(b:M Oper):NL:=
 let f:=b.foldr (λo m=>lE (abw o) m) 0
 let c:=b.foldr (λo l=>if F.Me o then (match o.dst with
  |some d=>d::l
  |none=>l) else l) []
 let e:=b.foldr (λo l=>Ck (zR o) l) []
 e.filter λa=>!yV f a && !(vx F.p.row a).isEmpty && (vx F.p.box a).isEmpty && (vx F.p.row a).all λr=>!wV r F.bad && !wV r c && !(nP 1000 r && wV (Nat.sub (Nat.div r 1000) 1) c)
def Fi.quiet(F:Fi)(M6:M De)(b:NL)(done:Nat)(x:De):Bool:=x.q && match x.o.op with
 | .load _ (.tmp a)=>!(!(vx F.p.row a).isEmpty && (vx F.p.box a).isEmpty && !alR (vx F.p.row a) b) &&
   !(M6.any λy=>!yV done y.i && !yV x.de y.i && WH y.tch (vx F.p.box a))
 |_=>I
def VB(done:Nat)(p:De->Bool):M De->u De
 |[]=>O
 |x::l=>if !yV done x.i && abX x.on done && p x then Z x else VB done p l
def Wd(o:Oper):Bool:=match o.op with
 | .load _ _=>I
 |_=>J
def abp(ins:Oper->u KI)(k:Nat->u (KT×Nat))(done:Nat):M De->u (KT×Nat)
 |[]=>O
 |x::l=>match ins x.o,k (lE (Yu x.i) done) with
  |some i,Z (t,q)=>match l with
   |[]=>Z (.op ⟨x.i,J,[],[],i⟩ t,q)
   |l=>match abp ins k done l with
    |some (r,a)=>Z (.alt ⟨x.i,J,[],[],i⟩ t r,lE q a)
    |none=>O
  |_,_=>O
def Fi.draw(F:Fi)(M6:M De)(a:NL)(ins:Oper->u KI):Nat->Nat->u (KT×Nat)
 |0,done=>Z (.nil,0)
 |n+1,done=>match VB done (F.quiet M6 a done) M6 with
  |some x=>match ins x.o,F.draw M6 a ins n (lE (Yu x.i) done) with
   |some i,Z (t,q)=>Z (.op ⟨x.i,I,if Wd x.o then ac3 M6.length x.de else [],if Wd x.o then ac3 M6.length (abr x.de q) else [],i⟩ t,lE (Yu x.i) q)
   |_,_=>O
  |none=>abp ins (F.draw M6 a ins n) done (M6.filter λx=>!yV done x.i && abX x.on done)
def KT.alts:KT->Bool
 | .nil=>J
 | .op _ t=>t.alts
 | .alt _ _ _=>I
def acd(l:NL)(k:K):K:=l.foldr .Kk k
def Fi.drawn(F:Fi)(a:M Oper)(live:Nat):u K:=
 let Kk:=F.ajq a
 match F.draw (F.M6 a) (nt F.p.row Kk) (F.ins a) a.length 0 with
 |some (t,_)=>match look F.Q.agF F.cur with
  |some r=>if t.alts then Z (acd (Kk++vx F.Q.ajp F.cur) (.TK t {F.dL live with r:=r })) else Z (acd Kk (.TK t (F.dL live)))
  |none=>Z (acd Kk (.TK t (F.dL live)))
 |none=>O
def aju(a:M (Nat×Nat))(id:Nat):Nat:=match look a id with
 |some l=>l
 |none=>0
def acn(f:Nat->Nat):Nat->Nat->Nat
 |0,l=>l
 |n+1,l=>match hX (lE (f l) l) l with
  |true=>l
  |false=>acn f n (lE (f l) l)
def Fi.lv(F:Fi):Code->Nat->M (Nat×Nat)->Nat
 | .skip,l,_=>l
 | .ret,_,_=>F.rl
 | .seq a b,l,ex=>F.lv a (F.lv b l ex) ex
 | .cond c a b,l,ex=>lE ((XQ c).foldr (λd m=>lE (Yu d) m) 0) (lE (F.lv a l ex) (F.lv b l ex))
 | .block id a,l,ex=>F.lv a l ((id,l)::ex)
 | .exit id,_,ex=>aju ex id
 | .loop a,_,ex=>acn (λl=>F.lv a l ex) 9 0
 | .region _ ops _,l,_=>alK ops.toList l
 |_,l,_=>l
def Fi.shares(F:Fi)(c:Code):NL:=match c with
 | .region _ ops _=>(vx F.Q.share F.cur).filter λr=>ops.toList.any λo=>match o.dst with
  |some d=>hX r d ||(nP 1000000 r && hX (Nat.sub r 1000000) d) ||(nP 1000 r && gh r 1000000 && hX (Nat.sub (Nat.div r 1000) 1) d)
  |none=>J
 |_=>[]
def Fi.code(F:Fi):Code->Nat->M (Nat×Nat)->u K
 | .skip,_,_=>Z .skip
 | .ret,_,_=>Z .ret
 | .seq a b,l,ex=>match F.code b l ex,F.code a (F.lv b l ex) ex with
  |some y,Z x=>Z (.seq x ((F.shares a).foldr (λr k=>if nP 1000000 r then (if yV (F.lv b l ex) (Nat.sub r 1000000) then .Kk (Nat.sub r 1000000) k else k) else .share r k) y))
  |_,_=>O
 | .cond c a b,l,ex=>match tX F.Q.P O c,F.code a l ex,F.code b l ex with
  |some c,Z x,Z y=>Z (.cond c x y)
  |_,_,_=>O
 | .block id a,l,ex=>(F.code a l ((id,l)::ex)).map (.block id)
 | .exit id,_,_=>Z (.exit id)
 | .loop a,_,ex=>(F.code a (acn (λl=>F.lv a l ex) 9 0) ex).map .loop
 | .region _ ops J,l,_=>(gH (F.ins ops.toList) ops.toList).map λd=>.Q5 d (F.dL l)
 | .region _ ops I,l,_=>F.drawn ops.toList l
 |_,_,_=>O
def ajf(Q:TP)(p:Pt)(o:Oper):NL:=match o.op with
 | .store _ x v=>Ck (Th p x) (Th p v)
 | .slice _ x _ _ _=>Th p x
 | .buildSlice _ _ _=>nt p.row (zR o)
 | .build _ _=>nt p.row (zR o)
 | .box _ _=>nt p.row (zR o)
 | .call c=>(match c.callee with
  | .builtin .append=>nt p.row (zR o)
  | .value (.func F)=>(match ZJ Q.ids F with
   |some g=>if wV g Q.mks ||aio (Z g) then nt p.row (zR o) else []
   |none=>[])
  |_=>[])
 |_=>[]
def alM(P:Program):ResultVar->u KR
 | .tmp t=>Z (.t t)
 | .cell a T=>match KA P T with
  |some I=>Z (.c a (rf P T))
  |some J=>Z (.c a 0)
  |none=>O
def alL:ResultVar->Nat
 | .tmp t=>t
 | .cell a _=>a
def pt0(P:Program)(k nfree:Nat):M TypeId->Pt
 |[]=>(cu nfree).foldr (λj p=>⟨tz (k+j) [900+k+j] p.box,p.row,CL (900+k+j) p.M9⟩) ⟨[],[],[]⟩
 |T::b=>let p:=pt0 P (k+1) nfree b
  match adz P T with
  |some a=>⟨tz k [900+k] p.box,p.row,CL (900+k) (tz (900+k) ((Nw P a).map (w8 (k+500))) p.M9)⟩
  |none=>p
def Te(P:Program):Nat->M TypeId->NL
 |_,[]=>[]
 |k,T::a=>match adz P T with
  |some _=>k::Te P (k+1) a
  |none=>Te P (k+1) a
def toF(Q:TP)(f:Nat):u KF:=
 match (look Q.ids f).bind λF=>Q.P.funcs[F]? with
 |some b=>match b.body,gH (alM Q.P) b.results.toList with
  |some c,Z res=>
   let h:=Te Q.P 0 b.params.toList++(cu b.nfree).map (b.params.size+·)
   let e:=Ck (b.results.toList.map alL) h
   let d:=Oy c
   let p:=afJ (λp=>d.foldl (ptO Q f) p) 9 0 (pt0 Q.P 0 b.nfree b.params.toList)
   let g:=Ck (nt p.row e) (Ck (p.M9.foldr (λx l=>Ck x.2 l) []) (d.foldr (λo l=>Ck (ajf Q p o) l) []))
   match (Fi.mk Q f b.ntmps p (e.foldr (λa m=>lE (Yu a) m) 0) (h.map (900+·)) g).code c ((e.foldr (λa m=>lE (Yu a) m) 0)) []with
   |some k=>Z ⟨b.params.size+b.nfree,k,res⟩
   |none=>O
  |_,_=>O
 |none=>O
end
section
open Go.RowKit
def ids:M (Nat×Nat):=[(1,30),(2,25),(3,23),(4,6),(5,28),(6,9),(9,32),(10,11),(11,42),(12,20),(16,34),(17,14),(18,21),(21,15),(26,38),(27,16),(31,40),(32,18),(39,197),(45,62),(46,44),(47,43),(48,196),(49,181),(50,158),(51,126),(52,95),(53,63),(54,45),(55,22),(56,5),(59,105),(60,71),(61,51),(62,50),(63,201),(64,184),(65,163),(66,135),(67,106),(68,72),(69,52),(70,27),(71,8),(74,101),(75,69),(76,102),(77,134),(78,103),(79,104),(80,70),(81,49),(82,66),(89,118),(92,139),(93,110),(94,76),(95,77),(96,78),(97,88),(99,124),(100,156),(105,123),(108,114),(109,81),(110,57),(111,56),(112,204),(113,189),(114,172),(115,145),(116,115),(117,82),(118,58),(119,33),(120,12),(148,35),(149,36),(150,83),(151,59),(152,37),(153,13),(201,64),(202,127),(203,182),(204,149),(205,198),(206,199),(207,200),(208,183),(209,159),(210,128),(211,129),(212,160),(213,132),(214,130),(215,161),(216,206),(217,225),(218,226),(219,235),(220,223),(221,224),(222,215),(223,190),(224,216),(225,205),(226,174),(227,162),(228,131),(229,173),(230,146),(231,147),(232,148),(233,207),(234,191),(235,175),(236,150),(237,116),(238,97),(239,96),(240,65),(241,46),(242,47),(243,133),(244,98),(245,67),(246,48),(247,99),(248,100),(249,68),(250,24),(251,85),(255,73),(256,74),(257,107),(258,164),(259,185),(260,165),(261,136),(262,186),(263,202),(264,154),(265,214),(266,203),(267,187),(268,166),(269,137),(270,138),(271,140),(272,141),(273,188),(274,167),(275,210),(276,238),(277,240),(278,239),(279,232),(280,193),(281,233),(282,221),(283,209),(284,177),(285,168),(286,142),(287,151),(288,152),(303,153),(308,194),(309,178),(310,155),(311,121),(312,111),(313,108),(314,109),(315,75),(316,53),(317,54),(320,112),(321,79),(322,55),(323,171),(324,144),(325,113),(326,80),(327,29),(328,122),(329,91),(333,170),(346,26),(347,117),(348,84),(349,86),(350,120),(351,119),(352,87),(353,39),(354,60),(355,17),(356,7),(357,31),(358,89),(359,90),(360,92),(361,41),(362,125),(363,94),(364,61),(365,19),(366,10),(367,3),(368,4),(9001,176),(9002,211),(9003,143),(9004,212),(9005,93),(9006,157)]
def num(f:Nat):FuncId:=match look ids f with
 |some F=>F
 |none=>1000000
noncomputable def tp:TP:=⟨Tryz.prog,ids,[153,17,18,16,148,149,152,151,150],[368,367],[(78,[14002]),(282,[20]),(234,[8000,119000]),(347,[13]),(351,[39]),(362,[54])],[(225,[5]),(283,[4]),(223,[6]),(280,[6]),(349,[1000004]),(350,[1000004,9]),(351,[1000006]),(352,[1000010,1000015]),(353,[1000006,1000009]),(354,[1000006,1000016,21000]),(360,[1000008,1000011]),(361,[1000006,1000010]),(362,[1000006,1000007]),(363,[1000008,1000016,25]),(364,[1000006,1000001,1000008]),(359,[1000012])],[(282,[3])],[(234,[7])]⟩
def ZW:K->M K
 | .seq a b=>ZW b++ZW a
 | .cond _ a b=>ZW a++ZW b
 | .block _ a=>ZW a
 | .loop a=>ZW a++[a]
 | .share _ a=>ZW a
 | .Kk _ a=>ZW a
 |_=>[]
noncomputable def kx(f:Nat):KF:=match toF tp f with
 |some k=>k
 |none=>⟨0,.skip,[]⟩
noncomputable def kb(f j:Nat):K:=match nth (ZW (kx f).body) j with
 |some b=>b
 |none=>.skip
theorem aM{a:Type}(l:M a):Array.mk l=l.toArray:=(rfl)
theorem uM(n:Nat)(h:n < 2 ^ 8):UInt8.ofBitVec (BitVec.ofFin (Fin.mk n h))=dD n:=by
 rw[dD]
 congr 2
 exact Fin.ext (Nat.mod_eq_of_lt h).symm
attribute [go_sem] Int.reduceOfNat Int.reduceNegSucc aM uM UInt8.reduceOfNat
noncomputable section
def zm:K:=by refine (?f:kb 276 0=?t->K) ?p;exact λ_=>?t;conv=>lhs;reduce
def agB:KF:=by refine (?f:kx 276=?t->KF) ?p;exact λ_=>?t;conv=>lhs;reduce;rw[<- zm.eq_1]
theorem ahh:okF Tryz.prog num 276 agB=I:=by kernel_rfl
def wA:K:=by refine (?f:kb 279 0=?t->K) ?p;exact λ_=>?t;conv=>lhs;reduce
def pJ:K:=by refine (?f:kb 279 1=?t->K) ?p;exact λ_=>?t;conv=>lhs;reduce
def iO:K:=by refine (?f:kb 279 2=?t->K) ?p;exact λ_=>?t;conv=>lhs;reduce;rw[<- pJ.eq_1]
def agC:KF:=by refine (?f:kx 279=?t->KF) ?p;exact λ_=>?t;conv=>lhs;reduce;rw[<- wA.eq_1,<- pJ.eq_1,<- iO.eq_1]
theorem ahi:okF Tryz.prog num 279 agC=I:=by kernel_rfl
def vv:K:=by refine (?f:kb 16 0=?t->K) ?p;exact λ_=>?t;conv=>lhs;reduce
def k16:KF:=by refine (?f:kx 16=?t->KF) ?p;exact λ_=>?t;conv=>lhs;reduce;rw[<- vv.eq_1]
theorem akq:okF Tryz.prog num 16 k16=I:=by kernel_rfl
def Jw:K:=by refine (?f:kb 17 0=?t->K) ?p;exact λ_=>?t;conv=>lhs;reduce
def k17:KF:=by refine (?f:kx 17=?t->KF) ?p;exact λ_=>?t;conv=>lhs;reduce;rw[<- Jw.eq_1]
theorem akr:okF Tryz.prog num 17 k17=I:=by kernel_rfl
def Jx:K:=by refine (?f:kb 18 0=?t->K) ?p;exact λ_=>?t;conv=>lhs;reduce
def k18:KF:=by refine (?f:kx 18=?t->KF) ?p;exact λ_=>?t;conv=>lhs;reduce;rw[<- Jx.eq_1]
theorem aks:okF Tryz.prog num 18 k18=I:=by kernel_rfl
def Jy:K:=by refine (?f:kb 21 0=?t->K) ?p;exact λ_=>?t;conv=>lhs;reduce
def k21:KF:=by refine (?f:kx 21=?t->KF) ?p;exact λ_=>?t;conv=>lhs;reduce;rw[<- Jy.eq_1]
theorem akt:okF Tryz.prog num 21 k21=I:=by kernel_rfl
def CF:K:=by refine (?f:kb 148 0=?t->K) ?p;exact λ_=>?t;conv=>lhs;reduce
def agv:KF:=by refine (?f:kx 148=?t->KF) ?p;exact λ_=>?t;conv=>lhs;reduce;rw[<- CF.eq_1]
theorem ahb:okF Tryz.prog num 148 agv=I:=by kernel_rfl
def CG:K:=by refine (?f:kb 149 0=?t->K) ?p;exact λ_=>?t;conv=>lhs;reduce
def agw:KF:=by refine (?f:kx 149=?t->KF) ?p;exact λ_=>?t;conv=>lhs;reduce;rw[<- CG.eq_1]
theorem ahc:okF Tryz.prog num 149 agw=I:=by kernel_rfl
def CH:K:=by refine (?f:kb 150 0=?t->K) ?p;exact λ_=>?t;conv=>lhs;reduce
def agx:KF:=by refine (?f:kx 150=?t->KF) ?p;exact λ_=>?t;conv=>lhs;reduce;rw[<- CH.eq_1]
theorem ahd:okF Tryz.prog num 150 agx=I:=by kernel_rfl
def CI:K:=by refine (?f:kb 151 0=?t->K) ?p;exact λ_=>?t;conv=>lhs;reduce
def agy:KF:=by refine (?f:kx 151=?t->KF) ?p;exact λ_=>?t;conv=>lhs;reduce;rw[<- CI.eq_1]
theorem ahe:okF Tryz.prog num 151 agy=I:=by kernel_rfl
def CJ:K:=by refine (?f:kb 152 0=?t->K) ?p;exact λ_=>?t;conv=>lhs;reduce
def agz:KF:=by refine (?f:kx 152=?t->KF) ?p;exact λ_=>?t;conv=>lhs;reduce;rw[<- CJ.eq_1]
theorem ahf:okF Tryz.prog num 152 agz=I:=by kernel_rfl
def CK:K:=by refine (?f:kb 153 0=?t->K) ?p;exact λ_=>?t;conv=>lhs;reduce
def agA:KF:=by refine (?f:kx 153=?t->KF) ?p;exact λ_=>?t;conv=>lhs;reduce;rw[<- CK.eq_1]
theorem ahg:okF Tryz.prog num 153 agA=I:=by kernel_rfl
def agD:KF:=by refine (?f:kx 333=?t->KF) ?p;exact λ_=>?t;conv=>lhs;reduce
theorem ahj:okF Tryz.prog num 333 agD=I:=by kernel_rfl
def fs:M Nat:=[1,2,3,4,5,6,9,10,11,12,26,27,31,32,39,45,46,47,48,49,50,51,52,53,54,55,56,59,60,61,62,63,64,65,66,67,68,69,70,71,74,75,76,77,78,79,80,81,82,89,92,93,94,95,96,97,99,100,105,108,109,110,111,112,113,114,115,116,117,118,119,120,201,202,203,204,205,206,207,208,209,210,211,212,213,214,215,216,217,218,219,220,221,222,223,224,225,226,227,228,229,230,231,232,233,234,235,236,237,238,239,240,241,242,243,244,245,246,247,248,249,250,251,255,256,257,258,259,260,261,262,263,264,265,266,267,268,269,270,271,272,273,274,275,277,278,280,281,282,283,284,285,286,287,288,303,308,309,310,311,312,313,314,315,316,317,320,321,322,323,324,325,326,327,328,329,346,347,348,349,350,351,352,353,354,355,356,357,358,359,360,361,362,363,364,365,366]
def abe:M (Nat×KF):=[(276,agB),(279,agC),(16,k16),(17,k17),(18,k18),(21,k21),(148,agv),(149,agw),(150,agx),(151,agy),(152,agz),(153,agA),(9001,⟨999,.skip,[]⟩),(9002,⟨999,.skip,[]⟩),(9003,⟨999,.skip,[]⟩)]
noncomputable def T(f:Nat):u KF:=match look abe f with
 |some k=>Z k
 |none=>if wV f fs=I then toF tp f else O
end
end
section
noncomputable def txk(h:M Nat)(i:Nat)(a:KF):u ST:=match look xf i with
 |some b=>match gh a.np 999 with
  |true=>Xu h xf a b
  |false=>O
 |none=>O
noncomputable def tT(i:Nat):u KF:=match look xf i with
 |some a=>T a.f
 |none=>O
noncomputable def tx(h:M Nat)(i:Nat):u ST:=match tT i with
 |some a=>txk h i a
 |none=>O
theorem aeC{h:M Nat}{i:Nat}{r t:ST}(b:tx h i=Z r)(a:r=t):tx h i=Z t:=a▸b
noncomputable def rx(h:M Nat)(i:Nat)(a:KF):ST:=match txk h i a with
 |some t=>t
 |none=>.nil
def Y9(i:Nat)(a:M D):u (M A):=match look xf i with
 |some b=>iI b.args a
 |none=>O
def exs:M Nat:=[9001,9002,9003]
noncomputable def cg1(p:Nat×nh):Bool:=match T p.2.f with
 |some a=>wV p.2.f exs ||(okF Tryz.prog num p.2.f a && (p.2.args.length ==a.np && gh a.np 999 && decide p.2.res.Nodup))
 |none=>J
noncomputable def UD:M (Nat×nh)->Bool
 |[]=>I
 |p::l=>cg1 p && UD l
theorem KQ{a b:Nat}(h:UD ((xf.drop a).take b)=I)(c:∀p∈xf.drop (a+b),cg1 p=I):∀p∈xf.drop a,cg1 p=I:=by
 rw[<- oy]at c
 revert h c
 generalize xf.drop a=l
 induction b generalizing l with
 |zero=>exact λ_ h=>h
 |succ b e=>
  intro h c;cases l with
  |nil=>exact c
  |cons p l=>
   simp only[dy,UD,ai]at h;intro q d;rcases aI.1 d with rfl|d
   ·exact h.1
   ·exact e l h.2 c q d
structure R_ (h:List Nat) (i:Nat) where
 t:ST
 ok:tx h i=some t
def SZ:ST->M ST
 | .cons a b=>SZ a++SZ b
 | .op _ _ _ t=>SZ t
 | .gd _ a b=>SZ a++SZ b
 | .call _ _ c=>SZ c
 | .map _ t=>SZ t
 | .seq t c=>SZ t++SZ c
 | .loop _ _ d=>SZ d++[d]
 | .both a b=>SZ a++SZ b
 |_=>[]
def lq(t:ST)(j:Nat):ST:=match nth (SZ t) j with
 |some b=>b
 |none=>.nil
noncomputable def lp(h:M Nat)(i j:Nat):ST:=match tx h i with
 |some t=>lq t j
 |none=>.nil
end
end Go.Proofs.YtgfcijiikgjbcaaGreatDoor
