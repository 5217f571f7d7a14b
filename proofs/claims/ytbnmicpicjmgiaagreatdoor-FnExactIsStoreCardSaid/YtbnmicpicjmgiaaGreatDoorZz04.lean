/- Part of the proof. Condition: none. -/
import Derived.Test.YtbnmicpicjmgiaaGreatDoorProg
import Derived.Test.YtbnmicpicjmgiaaGreatDoorZz03
set_option linter.all false
open Bool renaming and_eq_true->aw,true->I,false->J
open List renaming mem_cons->aU,replicate->aW,take_succ_cons->cy,range->cC,drop_drop->zn
open Nat renaming blt->eP,beq->gH,ble->jZ,lor->ll,sub->xt
open UInt8 renaming ofNat->dT
open Option renaming some->Z,none->O
namespace Go.Proofs.YtbnmicpicjmgiaaGreatDoor
set_option maxRecDepth 100000
set_option maxHeartbeats 400000000
abbrev v1:SA:=.val J [.d]
abbrev v_(n:Nat):SA:=.val I (aW n .d)
def kK:HX:=.row 3 J I I J
def tU:HX:=.row 1 I I I J
def qH:HX:=.row 3 I I I J
def Ie:HX:=.row 19 J I I J
def KZ:HX:=.row 7 J I I J
def Oe:HX:=.row 2 I I I J
def QX:HX:=.row 2 J I I J
def aav:HX:=.row 3 J J I I
def ahs:HX:=.row 3 J J I J
def aqA:HX:=.row 1 I I I I
def agd:HX:=.row 19 J J I J
def aqB:M (M SA×M SA):=[([v1],[])]
def Ff:M (M SA×M SA):=[([.val J [tU]],[])]
def Ig:M (M SA×M SA):=[([v1,v1],[])]
def Ih:M (M SA×M SA):=[([],[.box [.d,kK]])]
def Of:M (M SA×M SA):=[([.val J [kK]],[])]
def QY:M (M SA×M SA):=[([.val I [.d,.d,.d,.d,tU]],[])]
def aaC:M (M SA×M SA):=[([v1],[.box [qH,.d,.d,.d]])]
def aaD:M (M SA×M SA):=[([v1],[.box [qH,.d,.d]])]
def adO:M (M SA×M SA):=[([.val J [Ie]],[])]
def adP:M (M SA×M SA):=[([.val I [.d,.d,QX]],[])]
def TB:M (M SA×M SA):=[([v_ 3],[.box [.d,.d,.d]]),([.val I [.d,.d,aav]],[.box [.d,.d,.d]])]
def TC:M (M SA×M SA):=[([.val J [tU],v1],[]),([.val J [aqA],v1],[])]
def aaw:M (M SA×M SA):=[([v1],[.box [.d,.d,.d]])]
def aax:M (M SA×M SA):=[([.val I [.d,.d,.d,Oe,tU,.d,.d,tU,tU,.d,.d,.d,.d,.d,.d,.d,KZ,KZ,Ie]],[])]
def aay:M (M SA×M SA):=[([.val I [.d,Oe,tU,.d,.d]],[])]
def aaz:M (M SA×M SA):=[([.val I [.d,.d,.d,.d,.d,QX,KZ]],[])]
def aaA:M (M SA×M SA):=[([.val I [.d,.d,kK]],[])]
def aaB:M (M SA×M SA):=[([v1,.val J [tU]],[])]
def age:M (M SA×M SA):=[([.val I [.d,.d,.d,Oe,tU,.d,.d,tU,tU,.d,.d,.d,.d,.d,.d,.d,KZ,KZ,Ie],v1],[]),([v_ 19,v1],[])]
def agf:M (M SA×M SA):=[([.val I [.d,.d,kK],v1],[]),([v_ 3,v1],[]),([.val I [.d,.d,aav],v1],[])]
def agh:M (M SA×M SA):=[([.val I [.d,.d,kK],v1],[]),([v_ 3,v1],[])]
def agi:M (M SA×M SA):=[([.val J [kK]],[]),([.val J [ahs]],[])]
def agj:M (M SA×M SA):=[([v1],[.box [.d,.d,.d,.d,.d,.d,.d,.d,.d,.d,.d,.d,.d,.d,.d,.d,.d,.d,.d],.box [.d],.box [.d]])]
def agk:M (M SA×M SA):=[([.val I [Ie,kK,kK,.d,kK,.d,.d,.d,.d,kK]],[])]
def fO:M SA:=[v1,v1]
def ga:M SA:=[v1]
def Ab:M SA:=[v_ 5]
def BH:M SA:=[v_ 3]
def E_:M SA:=[v_ 7]
def KV:M SA:=[.box [.d,.d,.d]]
def Ob:M SA:=[v1,v1,v1]
def QV:M SA:=[v_ 3,v1]
def VB:M SA:=[v_ 5,v1]
def Jd:M SA:=[v1,v1,v_ 3]
def Je:M SA:=[v1,v1,v_ 7]
def Oa:M SA:=[.val I [.d,.d,.d,.d,.d,.d,.d,.d,.d,.d]]
def Ts:M SA:=[.box [qH,.d,.d,.d],v1]
def Tt:M SA:=[.box [.d,kK],v_ 19,v1,v1,v1]
def Tu:M SA:=[.box [qH,.d,.d]]
def Tv:M SA:=[.box [qH,.d,.d],v1]
def agb:M SA:=[v1,.box [.d,.d,.d,.d,.d,.d,.d,.d,.d,.d,.d,.d,.d,.d,.d,.d,.d,.d,.d],.box [.d],.box [.d]]
def fD(i:Nat)(a:M SA)(r:M (M SA×M SA)):Nat×pe:=(i,⟨i,a,r⟩)
def fg(i:Nat)(a:M SA):Nat×pe:=fD i a aqB
def o0:M (Nat×pe):=[fD 278 KV aaw,fg 277 ga,fD 275 [.box [.d,.d,.d],v1] aaw,fg 250 fO,fg 327 fO,fg 258 ga,fg 241 ga,fg 316 ga,fg 259 ga,fg 201 fO,fg 255 ga,fg 240 [v1,v1,v1,v1],fg 256 ga,fg 315 Ob,fD 81 ga adO,fg 242 fO,fD 95 ga Ff,fg 75 ga,fg 317 ga,fg 74 Ob,fg 246 fO,fg 322 fO,fg 82 fO,fg 257 ga,fD 94 ga [([.val J [Ie]],[]),([.val J [agd]],[])],fg 99 fO,fg 239 [v_ 19,v1],fD 80 [v_ 19] aax,fg 245 [v_ 19,v_ 3],fD 93 fO [([.val J [Ie],.val J [tU]],[]),([.val J [agd],.val J [tU]],[])],fg 96 fO,fg 313 [v_ 19],fg 249 [v1,v_ 3,v_ 3],fD 97 fO age,fg 202 ga,fD 76 Ab aay,fD 244 [v_ 19,v_ 3] [([.val J [tU],v1],[])],fg 238 VB,fg 92 ga,fg 261 ga,fg 247 ga,fg 243 fO,fD 237 VB Ig,fg 210 fO,fD 78 E_ aaz,fg 260 ga,fD 230 ga Ig,fg 321 [v_ 19,v_ 3],fg 211 Ab,fD 79 ga adO,fg 248 fO,fg 204 ga,fg 326 [v_ 19,v_ 3,v_ 3],fg 209 E_,fD 77 BH adP,fD 229 ga Ig,fg 214 [v_ 19],fg 269 fO,fg 228 Ab,fg 312 VB,fD 320 [v_ 19,v_ 3] [([.val J [tU],v1],[])],fg 203 E_,fg 213 [v_ 19],fg 270 Ab,fg 232 fO,fg 212 ga,fg 268 E_,fg 215 ga,fD 311 VB Ig,fg 9003 fO,fg 271 ga,fg 231 ga,fg 208 E_,fg 39 fO,fg 262 E_,fg 286 Ab,fg 272 [v_ 19],fg 236 fO,fg 325 fO,fg 227 ga,fg 205 BH,fg 274 ga,fg 267 E_,fg 206 BH,fg 264 ga,fD 226 ga agf,fg 324 fO,fg 273 ga,fD 314 fO [([v_ 19,v1],[]),([.val I [.d,.d,.d,Oe,tU,.d,.d,tU,tU,.d,.d,.d,.d,.d,.d,.d,KZ,KZ,Ie],v1],[])],fg 207 BH,fg 263 BH,fD 223 KV TB,fg 323 ga,fD 287 ga Ig,fg 285 ga,fg 266 BH,fD 225 KV TB,fg 288 fO,fg 235 QV,fD 284 ga agf,fg 265 [v_ 2],fD 222 KV [([.val I [.d,.d,kK]],[.box [.d,.d,.d]]),([v_ 3],[.box [.d,.d,.d]]),([.val I [.d,.d,aav]],[.box [.d,.d,.d]])],fg 303 ga,fD 234 [v_ 3,v1,v1] Ff,fD 280 KV TB,fD 216 [.box [.d,.d,.d],v1] aaw,fg 310 fO,fg 9001 ga,fD 283 KV TB,fD 220 KV [([.val I [.d,.d,kK]],[.box [.d,.d,.d]])],fD 233 fO Ff,fg 309 QV,fD 282 KV [([.val I [.d,.d,ahs]],[.box [.d,.d,.d]]),([v_ 3],[.box [.d,.d,.d]]),([.val I [.d,.d,aav]],[.box [.d,.d,.d]]),([.val I [.d,.d,kK]],[.box [.d,.d,.d]])],fg 221 [],fg 219 ga,fD 308 [v_ 3,v1,v1] Ff,fD 279 KV [([v_ 3],[.box [.d,.d,.d]]),([.val I [.d,.d,aav]],[.box [.d,.d,.d]]),([.val I [.d,.d,kK]],[.box [.d,.d,.d]])],fg 217 ga,fD 281 BH aaA,fg 9002 fO,fD 224 BH aaA,fg 218 ga,fD 396 ga [([.box [qH,.d,.d,.d]],[])],fD 395 ga [([.val J [qH],v1],[])],fg 391 fO,fg 392 fO,fg 394 fO,fD 393 ga Ig,fD 397 [.box [qH,.d,.d,.d],v1,v1] aaC,fD 398 Ts aaC,fD 401 Ts aaC,fD 399 ga Ig,fD 400 Ts aaC,fD 402 Ts [([],[.box [qH,.d,.d,.d]])],fD 406 [.box [qH,.d,.d,.d]] [([.val I [.d,.d,QX]],[.box [qH,.d,.d,.d]])],fD 424 ga aaB,fD 413 [.box [qH,.d,.d,.d]] aaC,fD 423 Ob [([v1,.val J [tU]],[]),([v1,v1],[])],fD 98 fO Ff,fg 420 Ob,fD 417 E_ Of,fD 422 [v1,v1,v_ 5] TC,fD 419 Jd TC,fD 421 ga [([.val I [.d,.d,QX],v1],[])],fD 418 fO age,fD 472 fO Of,fg 473 fO,fD 449 fO [([.val J [kK],v1],[])],fD 448 fO Of,fg 447 fO,fD 467 [.box [.d,kK],v1,v1,v1,v1] Ih,fD 466 Tt Ih,fD 471 Tt Ih,fg 450 [v_ 19,v1],fD 468 fO Ff,fD 464 [.box [.d,kK],v1,v1] [([v1],[.box [.d,kK]])],fD 465 [.box [.d,kK],v1,v1,v1] Ih,fg 463 Je,fD 469 [.box [.d,kK],v_ 19,v_ 3,v1,v1] Ih,fD 462 Je QY,fD 455 Jd Ff,fD 461 Je QY,fg 453 Jd,fg 470 [v_ 19,v_ 3,v_ 3],fg 456 Ab,fg 451 fO,fD 459 Ab Ig,fD 457 ga QY,fg 452 QV,fg 458 Ab,fg 460 Ob,fD 454 fO agh,fg 2 ga,fg 527 fO,fD 526 fO Of,fD 496 ga aaB,fD 495 Ob aaB,fg 476 Ob,fD 499 fO [([.val J [kK],v1],[]),([.val J [ahs],v1],[])],fD 474 E_ Of,fD 1 ga Of,fD 137 BH adP,fD 494 [v1,v1,v_ 5] TC,fD 136 BH adP,fD 475 Jd TC,fD 498 fO agi,fD 493 ga [([.val I [.d,.d,QX],v1],[]),([v_ 3,v1],[])],fD 497 fO agi,fD 482 ga [([.box [qH,.d,.d]],[])],fg 502 [v_ 19,v1],fD 481 ga [([.val J [qH],v1],[])],fD 506 fO Ff,fg 501 fO,fD 480 ga [([v_ 3,v1],[])],fD 477 ga Ig,fg 479 fO,fD 491 Tu [([.val I [.d,.d,QX]],[.box [qH,.d,.d]]),([v_ 3],[.box [qH,.d,.d]])],fg 517 Je,fg 478 fO,fD 486 Tv aaD,fD 516 Je QY,fD 485 Tv aaD,fD 515 Je QY,fD 484 [.box [qH,.d,.d],v1,v1] aaD,fD 508 Jd Ff,fD 543 agb agj,fg 509 Ab,fg 507 Jd,fD 483 Tu [([v_ 3],[.box [qH,.d,.d]])],fg 542 [v_ 19,v_ 3,v_ 3],fg 504 fO,fD 510 ga QY,fD 503 fO agh,fD 513 [v1,v_ 5,v_ 5] QY,fD 511 Ab Ff,fg 505 QV,fD 489 Tu [([.val I [.d,Oe]],[.box [qH,.d,.d]])],fD 541 [v_ 3,.box [.d,.d]] [([v1],[.box [.d,.d]])],fD 490 [.box [qH,.d,.d],v_ 3] [([v_ 3],[.box [qH,.d,.d]])],fg 514 Ob,fD 512 ga Ig,fD 487 Tv aaD,fD 492 Tu aaD,fD 488 Tv [([],[.box [qH,.d,.d]])],fD 540 [v_ 3,.box [.d]] [([v1],[.box [.d]])],fD 521 [.box [.d,kK],v1,v1,v1,v1] Ih,fD 520 Tt Ih,fD 525 Tt Ih,fD 518 [.box [.d,kK],v1,v1] [([v1],[.box [.d,kK]])],fD 519 [.box [.d,kK],v1,v1,v1] Ih,fD 522 [.box [.d,kK],v_ 19,v1,v1,v_ 3] Ih,fg 534 fO,fg 56 fO,fg 533 [v_ 3,v_ 3],fg 55 [v_ 19,v1],fg 110 fO,fg 47 VB,fg 4 fO,fg 532 fO,fg 45 fO,fg 3 QV,fg 46 fO,fD 71 ga adO,fg 54 fO,fD 70 [v_ 19] aax,fg 53 [v_ 7,v1],fD 62 Ab aay,fD 6 ga Of,fg 52 QV,fD 60 ga [([.val J [Oe]],[])],fD 5 BH aaA,fg 51 fO,fD 59 [v_ 2] [([v_ 2],[])],fg 50 [v_ 2,v1],fg 120 fO,fD 61 ga Ff,fg 49 fO,fg 119 [v_ 19,v_ 19],fg 48 [v_ 2,v1],fg 111 [v_ 5,v_ 5],fg 10 fO,fD 69 ga [([.val J [KZ]],[])],fg 109 fO,fg 9 [v_ 3,v_ 3],fD 68 E_ aaz,fg 108 [v_ 2,v_ 2],fg 118 fO,fD 67 BH adP,fg 117 [v_ 7,v_ 7],fD 66 ga [([.val J [QX]],[])],fg 116 [v_ 3,v_ 3],fD 65 [v_ 2] [([.val I [.d,Oe]],[])],fg 115 fO,fD 64 ga [([.val J [Oe]],[])],fg 114 [v_ 2,v_ 2],fD 63 [v_ 2] [([v_ 2],[])],fg 113 fO,fg 112 [v_ 2,v_ 2],fg 547 Oa,fD 548 fO [([.val I [Ie,kK,kK,.d,kK,.d,.d,.d,.d,kK],v1],[]),([.val I [Ie,.d,.d,.d,kK,.d,.d,.d,.d,kK],v1],[])],fD 549 fO [([.val I [Ie,kK,kK,.d,kK,.d,.d,.d,.d,kK],v1],[])],fD 101081 [v1,.box [.d]] [([v1],[.box [.d]])],fD 101083 [v1,.box [.d,.d]] [([v1],[.box [.d,.d]])],fD 101086 agb agj,fg 127 [.val I [.d,.d,.d,.d,.d,.d,.d,.d,.d,.d],v1],fg 544 Oa,fD 142 Oa agk,fg 125 fO,fD 141 ga adO,fg 124 QV,fD 140 [v_ 19] aax,fD 131 Oa agk,fD 135 Ab aay,fg 126 VB,fD 129 ga Of,fg 546 Oa,fD 139 ga [([.val J [KZ]],[])],fD 128 BH [([.val I [kK,.d,.d]],[])],fg 545 Ab,fD 138 E_ aaz,fD 130 Ab [([.val I [.d,.d,.d,.d,kK]],[])],fg 147 [.val I [.d,.d,.d,.d,.d,.d,.d,.d,.d,.d],.val I [.d,.d,.d,.d,.d,.d,.d,.d,.d,.d]],fg 145 fO,fg 144 [v_ 3,v_ 3],fg 146 [v_ 5,v_ 5]]
structure TP where
 P:Program
 ids:List (Nat×Nat)
 mks:List Nat
 law:List Nat
 ags:List (Nat×List Nat)
 share:List (Nat×List Nat)
 aqs:List (Nat×List Nat)
 Xp:List (Nat×List Nat)
abbrev NL:=M Nat
abbrev ML:=M (Nat×M Nat)
def ahU(d:Nat):NL->NL
 |[]=>[d]
 |e::l=>if eP d e then d::e::l else if gH d e then e::l else e::ahU d l
def CN(a b:NL):NL:=a.foldr ahU b
def yw(d:Nat):NL->Bool
 |[]=>J
 |e::l=>if gH d e then I else yw d l
def ajS(a b:NL):Bool:=a.all λx=>yw x b
def abv(a b:NL):Bool:=a.any λx=>yw x b
def nZ(m:ML)(k:Nat):NL:=match look m k with
 |some l=>l
 |none=>[]
def sd(k:Nat)(v:NL):ML->ML
 |[]=>if v.isEmpty then [] else [(k,v)]
 |(j,w)::m=>if gH j k then (j,CN v w)::m else (j,w)::sd k v m
def At(k:Nat)(m:ML):ML:=match look m k with
 |some _=>m
 |none=>(k,[])::m
def aaT:M (Nat×Nat)->Nat->u Nat
 |[],_=>O
 |(k,F)::l,G=>if gH F G then Z k else aaT l G
def bt_(i:Nat):Nat:=Nat.shiftLeft 1 i
def Ag(m i:Nat):Bool:=gH (Nat.mod (Nat.shiftRight m i) 2) 1
def agO(m n:Nat):Bool:=gH (Nat.land m n) m
def af3(m n:Nat):Nat:=Nat.xor m (Nat.land m n)
def aim(n m:Nat):NL:=(cC n).filter (Ag m)
section
variable (P:Program)
def JA:Nat->TypeId->M TypeId
 |0,_=>[]
 |n+1,T=>match P.underlying T with
  |some (.struct fs)=>fs.toList.flatMap λf=>JA n f.type
  |some (.array k a)=>(aW k (JA n a)).flatten
  |_=>[T]
def Jc(a:TypeId):Bool:=(JA P 9 a).all λt=>!Rc P t
def tq(a:TypeId):Nat:=(qo P a).getD 0
def I5(T:TypeId):u TypeId:=match P.underlying T with
 |some (.slice a)=>Z a
 |_=>O
def zcT(T:TypeId):u C:=match P.underlying T with
 |some (.int k)=>Z (.d (.int k 0))
 |some .bool=>Z (.d (.bool J))
 |some .string=>Z (.d (.str ⟨#[]⟩))
 |some (.slice a)=>Z (.nil (tq P a) (Jc P a))
 |_=>O
def zdT(T:TypeId):u D:=match P.underlying T with
 |some (.int k)=>Z (.int k 0)
 |some .bool=>Z (.bool J)
 |some .string=>Z (.str ⟨#[]⟩)
 |some (.slice a)=>Z (.list (tq P a) (Jc P a) [])
 |_=>O
def zsT(T:TypeId):u (M C):=ig (zcT P) (JA P 9 T)
def Km(T:TypeId):NL:=((JA P 9 T).zipIdx).filterMap λp=>if Rc P p.1 then Z p.2 else O
def XD(T:TypeId):u TypeId:=match P.underlying T with
 |some (.pointer a)=>Z a
 |_=>O
def tX(T:u TypeId):Operand->u KX
 | .tmp d=>Z (.s d)
 | .const (.int k n)=>Z (.k (.d (.int k n)))
 | .const (.bool b)=>Z (.k (.d (.bool b)))
 | .const (.string s)=>Z (.k (.d (.str s)))
 | .const (.slice O 0 0)=>match T.bind (I5 P) with
  |some a=>Z (.k (.nil (tq P a) (Jc P a)))
  |none=>O
 | .const (.pointer O)=>Z (.k .any)
 |_=>O
def M0(f:KX->KO)(T:u TypeId)(x:Operand):u KO:=(tX P T x).map f
def X0(f:KX->KX->KO)(T U:u TypeId)(x y:Operand):u KO:=match tX P T x,tX P U y with
 |some a,Z b=>Z (f a b)
 |_,_=>O
def tXs:M Operand->M TypeId->u (M KX)
 |x::xs,t::b=>match tX P (Z t) x,tXs xs b with
  |some a,Z l=>Z (a::l)
  |_,_=>O
 |_,_=>Z []
def tXo:u Operand->u (u KX)
 |none=>Z O
 |some x=>(tX P O x).map Z
def acW(pl:M (Nat×Nat))(a:M TypeId):M (Nat×Operand)->u (M (Nat×Nat×KX))
 |[]=>Z []
 |(i,x)::b=>match nth pl i,tX P (nth a i) x,acW pl a b with
  |some (o,n),Z y,Z l=>Z ((o,n,y)::l)
  |_,_,_=>O
def adL(T:TypeId):M TypeId:=match P.underlying T with
 |some (.struct fs)=>fs.toList.map (·.type)
 |_=>[]
end
def ag4(Q:TP)(b:Nat)(c:Call):u KO:=
 match c.callee with
 | .builtin .len=>match c.args.toList,c.argTypes.toList with
  |[x],[T]=>if Rc Q.P T then M0 Q.P .len (Z T) x else M0 Q.P .sln O x
  |_,_=>O
 | .builtin .min=>match c.args.toList with
  |[x,y]=>X0 Q.P .min O O x y
  |_=>O
 | .builtin .max=>match c.args.toList with
  |[x,y]=>X0 Q.P .max O O x y
  |_=>O
 | .builtin .copy=>match c.args.toList,c.argTypes.toList with
  |[x,y],[T,U]=>match I5 Q.P T with
   |some a=>X0 Q.P (.Kv (tq Q.P a)) (Z T) (Z U) x y
   |none=>O
  |_,_=>O
 | .builtin .append=>match c.args.toList,c.argTypes.toList with
  |[x,y],[T,U]=>match I5 Q.P T with
   |some a=>match Q.P.info? a with
    |some i=>X0 Q.P (.app (tq Q.P a) i.bytes (Jc Q.P a)) (Z T) (Z U) x y
    |none=>O
   |none=>O
  |_,_=>O
 | .value (.func F)=>match aaT Q.ids F with
  |some g=>if gH g 9004 then (match c.args.toList,c.argTypes.toList with
    |[x,y],[T,U]=>X0 Q.P .jn (Z T) (Z U) x y
    |_,_=>O)
   else if gH g 9007 ||gH g 9008 then (match c.args.toList,c.argTypes.toList with
    |[x,y],T::_=>X0 Q.P (.MP (gH g 9007) 0 0) (Z T) O x y
    |_,_=>O)
   else (tXs Q.P c.args.toList c.argTypes.toList).map (.call g)
  |none=>O
 |_=>O
def aq_(Q:TP)(f:Nat)(cut mv:Bool)(o:Oper):u KO:=
 match o.op with
 | .assign x=>M0 Q.P (if mv then .Xp else .mv) (Z o.type) x
 | .move x=>M0 Q.P .mv (Z o.type) x
 | .pick c x y=>match tX Q.P O c with
  |some q=>X0 Q.P (.pick q) (Z o.type) (Z o.type) x y
  |none=>O
 | .alloc T=>(zsT Q.P T).map .alloc
 | .box T x=>M0 Q.P .box (Z T) x
 | .build T e=>match zsT Q.P T with
  |some d=>match xd Q.P T with
   |some pl=>(acW Q.P pl (adL Q.P T) e.toList).map (.build d)
   |none=>Z (.zro d)
  |none=>O
 | .buildSlice T n e=>match I5 Q.P T with
  |some a=>(ig (λp:Nat×Operand=>tX Q.P (Z a) p.2) e.toList).map (KO.vX (tq Q.P a) (Jc Q.P a))
  |none=>O
 | .makeSlice T x _=>match I5 Q.P T with
  |some a=>match Q.P.info? a,ig (zdT Q.P) (JA Q.P 9 a) with
   |some i,Z d=>M0 Q.P (.make (tq Q.P a) i.bytes (Jc Q.P a) d) O x
   |_,_=>O
  |none=>O
 | .load T x=>M0 Q.P (.ld (if Kf Q.P T ==Z I then tq Q.P T else 0)) O x
 | .store T x v=>X0 Q.P (.st (tq Q.P T)) O (Z T) x v
 | .fieldAddr T x i=>match xd Q.P T with
  |some pl=>match nth pl i with
   |some (o,_)=>M0 Q.P (.fa o) O x
   |none=>O
  |none=>O
 | .indexAddr T x i=>match Q.P.underlying T with
  |some (.array n a)=>X0 Q.P (.ixa n (tq Q.P a)) (Z T) O x i
  |some (.slice a)=>X0 Q.P (.ia (tq Q.P a)) (Z T) O x i
  |_=>O
 | .index _ x i=>X0 Q.P .six O O x i
 | .binOp op T x y _=>if isBool Q.P T then X0 Q.P (.Yd op) O O x y else X0 Q.P (.bin op) O O x y
 | .unOp .not _ x=>M0 Q.P .not O x
 | .unOp .neg _ x=>M0 Q.P .neg O x
 | .convert _ T x=>match ad1 Q.P T with
  |some k=>M0 Q.P (.conv k) O x
  |none=>M0 Q.P .Qt O x
 | .nilCheck x=>M0 Q.P .nck O x
 | .slice T x j m O=>match tXo Q.P j,tXo Q.P m with
  |some l,Z h=>match I5 Q.P T with
   |none=>M0 Q.P (.MZ · l h) O x
   |some a=>match l,h with
    |none,Z b=>M0 Q.P (.slc · b) (Z T) x
    |_,_=>M0 Q.P (.AS (tq Q.P a) · l h) (Z T) x
  |_,_=>O
 | .extract x i=>M0 Q.P (.ext · i) O x
 | .field T x i=>match xd Q.P T with
  |some pl=>match nth pl i with
   |some (o,_)=>M0 Q.P (.fld o) O x
   |none=>O
  |none=>O
 | .makeFunc (.func G) _ cs=>(ig (tX Q.P O) cs.toList).map (.mkf G)
 | .call c=>match ag4 Q f c with
  |some (.call g xs)=>Z (match XD Q.P o.type with
   |some _=>.cbx g xs
   |none=>.call g xs)
  |r=>r
 |_=>O
def acZ:Operand->NL
 | .tmp t=>[t]
 |_=>[]
def yb(o:Oper):NL:=o.op.operands.toList.flatMap acZ
def RC:Code->M Oper
 | .region _ ops _=>ops.toList
 | .seq a b=>RC a++RC b
 | .cond _ a b=>RC a++RC b
 | .block _ a=>RC a
 | .loop a=>RC a
 |_=>[]
structure Pt where
 box:ML
 row:ML
 MX:ML
def mQ(m:ML)(b:NL):NL:=b.foldr (λa l=>CN (nZ m a) l) []
def XK(p:Pt):Operand->NL
 | .tmp t=>nZ p.row t
 |_=>[]
def UE(P:Program)(d:Nat):Nat->M TypeId->NL
 |_,[]=>[]
 |q,T::a=>(Km P T).map (λj=>vg d (30 * q+j))++UE P d (q+1) a
def abU(P:Program):M (Operand×TypeId)->Pt->Pt
 |[],p=>p
 |(x,T)::l,p=>abU P l (match XD P T with
  |some a=>{p with MX:=((acZ x).flatMap (nZ p.box)).foldr (λb m=>sd b ((Km P a).map (vg (b+500))) m) p.MX }
  |none=>p)
def aph(d:Nat)(a:NL)(p:Pt):Pt:=⟨sd d (mQ p.box a) p.box,sd d (mQ p.row a) p.row,p.MX⟩
def apr:u Nat->Bool
 |some g=>gH g 9005 ||gH g 9006
 |none=>J
def ptO(Q:TP)(f:Nat)(p:Pt)(o:Oper):Pt:=
 let e:=yb o
 match o.op,o.dst with
 | .alloc _,Z d=>{p with box:=sd d [d] p.box,MX:=At d (sd d (mQ p.row e) p.MX) }
 | .box _ _,Z d=>{p with box:=sd d [d] p.box,MX:=At d (sd d (mQ p.row e) p.MX) }
 | .buildSlice _ _ _,Z d=>{p with row:=sd d [d] p.row }
 | .makeSlice _ _ _,Z d=>{p with row:=sd d [d] p.row }
 | .load _ _,Z d=>{p with row:=sd d (mQ p.MX (mQ p.box e)) p.row }
 | .store _ x v,_=>{p with MX:=((acZ x).flatMap (nZ p.box)).foldr (λb m=>sd b (XK p v) m) p.MX }
 | .call c,d=>match c.callee with
  | .builtin .append=>match d with
   |some d=>{p with row:=sd d (ahU d (c.args.toList.take 1 |>.flatMap (XK p))) p.row }
   |none=>p
  | .value (.func F)=>if apr (aaT Q.ids F) then (match d with
   |some d=>{p with row:=sd d (c.args.toList.take 1 |>.flatMap (XK p)) p.row }
   |none=>p) else match Q.P.funcs[F]? with
   |some fn=>abU Q.P (c.args.toList.zip c.argTypes.toList) (match d with
    |some d=>(match XD Q.P o.type with
     |some a=>{p with box:=sd d [d] p.box,MX:=At d (sd d ((Km Q.P a).map (vg (d+500))) p.MX) }
     |none=>{p with row:=sd d (UE Q.P d 0 fn.resultTypes.toList) p.row })
    |none=>p)
   |none=>p
  |_=>p
 |op,Z d=>aph d e (if (match op with
   | .assign _=>I
   |_=>J) && yw d (nZ Q.Xp f) && !(mQ p.row e).isEmpty then ⟨p.box,sd d [vg d 0] (p.row.map λx=>if abv x.2 (mQ p.row e) then (x.1,CN [vg d 0] x.2) else x),p.MX⟩ else p)
 |_,O=>p
def agM(p:Pt):Nat:=(p.box++p.row++p.MX).foldr (λx n=>Nat.add x.2.length n) 0
def alF(f:Pt->Pt):Nat->Nat->Pt->Pt
 |0,_,p=>p
 |n+1,k,p=>match gH (agM (f p)) k with
  |true=>p
  |false=>alF f n (agM (f p)) (f p)
structure Fi where
 Q:TP
 cur:Nat
 n:Nat
 p:Pt
 rl:Nat
 pb:NL
 bad:NL
def Fi.ey(F:Fi)(live:Nat):zA:=
 let s:=aim F.n live
 let b:=CN F.pb (mQ F.p.box s)
 ⟨s,b,CN (mQ F.p.row s) (mQ F.p.MX b)⟩
def acz(a:Nat):Nat:=if jZ 7000000 a then Nat.mod a 1000 else xt a 1000000
def Fi.cut(F:Fi)(o:Oper):Bool:=match o.op with
 | .slice T (.tmp x) _ _ _=>Rc F.Q.P T && !(nZ F.p.row x).isEmpty && !((nZ F.Q.share F.cur).any λa=>jZ 1000000 a && ajS (nZ F.p.row x) (nZ F.p.row (acz a)) && ajS (nZ F.p.row (acz a)) (nZ F.p.row x))
 |_=>J
def Fi.OT(F:Fi)(o:Oper):Bool:=match o.op with
 | .alloc _=>I
 | .box _ _=>I
 | .store _ _ _=>I
 | .buildSlice _ _ _=>I
 | .makeSlice _ _ _=>I
 | .slice _ _ _ _ _=>F.cut o
 | .convert _ T _=>isStr F.Q.P T
 | .call c=>(match c.callee with
  | .builtin .len=>J
  | .builtin .min=>J
  | .builtin .max=>J
  |_=>I)
 |_=>J
def ald(Q:TP)(b:M Oper):KO->KO
 | .MP a f F x (.s y)=>match b.find? (λo:Oper=>o.dst ==Z y) with
  |some o=>(match o.op with
   | .makeFunc (.func G) _ _=>(match aaT Q.ids G with
    |some g=>.MP a g G x (.s y)
    |none=>.MP a f F x (.s y))
   |_=>.MP a f F x (.s y))
  |none=>.MP a f F x (.s y)
 |k=>k
def Fi.ins(F:Fi)(a:M Oper)(o:Oper):u KI:=
 match aq_ F.Q F.cur (F.cut o) (match o.dst with
  |some d=>yw d (nZ F.Q.Xp F.cur)
  |none=>J) o with
 |some k=>match o.guard with
  |none=>Z ⟨o.dst,ald F.Q a k,O⟩
  |some (j,w)=>match (nth a j).bind (·.dst) with
   |some g=>Z ⟨o.dst,ald F.Q a k,Z (g,w)⟩
   |none=>O
 |none=>O
def af6(o:Oper):Nat:=match o.dst with
 |some d=>bt_ d
 |none=>0
def akn(o:Oper):Nat:=(yb o).foldr (λa m=>ll (bt_ a) m) 0
def ath(a:M Oper)(live:Nat):Nat:=a.foldr (λo l=>ll (akn o) (af3 l (af6 o))) live
def ait(o:Oper):Nat:=o.after.toList.foldr (λe m=>match e.ground with
 | .textOnly _=>m
 | .gcOnly _=>m
 |_=>ll (bt_ e.on) m) 0
structure De where
 i:Nat
 o:Oper
 on:Nat
 de:Nat
 q:Bool
 tch:NL
def akJ:M Oper->M Nat->M Nat
 |[],acc=>acc
 |o::l,acc=>akJ l (acc++[(acc.zipIdx).foldr (λp m=>if Ag (ait o) p.2 then ll p.1 m else m) (ait o)])
def Fi.tch(F:Fi)(o:Oper):NL:=match o.op with
 | .alloc _=>(match o.dst with
  |some d=>[d]
  |none=>[])
 | .box _ _=>(match o.dst with
  |some d=>[d]
  |none=>[])
 | .store _ x _=>(acZ x).flatMap (nZ F.p.box)
 | .call c=>(match c.callee with
  | .builtin _=>[]
  |_=>(match o.dst with
   |some d=>CN (nZ F.p.box d) (mQ F.p.box (yb o))
   |none=>mQ F.p.box (yb o)))
 |_=>[]
def Fi.Zw(F:Fi)(a:M Oper):M De:=
 let c:=akJ a []
 a.zipIdx.map λp=>⟨p.2,p.1,ait p.1,c.zipIdx.foldr (λq m=>if Ag q.1 p.2 then ll (bt_ q.2) m else m) 0,!F.OT p.1,F.tch p.1⟩
def Fi.aqt(F:Fi)(c:M Oper):NL:=
 let g:=c.foldr (λo m=>ll (af6 o) m) 0
 let e:=c.foldr (λo l=>if F.OT o then (match o.dst with
  |some d=>d::l
  |none=>l) else l) []
 let f:=c.foldr (λo l=>CN (yb o) l) []
 f.filter λa=>!Ag g a && !(nZ F.p.row a).isEmpty && (nZ F.p.box a).isEmpty && (nZ F.p.row a).all λr=>!yw r F.bad && !yw r e && !(jZ 1000 r && yw (xt (Nat.div r 1000) 1) e)
def Fi.quiet(F:Fi)(Zw:M De)(c:NL)(done:Nat)(x:De):Bool:=x.q && match x.o.op with
 | .load _ (.tmp a)=>!(!(nZ F.p.row a).isEmpty && (nZ F.p.box a).isEmpty && !ajS (nZ F.p.row a) c) &&
   !(Zw.any λy=>!Ag done y.i && !Ag x.de y.i && abv y.tch (nZ F.p.box a))
 |_=>I
def aaj(done:Nat)(p:De->Bool):M De->u De
 |[]=>O
 |x::l=>if !Ag done x.i && agO x.on done && p x then Z x else aaj done p l
def aaW(o:Oper):Bool:=match o.op with
 | .load _ _=>I
 |_=>J
def af0(ins:Oper->u KI)(k:Nat->u (KT×Nat))(done:Nat):M De->u (KT×Nat)
 |[]=>O
 |x::l=>match ins x.o,k (ll (bt_ x.i) done) with
  |some i,Z (t,q)=>match l with
   |[]=>Z (.op ⟨x.i,J,[],[],i⟩ t,q)
   |l=>match af0 ins k done l with
    |some (r,a)=>Z (.alt ⟨x.i,J,[],[],i⟩ t r,ll q a)
    |none=>O
  |_,_=>O
def Fi.draw(F:Fi)(Zw:M De)(a:NL)(ins:Oper->u KI):Nat->Nat->u (KT×Nat)
 |0,done=>Z (.nil,0)
 |n+1,done=>match aaj done (F.quiet Zw a done) Zw with
  |some x=>match ins x.o,F.draw Zw a ins n (ll (bt_ x.i) done) with
   |some i,Z (t,q)=>Z (.op ⟨x.i,I,if aaW x.o then aim Zw.length x.de else [],if aaW x.o then aim Zw.length (af3 x.de q) else [],i⟩ t,ll (bt_ x.i) q)
   |_,_=>O
  |none=>af0 ins (F.draw Zw a ins n) done (Zw.filter λx=>!Ag done x.i && agO x.on done)
def KT.alts:KT->Bool
 | .nil=>J
 | .op _ t=>t.alts
 | .alt _ _ _=>I
def ag_(l:NL)(k:K):K:=l.foldr .DV k
def aqy:M Oper->Nat
 |o::_=>(match o.dst with
  |some d=>d+1
  |none=>0)
 |[]=>0
def Fi.kr(F:Fi)(a:M Oper):u (M Nat):=match look F.Q.ags (F.cur+1000000 * aqy a) with
 |some r=>Z r
 |none=>look F.Q.ags F.cur
def Fi.drawn(F:Fi)(a:M Oper)(live:Nat):u K:=
 let DV:=F.aqt a
 match F.draw (F.Zw a) (mQ F.p.row DV) (F.ins a) a.length 0 with
 |some (t,_)=>match F.kr a with
  |some r=>if t.alts then Z (ag_ (DV++nZ F.Q.aqs F.cur) (.ZH t {F.ey live with r:=r })) else Z (ag_ DV (.ZH t (F.ey live)))
  |none=>Z (ag_ DV (.ZH t (F.ey live)))
 |none=>O
def aqz(a:M (Nat×Nat))(id:Nat):Nat:=match look a id with
 |some l=>l
 |none=>0
def ahn(f:Nat->Nat):Nat->Nat->Nat
 |0,l=>l
 |n+1,l=>match gH (ll (f l) l) l with
  |true=>l
  |false=>ahn f n (ll (f l) l)
def Fi.lv(F:Fi):Code->Nat->M (Nat×Nat)->Nat
 | .skip,l,_=>l
 | .ret,_,_=>F.rl
 | .seq a b,l,ex=>F.lv a (F.lv b l ex) ex
 | .cond c a b,l,ex=>ll ((acZ c).foldr (λe m=>ll (bt_ e) m) 0) (ll (F.lv a l ex) (F.lv b l ex))
 | .block id a,l,ex=>F.lv a l ((id,l)::ex)
 | .exit id,_,ex=>aqz ex id
 | .loop a,_,ex=>ahn (λl=>F.lv a l ex) 9 0
 | .region _ ops _,l,_=>ath ops.toList l
 |_,l,_=>l
def agt:Code->Code
 | .seq _ b=>agt b
 |c=>c
def Fi.shares(F:Fi)(c:Code):NL:=match c with
 | .region _ ops _=>(nZ F.Q.share F.cur).filter λr=>ops.toList.any λo=>match o.dst with
  |some d=>gH r d ||(jZ 1000000 r && gH (xt r 1000000) d) ||(jZ 1000 r && eP r 1000000 && gH (xt (Nat.div r 1000) 1) d)
  |none=>J
 | .block id _=>(nZ F.Q.share F.cur).filterMap λa=>if jZ 7000000 a && gH (Nat.div (xt a 7000000) 1000) id then Z (Nat.add 1000000 (Nat.mod a 1000)) else O
 | .seq _ b=>(match agt b with
  | .block id _=>(nZ F.Q.share F.cur).filterMap λa=>if jZ 7000000 a && gH (Nat.div (xt a 7000000) 1000) id then Z (Nat.add 1000000 (Nat.mod a 1000)) else O
  |_=>[])
 |_=>[]
def PC(a:NL):K->Code->K
 | .DV r k,c=>.DV r (PC a k c)
 | .share r k,c=>.share r (PC a k c)
 | .seq x y,.seq _ b=>.seq x (PC a y b)
 | .skip,.skip=>a.foldr .DV .skip
 |k,.ret=>k
 |k,.exit _=>k
 |k,_=>a.foldl (λk d=>.seq k (.DV d .skip)) k
def Fi.ale(F:Fi):Operand->NL
 | .tmp t=>(nZ F.Q.share F.cur).filterMap λa=>if jZ 3000000 a && gH (Nat.div (xt a 3000000) 1000) t then Z (Nat.mod a 1000) else O
 |_=>[]
def Fi.code(F:Fi):Code->Nat->M (Nat×Nat)->u K
 | .skip,l,_=>Z (if yw 4000000 (nZ F.Q.share F.cur) then .Uz [] (F.ey l) else .skip)
 | .ret,_,_=>Z .ret
 | .seq a b,l,ex=>match F.code b l ex,F.code a (F.lv b l ex) ex with
  |some y,Z x=>Z (.seq x ((F.shares a).foldr (λr k=>if jZ 1000000 r then (if Ag (F.lv b l ex) (xt r 1000000) then .DV (xt r 1000000) k else k) else .share r k) y))
  |_,_=>O
 | .cond c a b,l,ex=>match tX F.Q.P O c,F.code a l ex,F.code b l ex with
  |some f,Z x,Z y=>Z (match F.ale c with
   |[]=>.cond f x y
   |e=>.cond f (PC e x a) (PC e y b))
  |_,_,_=>O
 | .block id a,l,ex=>(F.code a l ((id,l)::ex)).map (.block id)
 | .exit id,_,_=>Z (.exit id)
 | .loop a,_,ex=>(F.code a (ahn (λl=>F.lv a l ex) 9 0) ex).map .loop
 | .region _ ops J,l,_=>(ig (F.ins ops.toList) ops.toList).map λg=>.Uz g (F.ey l)
 | .region _ ops I,l,_=>F.drawn ops.toList l
 |_,_,_=>O
def aqh(Q:TP)(p:Pt)(o:Oper):NL:=match o.op with
 | .store _ x v=>CN (XK p x) (XK p v)
 | .slice _ x _ _ _=>XK p x
 | .buildSlice _ _ _=>mQ p.row (yb o)
 | .build _ _=>mQ p.row (yb o)
 | .box _ _=>mQ p.row (yb o)
 | .call c=>(match c.callee with
  | .builtin .append=>mQ p.row (yb o)
  | .value (.func F)=>(match aaT Q.ids F with
   |some g=>if yw g Q.mks ||apr (Z g) then mQ p.row (yb o) else []
   |none=>[])
  |_=>[])
 |_=>[]
def atj(P:Program)(R:TypeId):ResultVar->u KR
 | .tmp t=>Z (match XD P R with
  |some _=>.b t
  |none=>.t t)
 | .cell a T=>match Kf P T with
  |some I=>Z (.c a (tq P T))
  |some J=>Z (.c a 0)
  |none=>O
def ati:ResultVar->Nat
 | .tmp t=>t
 | .cell a _=>a
def pt0(P:Program)(k nfree:Nat):M TypeId->Pt
 |[]=>(cC nfree).foldr (λj p=>⟨sd (k+j) [900+k+j] p.box,p.row,At (900+k+j) p.MX⟩) ⟨[],[],[]⟩
 |T::b=>let p:=pt0 P (k+1) nfree b
  match XD P T with
  |some a=>⟨sd k [900+k] p.box,p.row,At (900+k) (sd (900+k) ((Km P a).map (vg (k+1400))) p.MX)⟩
  |none=>p
def mB(P:Program):Nat->M TypeId->NL
 |_,[]=>[]
 |k,T::a=>match XD P T with
  |some _=>k::mB P (k+1) a
  |none=>mB P (k+1) a
def toF(Q:TP)(f:Nat):u KF:=
 match (look Q.ids f).bind λF=>Q.P.funcs[F]? with
 |some fn=>match fn.body,ig (λp:ResultVar×TypeId=>atj Q.P p.2 p.1) (fn.results.toList.zip fn.resultTypes.toList) with
  |some c,Z res=>
   let g:=mB Q.P 0 fn.params.toList++(cC fn.nfree).map (fn.params.size+·)
   let d:=CN (fn.results.toList.map ati) g
   let b:=RC c
   let p:=alF (λp=>b.foldl (ptO Q f) p) 9 0 (pt0 Q.P 0 fn.nfree fn.params.toList)
   let e:=CN (mQ p.row d) (CN (p.MX.foldr (λx l=>CN x.2 l) []) (b.foldr (λo l=>CN (aqh Q p o) l) []))
   match (Fi.mk Q f fn.ntmps p (d.foldr (λa m=>ll (bt_ a) m) 0) (g.map (900+·)) e).code c ((d.foldr (λa m=>ll (bt_ a) m) 0)) []with
   |some k=>Z ⟨fn.params.size+fn.nfree,k,res⟩
   |none=>O
  |_,_=>O
 |none=>O
section
open Go.RowKit
def ids:M (Nat×Nat):=[(1,99),(2,62),(3,44),(4,12),(5,48),(6,15),(9,53),(10,19),(16,54),(17,21),(21,67),(39,298),(45,131),(46,84),(47,83),(48,318),(49,297),(50,264),(51,220),(52,176),(53,132),(54,85),(55,43),(56,11),(59,184),(60,139),(61,96),(62,95),(63,319),(64,302),(65,278),(66,230),(67,185),(68,140),(69,97),(70,47),(71,14),(74,76),(75,114),(76,155),(77,195),(78,156),(79,61),(80,108),(81,75),(82,117),(92,123),(93,141),(94,126),(95,127),(96,128),(97,172),(98,102),(99,189),(108,193),(109,152),(110,103),(111,105),(112,321),(113,308),(114,282),(115,237),(116,194),(117,153),(118,106),(119,52),(120,18),(124,70),(125,28),(126,29),(127,6),(128,77),(129,34),(130,35),(131,8),(135,196),(136,251),(137,213),(138,238),(139,197),(140,157),(141,109),(142,63),(144,82),(145,41),(146,42),(147,10),(148,55),(149,56),(150,154),(151,107),(152,57),(153,20),(154,64),(155,65),(156,26),(157,110),(158,59),(159,198),(160,158),(161,111),(162,66),(163,68),(164,69),(165,27),(201,112),(202,199),(203,272),(204,33),(205,205),(206,299),(207,300),(208,273),(209,228),(210,200),(211,201),(212,239),(213,204),(214,202),(215,240),(216,323),(217,265),(218,267),(219,348),(220,339),(221,340),(222,331),(223,309),(224,332),(225,322),(226,283),(227,241),(228,203),(229,284),(230,242),(231,243),(232,244),(233,324),(234,310),(235,285),(236,245),(237,206),(238,163),(239,159),(240,113),(241,71),(242,73),(243,87),(244,164),(245,118),(246,74),(247,89),(248,165),(249,119),(250,32),(255,120),(256,121),(257,166),(258,246),(259,286),(260,247),(261,207),(262,287),(263,311),(264,40),(265,252),(266,214),(267,288),(268,248),(269,208),(270,209),(271,210),(272,211),(273,289),(274,249),(275,326),(276,349),(277,353),(278,350),(279,341),(280,312),(281,342),(282,333),(283,325),(284,290),(285,250),(286,212),(287,259),(288,260),(303,261),(308,317),(309,296),(310,262),(311,218),(312,173),(313,167),(314,168),(315,122),(316,78),(317,80),(320,174),(321,129),(322,81),(323,263),(324,219),(325,175),(326,130),(327,38),(333,236),(391,266),(392,268),(393,269),(394,270),(395,221),(396,177),(397,223),(398,224),(399,301),(400,271),(401,222),(402,225),(406,178),(413,179),(417,160),(418,162),(419,161),(420,115),(421,136),(422,116),(423,72),(424,30),(447,133),(448,86),(449,45),(450,134),(451,226),(452,227),(453,180),(454,181),(455,137),(456,182),(457,274),(458,276),(459,275),(460,277),(461,229),(462,183),(463,138),(464,93),(465,94),(466,88),(467,46),(468,92),(469,91),(470,135),(471,90),(472,13),(473,31),(474,169),(475,170),(476,124),(477,313),(478,327),(479,314),(480,291),(481,253),(482,215),(483,255),(484,294),(485,257),(486,254),(487,292),(488,293),(489,256),(490,258),(491,216),(492,217),(493,171),(494,125),(495,79),(496,36),(497,142),(498,98),(499,49),(501,146),(502,143),(503,235),(504,280),(505,281),(506,147),(507,234),(508,190),(509,231),(510,303),(511,305),(512,320),(513,304),(514,306),(515,279),(516,232),(517,186),(518,144),(519,145),(520,100),(521,50),(522,148),(525,101),(526,16),(527,37),(532,104),(533,51),(534,17),(535,58),(536,22),(537,60),(538,23),(539,4),(540,188),(541,307),(542,151),(543,150),(544,7),(545,39),(546,9),(547,3),(548,24),(549,25),(550,5),(9001,295),(9002,315),(9003,192),(9004,330),(9007,187),(9008,149)]
def num(f:Nat):FuncId:=match look ids f with
 |some F=>F
 |none=>1000000
noncomputable def tp:TP:=⟨Tryz.prog,ids,[153,17,536,156,16,148,149,152,535,154,155,151,150],[547,539,550],[(475,[28]),(519,[1401001]),(9000465,[1401001]),(25000467,[24,1401001]),(30000423,[29]),(78,[14002]),(282,[20]),(234,[8000,119000])],[(544,[4000000]),(546,[4000000]),(476,[1000020]),(504,[1000004]),(475,[4000000,1000011]),(525,[4000000,7000011]),(507,[4000000,1000008,1000006,7001008]),(501,[1000005]),(526,[1000007]),(515,[4000000]),(520,[4000000]),(522,[4000000]),(477,[4000000]),(458,[1000002]),(451,[1000004]),(454,[1000007]),(448,[4000000,1000005]),(455,[4000000]),(461,[4000000]),(466,[4000000]),(467,[4000000]),(469,[4000000]),(471,[4000000]),(453,[4000000,1000007,1000006,3035007,7001007]),(472,[1000007]),(418,[1000006]),(420,[1000008]),(225,[5]),(283,[4]),(223,[6]),(280,[6]),(2,[1000002])],[(282,[3])],[(453,[7]),(234,[7]),(507,[8])]⟩
def klp:K->M K
 | .seq a b=>klp b++klp a
 | .cond _ a b=>klp a++klp b
 | .block _ a=>klp a
 | .loop a=>klp a++[a]
 | .share _ a=>klp a
 | .DV _ a=>klp a
 |_=>[]
noncomputable def kx(f:Nat):KF:=match toF tp f with
 |some k=>k
 |none=>⟨0,.skip,[]⟩
noncomputable def kb(f j:Nat):K:=match nth (klp (kx f).body) j with
 |some b=>b
 |none=>.skip
theorem aM{a:Type}(l:M a):Array.mk l=l.toArray:=(rfl)
def uM(n:Nat)(h:n<2 ^ 8):UInt8.ofBitVec (BitVec.ofFin (Fin.mk n h))=dT n:=by rw[dT];congr 2;exact Fin.ext (Nat.mod_eq_of_lt h).symm
attribute [go_sem] Int.reduceOfNat Int.reduceNegSucc aM uM UInt8.reduceOfNat
noncomputable section
def As:K:=by refine (?f:kb 276 0=?t->K) ?p;exact λ_=>?t;conv=>lhs;reduce
def amy:KF:=by refine (?f:kx 276=?t->KF) ?p;exact λ_=>?t;conv=>lhs;reduce;rw[<- As.eq_1]
def anV:okF Tryz.prog num 276 amy=I:=by kernel_rfl
def wV:K:=by refine (?f:kb 279 0=?t->K) ?p;exact λ_=>?t;conv=>lhs;reduce
def px:K:=by refine (?f:kb 279 1=?t->K) ?p;exact λ_=>?t;conv=>lhs;reduce
def jg:K:=by refine (?f:kb 279 2=?t->K) ?p;exact λ_=>?t;conv=>lhs;reduce;rw[<- px.eq_1]
def amz:KF:=by refine (?f:kx 279=?t->KF) ?p;exact λ_=>?t;conv=>lhs;reduce;rw[<- wV.eq_1,<- px.eq_1,<- jg.eq_1]
def anW:okF Tryz.prog num 279 amz=I:=by kernel_rfl
def aij:K:=by refine (?f:kb 16 0=?t->K) ?p;exact λ_=>?t;conv=>lhs;reduce
def k16:KF:=by refine (?f:kx 16=?t->KF) ?p;exact λ_=>?t;conv=>lhs;reduce;rw[<- aij.eq_1]
def arp:okF Tryz.prog num 16 k16=I:=by kernel_rfl
def aik:K:=by refine (?f:kb 17 0=?t->K) ?p;exact λ_=>?t;conv=>lhs;reduce
def k17:KF:=by refine (?f:kx 17=?t->KF) ?p;exact λ_=>?t;conv=>lhs;reduce;rw[<- aik.eq_1]
def arq:okF Tryz.prog num 17 k17=I:=by kernel_rfl
def ail:K:=by refine (?f:kb 21 0=?t->K) ?p;exact λ_=>?t;conv=>lhs;reduce
def k21:KF:=by refine (?f:kx 21=?t->KF) ?p;exact λ_=>?t;conv=>lhs;reduce;rw[<- ail.eq_1]
def ars:okF Tryz.prog num 21 k21=I:=by kernel_rfl
def aen:K:=by refine (?f:kb 148 0=?t->K) ?p;exact λ_=>?t;conv=>lhs;reduce
def amg:KF:=by refine (?f:kx 148=?t->KF) ?p;exact λ_=>?t;conv=>lhs;reduce;rw[<- aen.eq_1]
def anD:okF Tryz.prog num 148 amg=I:=by kernel_rfl
def aeo:K:=by refine (?f:kb 149 0=?t->K) ?p;exact λ_=>?t;conv=>lhs;reduce
def amh:KF:=by refine (?f:kx 149=?t->KF) ?p;exact λ_=>?t;conv=>lhs;reduce;rw[<- aeo.eq_1]
def anE:okF Tryz.prog num 149 amh=I:=by kernel_rfl
def aep:K:=by refine (?f:kb 150 0=?t->K) ?p;exact λ_=>?t;conv=>lhs;reduce
def ami:KF:=by refine (?f:kx 150=?t->KF) ?p;exact λ_=>?t;conv=>lhs;reduce;rw[<- aep.eq_1]
def anF:okF Tryz.prog num 150 ami=I:=by kernel_rfl
def aeq:K:=by refine (?f:kb 151 0=?t->K) ?p;exact λ_=>?t;conv=>lhs;reduce
def amj:KF:=by refine (?f:kx 151=?t->KF) ?p;exact λ_=>?t;conv=>lhs;reduce;rw[<- aeq.eq_1]
def anG:okF Tryz.prog num 151 amj=I:=by kernel_rfl
def aer:K:=by refine (?f:kb 152 0=?t->K) ?p;exact λ_=>?t;conv=>lhs;reduce
def amk:KF:=by refine (?f:kx 152=?t->KF) ?p;exact λ_=>?t;conv=>lhs;reduce;rw[<- aer.eq_1]
def anH:okF Tryz.prog num 152 amk=I:=by kernel_rfl
def aes:K:=by refine (?f:kb 153 0=?t->K) ?p;exact λ_=>?t;conv=>lhs;reduce
def aml:KF:=by refine (?f:kx 153=?t->KF) ?p;exact λ_=>?t;conv=>lhs;reduce;rw[<- aes.eq_1]
def anI:okF Tryz.prog num 153 aml=I:=by kernel_rfl
def aet:K:=by refine (?f:kb 154 0=?t->K) ?p;exact λ_=>?t;conv=>lhs;reduce
def amm:KF:=by refine (?f:kx 154=?t->KF) ?p;exact λ_=>?t;conv=>lhs;reduce;rw[<- aet.eq_1]
def anJ:okF Tryz.prog num 154 amm=I:=by kernel_rfl
def amn:KF:=by refine (?f:kx 155=?t->KF) ?p;exact λ_=>?t;conv=>lhs;reduce
def anK:okF Tryz.prog num 155 amn=I:=by kernel_rfl
def amo:KF:=by refine (?f:kx 156=?t->KF) ?p;exact λ_=>?t;conv=>lhs;reduce
def anL:okF Tryz.prog num 156 amo=I:=by kernel_rfl
def aeu:K:=by refine (?f:kb 157 0=?t->K) ?p;exact λ_=>?t;conv=>lhs;reduce
def amp:KF:=by refine (?f:kx 157=?t->KF) ?p;exact λ_=>?t;conv=>lhs;reduce;rw[<- aeu.eq_1]
def anM:okF Tryz.prog num 157 amp=I:=by kernel_rfl
def aev:K:=by refine (?f:kb 158 0=?t->K) ?p;exact λ_=>?t;conv=>lhs;reduce
def amq:KF:=by refine (?f:kx 158=?t->KF) ?p;exact λ_=>?t;conv=>lhs;reduce;rw[<- aev.eq_1]
def anN:okF Tryz.prog num 158 amq=I:=by kernel_rfl
def aew:K:=by refine (?f:kb 159 0=?t->K) ?p;exact λ_=>?t;conv=>lhs;reduce
def amr:KF:=by refine (?f:kx 159=?t->KF) ?p;exact λ_=>?t;conv=>lhs;reduce;rw[<- aew.eq_1]
def anO:okF Tryz.prog num 159 amr=I:=by kernel_rfl
def aex:K:=by refine (?f:kb 160 0=?t->K) ?p;exact λ_=>?t;conv=>lhs;reduce
def ams:KF:=by refine (?f:kx 160=?t->KF) ?p;exact λ_=>?t;conv=>lhs;reduce;rw[<- aex.eq_1]
def anP:okF Tryz.prog num 160 ams=I:=by kernel_rfl
def aey:K:=by refine (?f:kb 161 0=?t->K) ?p;exact λ_=>?t;conv=>lhs;reduce
def amt:KF:=by refine (?f:kx 161=?t->KF) ?p;exact λ_=>?t;conv=>lhs;reduce;rw[<- aey.eq_1]
def anQ:okF Tryz.prog num 161 amt=I:=by kernel_rfl
def aez:K:=by refine (?f:kb 162 0=?t->K) ?p;exact λ_=>?t;conv=>lhs;reduce
def amu:KF:=by refine (?f:kx 162=?t->KF) ?p;exact λ_=>?t;conv=>lhs;reduce;rw[<- aez.eq_1]
def anR:okF Tryz.prog num 162 amu=I:=by kernel_rfl
def aeA:K:=by refine (?f:kb 163 0=?t->K) ?p;exact λ_=>?t;conv=>lhs;reduce
def amv:KF:=by refine (?f:kx 163=?t->KF) ?p;exact λ_=>?t;conv=>lhs;reduce;rw[<- aeA.eq_1]
def anS:okF Tryz.prog num 163 amv=I:=by kernel_rfl
def amw:KF:=by refine (?f:kx 164=?t->KF) ?p;exact λ_=>?t;conv=>lhs;reduce
def anT:okF Tryz.prog num 164 amw=I:=by kernel_rfl
def amx:KF:=by refine (?f:kx 165=?t->KF) ?p;exact λ_=>?t;conv=>lhs;reduce
def anU:okF Tryz.prog num 165 amx=I:=by kernel_rfl
def aeB:K:=by refine (?f:kb 535 0=?t->K) ?p;exact λ_=>?t;conv=>lhs;reduce
def amB:KF:=by refine (?f:kx 535=?t->KF) ?p;exact λ_=>?t;conv=>lhs;reduce;rw[<- aeB.eq_1]
def anY:okF Tryz.prog num 535 amB=I:=by kernel_rfl
def aeC:K:=by refine (?f:kb 536 0=?t->K) ?p;exact λ_=>?t;conv=>lhs;reduce
def amC:KF:=by refine (?f:kx 536=?t->KF) ?p;exact λ_=>?t;conv=>lhs;reduce;rw[<- aeC.eq_1]
def anZ:okF Tryz.prog num 536 amC=I:=by kernel_rfl
def aeD:K:=by refine (?f:kb 537 0=?t->K) ?p;exact λ_=>?t;conv=>lhs;reduce
def amD:KF:=by refine (?f:kx 537=?t->KF) ?p;exact λ_=>?t;conv=>lhs;reduce;rw[<- aeD.eq_1]
def an0:okF Tryz.prog num 537 amD=I:=by kernel_rfl
def aeE:K:=by refine (?f:kb 538 0=?t->K) ?p;exact λ_=>?t;conv=>lhs;reduce
def amE:KF:=by refine (?f:kx 538=?t->KF) ?p;exact λ_=>?t;conv=>lhs;reduce;rw[<- aeE.eq_1]
def an1:okF Tryz.prog num 538 amE=I:=by kernel_rfl
def amA:KF:=by refine (?f:kx 333=?t->KF) ?p;exact λ_=>?t;conv=>lhs;reduce
def anX:okF Tryz.prog num 333 amA=I:=by kernel_rfl
def fs:M Nat:=[1,2,3,4,5,6,9,10,39,45,46,47,48,49,50,51,52,53,54,55,56,59,60,61,62,63,64,65,66,67,68,69,70,71,74,75,76,77,78,79,80,81,82,92,93,94,95,96,97,98,99,108,109,110,111,112,113,114,115,116,117,118,119,120,124,125,126,127,128,129,130,131,135,136,137,138,139,140,141,142,144,145,146,147,201,202,203,204,205,206,207,208,209,210,211,212,213,214,215,216,217,218,219,220,221,222,223,224,225,226,227,228,229,230,231,232,233,234,235,236,237,238,239,240,241,242,243,244,245,246,247,248,249,250,255,256,257,258,259,260,261,262,263,264,265,266,267,268,269,270,271,272,273,274,275,277,278,280,281,282,283,284,285,286,287,288,303,308,309,310,311,312,313,314,315,316,317,320,321,322,323,324,325,326,327,391,392,393,394,395,396,397,398,399,400,401,402,406,413,417,418,419,420,421,422,423,424,447,448,449,450,451,452,453,454,455,456,457,458,459,460,461,462,463,464,465,466,467,468,469,470,471,472,473,474,475,476,477,478,479,480,481,482,483,484,485,486,487,488,489,490,491,492,493,494,495,496,497,498,499,501,502,503,504,505,506,507,508,509,510,511,512,513,514,515,516,517,518,519,520,521,522,525,526,527,532,533,534,540,541,542,543,544,545,546,547,548,549]
def afQ:M (Nat×KF):=[(276,amy),(279,amz),(16,k16),(17,k17),(21,k21),(148,amg),(149,amh),(150,ami),(151,amj),(152,amk),(153,aml),(154,amm),(155,amn),(156,amo),(157,amp),(158,amq),(159,amr),(160,ams),(161,amt),(162,amu),(163,amv),(164,amw),(165,amx),(535,amB),(536,amC),(537,amD),(538,amE),(9001,⟨999,.skip,[]⟩),(9002,⟨999,.skip,[]⟩),(9003,⟨999,.skip,[]⟩)]
noncomputable def T(f:Nat):u KF:=match look afQ f with
 |some k=>Z k
 |none=>if yw f fs=I then toF tp f else O
end
end
noncomputable def txk(h:M Nat)(i:Nat)(a:KF):u ST:=match look o0 i with
 |some b=>match eP a.np 999 with
  |true=>acE h o0 a b
  |false=>O
 |none=>O
noncomputable def tT(i:Nat):u KF:=match look o0 i with
 |some a=>T a.f
 |none=>O
noncomputable def tx(h:M Nat)(i:Nat):u ST:=match tT i with
 |some a=>txk h i a
 |none=>O
def mO{h:M Nat}{i:Nat}{r t:ST}(b:tx h i=Z r)(a:r=t):tx h i=Z t:=a▸b
noncomputable def rx(h:M Nat)(i:Nat)(a:KF):ST:=match txk h i a with
 |some t=>t
 |none=>.nil
def adF(i:Nat)(a:M D):u (M A):=match look o0 i with
 |some b=>gU b.args a
 |none=>O
def exs:M Nat:=[9001,9002,9003]
noncomputable def cg1(p:Nat×pe):Bool:=match T p.2.f with
 |some a=>yw p.2.f exs ||(okF Tryz.prog num p.2.f a && (p.2.args.length ==a.np && eP a.np 999 && decide p.2.res.Nodup && eP p.2.f 100000))
 |none=>jZ 100000 p.2.f
noncomputable def Bq:M (Nat×pe)->Bool
 |[]=>I
 |p::l=>cg1 p && Bq l
theorem pg{a b:Nat}(h:Bq ((o0.drop a).take b)=I)(c:∀p∈o0.drop (a+b),cg1 p=I):∀p∈o0.drop a,cg1 p=I:=by rw[<- zn]at c;revert h c;generalize o0.drop a=l;induction b generalizing l with|zero=>{exact λ_ h=>h}|succ b e=>intro h c;cases l with|nil=>{exact c}|cons p l=>simp only[cy,Bq,aw]at h;intro q d;rcases aU.1 d with rfl|d;{exact h.1};exact e l h.2 c q d
structure R_ (h:List Nat) (i:Nat) where
 t:ST
 ok:tx h i=some t
def Xk:ST->M ST
 | .cons a b=>Xk a++Xk b
 | .op _ _ _ t=>Xk t
 | .gd _ a b=>Xk a++Xk b
 | .call _ _ c=>Xk c
 | .map _ t=>Xk t
 | .seq t c=>Xk t++Xk c
 | .loop _ _ d=>Xk d++[d]
 | .both a b=>Xk a++Xk b
 |_=>[]
def lq(t:ST)(j:Nat):ST:=match nth (Xk t) j with
 |some b=>b
 |none=>.nil
noncomputable def lp(h:M Nat)(i j:Nat):ST:=match tx h i with
 |some t=>lq t j
 |none=>.nil
end Go.Proofs.YtbnmicpicjmgiaaGreatDoor
