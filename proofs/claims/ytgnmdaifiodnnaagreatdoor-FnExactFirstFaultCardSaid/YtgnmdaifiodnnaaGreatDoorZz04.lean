/- Part of the proof. Condition: none. -/
import Derived.Test.YtgnmdaifiodnnaaGreatDoorProg
import Derived.Test.YtgnmdaifiodnnaaGreatDoorZz03
set_option linter.all false
open Bool renaming and_eq_true->aw,true->I,false->J
open List renaming mem_cons->aU,replicate->a_,range->cH,take_succ_cons->cT,drop_drop->zo
open Nat renaming blt->eP,beq->gI,ble->jX,lor->lz,sub->xx
open UInt8 renaming ofNat->dW
open Option renaming some->Z,none->O
namespace Go.Proofs.YtgnmdaifiodnnaaGreatDoor
set_option maxRecDepth 100000
set_option maxHeartbeats 400000000
abbrev v1:SA:=.val J [.d]
abbrev v_(n:Nat):SA:=.val I (a_ n .d)
def tV:zw:=.row 1 I I I J
def pW:zw:=.row 3 J I I J
def qH:zw:=.row 3 I I I J
def N5:zw:=.row 7 J I I J
def N6:zw:=.row 2 I I I J
def QD:zw:=.row 2 J I I J
def Vm:zw:=.row 19 J I I J
def Z4:zw:=.row 3 J J I I
def agN:zw:=.row 3 J J I J
def apr:zw:=.row 1 I I I I
def afz:zw:=.row 19 J J I J
def aps:M (M SA×M SA):=[([v1],[])]
def E9:M (M SA×M SA):=[([.val J [tV]],[])]
def H_:M (M SA×M SA):=[([v1,v1],[])]
def Ia:M (M SA×M SA):=[([],[.box [.d,pW]])]
def QE:M (M SA×M SA):=[([.val J [pW]],[])]
def QF:M (M SA×M SA):=[([.val I [.d,.d,.d,.d,tV]],[])]
def Z9:M (M SA×M SA):=[([v1],[.box [qH,.d,.d,.d]])]
def Z_:M (M SA×M SA):=[([v1],[.box [qH,.d,.d]])]
def ade:M (M SA×M SA):=[([.val I [.d,.d,QD]],[])]
def adf:M (M SA×M SA):=[([v_ 3],[.box [.d,.d,.d]]),([.val I [.d,.d,Z4]],[.box [.d,.d,.d]])]
def Td:M (M SA×M SA):=[([.val J [tV],v1],[]),([.val J [apr],v1],[])]
def Z5:M (M SA×M SA):=[([v1],[.box [.d,.d,.d]])]
def Z6:M (M SA×M SA):=[([.val J [Vm]],[])]
def Z7:M (M SA×M SA):=[([.val I [.d,.d,pW]],[])]
def Z8:M (M SA×M SA):=[([v1,.val J [tV]],[])]
def afA:M (M SA×M SA):=[([.val I [.d,.d,.d,N6,tV,.d,.d,tV,tV,.d,.d,.d,.d,.d,.d,.d,N5,N5,Vm]],[])]
def afB:M (M SA×M SA):=[([.val I [.d,.d,.d,N6,tV,.d,.d,tV,tV,.d,.d,.d,.d,.d,.d,.d,N5,N5,Vm],v1],[]),([v_ 19,v1],[])]
def afC:M (M SA×M SA):=[([.val I [.d,N6,tV,.d,.d]],[])]
def afD:M (M SA×M SA):=[([.val I [.d,.d,.d,.d,.d,QD,N5]],[])]
def afE:M (M SA×M SA):=[([.val I [.d,.d,pW],v1],[]),([v_ 3,v1],[]),([.val I [.d,.d,Z4],v1],[])]
def afF:M (M SA×M SA):=[([.val I [.d,.d,pW],v1],[]),([v_ 3,v1],[])]
def afG:M (M SA×M SA):=[([.val J [pW]],[]),([.val J [agN]],[])]
def afH:M (M SA×M SA):=[([v1],[.box [.d,.d,.d,.d,.d,.d,.d,.d,.d,.d,.d,.d,.d,.d,.d,.d,.d,.d,.d],.box [.d],.box [.d]])]
def fS:M SA:=[v1,v1]
def gr:M SA:=[v1]
def Dk:M SA:=[v_ 3]
def E5:M SA:=[v_ 5]
def KL:M SA:=[.box [.d,.d,.d]]
def N1:M SA:=[v1,v1,v1]
def Vk:M SA:=[v_ 3,v1]
def Vl:M SA:=[v1,v1,v_ 3]
def I9:M SA:=[v1,v1,v_ 7]
def S6:M SA:=[.box [qH,.d,.d,.d],v1]
def S7:M SA:=[.box [.d,pW],v_ 19,v1,v1,v1]
def S8:M SA:=[.box [qH,.d,.d]]
def S9:M SA:=[.box [qH,.d,.d],v1]
def afx:M SA:=[v1,.box [.d,.d,.d,.d,.d,.d,.d,.d,.d,.d,.d,.d,.d,.d,.d,.d,.d,.d,.d],.box [.d],.box [.d]]
def fZ(i:Nat)(a:M SA)(r:M (M SA×M SA)):Nat×kP:=(i,⟨i,a,r⟩)
def fx(i:Nat)(a:M SA):Nat×kP:=fZ i a aps
def o9:M (Nat×kP):=[fZ 278 KL Z5,fx 277 gr,fZ 275 [.box [.d,.d,.d],v1] Z5,fx 250 fS,fx 327 fS,fx 258 gr,fx 241 gr,fx 316 gr,fx 259 gr,fx 201 fS,fx 255 gr,fx 240 [v1,v1,v1,v1],fx 256 gr,fx 315 N1,fZ 81 gr Z6,fx 242 fS,fZ 95 gr E9,fx 75 gr,fx 317 gr,fx 74 N1,fx 246 fS,fx 322 fS,fx 82 fS,fx 257 gr,fZ 94 gr [([.val J [Vm]],[]),([.val J [afz]],[])],fx 99 fS,fx 239 [v_ 19,v1],fZ 80 [v_ 19] afA,fx 245 [v_ 19,v_ 3],fZ 93 fS [([.val J [Vm],.val J [tV]],[]),([.val J [afz],.val J [tV]],[])],fx 96 fS,fx 313 [v_ 19],fx 249 [v1,v_ 3,v_ 3],fZ 97 fS afB,fx 202 gr,fZ 76 E5 afC,fZ 244 [v_ 19,v_ 3] [([.val J [tV],v1],[])],fx 238 [v_ 5,v1],fx 92 gr,fx 261 gr,fx 247 gr,fx 243 fS,fZ 237 [v_ 5,v1] H_,fx 210 fS,fZ 78 [v_ 7] afD,fx 260 gr,fZ 230 gr H_,fx 321 [v_ 19,v_ 3],fx 211 E5,fZ 79 gr Z6,fx 248 fS,fx 204 gr,fx 326 [v_ 19,v_ 3,v_ 3],fx 209 [v_ 7],fZ 77 Dk ade,fZ 229 gr H_,fx 214 [v_ 19],fx 269 fS,fx 228 E5,fx 312 [v_ 5,v1],fZ 320 [v_ 19,v_ 3] [([.val J [tV],v1],[])],fx 203 [v_ 7],fx 213 [v_ 19],fx 270 E5,fx 232 fS,fx 212 gr,fx 268 [v_ 7],fx 215 gr,fZ 311 [v_ 5,v1] H_,fx 9003 fS,fx 271 gr,fx 231 gr,fx 208 [v_ 7],fx 39 fS,fx 262 [v_ 7],fx 286 E5,fx 272 [v_ 19],fx 236 fS,fx 325 fS,fx 227 gr,fx 205 Dk,fx 274 gr,fx 267 [v_ 7],fx 206 Dk,fx 264 gr,fZ 226 gr afE,fx 324 fS,fx 273 gr,fZ 314 fS [([v_ 19,v1],[]),([.val I [.d,.d,.d,N6,tV,.d,.d,tV,tV,.d,.d,.d,.d,.d,.d,.d,N5,N5,Vm],v1],[])],fx 207 Dk,fx 263 Dk,fZ 223 KL adf,fx 323 gr,fZ 287 gr H_,fx 285 gr,fx 266 Dk,fZ 225 KL adf,fx 288 fS,fx 235 Vk,fZ 284 gr afE,fx 265 [v_ 2],fZ 222 KL [([.val I [.d,.d,pW]],[.box [.d,.d,.d]]),([v_ 3],[.box [.d,.d,.d]]),([.val I [.d,.d,Z4]],[.box [.d,.d,.d]])],fx 303 gr,fZ 234 [v_ 3,v1,v1] E9,fZ 280 KL adf,fZ 216 [.box [.d,.d,.d],v1] Z5,fx 310 fS,fx 9001 gr,fZ 283 KL adf,fZ 220 KL [([.val I [.d,.d,pW]],[.box [.d,.d,.d]])],fZ 233 fS E9,fx 309 Vk,fZ 282 KL [([.val I [.d,.d,agN]],[.box [.d,.d,.d]]),([v_ 3],[.box [.d,.d,.d]]),([.val I [.d,.d,Z4]],[.box [.d,.d,.d]]),([.val I [.d,.d,pW]],[.box [.d,.d,.d]])],fx 221 [],fx 219 gr,fZ 308 [v_ 3,v1,v1] E9,fZ 279 KL [([v_ 3],[.box [.d,.d,.d]]),([.val I [.d,.d,Z4]],[.box [.d,.d,.d]]),([.val I [.d,.d,pW]],[.box [.d,.d,.d]])],fx 217 gr,fZ 281 Dk Z7,fx 9002 fS,fZ 224 Dk Z7,fx 218 gr,fZ 396 gr [([.box [qH,.d,.d,.d]],[])],fZ 395 gr [([.val J [qH],v1],[])],fx 391 fS,fx 392 fS,fx 394 fS,fZ 393 gr H_,fZ 397 [.box [qH,.d,.d,.d],v1,v1] Z9,fZ 398 S6 Z9,fZ 401 S6 Z9,fZ 399 gr H_,fZ 400 S6 Z9,fZ 402 S6 [([],[.box [qH,.d,.d,.d]])],fZ 406 [.box [qH,.d,.d,.d]] [([.val I [.d,.d,QD]],[.box [qH,.d,.d,.d]])],fZ 424 gr Z8,fZ 413 [.box [qH,.d,.d,.d]] Z9,fZ 423 N1 [([v1,.val J [tV]],[]),([v1,v1],[])],fZ 98 fS E9,fx 420 N1,fZ 417 [v_ 7] QE,fZ 422 [v1,v1,v_ 5] Td,fZ 419 Vl Td,fZ 421 gr [([.val I [.d,.d,QD],v1],[])],fZ 418 fS afB,fZ 472 fS QE,fx 473 fS,fx 529 fS,fZ 449 fS [([.val J [pW],v1],[])],fZ 448 fS QE,fx 447 fS,fZ 467 [.box [.d,pW],v1,v1,v1,v1] Ia,fZ 466 S7 Ia,fZ 471 S7 Ia,fx 450 [v_ 19,v1],fZ 468 fS E9,fZ 464 [.box [.d,pW],v1,v1] [([v1],[.box [.d,pW]])],fZ 465 [.box [.d,pW],v1,v1,v1] Ia,fx 463 I9,fZ 469 [.box [.d,pW],v_ 19,v_ 3,v1,v1] Ia,fZ 462 I9 QF,fZ 455 Vl E9,fZ 461 I9 QF,fx 453 Vl,fx 470 [v_ 19,v_ 3,v_ 3],fx 456 E5,fx 451 fS,fZ 459 E5 H_,fZ 457 gr QF,fx 452 Vk,fx 458 E5,fx 460 N1,fZ 454 fS afF,fx 2 gr,fx 527 fS,fx 530 fS,fZ 526 fS QE,fZ 496 gr Z8,fZ 495 N1 Z8,fx 476 N1,fZ 499 fS [([.val J [pW],v1],[]),([.val J [agN],v1],[])],fZ 474 [v_ 7] QE,fZ 1 gr QE,fZ 137 Dk ade,fZ 494 [v1,v1,v_ 5] Td,fZ 136 Dk ade,fZ 475 Vl Td,fZ 498 fS afG,fZ 493 gr [([.val I [.d,.d,QD],v1],[]),([v_ 3,v1],[])],fZ 497 fS afG,fZ 482 gr [([.box [qH,.d,.d]],[])],fx 502 [v_ 19,v1],fZ 481 gr [([.val J [qH],v1],[])],fZ 506 fS E9,fx 501 fS,fZ 480 gr [([v_ 3,v1],[])],fZ 477 gr H_,fx 479 fS,fZ 491 S8 [([.val I [.d,.d,QD]],[.box [qH,.d,.d]]),([v_ 3],[.box [qH,.d,.d]])],fx 517 I9,fx 478 fS,fZ 486 S9 Z_,fZ 516 I9 QF,fZ 485 S9 Z_,fZ 515 I9 QF,fZ 101086 afx afH,fZ 484 [.box [qH,.d,.d],v1,v1] Z_,fZ 508 Vl E9,fZ 543 afx afH,fx 509 E5,fx 507 Vl,fZ 483 S8 [([v_ 3],[.box [qH,.d,.d]])],fx 542 [v_ 19,v_ 3,v_ 3],fx 504 fS,fZ 510 gr QF,fZ 503 fS afF,fZ 513 [v1,v_ 5,v_ 5] QF,fZ 511 E5 E9,fx 505 Vk,fZ 489 S8 [([.val I [.d,N6]],[.box [qH,.d,.d]])],fZ 101083 [v1,.box [.d,.d]] [([v1],[.box [.d,.d]])],fZ 541 [v_ 3,.box [.d,.d]] [([v1],[.box [.d,.d]])],fZ 490 [.box [qH,.d,.d],v_ 3] [([v_ 3],[.box [qH,.d,.d]])],fx 514 N1,fZ 512 gr H_,fZ 487 S9 Z_,fZ 492 S8 Z_,fZ 488 S9 [([],[.box [qH,.d,.d]])],fZ 101081 [v1,.box [.d]] [([v1],[.box [.d]])],fZ 540 [v_ 3,.box [.d]] [([v1],[.box [.d]])],fZ 521 [.box [.d,pW],v1,v1,v1,v1] Ia,fZ 520 S7 Ia,fZ 525 S7 Ia,fZ 518 [.box [.d,pW],v1,v1] [([v1],[.box [.d,pW]])],fZ 519 [.box [.d,pW],v1,v1,v1] Ia,fZ 522 [.box [.d,pW],v_ 19,v1,v1,v_ 3] Ia,fx 528 fS,fx 531 fS,fx 534 fS,fx 56 fS,fx 533 [v_ 3,v_ 3],fx 55 [v_ 19,v1],fx 110 fS,fx 47 [v_ 5,v1],fx 4 fS,fx 532 fS,fx 45 fS,fx 3 Vk,fx 46 fS,fZ 71 gr Z6,fx 54 fS,fZ 70 [v_ 19] afA,fx 53 [v_ 7,v1],fZ 62 E5 afC,fZ 6 gr QE,fx 52 Vk,fZ 60 gr [([.val J [N6]],[])],fZ 5 Dk Z7,fx 51 fS,fZ 59 [v_ 2] [([v_ 2],[])],fx 50 [v_ 2,v1],fx 120 fS,fZ 61 gr E9,fx 49 fS,fx 119 [v_ 19,v_ 19],fx 48 [v_ 2,v1],fx 111 [v_ 5,v_ 5],fx 10 fS,fZ 69 gr [([.val J [N5]],[])],fx 109 fS,fx 9 [v_ 3,v_ 3],fZ 68 [v_ 7] afD,fx 108 [v_ 2,v_ 2],fx 118 fS,fZ 67 Dk ade,fx 117 [v_ 7,v_ 7],fZ 66 gr [([.val J [QD]],[])],fx 116 [v_ 3,v_ 3],fZ 65 [v_ 2] [([.val I [.d,N6]],[])],fx 115 fS,fZ 64 gr [([.val J [N6]],[])],fx 114 [v_ 2,v_ 2],fZ 63 [v_ 2] [([v_ 2],[])],fx 113 fS,fx 112 [v_ 2,v_ 2]]
structure TP where
 P:Program
 ids:List (Nat×Nat)
 mks:List Nat
 law:List Nat
 afO:List (Nat×List Nat)
 share:List (Nat×List Nat)
 api:List (Nat×List Nat)
 TO:List (Nat×List Nat)
abbrev NL:=M Nat
abbrev ML:=M (Nat×M Nat)
def ahd(d:Nat):NL->NL
 |[]=>[d]
 |e::l=>if eP d e then d::e::l else if gI d e then e::l else e::ahd d l
def CI(a b:NL):NL:=a.foldr ahd b
def yw(d:Nat):NL->Bool
 |[]=>J
 |e::l=>if gI d e then I else yw d l
def ai7(a b:NL):Bool:=a.all λx=>yw x b
def aa1(a b:NL):Bool:=a.any λx=>yw x b
def n7(m:ML)(k:Nat):NL:=match look m k with
 |some l=>l
 |none=>[]
def sd(k:Nat)(v:NL):ML->ML
 |[]=>if v.isEmpty then [] else [(k,v)]
 |(j,w)::m=>if gI j k then (j,CI v w)::m else (j,w)::sd k v m
def Ar(k:Nat)(m:ML):ML:=match look m k with
 |some _=>m
 |none=>(k,[])::m
def aap:M (Nat×Nat)->Nat->u Nat
 |[],_=>O
 |(k,F)::l,G=>if gI F G then Z k else aap l G
def bt_(i:Nat):Nat:=Nat.shiftLeft 1 i
def Af(m i:Nat):Bool:=gI (Nat.mod (Nat.shiftRight m i) 2) 1
def af_(m n:Nat):Bool:=gI (Nat.land m n) m
def afn(m n:Nat):Nat:=Nat.xor m (Nat.land m n)
def ahA(n m:Nat):NL:=(cH n).filter (Af m)
section
variable (P:Program)
def Jt:Nat->TypeId->M TypeId
 |0,_=>[]
 |n+1,T=>match P.underlying T with
  |some (.struct fs)=>fs.toList.flatMap λf=>Jt n f.type
  |some (.array k a)=>(a_ k (Jt n a)).flatten
  |_=>[T]
def I8(a:TypeId):Bool:=(Jt P 9 a).all λt=>!QT P t
def tq(a:TypeId):Nat:=(qn P a).getD 0
def I0(T:TypeId):u TypeId:=match P.underlying T with
 |some (.slice a)=>Z a
 |_=>O
def zcT(T:TypeId):u C:=match P.underlying T with
 |some (.int k)=>Z (.d (.int k 0))
 |some .bool=>Z (.d (.bool J))
 |some .string=>Z (.d (.str ⟨#[]⟩))
 |some (.slice a)=>Z (.nil (tq P a) (I8 P a))
 |_=>O
def zdT(T:TypeId):u D:=match P.underlying T with
 |some (.int k)=>Z (.int k 0)
 |some .bool=>Z (.bool J)
 |some .string=>Z (.str ⟨#[]⟩)
 |some (.slice a)=>Z (.list (tq P a) (I8 P a) [])
 |_=>O
def zsT(T:TypeId):u (M C):=gN (zcT P) (Jt P 9 T)
def Kf(T:TypeId):NL:=((Jt P 9 T).zipIdx).filterMap λp=>if QT P p.1 then Z p.2 else O
def Xk(T:TypeId):u TypeId:=match P.underlying T with
 |some (.pointer a)=>Z a
 |_=>O
def tX(T:u TypeId):Operand->u KX
 | .tmp d=>Z (.s d)
 | .const (.int k n)=>Z (.k (.d (.int k n)))
 | .const (.bool b)=>Z (.k (.d (.bool b)))
 | .const (.string s)=>Z (.k (.d (.str s)))
 | .const (.slice O 0 0)=>match T.bind (I0 P) with
  |some a=>Z (.k (.nil (tq P a) (I8 P a)))
  |none=>O
 | .const (.pointer O)=>Z (.k .any)
 |_=>O
def MR(f:KX->KO)(T:u TypeId)(x:Operand):u KO:=(tX P T x).map f
def XG(f:KX->KX->KO)(T U:u TypeId)(x y:Operand):u KO:=match tX P T x,tX P U y with
 |some a,Z b=>Z (f a b)
 |_,_=>O
def tXs:M Operand->M TypeId->u (M KX)
 |x::xs,t::b=>match tX P (Z t) x,tXs xs b with
  |some a,Z l=>Z (a::l)
  |_,_=>O
 |_,_=>Z []
def tXo:u Operand->u (u KX)
 |none=>Z O
 |some x=>(tX P O x).map Z
def acn(pl:M (Nat×Nat))(a:M TypeId):M (Nat×Operand)->u (M (Nat×Nat×KX))
 |[]=>Z []
 |(i,x)::b=>match nth pl i,tX P (nth a i) x,acn pl a b with
  |some (o,n),Z y,Z l=>Z ((o,n,y)::l)
  |_,_,_=>O
def ac_(T:TypeId):M TypeId:=match P.underlying T with
 |some (.struct fs)=>fs.toList.map (·.type)
 |_=>[]
end
def ago(Q:TP)(b:Nat)(c:Call):u KO:=
 match c.callee with
 | .builtin .len=>match c.args.toList,c.argTypes.toList with
  |[x],[T]=>if QT Q.P T then MR Q.P .len (Z T) x else MR Q.P .sln O x
  |_,_=>O
 | .builtin .min=>match c.args.toList with
  |[x,y]=>XG Q.P .min O O x y
  |_=>O
 | .builtin .max=>match c.args.toList with
  |[x,y]=>XG Q.P .max O O x y
  |_=>O
 | .builtin .copy=>match c.args.toList,c.argTypes.toList with
  |[x,y],[T,U]=>match I0 Q.P T with
   |some a=>XG Q.P (.IT (tq Q.P a)) (Z T) (Z U) x y
   |none=>O
  |_,_=>O
 | .builtin .append=>match c.args.toList,c.argTypes.toList with
  |[x,y],[T,U]=>match I0 Q.P T with
   |some a=>match Q.P.info? a with
    |some i=>XG Q.P (.app (tq Q.P a) i.bytes (I8 Q.P a)) (Z T) (Z U) x y
    |none=>O
   |none=>O
  |_,_=>O
 | .value (.func F)=>match aap Q.ids F with
  |some g=>if gI g 9004 then (match c.args.toList,c.argTypes.toList with
    |[x,y],[T,U]=>XG Q.P .jn (Z T) (Z U) x y
    |_,_=>O)
   else if gI g 9007 ||gI g 9008 then (match c.args.toList,c.argTypes.toList with
    |[x,y],T::_=>XG Q.P (.MI (gI g 9007) 0 0) (Z T) O x y
    |_,_=>O)
   else (tXs Q.P c.args.toList c.argTypes.toList).map (.call g)
  |none=>O
 |_=>O
def ap7(Q:TP)(f:Nat)(cut mv:Bool)(o:Oper):u KO:=
 match o.op with
 | .assign x=>MR Q.P (if mv then .TO else .mv) (Z o.type) x
 | .move x=>MR Q.P .mv (Z o.type) x
 | .pick c x y=>match tX Q.P O c with
  |some q=>XG Q.P (.pick q) (Z o.type) (Z o.type) x y
  |none=>O
 | .alloc T=>(zsT Q.P T).map .alloc
 | .box T x=>MR Q.P .box (Z T) x
 | .build T e=>match zsT Q.P T with
  |some d=>match xl Q.P T with
   |some pl=>(acn Q.P pl (ac_ Q.P T) e.toList).map (.build d)
   |none=>Z (.zro d)
  |none=>O
 | .buildSlice T n e=>match I0 Q.P T with
  |some a=>(gN (λp:Nat×Operand=>tX Q.P (Z a) p.2) e.toList).map (KO.uX (tq Q.P a) (I8 Q.P a))
  |none=>O
 | .makeSlice T x _=>match I0 Q.P T with
  |some a=>match Q.P.info? a,gN (zdT Q.P) (Jt Q.P 9 a) with
   |some i,Z d=>MR Q.P (.make (tq Q.P a) i.bytes (I8 Q.P a) d) O x
   |_,_=>O
  |none=>O
 | .load T x=>MR Q.P (.ld (if J7 Q.P T ==Z I then tq Q.P T else 0)) O x
 | .store T x v=>XG Q.P (.st (tq Q.P T)) O (Z T) x v
 | .fieldAddr T x i=>match xl Q.P T with
  |some pl=>match nth pl i with
   |some (o,_)=>MR Q.P (.fa o) O x
   |none=>O
  |none=>O
 | .indexAddr T x i=>match Q.P.underlying T with
  |some (.array n a)=>XG Q.P (.ixa n (tq Q.P a)) (Z T) O x i
  |some (.slice a)=>XG Q.P (.ia (tq Q.P a)) (Z T) O x i
  |_=>O
 | .index _ x i=>XG Q.P .six O O x i
 | .binOp op T x y _=>if isBool Q.P T then XG Q.P (.XU op) O O x y else XG Q.P (.bin op) O O x y
 | .unOp .not _ x=>MR Q.P .not O x
 | .unOp .neg _ x=>MR Q.P .neg O x
 | .convert _ T x=>match ads Q.P T with
  |some k=>MR Q.P (.conv k) O x
  |none=>MR Q.P .PI O x
 | .nilCheck x=>MR Q.P .nck O x
 | .slice T x j m O=>match tXo Q.P j,tXo Q.P m with
  |some l,Z h=>match I0 Q.P T with
   |none=>MR Q.P (.MQ · l h) O x
   |some a=>match l,h with
    |none,Z b=>MR Q.P (.slc · b) (Z T) x
    |_,_=>MR Q.P (.AO (tq Q.P a) · l h) (Z T) x
  |_,_=>O
 | .extract x i=>MR Q.P (.ext · i) O x
 | .field T x i=>match xl Q.P T with
  |some pl=>match nth pl i with
   |some (o,_)=>MR Q.P (.fld o) O x
   |none=>O
  |none=>O
 | .makeFunc (.func G) _ cs=>(gN (tX Q.P O) cs.toList).map (.mkf G)
 | .call c=>match ago Q f c with
  |some (.call g xs)=>Z (match Xk Q.P o.type with
   |some _=>.cbx g xs
   |none=>.call g xs)
  |r=>r
 |_=>O
def acq:Operand->NL
 | .tmp t=>[t]
 |_=>[]
def yc(o:Oper):NL:=o.op.operands.toList.flatMap acq
def Rj:Code->M Oper
 | .region _ ops _=>ops.toList
 | .seq a b=>Rj a++Rj b
 | .cond _ a b=>Rj a++Rj b
 | .block _ a=>Rj a
 | .loop a=>Rj a
 |_=>[]
structure Pt where
 box:ML
 row:ML
 MO:ML
def m_(m:ML)(b:NL):NL:=b.foldr (λa l=>CI (n7 m a) l) []
def Xr(p:Pt):Operand->NL
 | .tmp t=>n7 p.row t
 |_=>[]
def Uk(P:Program)(d:Nat):Nat->M TypeId->NL
 |_,[]=>[]
 |q,T::a=>(Kf P T).map (λj=>vm d (30 * q+j))++Uk P d (q+1) a
def abp(P:Program):M (Operand×TypeId)->Pt->Pt
 |[],p=>p
 |(x,T)::l,p=>abp P l (match Xk P T with
  |some a=>{p with MO:=((acq x).flatMap (n7 p.box)).foldr (λb m=>sd b ((Kf P a).map (vm (b+500))) m) p.MO }
  |none=>p)
def aod(d:Nat)(a:NL)(p:Pt):Pt:=⟨sd d (m_ p.box a) p.box,sd d (m_ p.row a) p.row,p.MO⟩
def aom:u Nat->Bool
 |some g=>gI g 9005 ||gI g 9006
 |none=>J
def ptO(Q:TP)(f:Nat)(p:Pt)(o:Oper):Pt:=
 let e:=yc o
 match o.op,o.dst with
 | .alloc _,Z d=>{p with box:=sd d [d] p.box,MO:=Ar d (sd d (m_ p.row e) p.MO) }
 | .box _ _,Z d=>{p with box:=sd d [d] p.box,MO:=Ar d (sd d (m_ p.row e) p.MO) }
 | .buildSlice _ _ _,Z d=>{p with row:=sd d [d] p.row }
 | .makeSlice _ _ _,Z d=>{p with row:=sd d [d] p.row }
 | .load _ _,Z d=>{p with row:=sd d (m_ p.MO (m_ p.box e)) p.row }
 | .store _ x v,_=>{p with MO:=((acq x).flatMap (n7 p.box)).foldr (λb m=>sd b (Xr p v) m) p.MO }
 | .call c,d=>match c.callee with
  | .builtin .append=>match d with
   |some d=>{p with row:=sd d (ahd d (c.args.toList.take 1 |>.flatMap (Xr p))) p.row }
   |none=>p
  | .value (.func F)=>if aom (aap Q.ids F) then (match d with
   |some d=>{p with row:=sd d (c.args.toList.take 1 |>.flatMap (Xr p)) p.row }
   |none=>p) else match Q.P.funcs[F]? with
   |some fn=>abp Q.P (c.args.toList.zip c.argTypes.toList) (match d with
    |some d=>(match Xk Q.P o.type with
     |some a=>{p with box:=sd d [d] p.box,MO:=Ar d (sd d ((Kf Q.P a).map (vm (d+500))) p.MO) }
     |none=>{p with row:=sd d (Uk Q.P d 0 fn.resultTypes.toList) p.row })
    |none=>p)
   |none=>p
  |_=>p
 |op,Z d=>aod d e (if (match op with
   | .assign _=>I
   |_=>J) && yw d (n7 Q.TO f) && !(m_ p.row e).isEmpty then ⟨p.box,sd d [vm d 0] (p.row.map λx=>if aa1 x.2 (m_ p.row e) then (x.1,CI [vm d 0] x.2) else x),p.MO⟩ else p)
 |_,O=>p
def af8(p:Pt):Nat:=(p.box++p.row++p.MO).foldr (λx n=>Nat.add x.2.length n) 0
def akT(f:Pt->Pt):Nat->Nat->Pt->Pt
 |0,_,p=>p
 |n+1,k,p=>match gI (af8 (f p)) k with
  |true=>p
  |false=>akT f n (af8 (f p)) (f p)
structure Fi where
 Q:TP
 cur:Nat
 n:Nat
 p:Pt
 rl:Nat
 pb:NL
 bad:NL
def Fi.ez(F:Fi)(live:Nat):oy:=
 let s:=ahA F.n live
 let b:=CI F.pb (m_ F.p.box s)
 ⟨s,b,CI (m_ F.p.row s) (m_ F.p.MO b)⟩
def abZ(a:Nat):Nat:=if jX 7000000 a then Nat.mod a 1000 else xx a 1000000
def Fi.cut(F:Fi)(o:Oper):Bool:=match o.op with
 | .slice T (.tmp x) _ _ _=>QT F.Q.P T && !(n7 F.p.row x).isEmpty && !((n7 F.Q.share F.cur).any λa=>jX 1000000 a && ai7 (n7 F.p.row x) (n7 F.p.row (abZ a)) && ai7 (n7 F.p.row (abZ a)) (n7 F.p.row x))
 |_=>J
def Fi.OK(F:Fi)(o:Oper):Bool:=match o.op with
 | .alloc _=>I
 | .box _ _=>I
 | .store _ _ _=>I
 | .buildSlice _ _ _=>I
 | .makeSlice _ _ _=>I
 | .slice _ _ _ _ _=>F.cut o
 | .convert _ T _=>isStr F.Q.P T
 | .call c=>(match c.callee with
  | .builtin .len=>J
  | .builtin .min=>J
  | .builtin .max=>J
  |_=>I)
 |_=>J
def akt(Q:TP)(b:M Oper):KO->KO
 | .MI a f F x (.s y)=>match b.find? (λo:Oper=>o.dst ==Z y) with
  |some o=>(match o.op with
   | .makeFunc (.func G) _ _=>(match aap Q.ids G with
    |some g=>.MI a g G x (.s y)
    |none=>.MI a f F x (.s y))
   |_=>.MI a f F x (.s y))
  |none=>.MI a f F x (.s y)
 |k=>k
def Fi.ins(F:Fi)(a:M Oper)(o:Oper):u KI:=
 match ap7 F.Q F.cur (F.cut o) (match o.dst with
  |some d=>yw d (n7 F.Q.TO F.cur)
  |none=>J) o with
 |some k=>match o.guard with
  |none=>Z ⟨o.dst,akt F.Q a k,O⟩
  |some (j,w)=>match (nth a j).bind (·.dst) with
   |some g=>Z ⟨o.dst,akt F.Q a k,Z (g,w)⟩
   |none=>O
 |none=>O
def afq(o:Oper):Nat:=match o.dst with
 |some d=>bt_ d
 |none=>0
def ajE(o:Oper):Nat:=(yc o).foldr (λa m=>lz (bt_ a) m) 0
def ar_(a:M Oper)(live:Nat):Nat:=a.foldr (λo l=>lz (ajE o) (afn l (afq o))) live
def ahK(o:Oper):Nat:=o.after.toList.foldr (λe m=>match e.ground with
 | .textOnly _=>m
 | .gcOnly _=>m
 |_=>lz (bt_ e.on) m) 0
structure De where
 i:Nat
 o:Oper
 on:Nat
 de:Nat
 q:Bool
 tch:NL
def ajZ:M Oper->M Nat->M Nat
 |[],acc=>acc
 |o::l,acc=>ajZ l (acc++[(acc.zipIdx).foldr (λp m=>if Af (ahK o) p.2 then lz p.1 m else m) (ahK o)])
def Fi.tch(F:Fi)(o:Oper):NL:=match o.op with
 | .alloc _=>(match o.dst with
  |some d=>[d]
  |none=>[])
 | .box _ _=>(match o.dst with
  |some d=>[d]
  |none=>[])
 | .store _ x _=>(acq x).flatMap (n7 F.p.box)
 | .call c=>(match c.callee with
  | .builtin _=>[]
  |_=>(match o.dst with
   |some d=>CI (n7 F.p.box d) (m_ F.p.box (yc o))
   |none=>m_ F.p.box (yc o)))
 |_=>[]
def Fi.Y8(F:Fi)(a:M Oper):M De:=
 let c:=ajZ a []
 a.zipIdx.map λp=>⟨p.2,p.1,ahK p.1,c.zipIdx.foldr (λq m=>if Af q.1 p.2 then lz (bt_ q.2) m else m) 0,!F.OK p.1,F.tch p.1⟩
def Fi.apj(F:Fi)(c:M Oper):NL:=
 let g:=c.foldr (λo m=>lz (afq o) m) 0
 let e:=c.foldr (λo l=>if F.OK o then (match o.dst with
  |some d=>d::l
  |none=>l) else l) []
 let f:=c.foldr (λo l=>CI (yc o) l) []
 f.filter λa=>!Af g a && !(n7 F.p.row a).isEmpty && (n7 F.p.box a).isEmpty && (n7 F.p.row a).all λr=>!yw r F.bad && !yw r e && !(jX 1000 r && yw (xx (Nat.div r 1000) 1) e)
def Fi.quiet(F:Fi)(Y8:M De)(c:NL)(done:Nat)(x:De):Bool:=x.q && match x.o.op with
 | .load _ (.tmp a)=>!(!(n7 F.p.row a).isEmpty && (n7 F.p.box a).isEmpty && !ai7 (n7 F.p.row a) c) &&
   !(Y8.any λy=>!Af done y.i && !Af x.de y.i && aa1 y.tch (n7 F.p.box a))
 |_=>I
def ZT(done:Nat)(p:De->Bool):M De->u De
 |[]=>O
 |x::l=>if !Af done x.i && af_ x.on done && p x then Z x else ZT done p l
def aas(o:Oper):Bool:=match o.op with
 | .load _ _=>I
 |_=>J
def afk(ins:Oper->u KI)(k:Nat->u (KT×Nat))(done:Nat):M De->u (KT×Nat)
 |[]=>O
 |x::l=>match ins x.o,k (lz (bt_ x.i) done) with
  |some i,Z (t,q)=>match l with
   |[]=>Z (.op ⟨x.i,J,[],[],i⟩ t,q)
   |l=>match afk ins k done l with
    |some (r,a)=>Z (.alt ⟨x.i,J,[],[],i⟩ t r,lz q a)
    |none=>O
  |_,_=>O
def Fi.draw(F:Fi)(Y8:M De)(a:NL)(ins:Oper->u KI):Nat->Nat->u (KT×Nat)
 |0,done=>Z (.nil,0)
 |n+1,done=>match ZT done (F.quiet Y8 a done) Y8 with
  |some x=>match ins x.o,F.draw Y8 a ins n (lz (bt_ x.i) done) with
   |some i,Z (t,q)=>Z (.op ⟨x.i,I,if aas x.o then ahA Y8.length x.de else [],if aas x.o then ahA Y8.length (afn x.de q) else [],i⟩ t,lz (bt_ x.i) q)
   |_,_=>O
  |none=>afk ins (F.draw Y8 a ins n) done (Y8.filter λx=>!Af done x.i && af_ x.on done)
def KT.alts:KT->Bool
 | .nil=>J
 | .op _ t=>t.alts
 | .alt _ _ _=>I
def agu(l:NL)(k:K):K:=l.foldr .DN k
def apo:M Oper->Nat
 |o::_=>(match o.dst with
  |some d=>d+1
  |none=>0)
 |[]=>0
def Fi.kr(F:Fi)(a:M Oper):u (M Nat):=match look F.Q.afO (F.cur+1000000 * apo a) with
 |some r=>Z r
 |none=>look F.Q.afO F.cur
def Fi.drawn(F:Fi)(a:M Oper)(live:Nat):u K:=
 let DN:=F.apj a
 match F.draw (F.Y8 a) (m_ F.p.row DN) (F.ins a) a.length 0 with
 |some (t,_)=>match F.kr a with
  |some r=>if t.alts then Z (agu (DN++n7 F.Q.api F.cur) (.Zh t {F.ez live with r:=r })) else Z (agu DN (.Zh t (F.ez live)))
  |none=>Z (agu DN (.Zh t (F.ez live)))
 |none=>O
def apq(a:M (Nat×Nat))(id:Nat):Nat:=match look a id with
 |some l=>l
 |none=>0
def agI(f:Nat->Nat):Nat->Nat->Nat
 |0,l=>l
 |n+1,l=>match gI (lz (f l) l) l with
  |true=>l
  |false=>agI f n (lz (f l) l)
def Fi.lv(F:Fi):Code->Nat->M (Nat×Nat)->Nat
 | .skip,l,_=>l
 | .ret,_,_=>F.rl
 | .seq a b,l,ex=>F.lv a (F.lv b l ex) ex
 | .cond c a b,l,ex=>lz ((acq c).foldr (λe m=>lz (bt_ e) m) 0) (lz (F.lv a l ex) (F.lv b l ex))
 | .block id a,l,ex=>F.lv a l ((id,l)::ex)
 | .exit id,_,ex=>apq ex id
 | .loop a,_,ex=>agI (λl=>F.lv a l ex) 9 0
 | .region _ ops _,l,_=>ar_ ops.toList l
 |_,l,_=>l
def afP:Code->Code
 | .seq _ b=>afP b
 |c=>c
def Fi.shares(F:Fi)(c:Code):NL:=match c with
 | .region _ ops _=>(n7 F.Q.share F.cur).filter λr=>ops.toList.any λo=>match o.dst with
  |some d=>gI r d ||(jX 1000000 r && gI (xx r 1000000) d) ||(jX 1000 r && eP r 1000000 && gI (xx (Nat.div r 1000) 1) d)
  |none=>J
 | .block id _=>(n7 F.Q.share F.cur).filterMap λa=>if jX 7000000 a && gI (Nat.div (xx a 7000000) 1000) id then Z (Nat.add 1000000 (Nat.mod a 1000)) else O
 | .seq _ b=>(match afP b with
  | .block id _=>(n7 F.Q.share F.cur).filterMap λa=>if jX 7000000 a && gI (Nat.div (xx a 7000000) 1000) id then Z (Nat.add 1000000 (Nat.mod a 1000)) else O
  |_=>[])
 |_=>[]
def Pn(a:NL):K->Code->K
 | .DN r k,c=>.DN r (Pn a k c)
 | .share r k,c=>.share r (Pn a k c)
 | .seq x y,.seq _ b=>.seq x (Pn a y b)
 | .skip,.skip=>a.foldr .DN .skip
 |k,.ret=>k
 |k,.exit _=>k
 |k,_=>a.foldl (λk d=>.seq k (.DN d .skip)) k
def Fi.aku(F:Fi):Operand->NL
 | .tmp t=>(n7 F.Q.share F.cur).filterMap λa=>if jX 3000000 a && gI (Nat.div (xx a 3000000) 1000) t then Z (Nat.mod a 1000) else O
 |_=>[]
def Fi.code(F:Fi):Code->Nat->M (Nat×Nat)->u K
 | .skip,l,_=>Z (if yw 4000000 (n7 F.Q.share F.cur) then .Uf [] (F.ez l) else .skip)
 | .ret,_,_=>Z .ret
 | .seq a b,l,ex=>match F.code b l ex,F.code a (F.lv b l ex) ex with
  |some y,Z x=>Z (.seq x ((F.shares a).foldr (λr k=>if jX 1000000 r then (if Af (F.lv b l ex) (xx r 1000000) then .DN (xx r 1000000) k else k) else .share r k) y))
  |_,_=>O
 | .cond c a b,l,ex=>match tX F.Q.P O c,F.code a l ex,F.code b l ex with
  |some f,Z x,Z y=>Z (match F.aku c with
   |[]=>.cond f x y
   |e=>.cond f (Pn e x a) (Pn e y b))
  |_,_,_=>O
 | .block id a,l,ex=>(F.code a l ((id,l)::ex)).map (.block id)
 | .exit id,_,_=>Z (.exit id)
 | .loop a,_,ex=>(F.code a (agI (λl=>F.lv a l ex) 9 0) ex).map .loop
 | .region _ ops J,l,_=>(gN (F.ins ops.toList) ops.toList).map λg=>.Uf g (F.ez l)
 | .region _ ops I,l,_=>F.drawn ops.toList l
 |_,_,_=>O
def ao8(Q:TP)(p:Pt)(o:Oper):NL:=match o.op with
 | .store _ x v=>CI (Xr p x) (Xr p v)
 | .slice _ x _ _ _=>Xr p x
 | .buildSlice _ _ _=>m_ p.row (yc o)
 | .build _ _=>m_ p.row (yc o)
 | .box _ _=>m_ p.row (yc o)
 | .call c=>(match c.callee with
  | .builtin .append=>m_ p.row (yc o)
  | .value (.func F)=>(match aap Q.ids F with
   |some g=>if yw g Q.mks ||aom (Z g) then m_ p.row (yc o) else []
   |none=>[])
  |_=>[])
 |_=>[]
def asb(P:Program)(R:TypeId):ResultVar->u KR
 | .tmp t=>Z (match Xk P R with
  |some _=>.b t
  |none=>.t t)
 | .cell a T=>match J7 P T with
  |some I=>Z (.c a (tq P T))
  |some J=>Z (.c a 0)
  |none=>O
def asa:ResultVar->Nat
 | .tmp t=>t
 | .cell a _=>a
def pt0(P:Program)(k nfree:Nat):M TypeId->Pt
 |[]=>(cH nfree).foldr (λj p=>⟨sd (k+j) [900+k+j] p.box,p.row,Ar (900+k+j) p.MO⟩) ⟨[],[],[]⟩
 |T::b=>let p:=pt0 P (k+1) nfree b
  match Xk P T with
  |some a=>⟨sd k [900+k] p.box,p.row,Ar (900+k) (sd (900+k) ((Kf P a).map (vm (k+1400))) p.MO)⟩
  |none=>p
def mG(P:Program):Nat->M TypeId->NL
 |_,[]=>[]
 |k,T::a=>match Xk P T with
  |some _=>k::mG P (k+1) a
  |none=>mG P (k+1) a
def toF(Q:TP)(f:Nat):u KF:=
 match (look Q.ids f).bind λF=>Q.P.funcs[F]? with
 |some fn=>match fn.body,gN (λp:ResultVar×TypeId=>asb Q.P p.2 p.1) (fn.results.toList.zip fn.resultTypes.toList) with
  |some c,Z res=>
   let g:=mG Q.P 0 fn.params.toList++(cH fn.nfree).map (fn.params.size+·)
   let d:=CI (fn.results.toList.map asa) g
   let b:=Rj c
   let p:=akT (λp=>b.foldl (ptO Q f) p) 9 0 (pt0 Q.P 0 fn.nfree fn.params.toList)
   let e:=CI (m_ p.row d) (CI (p.MO.foldr (λx l=>CI x.2 l) []) (b.foldr (λo l=>CI (ao8 Q p o) l) []))
   match (Fi.mk Q f fn.ntmps p (d.foldr (λa m=>lz (bt_ a) m) 0) (g.map (900+·)) e).code c ((d.foldr (λa m=>lz (bt_ a) m) 0)) []with
   |some k=>Z ⟨fn.params.size+fn.nfree,k,res⟩
   |none=>O
  |_,_=>O
 |none=>O
section
open Go.RowKit
def ids:M (Nat×Nat):=[(1,68),(2,178),(3,24),(4,7),(5,26),(6,10),(9,28),(10,13),(16,36),(17,20),(39,249),(45,74),(46,44),(47,43),(48,272),(49,241),(50,201),(51,154),(52,114),(53,75),(54,45),(55,23),(56,6),(59,115),(60,76),(61,47),(62,46),(63,273),(64,242),(65,202),(66,155),(67,116),(68,77),(69,48),(70,25),(71,9),(74,121),(75,82),(76,168),(77,164),(78,169),(79,170),(80,127),(81,87),(82,119),(92,97),(93,102),(94,137),(95,136),(96,144),(97,143),(98,71),(99,150),(108,117),(109,78),(110,50),(111,49),(112,274),(113,243),(114,203),(115,156),(116,118),(117,79),(118,51),(119,27),(120,12),(136,229),(137,188),(148,37),(149,38),(150,113),(151,73),(152,39),(153,19),(158,41),(201,80),(202,157),(203,216),(204,207),(205,165),(206,250),(207,251),(208,217),(209,179),(210,158),(211,159),(212,204),(213,163),(214,160),(215,205),(216,287),(217,209),(218,211),(219,310),(220,302),(221,303),(222,295),(223,275),(224,296),(225,286),(226,244),(227,206),(228,161),(229,276),(230,245),(231,246),(232,247),(233,297),(234,288),(235,277),(236,248),(237,208),(238,162),(239,120),(240,81),(241,52),(242,85),(243,56),(244,166),(245,125),(246,86),(247,58),(248,167),(249,126),(250,54),(255,94),(256,95),(257,135),(258,222),(259,253),(260,223),(261,181),(262,254),(263,278),(264,227),(265,230),(266,189),(267,255),(268,224),(269,182),(270,183),(271,184),(272,185),(273,256),(274,225),(275,290),(276,311),(277,318),(278,312),(279,304),(280,279),(281,305),(282,298),(283,289),(284,257),(285,226),(286,186),(287,258),(288,259),(303,260),(308,292),(309,281),(310,261),(311,228),(312,187),(313,138),(314,139),(315,96),(316,64),(317,100),(320,193),(321,145),(322,101),(323,266),(324,237),(325,194),(326,146),(327,66),(333,200),(391,210),(392,212),(393,213),(394,214),(395,171),(396,128),(397,173),(398,174),(399,252),(400,215),(401,172),(402,175),(406,129),(413,130),(417,122),(418,124),(419,123),(420,83),(421,91),(422,84),(423,53),(424,29),(447,88),(448,55),(449,30),(450,89),(451,176),(452,177),(453,131),(454,132),(455,92),(456,133),(457,218),(458,220),(459,219),(460,221),(461,180),(462,134),(463,93),(464,62),(465,63),(466,57),(467,31),(468,61),(469,60),(470,90),(471,59),(472,16),(473,8),(474,140),(475,141),(476,98),(477,282),(478,293),(479,283),(480,262),(481,231),(482,190),(483,233),(484,265),(485,235),(486,232),(487,263),(488,264),(489,234),(490,236),(491,191),(492,192),(493,142),(494,99),(495,65),(496,32),(497,103),(498,67),(499,33),(501,107),(502,104),(503,199),(504,239),(505,240),(506,108),(507,198),(508,151),(509,195),(510,267),(511,269),(512,285),(513,268),(514,270),(515,238),(516,196),(517,147),(518,105),(519,106),(520,69),(521,34),(522,109),(525,70),(526,17),(527,11),(528,3),(529,14),(530,15),(531,4),(532,72),(533,35),(534,18),(535,40),(536,21),(537,42),(538,22),(539,5),(540,149),(541,271),(542,112),(543,111),(9001,280),(9002,284),(9003,153),(9004,300),(9007,148),(9008,110)]
def num(f:Nat):FuncId:=match look ids f with
 |some F=>F
 |none=>1000000
noncomputable def tp:TP:=⟨Tryz.prog,ids,[153,17,536,16,148,149,152,535,151,150],[528,531,539],[(475,[28]),(519,[1401001]),(9000465,[1401001]),(25000467,[24,1401001]),(30000423,[29]),(78,[14002]),(282,[20]),(234,[8000,119000])],[(476,[1000020]),(504,[1000004]),(475,[4000000,1000011]),(525,[4000000,7000011]),(507,[4000000,1000008,1000006,7001008]),(501,[1000005]),(526,[1000007]),(515,[4000000]),(520,[4000000]),(522,[4000000]),(477,[4000000]),(458,[1000002]),(451,[1000004]),(454,[1000007]),(448,[4000000,1000005]),(455,[4000000]),(461,[4000000]),(466,[4000000]),(467,[4000000]),(469,[4000000]),(471,[4000000]),(453,[4000000,1000007,1000006,3035007,7001007]),(472,[1000007]),(418,[1000006]),(420,[1000008]),(225,[5]),(283,[4]),(223,[6]),(280,[6]),(2,[1000002])],[(282,[3])],[(234,[7]),(453,[7]),(507,[8])]⟩
def klp:K->M K
 | .seq a b=>klp b++klp a
 | .cond _ a b=>klp a++klp b
 | .block _ a=>klp a
 | .loop a=>klp a++[a]
 | .share _ a=>klp a
 | .DN _ a=>klp a
 |_=>[]
noncomputable def kx(f:Nat):KF:=match toF tp f with
 |some k=>k
 |none=>⟨0,.skip,[]⟩
noncomputable def kb(f j:Nat):K:=match nth (klp (kx f).body) j with
 |some b=>b
 |none=>.skip
theorem aM{a:Type}(l:M a):Array.mk l=l.toArray:=(rfl)
def uM(n:Nat)(h:n<2 ^ 8):UInt8.ofBitVec (BitVec.ofFin (Fin.mk n h))=dW n:=by rw[dW];congr 2;exact Fin.ext (Nat.mod_eq_of_lt h).symm
attribute [go_sem] Int.reduceOfNat Int.reduceNegSucc aM uM UInt8.reduceOfNat
noncomputable section
def Aq:K:=by refine (?f:kb 276 0=?t->K) ?p;exact λ_=>?t;conv=>lhs;reduce
def alE:KF:=by refine (?f:kx 276=?t->KF) ?p;exact λ_=>?t;conv=>lhs;reduce;rw[<- Aq.eq_1]
def amP:okF Tryz.prog num 276 alE=I:=by kernel_rfl
def xb:K:=by refine (?f:kb 279 0=?t->K) ?p;exact λ_=>?t;conv=>lhs;reduce
def px:K:=by refine (?f:kb 279 1=?t->K) ?p;exact λ_=>?t;conv=>lhs;reduce
def jg:K:=by refine (?f:kb 279 2=?t->K) ?p;exact λ_=>?t;conv=>lhs;reduce;rw[<- px.eq_1]
def alF:KF:=by refine (?f:kx 279=?t->KF) ?p;exact λ_=>?t;conv=>lhs;reduce;rw[<- xb.eq_1,<- px.eq_1,<- jg.eq_1]
def amQ:okF Tryz.prog num 279 alF=I:=by kernel_rfl
def ahy:K:=by refine (?f:kb 16 0=?t->K) ?p;exact λ_=>?t;conv=>lhs;reduce
def k16:KF:=by refine (?f:kx 16=?t->KF) ?p;exact λ_=>?t;conv=>lhs;reduce;rw[<- ahy.eq_1]
def aqj:okF Tryz.prog num 16 k16=I:=by kernel_rfl
def ahz:K:=by refine (?f:kb 17 0=?t->K) ?p;exact λ_=>?t;conv=>lhs;reduce
def k17:KF:=by refine (?f:kx 17=?t->KF) ?p;exact λ_=>?t;conv=>lhs;reduce;rw[<- ahz.eq_1]
def aqk:okF Tryz.prog num 17 k17=I:=by kernel_rfl
def adP:K:=by refine (?f:kb 148 0=?t->K) ?p;exact λ_=>?t;conv=>lhs;reduce
def alx:KF:=by refine (?f:kx 148=?t->KF) ?p;exact λ_=>?t;conv=>lhs;reduce;rw[<- adP.eq_1]
def amI:okF Tryz.prog num 148 alx=I:=by kernel_rfl
def adQ:K:=by refine (?f:kb 149 0=?t->K) ?p;exact λ_=>?t;conv=>lhs;reduce
def aly:KF:=by refine (?f:kx 149=?t->KF) ?p;exact λ_=>?t;conv=>lhs;reduce;rw[<- adQ.eq_1]
def amJ:okF Tryz.prog num 149 aly=I:=by kernel_rfl
def adR:K:=by refine (?f:kb 150 0=?t->K) ?p;exact λ_=>?t;conv=>lhs;reduce
def alz:KF:=by refine (?f:kx 150=?t->KF) ?p;exact λ_=>?t;conv=>lhs;reduce;rw[<- adR.eq_1]
def amK:okF Tryz.prog num 150 alz=I:=by kernel_rfl
def adS:K:=by refine (?f:kb 151 0=?t->K) ?p;exact λ_=>?t;conv=>lhs;reduce
def alA:KF:=by refine (?f:kx 151=?t->KF) ?p;exact λ_=>?t;conv=>lhs;reduce;rw[<- adS.eq_1]
def amL:okF Tryz.prog num 151 alA=I:=by kernel_rfl
def adT:K:=by refine (?f:kb 152 0=?t->K) ?p;exact λ_=>?t;conv=>lhs;reduce
def alB:KF:=by refine (?f:kx 152=?t->KF) ?p;exact λ_=>?t;conv=>lhs;reduce;rw[<- adT.eq_1]
def amM:okF Tryz.prog num 152 alB=I:=by kernel_rfl
def adU:K:=by refine (?f:kb 153 0=?t->K) ?p;exact λ_=>?t;conv=>lhs;reduce
def alC:KF:=by refine (?f:kx 153=?t->KF) ?p;exact λ_=>?t;conv=>lhs;reduce;rw[<- adU.eq_1]
def amN:okF Tryz.prog num 153 alC=I:=by kernel_rfl
def adV:K:=by refine (?f:kb 158 0=?t->K) ?p;exact λ_=>?t;conv=>lhs;reduce
def alD:KF:=by refine (?f:kx 158=?t->KF) ?p;exact λ_=>?t;conv=>lhs;reduce;rw[<- adV.eq_1]
def amO:okF Tryz.prog num 158 alD=I:=by kernel_rfl
def adW:K:=by refine (?f:kb 535 0=?t->K) ?p;exact λ_=>?t;conv=>lhs;reduce
def alH:KF:=by refine (?f:kx 535=?t->KF) ?p;exact λ_=>?t;conv=>lhs;reduce;rw[<- adW.eq_1]
def amS:okF Tryz.prog num 535 alH=I:=by kernel_rfl
def adX:K:=by refine (?f:kb 536 0=?t->K) ?p;exact λ_=>?t;conv=>lhs;reduce
def alI:KF:=by refine (?f:kx 536=?t->KF) ?p;exact λ_=>?t;conv=>lhs;reduce;rw[<- adX.eq_1]
def amT:okF Tryz.prog num 536 alI=I:=by kernel_rfl
def adY:K:=by refine (?f:kb 537 0=?t->K) ?p;exact λ_=>?t;conv=>lhs;reduce
def alJ:KF:=by refine (?f:kx 537=?t->KF) ?p;exact λ_=>?t;conv=>lhs;reduce;rw[<- adY.eq_1]
def amU:okF Tryz.prog num 537 alJ=I:=by kernel_rfl
def adZ:K:=by refine (?f:kb 538 0=?t->K) ?p;exact λ_=>?t;conv=>lhs;reduce
def alK:KF:=by refine (?f:kx 538=?t->KF) ?p;exact λ_=>?t;conv=>lhs;reduce;rw[<- adZ.eq_1]
def amV:okF Tryz.prog num 538 alK=I:=by kernel_rfl
def alG:KF:=by refine (?f:kx 333=?t->KF) ?p;exact λ_=>?t;conv=>lhs;reduce
def amR:okF Tryz.prog num 333 alG=I:=by kernel_rfl
def fs:M Nat:=[1,2,3,4,5,6,9,10,39,45,46,47,48,49,50,51,52,53,54,55,56,59,60,61,62,63,64,65,66,67,68,69,70,71,74,75,76,77,78,79,80,81,82,92,93,94,95,96,97,98,99,108,109,110,111,112,113,114,115,116,117,118,119,120,136,137,201,202,203,204,205,206,207,208,209,210,211,212,213,214,215,216,217,218,219,220,221,222,223,224,225,226,227,228,229,230,231,232,233,234,235,236,237,238,239,240,241,242,243,244,245,246,247,248,249,250,255,256,257,258,259,260,261,262,263,264,265,266,267,268,269,270,271,272,273,274,275,277,278,280,281,282,283,284,285,286,287,288,303,308,309,310,311,312,313,314,315,316,317,320,321,322,323,324,325,326,327,391,392,393,394,395,396,397,398,399,400,401,402,406,413,417,418,419,420,421,422,423,424,447,448,449,450,451,452,453,454,455,456,457,458,459,460,461,462,463,464,465,466,467,468,469,470,471,472,473,474,475,476,477,478,479,480,481,482,483,484,485,486,487,488,489,490,491,492,493,494,495,496,497,498,499,501,502,503,504,505,506,507,508,509,510,511,512,513,514,515,516,517,518,519,520,521,522,525,526,527,528,529,530,531,532,533,534,540,541,542,543]
def ae_:M (Nat×KF):=[(276,alE),(279,alF),(16,k16),(17,k17),(148,alx),(149,aly),(150,alz),(151,alA),(152,alB),(153,alC),(158,alD),(535,alH),(536,alI),(537,alJ),(538,alK),(9001,⟨999,.skip,[]⟩),(9002,⟨999,.skip,[]⟩),(9003,⟨999,.skip,[]⟩)]
noncomputable def T(f:Nat):u KF:=match look ae_ f with
 |some k=>Z k
 |none=>if yw f fs=I then toF tp f else O
end
end
noncomputable def txk(h:M Nat)(i:Nat)(a:KF):u ST:=match look o9 i with
 |some b=>match eP a.np 999 with
  |true=>ab4 h o9 a b
  |false=>O
 |none=>O
noncomputable def tT(i:Nat):u KF:=match look o9 i with
 |some a=>T a.f
 |none=>O
noncomputable def tx(h:M Nat)(i:Nat):u ST:=match tT i with
 |some a=>txk h i a
 |none=>O
def mZ{h:M Nat}{i:Nat}{r t:ST}(b:tx h i=Z r)(a:r=t):tx h i=Z t:=a▸b
noncomputable def rx(h:M Nat)(i:Nat)(a:KF):ST:=match txk h i a with
 |some t=>t
 |none=>.nil
def ac4(i:Nat)(a:M D):u (M A):=match look o9 i with
 |some b=>gU b.args a
 |none=>O
def exs:M Nat:=[9001,9002,9003]
noncomputable def cg1(p:Nat×kP):Bool:=match T p.2.f with
 |some a=>yw p.2.f exs ||(okF Tryz.prog num p.2.f a && (p.2.args.length ==a.np && eP a.np 999 && decide p.2.res.Nodup && eP p.2.f 100000))
 |none=>jX 100000 p.2.f
noncomputable def Bn:M (Nat×kP)->Bool
 |[]=>I
 |p::l=>cg1 p && Bn l
theorem pj{a b:Nat}(h:Bn ((o9.drop a).take b)=I)(c:∀p∈o9.drop (a+b),cg1 p=I):∀p∈o9.drop a,cg1 p=I:=by rw[<- zo]at c;revert h c;generalize o9.drop a=l;induction b generalizing l with|zero=>{exact λ_ h=>h}|succ b e=>intro h c;cases l with|nil=>{exact c}|cons p l=>simp only[cT,Bn,aw]at h;intro q d;rcases aU.1 d with rfl|d;{exact h.1};exact e l h.2 c q d
structure R_ (h:List Nat) (i:Nat) where
 t:ST
 ok:tx h i=some t
def W3:ST->M ST
 | .cons a b=>W3 a++W3 b
 | .op _ _ _ t=>W3 t
 | .gd _ a b=>W3 a++W3 b
 | .call _ _ c=>W3 c
 | .map _ t=>W3 t
 | .seq t c=>W3 t++W3 c
 | .loop _ _ d=>W3 d++[d]
 | .both a b=>W3 a++W3 b
 |_=>[]
def lq(t:ST)(j:Nat):ST:=match nth (W3 t) j with
 |some b=>b
 |none=>.nil
noncomputable def lp(h:M Nat)(i j:Nat):ST:=match tx h i with
 |some t=>lq t j
 |none=>.nil
end Go.Proofs.YtgnmdaifiodnnaaGreatDoor
