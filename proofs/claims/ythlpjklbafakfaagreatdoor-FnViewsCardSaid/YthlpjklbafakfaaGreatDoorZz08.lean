/- Part of the proof: a machine over plain data, its proof, the functions of the program run on symbols, what they answer. Condition: none. -/
import Derived.Test.YthlpjklbafakfaaGreatDoorZz04
set_option linter.unusedVariables false
set_option linter.unusedSimpArgs false
open Bool renaming true->I,false->J
namespace Go.Proofs.YthlpjklbafakfaaGreatDoor
set_option maxRecDepth 100000
set_option maxHeartbeats 400000000
section
noncomputable section
def ahI:KF:=by refine (?f:kx 406=?t->KF) ?p;exact λ_=>?t;conv=>lhs;reduce
def Hy:ST:=by refine (?f:rx [] 406 ahI=?t->ST) ?p;exact λ_=>?t;conv=>lhs;reduce
def NB:ST:=by refine (?f:lq Hy 0=?t->ST) ?p;exact λ_=>?t;conv=>lhs;reduce
def tg:ST:=by refine (?f:lq Hy 1=?t->ST) ?p;exact λ_=>?t;conv=>lhs;reduce
def th:ST:=by refine (?f:lq Hy 2=?t->ST) ?p;exact λ_=>?t;conv=>lhs;reduce
def nh:ST:=by refine (?f:lq Hy 3=?t->ST) ?p;exact λ_=>?t;conv=>lhs;reduce;rw[<- tg.eq_1,<- th.eq_1]
def pN:ST:=by refine (?f:lq Hy 4=?t->ST) ?p;exact λ_=>?t;conv=>lhs;reduce
def EX:R_ [] 406:=⟨_,nU (r:=Hy) (by kernel_rfl) (by conv=>lhs;reduce;rw[<- NB.eq_1,<- tg.eq_1,<- th.eq_1,<- nh.eq_1,<- pN.eq_1])⟩
def adH:ST:=c1<|.map [1,0,3]<|b_ (o_ L2 [Y 6,Y 5]<|L_ (r_ 0 7++[Y 34]++r_ 7 27))<|h_ (d_ 7 (L_ (r_ 0 35))<|M1<|L_ (r_ 0 35))<|k_ (h_ (b_ (o_ .FA [Y 34,Y 6]<|o_ (.Gv 1 0 1 I) [Y 34,Y 6]<|o_ (.OX 0) [Y 36]<|L_ ([Y 0,Y 1,Y 37]++r_ 2 5++r_ 8 27))<|h_ (o_ (.mW 1 I) [Y 2]<|.call 97 [Y 0,Y 35]<|k_ (o_ .pl (r_ 36 3++[Y 41,Y 42]++r_ 45 7++[Y 55])<|L_ (r_ 0 26++r_ 36 3++[Y 41,Y 42]++r_ 45 7++r_ 26 9++[Y 39,Y 40,Y 43,Y 44]++r_ 52 3))<|c1<|M1<|o_ .LJ (r_ 36 20)<|L_ (r_ 0 26++r_ 36 19++r_ 26 9))<|k_ (b_ (c_ 98 [Y 1,Y 2]<|c_ 104 ([Y 8,Y 9]++r_ 26 3++[Y 47,Y 48,Y 29,Y 30,Y 49,Y 50]++r_ 31 7++r_ 51 4)<|o_ .pl [Y 55]<|o_ .not [Y 55]<|L_ ([Y 0,Y 1]++r_ 3 5++[Y 57]++r_ 8 18++r_ 38 9))<|d_ 7 (z_<|L_ [B J])<|M1<|L_ (r_ 0 35))<|c1<|b_ (c_ 98 [Y 1,Y 2]<|c_ 104 ([Y 8,Y 9]++r_ 26 19++[Y 54])<|o_ .pl [Y 55]<|o_ .not [Y 55]<|L_ ([Y 0,Y 1]++r_ 3 5++[Y 57]++r_ 8 18++r_ 45 9))<|d_ 7 (z_<|L_ [B J])<|M1<|L_ (r_ 0 35))<|k_ (L_ [Y 0])<|c1<|M1<|o_ A2 [Y 6,N 1]<|L_ (r_ 0 6++[Y 35]++r_ 8 27))<|c1<|.map [2]<|L_ (r_ 0 35)
def adI:ST:=c1<|.map [1,0,3]<|b_ (o_ L2 [Y 6,Y 5]<|L_ (r_ 0 7++[Y 34]++r_ 7 27))<|h_ (d_ 7 (L_ (r_ 0 35))<|M1<|L_ (r_ 0 35))<|k_ (h_ (b_ (o_ .FA [Y 34,Y 6]<|o_ (.Gv 1 0 1 I) [Y 34,Y 6]<|o_ (.OX 0) [Y 36]<|L_ ([Y 0,Y 1,Y 37]++r_ 2 5++r_ 8 27))<|h_ (o_ (.mW 1 I) [Y 2]<|.call 97 [Y 0,Y 35]<|k_ (o_ .pl (r_ 36 3++[Y 41,Y 42]++r_ 45 7++[Y 55])<|L_ (r_ 0 33++r_ 36 3++[Y 41,Y 42]++r_ 45 7++[Y 33,Y 34,Y 39,Y 40,Y 43,Y 44]++r_ 52 3))<|c1<|M1<|o_ .LJ (r_ 36 20)<|L_ (r_ 0 33++r_ 36 19++[Y 33,Y 34]))<|k_ (b_ (c_ 98 [Y 1,Y 2]<|c_ 104 ([Y 8,Y 9]++r_ 33 3++[Y 47,Y 48,Y 36,Y 37,Y 49,Y 50]++r_ 38 7++r_ 51 4)<|o_ .pl [Y 55]<|o_ .not [Y 55]<|L_ ([Y 0,Y 1]++r_ 3 5++[Y 57]++r_ 8 25++[Y 45,Y 46]))<|d_ 7 (z_<|L_ [B J])<|M1<|L_ (r_ 0 35))<|c1<|b_ (c_ 98 [Y 1,Y 2]<|c_ 104 ([Y 8,Y 9]++r_ 33 19++[Y 54])<|o_ .pl [Y 55]<|o_ .not [Y 55]<|L_ ([Y 0,Y 1]++r_ 3 5++[Y 57]++r_ 8 25++[Y 52,Y 53]))<|d_ 7 (z_<|L_ [B J])<|M1<|L_ (r_ 0 35))<|k_ (L_ [Y 0])<|c1<|M1<|o_ A2 [Y 6,N 1]<|L_ (r_ 0 6++[Y 35]++r_ 8 27))<|c1<|.map [2]<|L_ (r_ 0 35)
def NA:ST:=c1<|.map [0,1,3]<|b_ (o_ L2 [Y 4,Y 3]<|L_ (r_ 0 5++[Y 7,Y 5,Y 6]))<|h_ (d_ 5 (L_ (r_ 0 8))<|M1<|L_ (r_ 0 8))<|k_ (h_ (b_ (o_ (.el 4) [Y 2,Y 4]<|o_ (.has 4) [Y 8]<|L_ (r_ 0 5++[Y 6,Y 7]++xs_ 8 0 4))<|h_ (o_ (.mW 1 I) [Y 8]<|.call 97 [Y 0,Y 11]<|k_ (o_ .pl (r_ 12 3++[Y 17,Y 18]++r_ 21 7++[Y 31])<|L_ ([Y 0,Y 1,Y 31]++r_ 2 9++r_ 12 3++[Y 17,Y 18]++r_ 21 7++[Y 15,Y 16,Y 19,Y 20]++r_ 28 3))<|c1<|M1<|o_ .LJ (r_ 12 20)<|L_ ([Y 0,Y 1,Y 31]++r_ 2 9++r_ 12 19))<|k_ (h_ (b_ (o_ .not [Y 2]<|L_ ([Y 0,Y 1]++r_ 3 3++[Y 31]++r_ 6 25))<|d_ 5 (L_ (r_ 0 31))<|M1<|L_ (r_ 0 31))<|k_ (L_ (r_ 0 31))<|c1<|.map [1,2]<|b_ (c_ 98 [Y 1,Y 9]<|L_ (r_ 0 5++r_ 6 26))<|h_ (b_ (c_ 103 [Y 5,Y 6,Y 30]<|o_ .pl [Y 31]<|o_ .not [Y 31]<|Qq 33<|f_ 33 N2 [Y 7,N 1]<|p_ [(Y 33,J),(Y 35,I)]<|e_ 33 (d_ 35 (c_ 104 ([Y 5,Y 6]++r_ 11 3++[Y 23,Y 24,Y 14,Y 15,Y 25,Y 26]++r_ 16 7++r_ 27 4)<|o_ .pl [Y 37]<|o_ .not [Y 37]<|L_ (r_ 0 5++[Y 39]++r_ 5 26))<|L_ (r_ 0 5++[B J]++r_ 5 26))<|L_ (r_ 0 5++[B I]++r_ 5 26))<|d_ 5 (z_<|L_ [B J])<|M1<|L_ (r_ 0 32))<|k_ (L_ [Y 0])<|c1<|h_ (b_ (o_ N2 [Y 8,N 4]<|Qy 32<|t_ 32 N2 [Y 8,N 5]<|Ys 32 34<|L_ (r_ 0 5++[Y 35]++r_ 6 26))<|d_ 5 (b_ (c_ 105 [Y 0,Y 9]<|L_ (r_ 0 5++r_ 6 27))<|b_ (o_ .len [Y 31]<|L_ (r_ 0 5++[Y 32,N 0]++r_ 5 27))<|.loop 0 (r_ 0 34) adH)<|.map [2]<|L_ (r_ 0 32))<|k_ (L_ [Y 0])<|k_ (b_ (c_ 106 [Y 8,Y 9,Y 32,Y 33,Y 13]<|o_ .pl [Y 35]<|o_ .not [Y 35]<|L_ (r_ 0 5++[Y 37,Y 8,Y 9]))<|d_ 5 (z_<|L_ [B J])<|M1<|L_ (r_ 0 8))<|c1<|b_ (c_ 106 [Y 6,Y 7,Y 30,Y 31,Y 11]<|o_ .pl [Y 32]<|o_ .not [Y 32]<|L_ (r_ 0 5++[Y 34,Y 6,Y 7]))<|d_ 5 (z_<|L_ [B J])<|M1<|L_ (r_ 0 8))<|c1<|.map [3,1,2]<|h_ (b_ (o_ .not [Y 2]<|L_ ([Y 0,Y 1]++r_ 3 3++[Y 31]++r_ 6 25))<|d_ 5 (L_ (r_ 0 31))<|M1<|L_ (r_ 0 31))<|k_ (L_ (r_ 0 31))<|c1<|.map [1,2]<|b_ (c_ 98 [Y 1,Y 9]<|L_ (r_ 0 5++r_ 6 26))<|h_ (b_ (c_ 103 [Y 5,Y 6,Y 30]<|o_ .pl [Y 31]<|o_ .not [Y 31]<|Qq 33<|f_ 33 N2 [Y 7,N 1]<|p_ [(Y 33,J),(Y 35,I)]<|e_ 33 (d_ 35 (c_ 104 ([Y 5,Y 6]++r_ 11 20)<|o_ .pl [Y 37]<|o_ .not [Y 37]<|L_ (r_ 0 5++[Y 39]++r_ 5 26))<|L_ (r_ 0 5++[B J]++r_ 5 26))<|L_ (r_ 0 5++[B I]++r_ 5 26))<|d_ 5 (z_<|L_ [B J])<|M1<|L_ (r_ 0 32))<|k_ (L_ [Y 0])<|c1<|h_ (b_ (o_ N2 [Y 8,N 4]<|Qy 32<|t_ 32 N2 [Y 8,N 5]<|Ys 32 34<|L_ (r_ 0 5++[Y 35]++r_ 6 26))<|d_ 5 (b_ (c_ 105 [Y 0,Y 9]<|L_ (r_ 0 5++r_ 6 27))<|b_ (o_ .len [Y 31]<|L_ (r_ 0 5++[Y 32,N 0]++r_ 5 27))<|.loop 0 (r_ 0 34) adI)<|.map [2]<|L_ (r_ 0 32))<|k_ (L_ [Y 0])<|k_ (b_ (c_ 106 [Y 8,Y 9,Y 32,Y 33,Y 13]<|o_ .pl [Y 35]<|o_ .not [Y 35]<|L_ (r_ 0 5++[Y 37,Y 8,Y 9]))<|d_ 5 (z_<|L_ [B J])<|M1<|L_ (r_ 0 8))<|c1<|b_ (c_ 106 [Y 6,Y 7,Y 30,Y 31,Y 11]<|o_ .pl [Y 32]<|o_ .not [Y 32]<|L_ (r_ 0 5++[Y 34,Y 6,Y 7]))<|d_ 5 (z_<|L_ [B J])<|M1<|L_ (r_ 0 8))<|k_ (o_ A2 [Y 4,N 1]<|L_ (r_ 0 4++[Y 31,Y 6,Y 7]))<|k_ (M1<|L_ [Y 0])<|k_ (o_ A2 [Y 4,N 1]<|L_ (r_ 0 4++[Y 8,Y 6,Y 7]))<|c1<|o_ A2 [Y 4,N 1]<|L_ (r_ 0 4++[Y 31,Y 6,Y 7]))<|c1<|.map [2]<|L_ (r_ 0 8)
def t106:R_ [81020,31020] 106:=⟨z_<|b_ (L_ (r_ 2 3++[Y 0,Y 1]))<|h_ (b_ (o_ .len [Y 2]<|L_ (r_ 0 3++[Y 5,N 0,Y 3,Y 4]))<|.loop 0 (r_ 0 7) NA)<|k_ (L_ [Y 0])<|c1<|z_<|L_ [B I],by kernel_rfl⟩
def ahC:KF:=by refine (?f:kx 282=?t->KF) ?p;exact λ_=>?t;conv=>lhs;reduce
def ajx:ST:=by refine (?f:rx [26003,18003,10003] 282 ahC=?t->ST) ?p;exact λ_=>?t;conv=>lhs;reduce
def t282:R_ [26003,18003,10003] 282:=⟨_,nU (r:=ajx) (by kernel_rfl) (by conv=>lhs;reduce)⟩
def ahN:KF:=by refine (?f:kx 422=?t->KF) ?p;exact λ_=>?t;conv=>lhs;reduce
def ajB:ST:=by refine (?f:rx [38020] 422 ahN=?t->ST) ?p;exact λ_=>?t;conv=>lhs;reduce
def sq:R_ [38020] 422:=⟨_,nU (r:=ajB) (by kernel_rfl) (by conv=>lhs;reduce)⟩
def D2:ST:=by refine (?f:lp [] 394 0=?t->ST) ?p;exact λ_=>?t;conv=>lhs;reduce
def FO:R_ [] 394:=⟨_,by conv=>lhs;reduce;rw[<- D2.eq_1]⟩
def xy:ST:=by refine (?f:lp [] 240 0=?t->ST) ?p;exact λ_=>?t;conv=>lhs;reduce
def IM:ST:=by refine (?f:lp [] 240 1=?t->ST) ?p;exact λ_=>?t;conv=>lhs;reduce
def t240:R_ [] 240:=⟨_,by conv=>lhs;reduce;rw[<- xy.eq_1,<- IM.eq_1]⟩
def D0:ST:=by refine (?f:lp [45003] 351 0=?t->ST) ?p;exact λ_=>?t;conv=>lhs;reduce
def Tq:R_ [45003] 351:=⟨_,by conv=>lhs;reduce;rw[<- D0.eq_1]⟩
def IH:ST:=by refine (?f:lp [] 215 0=?t->ST) ?p;exact λ_=>?t;conv=>lhs;reduce
def t215:R_ [] 215:=⟨_,by conv=>lhs;reduce;rw[<- IH.eq_1]⟩
def DQ:ST:=by refine (?f:lp [] 244 0=?t->ST) ?p;exact λ_=>?t;conv=>lhs;reduce
def t244:R_ [] 244:=⟨_,by conv=>lhs;reduce;rw[<- DQ.eq_1]⟩
def AG:ST:=by refine (?f:lp [] 224 0=?t->ST) ?p;exact λ_=>?t;conv=>lhs;reduce
def t224:R_ [] 224:=⟨_,by conv=>lhs;reduce;rw[<- AG.eq_1]⟩
def ajT:R_ [] 321:=⟨_,by conv=>lhs;reduce⟩
def IT:ST:=by refine (?f:lp [] 261 0=?t->ST) ?p;exact λ_=>?t;conv=>lhs;reduce
def t261:R_ [] 261:=⟨_,by conv=>lhs;reduce;rw[<- IT.eq_1]⟩
def Ow:R_ [] 397:=⟨_,by conv=>lhs;reduce⟩
def IF:ST:=by refine (?f:lp [] 210 0=?t->ST) ?p;exact λ_=>?t;conv=>lhs;reduce
def t210:R_ [] 210:=⟨_,by conv=>lhs;reduce;rw[<- IF.eq_1]⟩
def IX:ST:=by refine (?f:lp [] 271 0=?t->ST) ?p;exact λ_=>?t;conv=>lhs;reduce
def t271:R_ [] 271:=⟨_,by conv=>lhs;reduce;rw[<- IX.eq_1]⟩
def Lu:ST:=by refine (?f:lp [] 95 0=?t->ST) ?p;exact λ_=>?t;conv=>lhs;reduce
def t95:R_ [] 95:=⟨_,by conv=>lhs;reduce;rw[<- Lu.eq_1]⟩
def abi:R_ [] 421:=⟨_,by conv=>lhs;reduce⟩
def t272:R_ [] 272:=⟨_,by conv=>lhs;reduce⟩
def t275:R_ [] 275:=⟨_,by conv=>lhs;reduce⟩
def t227:R_ [] 227:=⟨_,by conv=>lhs;reduce⟩
def t94:R_ [] 94:=⟨_,by conv=>lhs;reduce⟩
def ajZ:R_ [] 327:=⟨_,by conv=>lhs;reduce⟩
def t39:R_ [] 39:=⟨_,by conv=>lhs;reduce⟩
def aj8:R_ [] 390:=⟨_,by conv=>lhs;reduce⟩
def t99:R_ [] 99:=⟨_,by conv=>lhs;reduce⟩
theorem akA:zX ((nY.drop 27).take 9)=I:=by kernel_rfl
theorem af2:zX ((nY.drop 99).take 9)=I:=by kernel_rfl
theorem af_:zX ((nY.drop 171).take 9)=I:=by kernel_rfl
end
end
end Go.Proofs.YthlpjklbafakfaaGreatDoor
