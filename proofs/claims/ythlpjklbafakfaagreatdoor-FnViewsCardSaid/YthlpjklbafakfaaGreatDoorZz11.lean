/- Part of the proof: a machine over plain data, its proof, the functions of the program run on symbols, what they answer. Condition: none. -/
import Derived.Test.YthlpjklbafakfaaGreatDoorZz04
set_option linter.unusedVariables false
set_option linter.unusedSimpArgs false
open Bool renaming true->I,false->J
namespace Go.Proofs.YthlpjklbafakfaaGreatDoor
set_option maxRecDepth 100000
set_option maxHeartbeats 400000000
section
noncomputable section
def ahH:KF:=by refine (?f:kx 395=?t->KF) ?p;exact λ_=>?t;conv=>lhs;reduce
def QO:ST:=by refine (?f:rx [] 395 ahH=?t->ST) ?p;exact λ_=>?t;conv=>lhs;reduce
def xB:ST:=by refine (?f:lq QO 0=?t->ST) ?p;exact λ_=>?t;conv=>lhs;reduce
def xC:ST:=by refine (?f:lq QO 1=?t->ST) ?p;exact λ_=>?t;conv=>lhs;reduce
def lM:ST:=by refine (?f:lq QO 4=?t->ST) ?p;exact λ_=>?t;conv=>lhs;reduce;rw[<- xB.eq_1,<- xC.eq_1]
def XS:R_ [] 395:=⟨_,nU (r:=QO) (by kernel_rfl) (by conv=>lhs;reduce;rw[<- xB.eq_1,<- xC.eq_1,<- lM.eq_1])⟩
def adJ:ST:=k_ (.map [2,1]<|b_ (o_ L2 [Y 7,Y 6]<|L_ (r_ 0 8++[Y 34]++r_ 8 26))<|h_ (d_ 8 (L_ (r_ 0 35))<|M1<|L_ (r_ 0 35))<|k_ (b_ (b_ (o_ .FA [Y 29,Y 7]<|o_ (.Gv 1 0 1 I) [Y 29,Y 7]<|o_ (.OX 0) [Y 36]<|L_ (r_ 0 3++[Y 37]++r_ 3 5++r_ 9 26))<|Qy 2<|d_ 2 (c_ 98 [Y 34,Y 3]<|c_ 102 [Y 9,Y 10,Y 36]<|o_ .pl [Y 37]<|L_ ([Y 0,Y 1,Y 34,Y 37]++r_ 4 31))<|L_ ([Y 0,Y 1,Y 34,B J]++r_ 4 31))<|o_ A2 [Y 8,N 1]<|L_ (r_ 0 8++[Y 35]++r_ 9 26))<|c1<|M1<|L_ (r_ 0 35))<|c1<|.map [2,3]<|b_ (o_ L2 [Y 8,Y 7]<|L_ (r_ 0 9++[Y 35]++r_ 9 26))<|h_ (d_ 9 (L_ (r_ 0 36))<|M1<|L_ (r_ 0 36))<|k_ (b_ (b_ (o_ .FA [Y 30,Y 8]<|o_ (.Gv 1 0 1 I) [Y 30,Y 8]<|o_ (.OX 0) [Y 37]<|L_ (r_ 0 4++[Y 38]++r_ 4 5++r_ 10 26))<|Qy 3<|d_ 3 (c_ 98 [Y 2,Y 4]<|c_ 102 [Y 10,Y 11,Y 37]<|o_ .pl [Y 38]<|L_ (r_ 0 3++[Y 38]++r_ 5 31))<|L_ (r_ 0 3++[B J]++r_ 5 31))<|o_ A2 [Y 8,N 1]<|L_ (r_ 0 8++[Y 35]++r_ 9 26))<|c1<|M1<|L_ (r_ 0 36)
def DZ:ST:=k_ (.map [2,1]<|b_ (o_ L2 [Y 8,Y 7]<|L_ (r_ 0 9++[Y 35]++r_ 9 26))<|h_ (d_ 9 (L_ (r_ 0 36))<|M1<|L_ (r_ 0 36))<|k_ (b_ (b_ (o_ (.el 1) [Y 6,Y 8]<|o_ (.OX 0) [Y 36]<|L_ (r_ 0 3++[Y 37]++r_ 3 6++r_ 10 26))<|Qy 2<|d_ 2 (c_ 98 [Y 35,Y 3]<|c_ 102 [Y 10,Y 11,Y 37]<|o_ .pl [Y 38]<|L_ ([Y 0,Y 1,Y 35,Y 38]++r_ 4 32))<|L_ ([Y 0,Y 1,Y 35,B J]++r_ 4 32))<|o_ A2 [Y 9,N 1]<|L_ (r_ 0 9++[Y 36]++r_ 10 26))<|c1<|M1<|L_ (r_ 0 36))<|c1<|.map [2,3]<|b_ (o_ L2 [Y 9,Y 8]<|L_ (r_ 0 10++[Y 36]++r_ 10 26))<|h_ (d_ 10 (L_ (r_ 0 37))<|M1<|L_ (r_ 0 37))<|k_ (b_ (b_ (o_ (.el 1) [Y 7,Y 9]<|o_ (.OX 0) [Y 37]<|L_ (r_ 0 4++[Y 38]++r_ 4 6++r_ 11 26))<|Qy 3<|d_ 3 (c_ 98 [Y 2,Y 4]<|c_ 102 [Y 11,Y 12,Y 38]<|o_ .pl [Y 39]<|L_ (r_ 0 3++[Y 39]++r_ 5 32))<|L_ (r_ 0 3++[B J]++r_ 5 32))<|o_ A2 [Y 9,N 1]<|L_ (r_ 0 9++[Y 36]++r_ 10 26))<|c1<|M1<|L_ (r_ 0 37)
def u0:ST:=c1<|.map [0,1]<|b_ (o_ L2 [Y 4,Y 3]<|L_ (r_ 0 5++[Y 8]++r_ 5 3))<|h_ (d_ 5 (L_ (r_ 0 9))<|M1<|L_ (r_ 0 9))<|k_ (h_ (b_ (o_ (.el 3) [Y 2,Y 4]<|o_ (.has 3) [Y 9]<|L_ (r_ 0 5++[Y 6,Y 7]++xs_ 9 0 3++[Y 8]))<|h_ (o_ (.mW 1 I) [Y 7]<|.call 97 [Y 0,Y 11]<|k_ (o_ .pl (r_ 12 3++[Y 17,Y 18]++r_ 21 7++[Y 31])<|L_ (r_ 0 10++r_ 12 3++[Y 17,Y 18]++r_ 21 7++[Y 10,Y 15,Y 16,Y 19,Y 20]++r_ 28 3))<|c1<|M1<|o_ .LJ (r_ 12 20)<|L_ (r_ 0 10++r_ 12 19++[Y 10]))<|k_ (b_ (c_ 98 [Y 1,Y 7]<|L_ (r_ 0 31))<|b_ (c_ 102 [Y 5,Y 6,Y 30]<|o_ .pl [Y 31]<|L_ ([Y 0,Y 1,Y 31]++r_ 2 29))<|h_ (b_ (o_ .len [Y 26]<|L_ (r_ 0 6++[Y 32,N 0]++r_ 6 26))<|.loop 0 (r_ 0 34) adJ)<|k_ (h_ (b_ (o_ .not [Y 2]<|L_ ([Y 0,Y 1]++r_ 3 3++[Y 35]++r_ 9 26))<|d_ 5 (L_ (r_ 0 32))<|M1<|L_ (r_ 0 32))<|k_ (L_ (r_ 0 32))<|c1<|.map [1,2]<|b_ (c_ 342 [Y 6,Y 7,Y 30,Y 10,Y 31]<|L_ (r_ 0 5++r_ 6 4++r_ 11 20++[Y 32]))<|h_ (b_ (o_ E2 [Y 9,N 1]<|Qy 30<|t_ 30 .not [Y 17]<|Ys 30 32<|Qy 33<|t_ 33 .len [Y 29]<|t_ 33 E2 [Y 35,N 0]<|Ys 33 36<|L_ (r_ 0 5++[Y 37]++r_ 5 4++r_ 21 9))<|d_ 5 (L_ (r_ 0 19))<|M1<|L_ (r_ 0 19))<|k_ (L_ (r_ 0 19))<|c1<|M1<|o_ .pl [Y 8,Y 9]<|o_ (.mW 3 J) [Y 8,Y 9,Y 18]<|o_ (.app 3 56) [Y 10,Y 20]<|L_ (r_ 0 5++[Y 6,Y 7,Y 21]))<|c1<|.map [3,1,2]<|h_ (b_ (o_ .not [Y 3]<|L_ (r_ 0 3++r_ 4 3++[Y 36]++r_ 10 26))<|d_ 6 (L_ (r_ 0 33))<|M1<|L_ (r_ 0 33))<|k_ (L_ (r_ 0 33))<|c1<|.map [1,2]<|b_ (c_ 342 [Y 7,Y 8,Y 31,Y 11,Y 2]<|L_ ([Y 0,Y 1]++r_ 3 3++r_ 7 4++r_ 12 20++[Y 33]))<|h_ (b_ (o_ E2 [Y 9,N 1]<|Qy 30<|t_ 30 .not [Y 17]<|Ys 30 32<|Qy 33<|t_ 33 .len [Y 29]<|t_ 33 E2 [Y 35,N 0]<|Ys 33 36<|L_ (r_ 0 5++[Y 37]++r_ 5 4++r_ 21 9))<|d_ 5 (L_ (r_ 0 19))<|M1<|L_ (r_ 0 19))<|k_ (L_ (r_ 0 19))<|c1<|M1<|o_ .pl [Y 8,Y 9]<|o_ (.mW 3 J) [Y 8,Y 9,Y 18]<|o_ (.app 3 56) [Y 10,Y 20]<|L_ (r_ 0 5++[Y 6,Y 7,Y 21]))<|c1<|.map [4,5,2,6]<|b_ (c_ 98 [Y 1,Y 7]<|L_ (r_ 0 31))<|b_ (c_ 102 [Y 5,Y 6,Y 30]<|o_ .pl [Y 31]<|L_ ([Y 0,Y 1,Y 31]++r_ 2 29))<|h_ (b_ (o_ .len [Y 18]<|L_ (r_ 0 6++[Y 18,Y 32,N 0]++r_ 6 26))<|.loop 0 (r_ 0 35) DZ)<|k_ (h_ (b_ (o_ .not [Y 2]<|L_ ([Y 0,Y 1]++r_ 3 3++[Y 36]++r_ 10 26))<|d_ 5 (L_ (r_ 0 32))<|M1<|L_ (r_ 0 32))<|k_ (L_ (r_ 0 32))<|c1<|.map [1,2]<|b_ (c_ 342 [Y 6,Y 7,Y 29,Y 10,Y 31]<|L_ (r_ 0 5++r_ 6 4++r_ 11 20++[Y 32]))<|h_ (b_ (o_ E2 [Y 9,N 1]<|Qy 30<|t_ 30 .not [Y 21]<|Ys 30 32<|Qy 33<|t_ 33 .len [Y 29]<|t_ 33 E2 [Y 35,N 0]<|Ys 33 36<|L_ (r_ 0 5++[Y 37]++r_ 5 4++[Y 28,Y 29]))<|d_ 5 (L_ (r_ 0 12))<|M1<|L_ (r_ 0 12))<|k_ (L_ (r_ 0 12))<|c1<|M1<|o_ .pl [Y 8,Y 9]<|o_ (.mW 3 J) [Y 8,Y 9,Y 11]<|o_ (.app 3 56) [Y 10,Y 13]<|L_ (r_ 0 5++[Y 6,Y 7,Y 14]))<|c1<|.map [3,1,2]<|h_ (b_ (o_ .not [Y 3]<|L_ (r_ 0 3++r_ 4 3++[Y 37]++r_ 11 26))<|d_ 6 (L_ (r_ 0 33))<|M1<|L_ (r_ 0 33))<|k_ (L_ (r_ 0 33))<|c1<|.map [1,2]<|b_ (c_ 342 [Y 7,Y 8,Y 30,Y 11,Y 2]<|L_ ([Y 0,Y 1]++r_ 3 3++r_ 7 4++r_ 12 20++[Y 33]))<|h_ (b_ (o_ E2 [Y 9,N 1]<|Qy 30<|t_ 30 .not [Y 21]<|Ys 30 32<|Qy 33<|t_ 33 .len [Y 29]<|t_ 33 E2 [Y 35,N 0]<|Ys 33 36<|L_ (r_ 0 5++[Y 37]++r_ 5 4++[Y 28,Y 29]))<|d_ 5 (L_ (r_ 0 12))<|M1<|L_ (r_ 0 12))<|k_ (L_ (r_ 0 12))<|c1<|M1<|o_ .pl [Y 8,Y 9]<|o_ (.mW 3 J) [Y 8,Y 9,Y 11]<|o_ (.app 3 56) [Y 10,Y 13]<|L_ (r_ 0 5++[Y 6,Y 7,Y 14]))<|k_ (o_ A2 [Y 4,N 1]<|L_ (r_ 0 4++[Y 32,Y 6,Y 7,Y 23]))<|k_ (o_ A2 [Y 4,N 1]<|L_ (r_ 0 4++[Y 19,Y 6,Y 7,Y 10]))<|k_ (o_ A2 [Y 4,N 1]<|L_ (r_ 0 4++[Y 8]++r_ 5 3))<|k_ (o_ A2 [Y 5,N 1]<|L_ [Y 0,Y 1,Y 3,Y 4,Y 33,Y 7,Y 8,Y 24])<|k_ (o_ A2 [Y 4,N 1]<|L_ (r_ 0 4++[Y 32,Y 6,Y 7,Y 30]))<|k_ (o_ A2 [Y 4,N 1]<|L_ (r_ 0 4++[Y 12,Y 6,Y 7,Y 10]))<|c1<|o_ A2 [Y 5,N 1]<|L_ [Y 0,Y 1,Y 3,Y 4,Y 33,Y 7,Y 8,Y 31])<|c1<|M1<|L_ (r_ 0 9)
def aj3:R_ [30020] 342:=⟨z_<|b_ (L_ (r_ 2 3++[Y 0,Y 1]))<|b_ (o_ (.mW 3 J) []<|L_ (r_ 0 6))<|b_ (b_ (o_ .len [Y 1]<|L_ ([Y 0,Y 2,Y 1,Y 6,N 0]++r_ 3 3))<|.loop 0 (r_ 0 8) u0)<|z_<|L_ [Y 8],by kernel_rfl⟩
def ahQ:KF:=by refine (?f:kx 431=?t->KF) ?p;exact λ_=>?t;conv=>lhs;reduce
def ace:ST:=by refine (?f:rx [138002,86002] 431 ahQ=?t->ST) ?p;exact λ_=>?t;conv=>lhs;reduce
def gZ:ST:=by refine (?f:lq ace 0=?t->ST) ?p;exact λ_=>?t;conv=>lhs;reduce
def abk:R_ [138002,86002] 431:=⟨_,nU (r:=ace) (by kernel_rfl) (by conv=>lhs;reduce;rw[<- gZ.eq_1])⟩
def ahR:KF:=by refine (?f:kx 433=?t->KF) ?p;exact λ_=>?t;conv=>lhs;reduce
def acf:ST:=by refine (?f:rx [15004,37004] 433 ahR=?t->ST) ?p;exact λ_=>?t;conv=>lhs;reduce
def adP:ST:=by refine (?f:lq acf 0=?t->ST) ?p;exact λ_=>?t;conv=>lhs;reduce
def ake:R_ [15004,37004] 433:=⟨_,nU (r:=acf) (by kernel_rfl) (by conv=>lhs;reduce;rw[<- adP.eq_1])⟩
def alA:KF:=by refine (?f:kx 93=?t->KF) ?p;exact λ_=>?t;conv=>lhs;reduce
def ajD:ST:=by refine (?f:rx [26019] 93 alA=?t->ST) ?p;exact λ_=>?t;conv=>lhs;reduce
def kW:ST:=by refine (?f:lq ajD 0=?t->ST) ?p;exact λ_=>?t;conv=>lhs;reduce
def t93:R_ [26019] 93:=⟨_,nU (r:=ajD) (by kernel_rfl) (by conv=>lhs;reduce;rw[<- kW.eq_1])⟩
def xx:ST:=by refine (?f:lp [] 205 0=?t->ST) ?p;exact λ_=>?t;conv=>lhs;reduce
def Az:ST:=by refine (?f:lp [] 205 1=?t->ST) ?p;exact λ_=>?t;conv=>lhs;reduce;rw[<- xx.eq_1]
def IE:ST:=by refine (?f:lp [] 205 2=?t->ST) ?p;exact λ_=>?t;conv=>lhs;reduce;rw[<- xx.eq_1,<- Az.eq_1]
def t205:R_ [] 205:=⟨_,by conv=>lhs;reduce;rw[<- xx.eq_1,<- Az.eq_1,<- IE.eq_1]⟩
def t222:R_ [] 222:=⟨_,by conv=>lhs;reduce⟩
def mh:ST:=by refine (?f:lp [] 392 0=?t->ST) ?p;exact λ_=>?t;conv=>lhs;reduce
def abd:R_ [] 392:=⟨_,by conv=>lhs;reduce;rw[<- mh.eq_1]⟩
def Hc:ST:=by refine (?f:lp [] 78 0=?t->ST) ?p;exact λ_=>?t;conv=>lhs;reduce
def t78:R_ [] 78:=⟨_,by conv=>lhs;reduce;rw[<- Hc.eq_1]⟩
def AT:ST:=by refine (?f:lp [] 393 0=?t->ST) ?p;exact λ_=>?t;conv=>lhs;reduce
def JB:R_ [] 393:=⟨_,by conv=>lhs;reduce;rw[<- AT.eq_1]⟩
def IC:ST:=by refine (?f:lp [] 202 0=?t->ST) ?p;exact λ_=>?t;conv=>lhs;reduce
def t202:R_ [] 202:=⟨_,by conv=>lhs;reduce;rw[<- IC.eq_1]⟩
def t284:R_ [] 284:=⟨_,by conv=>lhs;reduce⟩
def DR:ST:=by refine (?f:lp [] 248 0=?t->ST) ?p;exact λ_=>?t;conv=>lhs;reduce
def t248:R_ [] 248:=⟨_,by conv=>lhs;reduce;rw[<- DR.eq_1]⟩
def abc:R_ [] 388:=⟨_,by conv=>lhs;reduce⟩
def IS:ST:=by refine (?f:lp [] 257 0=?t->ST) ?p;exact λ_=>?t;conv=>lhs;reduce
def t257:R_ [] 257:=⟨_,by conv=>lhs;reduce;rw[<- IS.eq_1]⟩
def ID:ST:=by refine (?f:lp [] 204 0=?t->ST) ?p;exact λ_=>?t;conv=>lhs;reduce
def t204:R_ [] 204:=⟨_,by conv=>lhs;reduce;rw[<- ID.eq_1]⟩
def DS:ST:=by refine (?f:lp [] 262 0=?t->ST) ?p;exact λ_=>?t;conv=>lhs;reduce
def t262:R_ [] 262:=⟨_,by conv=>lhs;reduce;rw[<- DS.eq_1]⟩
def IQ:ST:=by refine (?f:lp [] 256 0=?t->ST) ?p;exact λ_=>?t;conv=>lhs;reduce
def t256:R_ [] 256:=⟨_,by conv=>lhs;reduce;rw[<- IQ.eq_1]⟩
def akf:R_ [] 434:=⟨_,by conv=>lhs;reduce⟩
def t235:R_ [] 235:=⟨_,by conv=>lhs;reduce⟩
def anj:R_ [] 387:=⟨_,by conv=>lhs;reduce⟩
def t213:R_ [] 213:=⟨_,by conv=>lhs;reduce⟩
def t92:R_ [] 92:=⟨_,by conv=>lhs;reduce⟩
def t206:R_ [] 206:=⟨_,by conv=>lhs;reduce⟩
def t268:R_ [] 268:=⟨_,by conv=>lhs;reduce⟩
def t107:R_ [] 107:=⟨_,by conv=>lhs;reduce⟩
def ajO:R_ [] 303:=⟨_,by conv=>lhs;reduce⟩
theorem akD:zX ((nY.drop 54).take 9)=I:=by kernel_rfl
theorem af5:zX ((nY.drop 126).take 9)=I:=by kernel_rfl
theorem agc:zX ((nY.drop 198).take 9)=I:=by kernel_rfl
end
end
end Go.Proofs.YthlpjklbafakfaaGreatDoor
