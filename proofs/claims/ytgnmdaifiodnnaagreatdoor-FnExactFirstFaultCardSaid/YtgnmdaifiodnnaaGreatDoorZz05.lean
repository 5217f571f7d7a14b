/- Part of the proof. Condition: none. -/
import Derived.Test.YtgnmdaifiodnnaaGreatDoorZz04
set_option linter.all false
open Bool renaming true->I,false->J
namespace Go.Proofs.YtgnmdaifiodnnaaGreatDoor
set_option maxRecDepth 100000
set_option maxHeartbeats 400000000
noncomputable section
def ama:KF:=by refine (?f:kx 498=?t->KF) ?p;exact λ_=>?t;conv=>lhs;reduce
def O4:ST:=by refine (?f:rx [] 498 ama=?t->ST) ?p;exact λ_=>?t;conv=>lhs;reduce
def sb:ST:=by refine (?f:lq O4 0=?t->ST) ?p;exact λ_=>?t;conv=>lhs;reduce
def yN:ST:=by refine (?f:lq O4 2=?t->ST) ?p;exact λ_=>?t;conv=>lhs;reduce
def aaI:ST:=by refine (?f:lq O4 8=?t->ST) ?p;exact λ_=>?t;conv=>lhs;reduce;rw[<- sb.eq_1,<- yN.eq_1]
def jF:ST:=by refine (?f:lq O4 17=?t->ST) ?p;exact λ_=>?t;conv=>lhs;reduce;rw[<- sb.eq_1,<- yN.eq_1]
def XA:R_ [] 498:=⟨_,mZ (r:=O4) (by kernel_rfl) (by conv=>lhs;reduce;rw[<- sb.eq_1,<- yN.eq_1,<- aaI.eq_1,<- jF.eq_1])⟩
def t226:R_ [] 226:=⟨_,by conv=>lhs;reduce⟩
def yQ:ST:=by refine (?f:lp [] 542 0=?t->ST) ?p;exact λ_=>?t;conv=>lhs;reduce
def ajB:R_ [] 542:=⟨_,by conv=>lhs;reduce;rw[<- yQ.eq_1]⟩
def qP:R_ [] 514:=⟨_,by conv=>lhs;reduce⟩
def ahq:ST:=by refine (?f:lp [] 115 0=?t->ST) ?p;exact λ_=>?t;conv=>lhs;reduce
def t115:R_ [] 115:=⟨_,by conv=>lhs;reduce;rw[<- ahq.eq_1]⟩
def vX:ST:=by refine (?f:lp [] 451 0=?t->ST) ?p;exact λ_=>?t;conv=>lhs;reduce
def aje:R_ [] 451:=⟨_,by conv=>lhs;reduce;rw[<- vX.eq_1]⟩
def LA:ST:=by refine (?f:lp [] 281 0=?t->ST) ?p;exact λ_=>?t;conv=>lhs;reduce
def t281:R_ [] 281:=⟨_,by conv=>lhs;reduce;rw[<- LA.eq_1]⟩
def LB:ST:=by refine (?f:lp [] 288 0=?t->ST) ?p;exact λ_=>?t;conv=>lhs;reduce
def t288:R_ [] 288:=⟨_,by conv=>lhs;reduce;rw[<- LB.eq_1]⟩
def Lw:ST:=by refine (?f:lp [] 269 0=?t->ST) ?p;exact λ_=>?t;conv=>lhs;reduce
def t269:R_ [] 269:=⟨_,by conv=>lhs;reduce;rw[<- Lw.eq_1]⟩
def Lf:ST:=by refine (?f:lp [] 210 0=?t->ST) ?p;exact λ_=>?t;conv=>lhs;reduce
def t210:R_ [] 210:=⟨_,by conv=>lhs;reduce;rw[<- Lf.eq_1]⟩
def Xz:R_ [] 472:=⟨_,by conv=>lhs;reduce⟩
def Tx:ST:=by refine (?f:lp [] 61 0=?t->ST) ?p;exact λ_=>?t;conv=>lhs;reduce
def t61:R_ [] 61:=⟨_,by conv=>lhs;reduce;rw[<- Tx.eq_1]⟩
def XC:R_ [] 509:=⟨_,by conv=>lhs;reduce⟩
def Xy:R_ [] 456:=⟨_,by conv=>lhs;reduce⟩
def t50:R_ [] 50:=⟨_,by conv=>lhs;reduce⟩
def ae8:R_ [] 504:=⟨_,by conv=>lhs;reduce⟩
def ajt:R_ [] 496:=⟨_,by conv=>lhs;reduce⟩
def t285:R_ [] 285:=⟨_,by conv=>lhs;reduce⟩
def t277:R_ [] 277:=⟨_,by conv=>lhs;reduce⟩
def t5:R_ [] 5:=⟨_,by conv=>lhs;reduce⟩
def aoE:R_ [] 492:=⟨_,by conv=>lhs;reduce⟩
def aoH:R_ [] 506:=⟨_,by conv=>lhs;reduce⟩
def ajA:R_ [] 541:=⟨_,by conv=>lhs;reduce⟩
def t74:R_ [] 74:=⟨_,by conv=>lhs;reduce⟩
def aox:R_ [] 463:=⟨_,by conv=>lhs;reduce⟩
def t75:R_ [] 75:=⟨_,by conv=>lhs;reduce⟩
def ao9:Bn ((o9.drop 0).take 12)=I:=by kernel_rfl
def apg:Bn ((o9.drop 96).take 12)=I:=by kernel_rfl
def aki:Bn ((o9.drop 192).take 12)=I:=by kernel_rfl
end
noncomputable section
def aaG:ST:=k_ (.map [1,2,3]<|b_ (o_ L2 [Y 6,Y 5]<|L_ (r_ 0 7++[Y 34]++r_ 7 27))<|h_ (d_ 7 (L_ (r_ 0 7++r_ 8 27))<|M1<|L_ (r_ 0 35))<|k_ (h_ (b_ (o_ (.el 2) [Y 4,Y 6]<|o_ (.has 2) [Y 34]<|L_ (r_ 0 26++[X 34 0,X 34 1]++r_ 26 8))<|b_ (.both (.call 94 [Y 25]<|k_ (.both (.call 314 [Y 36,Y 26]<|k_ (o_ .xK (r_ 37 20)<|L_ ([Y 0,Y 56]++r_ 1 25++[Y 28]))<|c1<|o_ .pl (r_ 37 3++[Y 42,Y 43]++r_ 46 7++[Y 56])<|L_ ([Y 0,Y 56]++r_ 1 25++[Y 28]))<|.call 314 [Y 36,Y 26]<|k_ (o_ .xK (r_ 37 20)<|L_ ([Y 0,Y 56]++r_ 1 25++[Y 28]))<|c1<|o_ .pl (r_ 37 3++[Y 42,Y 43]++r_ 46 7++[Y 56])<|L_ ([Y 0,Y 56]++r_ 1 25++[Y 28]))<|c1<|.both (.call 314 [Y 36,Y 26]<|k_ (o_ .xK (r_ 37 20)<|L_ ([Y 0,Y 56]++r_ 1 25++[Y 28]))<|c1<|o_ .pl (r_ 37 3++[Y 42,Y 43]++r_ 46 7++[Y 56])<|L_ ([Y 0,Y 56]++r_ 1 25++[Y 28]))<|.call 314 [Y 36,Y 26]<|k_ (o_ .xK (r_ 37 20)<|L_ ([Y 0,Y 56]++r_ 1 25++[Y 28]))<|c1<|o_ .pl (r_ 37 3++[Y 42,Y 43]++r_ 46 7++[Y 56])<|L_ ([Y 0,Y 56]++r_ 1 25++[Y 28]))<|.call 94 [Y 25]<|k_ (.call 314 [Y 36,Y 26]<|k_ (o_ .xK (r_ 37 20)<|L_ ([Y 0,Y 56]++r_ 1 25++[Y 28]))<|c1<|o_ .pl (r_ 37 3++[Y 42,Y 43]++r_ 46 7++[Y 56])<|L_ ([Y 0,Y 56]++r_ 1 25++[Y 28]))<|c1<|.call 314 [Y 36,Y 26]<|k_ (o_ .xK (r_ 37 20)<|L_ ([Y 0,Y 56]++r_ 1 25++[Y 28]))<|c1<|o_ .pl (r_ 37 3++[Y 42,Y 43]++r_ 46 7++[Y 56])<|L_ ([Y 0,Y 56]++r_ 1 25++[Y 28]))<|b_ (o_ .not [Y 1]<|L_ ([Y 0]++r_ 2 6++[Y 28]++r_ 8 20))<|d_ 7 (b_ (o_ (.lD 1 I) []<|L_ [B J,Y 27,Y 28])<|L_ (r_ 0 3))<|M1<|L_ (r_ 0 7++r_ 8 20))<|k_ (L_ (r_ 0 3))<|c1<|M1<|o_ A2 [Y 6,N 1]<|L_ (r_ 0 6++[Y 27]++r_ 7 20))<|c1<|.map [2]<|L_ (r_ 0 35))<|c1<|.map [1,2,5]<|b_ (o_ L2 [Y 6,Y 5]<|L_ (r_ 0 7++[Y 27]++r_ 7 20))<|h_ (d_ 7 (L_ (r_ 0 7++r_ 8 20))<|M1<|L_ (r_ 0 28))<|k_ (h_ (b_ (o_ (.el 2) [Y 4,Y 6]<|o_ (.has 2) [Y 27]<|L_ (r_ 0 26++[X 27 0,X 27 1,Y 26]))<|b_ (.both (.call 94 [Y 25]<|k_ (.both (.call 314 [Y 29,Y 26]<|k_ (o_ .xK (r_ 30 20)<|L_ ([Y 0,Y 49]++r_ 1 25++[Y 28]))<|c1<|o_ .pl (r_ 30 3++[Y 35,Y 36]++r_ 39 7++[Y 49])<|L_ ([Y 0,Y 49]++r_ 1 25++[Y 28]))<|.call 314 [Y 29,Y 26]<|k_ (o_ .xK (r_ 30 20)<|L_ ([Y 0,Y 49]++r_ 1 25++[Y 28]))<|c1<|o_ .pl (r_ 30 3++[Y 35,Y 36]++r_ 39 7++[Y 49])<|L_ ([Y 0,Y 49]++r_ 1 25++[Y 28]))<|c1<|.both (.call 314 [Y 29,Y 26]<|k_ (o_ .xK (r_ 30 20)<|L_ ([Y 0,Y 49]++r_ 1 25++[Y 28]))<|c1<|o_ .pl (r_ 30 3++[Y 35,Y 36]++r_ 39 7++[Y 49])<|L_ ([Y 0,Y 49]++r_ 1 25++[Y 28]))<|.call 314 [Y 29,Y 26]<|k_ (o_ .xK (r_ 30 20)<|L_ ([Y 0,Y 49]++r_ 1 25++[Y 28]))<|c1<|o_ .pl (r_ 30 3++[Y 35,Y 36]++r_ 39 7++[Y 49])<|L_ ([Y 0,Y 49]++r_ 1 25++[Y 28]))<|.call 94 [Y 25]<|k_ (.call 314 [Y 29,Y 26]<|k_ (o_ .xK (r_ 30 20)<|L_ ([Y 0,Y 49]++r_ 1 25++[Y 28]))<|c1<|o_ .pl (r_ 30 3++[Y 35,Y 36]++r_ 39 7++[Y 49])<|L_ ([Y 0,Y 49]++r_ 1 25++[Y 28]))<|c1<|.call 314 [Y 29,Y 26]<|k_ (o_ .xK (r_ 30 20)<|L_ ([Y 0,Y 49]++r_ 1 25++[Y 28]))<|c1<|o_ .pl (r_ 30 3++[Y 35,Y 36]++r_ 39 7++[Y 49])<|L_ ([Y 0,Y 49]++r_ 1 25++[Y 28]))<|b_ (o_ .not [Y 1]<|L_ ([Y 0]++r_ 2 6++[Y 28]++r_ 8 20))<|d_ 7 (b_ (o_ (.lD 1 I) []<|L_ [B J,Y 27,Y 28])<|L_ (r_ 0 3))<|M1<|L_ (r_ 0 7++r_ 8 20))<|k_ (L_ (r_ 0 3))<|c1<|M1<|o_ A2 [Y 6,N 1]<|L_ (r_ 0 6++[Y 27]++r_ 7 20))<|c1<|.map [2]<|L_ (r_ 0 28)
def yK:ST:=c1<|.map [1,0,3]<|b_ (o_ L2 [Y 6,Y 5]<|L_ (r_ 0 7++[Y 27]++r_ 7 20))<|h_ (d_ 7 (L_ (r_ 0 7++r_ 8 20))<|M1<|L_ (r_ 0 28))<|k_ (h_ (b_ (o_ (.el 2) [Y 4,Y 6]<|o_ (.has 2) [Y 27]<|L_ (r_ 0 26++[X 27 0,X 27 1,Y 26]))<|b_ (.both (.call 94 [Y 25]<|k_ (.both (.call 314 [Y 29,Y 26]<|k_ (o_ .xK (r_ 30 20)<|L_ ([Y 0,Y 49]++r_ 1 25++[Y 28]))<|c1<|o_ .pl (r_ 30 3++[Y 35,Y 36]++r_ 39 7++[Y 49])<|L_ ([Y 0,Y 49]++r_ 1 25++[Y 28]))<|.call 314 [Y 29,Y 26]<|k_ (o_ .xK (r_ 30 20)<|L_ ([Y 0,Y 49]++r_ 1 25++[Y 28]))<|c1<|o_ .pl (r_ 30 3++[Y 35,Y 36]++r_ 39 7++[Y 49])<|L_ ([Y 0,Y 49]++r_ 1 25++[Y 28]))<|c1<|.both (.call 314 [Y 29,Y 26]<|k_ (o_ .xK (r_ 30 20)<|L_ ([Y 0,Y 49]++r_ 1 25++[Y 28]))<|c1<|o_ .pl (r_ 30 3++[Y 35,Y 36]++r_ 39 7++[Y 49])<|L_ ([Y 0,Y 49]++r_ 1 25++[Y 28]))<|.call 314 [Y 29,Y 26]<|k_ (o_ .xK (r_ 30 20)<|L_ ([Y 0,Y 49]++r_ 1 25++[Y 28]))<|c1<|o_ .pl (r_ 30 3++[Y 35,Y 36]++r_ 39 7++[Y 49])<|L_ ([Y 0,Y 49]++r_ 1 25++[Y 28]))<|.call 94 [Y 25]<|k_ (.call 314 [Y 29,Y 26]<|k_ (o_ .xK (r_ 30 20)<|L_ ([Y 0,Y 49]++r_ 1 25++[Y 28]))<|c1<|o_ .pl (r_ 30 3++[Y 35,Y 36]++r_ 39 7++[Y 49])<|L_ ([Y 0,Y 49]++r_ 1 25++[Y 28]))<|c1<|.call 314 [Y 29,Y 26]<|k_ (o_ .xK (r_ 30 20)<|L_ ([Y 0,Y 49]++r_ 1 25++[Y 28]))<|c1<|o_ .pl (r_ 30 3++[Y 35,Y 36]++r_ 39 7++[Y 49])<|L_ ([Y 0,Y 49]++r_ 1 25++[Y 28]))<|b_ (o_ .not [Y 1]<|L_ ([Y 0]++r_ 2 6++[Y 28]++r_ 8 20))<|d_ 7 (b_ (o_ (.lD 1 I) []<|L_ [B J,Y 27,Y 28])<|L_ (r_ 0 3))<|M1<|L_ (r_ 0 7++r_ 8 20))<|k_ (L_ (r_ 0 3))<|c1<|M1<|o_ A2 [Y 6,N 1]<|L_ (r_ 0 6++[Y 27]++r_ 7 20))<|c1<|.map [2]<|L_ (r_ 0 28)
def r5:ST:=k_ (.map [1,3,0,5,7,2,9]<|b_ (o_ L2 [Y 3,Y 2]<|L_ (r_ 0 4++[Y 5,Y 4]))<|h_ (d_ 4 (L_ (r_ 0 4++[Y 5]))<|M1<|L_ (r_ 0 6))<|k_ (h_ (b_ (o_ (.el 2) [Y 1,Y 3]<|o_ (.has 2) [Y 5]<|L_ (r_ 0 4++[X 5 0,X 5 1,Y 4]))<|b_ (o_ (.lD 1 I) [Y 4]<|o_ (.app 1 16) [Y 6,Y 7]<|L_ (r_ 0 6++[Y 8]))<|h_ (.call 97 [Y 0,Y 6]<|k_ (o_ .pl (r_ 7 3++[Y 12,Y 13]++r_ 16 7++[Y 26])<|L_ ([Y 0,Y 26]++r_ 1 5++r_ 7 3++[Y 12,Y 13]++r_ 16 7++[Y 6,Y 10,Y 11,Y 14,Y 15]++r_ 23 3))<|c1<|M1<|o_ .xK (r_ 7 20)<|L_ ([Y 0,Y 26]++r_ 1 5++r_ 7 19++[Y 6]))<|k_ (h_ (b_ (o_ .not [Y 1]<|L_ ([Y 0]++r_ 2 3++[Y 27]++r_ 5 5++[Y 20,Y 21,Y 10,Y 11,Y 22,Y 23]++r_ 12 7++r_ 24 3++r_ 19 8))<|d_ 4 (b_ (o_ (.lD 1 I) []<|L_ [B J,Y 26,Y 34])<|L_ (r_ 0 3))<|M1<|L_ (r_ 0 4++r_ 5 29))<|k_ (L_ (r_ 0 3))<|c1<|.map [1,2,3]<|b_ (o_ .len [Y 5]<|L_ (r_ 0 4++[Y 5,Y 33,N 0]++r_ 6 27))<|.loop 0 (r_ 0 34) aaG)<|c1<|.map [4,5,6]<|h_ (b_ (o_ .not [Y 1]<|L_ ([Y 0]++r_ 2 3++[Y 27]++r_ 5 22))<|d_ 4 (b_ (o_ (.lD 1 I) []<|L_ [B J,Y 26,Y 27])<|L_ (r_ 0 3))<|M1<|L_ (r_ 0 4++r_ 5 22))<|k_ (L_ (r_ 0 3))<|c1<|.map [1,2]<|b_ (o_ .len [Y 5]<|L_ (r_ 0 4++[Y 5,Y 26,N 0]++r_ 6 20))<|.loop 0 (r_ 0 27) yK)<|k_ (L_ (r_ 0 3))<|k_ (M1<|L_ (r_ 0 3))<|k_ (.map [2]<|o_ A2 [Y 3,N 1]<|L_ (r_ 0 3++[Y 35,Y 27]))<|k_ (.map [2]<|o_ A2 [Y 3,N 1]<|L_ (r_ 0 3++[Y 28,Y 27]))<|k_ (.map [3]<|L_ (r_ 0 3))<|k_ (.map [4]<|L_ (r_ 0 3))<|c1<|.map [5]<|o_ A2 [Y 3,N 1]<|L_ (r_ 0 3++[Y 28,Y 27]))<|c1<|.map [6]<|L_ (r_ 0 6))<|c1<|.map [5,7,2,11]<|b_ (o_ L2 [Y 3,Y 2]<|L_ (r_ 0 4++[Y 5,Y 4]))<|h_ (d_ 4 (L_ (r_ 0 4++[Y 5]))<|M1<|L_ (r_ 0 6))<|k_ (h_ (b_ (o_ (.el 2) [Y 1,Y 3]<|o_ (.has 2) [Y 5]<|L_ (r_ 0 4++[X 5 0,X 5 1,Y 4]))<|b_ (o_ (.lD 1 I) [Y 4]<|o_ (.app 1 16) [Y 6,Y 7]<|L_ (r_ 0 6++[Y 8]))<|h_ (.call 97 [Y 0,Y 6]<|k_ (o_ .pl (r_ 7 3++[Y 12,Y 13]++r_ 16 7++[Y 26])<|L_ ([Y 0,Y 26]++r_ 1 5++r_ 7 3++[Y 12,Y 13]++r_ 16 7++[Y 6,Y 10,Y 11,Y 14,Y 15]++r_ 23 3))<|c1<|M1<|o_ .xK (r_ 7 20)<|L_ ([Y 0,Y 26]++r_ 1 5++r_ 7 19++[Y 6]))<|k_ (h_ (b_ (o_ .not [Y 1]<|L_ ([Y 0]++r_ 2 3++[Y 27]++r_ 5 5++[Y 20,Y 21,Y 10,Y 11,Y 22,Y 23]++r_ 12 7++r_ 24 3++r_ 19 8))<|d_ 4 (b_ (o_ (.lD 1 I) []<|L_ [B J,Y 26,Y 34])<|L_ (r_ 0 3))<|M1<|L_ (r_ 0 4++r_ 5 29))<|k_ (L_ (r_ 0 3))<|c1<|.map [1,2,3]<|b_ (o_ .len [Y 5]<|L_ (r_ 0 4++[Y 5,Y 33,N 0]++r_ 6 27))<|.loop 0 (r_ 0 34) aaG)<|c1<|.map [0,1,3]<|h_ (b_ (o_ .not [Y 1]<|L_ ([Y 0]++r_ 2 3++[Y 27]++r_ 5 22))<|d_ 4 (b_ (o_ (.lD 1 I) []<|L_ [B J,Y 26,Y 27])<|L_ (r_ 0 3))<|M1<|L_ (r_ 0 4++r_ 5 22))<|k_ (L_ (r_ 0 3))<|c1<|.map [1,2]<|b_ (o_ .len [Y 5]<|L_ (r_ 0 4++[Y 5,Y 26,N 0]++r_ 6 20))<|.loop 0 (r_ 0 27) yK)<|k_ (L_ (r_ 0 3))<|k_ (M1<|L_ (r_ 0 3))<|k_ (.map [2]<|o_ A2 [Y 3,N 1]<|L_ (r_ 0 3++[Y 35,Y 27]))<|c1<|.map [2]<|o_ A2 [Y 3,N 1]<|L_ (r_ 0 3++[Y 28,Y 27]))<|c1<|.map [3]<|L_ (r_ 0 6)
def zj:R_ [75020,56020] 475:=⟨h_ (b_ (L_ (r_ 0 5))<|h_ (b_ (c_ 266 (r_ 2 3)<|o_ .not [Y 5]<|Xi 6<|f_ 6 .len [Y 1]<|f_ 6 G2 [Y 3,Y 8]<|X4 6 9<|L_ ([Y 0,Y 1,Y 10]++r_ 2 3))<|d_ 2 (b_ (o_ (.lD 1 I) []<|L_ [B J,Y 6])<|L_ [Y 0,Y 1])<|M1<|L_ ([Y 0,Y 1]++r_ 3 3))<|k_ (L_ [Y 0,Y 1])<|c1<|.map [1,2,3,4,5,6]<|b_ (o_ (.lD 1 I) []<|L_ (r_ 0 6))<|b_ (b_ (o_ .not [Y 2]<|L_ ([Y 0,Y 1,Y 6]++r_ 2 4))<|d_ 2 (o_ .len [Y 1]<|o_ S2 [Y 7,Y 4]<|o_ (.cut I) [Y 1,N 0,Y 8]<|o_ (.app 1 16) [Y 6,Y 9]<|L_ ([Y 0]++r_ 3 3++[Y 10]))<|L_ ([Y 0]++r_ 3 4))<|h_ (b_ (o_ .len [Y 3]<|L_ [Y 0,Y 3,Y 5,N 0,Y 4])<|.loop 0 (r_ 0 5) r5)<|k_ (L_ (r_ 0 3))<|k_ (M1<|L_ (r_ 0 3))<|k_ (.map [2]<|L_ (r_ 0 3))<|k_ (.map [3]<|L_ (r_ 0 3))<|k_ (.map [4]<|b_ (L_ [B I,Y 5])<|L_ [Y 0,Y 1])<|c1<|.map [5]<|b_ (L_ [B I,Y 5])<|L_ [Y 0,Y 1])<|k_ (L_ [Y 1,Y 0])<|k_ (L_ [Y 2,Y 0])<|k_ (L_ [Y 2,Y 0])<|k_ (L_ [Y 2,Y 0])<|k_ (L_ [Y 2,Y 0])<|k_ (L_ [Y 1,Y 0])<|c1<|.leaf 1 [Y 1,Y 0],by kernel_rfl⟩
def B1:ST:=c1<|.map [1,0,3]<|b_ (o_ L2 [Y 7,Y 6]<|L_ (r_ 0 8++[Y 27]++r_ 8 19))<|h_ (d_ 8 (L_ (r_ 0 28))<|M1<|L_ (r_ 0 28))<|k_ (h_ (b_ (o_ (.el 1) [Y 5,Y 7]<|o_ (.cel 0) [Y 28]<|L_ ([Y 0,Y 1,Y 29]++r_ 2 6++r_ 9 19))<|h_ (.call 314 [Y 27,Y 2]<|k_ (L_ ([Y 0,Y 1,Y 47]++r_ 3 44))<|c1<|M1<|L_ ([Y 0,Y 1,Y 47]++r_ 3 28++[Y 33,Y 34]++r_ 37 7++[Y 31,Y 32,Y 35,Y 36]++r_ 44 3))<|k_ (b_ (o_ .not [Y 2]<|Xi 47<|f_ 47 .len [Y 44]<|f_ 47 G2 [Y 49,N 0]<|X4 47 50<|Xi 51<|X4 51 38<|Xi 53<|f_ 53 E2 [Y 30,N 6]<|X4 53 55<|L_ ([Y 0,Y 1]++r_ 3 6++[Y 56]++r_ 9 19))<|d_ 8 (z_<|L_ [B J])<|M1<|L_ (r_ 0 28))<|c1<|.map [0,2]<|b_ (o_ .not [Y 2]<|Xi 47<|f_ 47 .len [Y 44]<|f_ 47 G2 [Y 49,N 0]<|X4 47 50<|Xi 51<|X4 51 34<|Xi 53<|f_ 53 E2 [Y 30,N 6]<|X4 53 55<|L_ ([Y 0,Y 1]++r_ 3 6++[Y 56]++r_ 9 19++r_ 40 7))<|d_ 8 (z_<|L_ [B J])<|M1<|L_ (r_ 0 35))<|k_ (L_ [Y 0])<|k_ (M1<|o_ A2 [Y 7,N 1]<|L_ (r_ 0 7++[Y 28]++r_ 9 19))<|c1<|M1<|o_ A2 [Y 7,N 1]<|L_ (r_ 0 7++[Y 35]++r_ 9 19))<|c1<|.map [2]<|L_ (r_ 0 28)
def B2:ST:=c1<|.map [1,0,3]<|b_ (o_ L2 [Y 7,Y 6]<|L_ (r_ 0 8++[Y 27]++r_ 8 19))<|h_ (d_ 8 (L_ (r_ 0 28))<|M1<|L_ (r_ 0 28))<|k_ (h_ (b_ (o_ (.el 1) [Y 5,Y 7]<|o_ (.cel 0) [Y 28]<|L_ ([Y 0,Y 1,Y 29]++r_ 2 6++r_ 9 19))<|h_ (.call 314 [Y 27,Y 2]<|k_ (L_ ([Y 0,Y 1,Y 47]++r_ 3 25))<|c1<|M1<|L_ ([Y 0,Y 1,Y 47]++r_ 3 25++[Y 31,Y 32,Y 35,Y 36]++r_ 44 3))<|k_ (b_ (o_ .not [Y 2]<|L_ ([Y 0,Y 1]++r_ 3 6++[Y 28]++r_ 9 19))<|d_ 8 (z_<|L_ [B J])<|M1<|L_ (r_ 0 28))<|c1<|.map [0,2]<|b_ (o_ .not [Y 2]<|L_ ([Y 0,Y 1]++r_ 3 6++[Y 35]++r_ 9 26))<|d_ 8 (z_<|L_ [B J])<|M1<|L_ (r_ 0 35))<|k_ (L_ [Y 0])<|k_ (M1<|o_ A2 [Y 7,N 1]<|L_ (r_ 0 7++[Y 28]++r_ 9 19))<|c1<|M1<|o_ A2 [Y 7,N 1]<|L_ (r_ 0 7++[Y 35]++r_ 9 19))<|c1<|.map [2]<|L_ (r_ 0 28)
def rX:ST:=c1<|.map [1,0,3]<|b_ (o_ L2 [Y 4,Y 3]<|L_ (r_ 0 6))<|h_ (d_ 5 (L_ (r_ 0 6))<|M1<|L_ (r_ 0 6))<|k_ (h_ (b_ (o_ (.el 19) [Y 2,Y 4]<|o_ (.has 19) [Y 6]<|L_ (r_ 0 5++xs_ 6 0 19))<|h_ (b_ (c_ 313 (r_ 5 19)<|o_ .not [Y 24]<|Xi 25<|f_ 25 E2 [Y 5,N 7]<|X4 25 27<|Xi 28<|f_ 28 E2 [Y 5,N 6]<|f_ 28 E2 [Y 0,N 5]<|f_ 28 (.XU .neq) [Y 30,Y 31]<|X4 28 32<|Xi 33<|p_ [(Y 33,J),(Y 15,I)]<|f_ 33 .ite [Y 15,Y 1,B J]<|X4 33 36<|L_ (r_ 0 5++[Y 37]++r_ 5 19))<|d_ 5 (z_<|L_ [B J])<|M1<|L_ (r_ 0 25))<|k_ (L_ [Y 0])<|c1<|h_ (b_ (o_ .len [Y 13]<|L_ (r_ 0 5++[Y 13,Y 25,N 0]++r_ 6 19))<|.loop 0 (r_ 0 27) B1)<|k_ (L_ [Y 0])<|c1<|h_ (b_ (o_ .len [Y 17]<|L_ (r_ 0 5++[Y 17,Y 28,N 0]++r_ 9 19))<|.loop 0 (r_ 0 27) B2)<|k_ (L_ [Y 0])<|c1<|b_ (Xi 1<|f_ 1 .len [Y 25]<|f_ 1 G2 [Y 29,N 0]<|X4 1 30<|Xi 31<|f_ 31 E2 [Y 9,N 6]<|X4 31 33<|c_ 315 [Y 27,Y 9,Y 34]<|o_ .not [Y 35]<|L_ (r_ 0 5++[Y 36]))<|d_ 5 (z_<|L_ [B J])<|M1<|L_ (r_ 0 6))<|k_ (L_ [Y 0])<|c1<|M1<|o_ A2 [Y 4,N 1]<|L_ (r_ 0 4++[Y 6]))<|c1<|.map [2]<|L_ (r_ 0 6)
def t315:R_ [] 315:=⟨z_<|b_ (L_ (r_ 0 3))<|h_ (b_ (c_ 95 [Y 0]<|c_ 257 [Y 3]<|o_ .pl [Y 4]<|o_ .not [Y 4]<|Xi 6<|f_ 6 N2 [Y 1,N 5]<|p_ [(Y 6,J),(Y 8,I)]<|.op [(Y 6,J),(Y 8,I)] N2 [Y 1,N 6]<|f_ 6 .ite [Y 8,Y 10,B J]<|p_ [(Y 6,J),(Y 11,I)]<|e_ 6 (d_ 11 (.call 94 [Y 0]<|k_ (c_ 95 [Y 13]<|c_ 257 [Y 14]<|o_ .pl [Y 15]<|o_ .not [Y 15]<|L_ (r_ 0 3++[Y 17]))<|c1<|c_ 95 [Y 13]<|c_ 257 [Y 14]<|o_ .pl [Y 15]<|o_ .not [Y 15]<|L_ (r_ 0 3++[Y 17]))<|L_ (r_ 0 3++[B J]))<|L_ (r_ 0 3++[B I]))<|d_ 3 (z_<|L_ [B J])<|M1<|L_ (r_ 0 4))<|k_ (L_ [Y 0])<|c1<|h_ (b_ (o_ .len [Y 0]<|L_ [Y 1,Y 2,Y 0,Y 4,N 0])<|.loop 0 (r_ 0 5) rX)<|k_ (L_ [Y 0])<|c1<|z_<|L_ [B I],by kernel_rfl⟩
def alU:KF:=by refine (?f:kx 287=?t->KF) ?p;exact λ_=>?t;conv=>lhs;reduce
def af4:ST:=by refine (?f:rx [] 287 alU=?t->ST) ?p;exact λ_=>?t;conv=>lhs;reduce
def yD:ST:=by refine (?f:lq af4 0=?t->ST) ?p;exact λ_=>?t;conv=>lhs;reduce
def t287:R_ [] 287:=⟨_,mZ (r:=af4) (by kernel_rfl) (by conv=>lhs;reduce;rw[<- yD.eq_1])⟩
def ap5:KF:=by refine (?f:kx 93=?t->KF) ?p;exact λ_=>?t;conv=>lhs;reduce
def aoj:ST:=by refine (?f:rx [26019] 93 ap5=?t->ST) ?p;exact λ_=>?t;conv=>lhs;reduce
def kU:ST:=by refine (?f:lq aoj 0=?t->ST) ?p;exact λ_=>?t;conv=>lhs;reduce
def t93:R_ [26019] 93:=⟨_,mZ (r:=aoj) (by kernel_rfl) (by conv=>lhs;reduce;rw[<- kU.eq_1])⟩
def B8:ST:=by refine (?f:lp [] 466 0=?t->ST) ?p;exact λ_=>?t;conv=>lhs;reduce
def yI:ST:=by refine (?f:lp [] 466 1=?t->ST) ?p;exact λ_=>?t;conv=>lhs;reduce
def Ml:R_ [] 466:=⟨_,by conv=>lhs;reduce;rw[<- B8.eq_1,<- yI.eq_1]⟩
def qd:ST:=by refine (?f:lp [] 469 0=?t->ST) ?p;exact λ_=>?t;conv=>lhs;reduce
def CE:R_ [] 469:=⟨_,by conv=>lhs;reduce;rw[<- qd.eq_1]⟩
def RP:R_ [] 418:=⟨_,by conv=>lhs;reduce⟩
def F_:ST:=by refine (?f:lp [21003] 497 0=?t->ST) ?p;exact λ_=>?t;conv=>lhs;reduce
def aoF:R_ [21003] 497:=⟨_,by conv=>lhs;reduce;rw[<- F_.eq_1]⟩
def Js:ST:=by refine (?f:lp [] 78 0=?t->ST) ?p;exact λ_=>?t;conv=>lhs;reduce
def t78:R_ [] 78:=⟨_,by conv=>lhs;reduce;rw[<- Js.eq_1]⟩
def FQ:ST:=by refine (?f:lp [] 244 0=?t->ST) ?p;exact λ_=>?t;conv=>lhs;reduce
def t244:R_ [] 244:=⟨_,by conv=>lhs;reduce;rw[<- FQ.eq_1]⟩
def XF:R_ [] 531:=⟨_,by conv=>lhs;reduce⟩
def t284:R_ [] 284:=⟨_,by conv=>lhs;reduce⟩
def Hx:R_ [] 460:=⟨_,by conv=>lhs;reduce⟩
def Lr:ST:=by refine (?f:lp [] 261 0=?t->ST) ?p;exact λ_=>?t;conv=>lhs;reduce
def t261:R_ [] 261:=⟨_,by conv=>lhs;reduce;rw[<- Lr.eq_1]⟩
def ahp:ST:=by refine (?f:lp [] 113 0=?t->ST) ?p;exact λ_=>?t;conv=>lhs;reduce
def t113:R_ [] 113:=⟨_,by conv=>lhs;reduce;rw[<- ahp.eq_1]⟩
def amg:ST:=by refine (?f:lp [] 54 0=?t->ST) ?p;exact λ_=>?t;conv=>lhs;reduce
def t54:R_ [] 54:=⟨_,by conv=>lhs;reduce;rw[<- amg.eq_1]⟩
def t117:R_ [] 117:=⟨_,by conv=>lhs;reduce⟩
def F5:ST:=by refine (?f:lp [] 450 0=?t->ST) ?p;exact λ_=>?t;conv=>lhs;reduce
def ajd:R_ [] 450:=⟨_,by conv=>lhs;reduce;rw[<- F5.eq_1]⟩
def Li:ST:=by refine (?f:lp [] 232 0=?t->ST) ?p;exact λ_=>?t;conv=>lhs;reduce
def t232:R_ [] 232:=⟨_,by conv=>lhs;reduce;rw[<- Li.eq_1]⟩
def Oz:ST:=by refine (?f:lp [] 79 0=?t->ST) ?p;exact λ_=>?t;conv=>lhs;reduce
def t79:R_ [] 79:=⟨_,by conv=>lhs;reduce;rw[<- Oz.eq_1]⟩
def t310:R_ [] 310:=⟨_,by conv=>lhs;reduce⟩
def Lt:ST:=by refine (?f:lp [] 262 0=?t->ST) ?p;exact λ_=>?t;conv=>lhs;reduce
def t262:R_ [] 262:=⟨_,by conv=>lhs;reduce;rw[<- Lt.eq_1]⟩
def ae1:R_ [] 421:=⟨_,by conv=>lhs;reduce⟩
def ajp:R_ [] 487:=⟨_,by conv=>lhs;reduce⟩
def t235:R_ [] 235:=⟨_,by conv=>lhs;reduce⟩
def ai_:R_ [] 401:=⟨_,by conv=>lhs;reduce⟩
def t76:R_ [] 76:=⟨_,by conv=>lhs;reduce⟩
def t108:R_ [] 108:=⟨_,by conv=>lhs;reduce⟩
def t219:R_ [] 219:=⟨_,by conv=>lhs;reduce⟩
def ajk:R_ [] 478:=⟨_,by conv=>lhs;reduce⟩
def aju:R_ [] 501:=⟨_,by conv=>lhs;reduce⟩
def aor:R_ [] 396:=⟨_,by conv=>lhs;reduce⟩
def t209:R_ [] 209:=⟨_,by conv=>lhs;reduce⟩
def aoB:R_ [] 473:=⟨_,by conv=>lhs;reduce⟩
def t99:R_ [] 99:=⟨_,by conv=>lhs;reduce⟩
def ao_:Bn ((o9.drop 12).take 12)=I:=by kernel_rfl
def aph:Bn ((o9.drop 108).take 12)=I:=by kernel_rfl
def akj:Bn ((o9.drop 204).take 12)=I:=by kernel_rfl
end
end Go.Proofs.YtgnmdaifiodnnaaGreatDoor
