/- Part of the proof. Condition: none. -/
import Derived.Test.YtbnmicpicjmgiaaGreatDoorZz04
set_option linter.all false
open Bool renaming true->I,false->J
namespace Go.Proofs.YtbnmicpicjmgiaaGreatDoor
set_option maxRecDepth 100000
set_option maxHeartbeats 400000000
noncomputable section
def am5:KF:=by refine (?f:kx 498=?t->KF) ?p;exact λ_=>?t;conv=>lhs;reduce
def Pe:ST:=by refine (?f:rx [] 498 am5=?t->ST) ?p;exact λ_=>?t;conv=>lhs;reduce
def sb:ST:=by refine (?f:lq Pe 0=?t->ST) ?p;exact λ_=>?t;conv=>lhs;reduce
def yN:ST:=by refine (?f:lq Pe 2=?t->ST) ?p;exact λ_=>?t;conv=>lhs;reduce
def abb:ST:=by refine (?f:lq Pe 8=?t->ST) ?p;exact λ_=>?t;conv=>lhs;reduce;rw[<- sb.eq_1,<- yN.eq_1]
def jH:ST:=by refine (?f:lq Pe 17=?t->ST) ?p;exact λ_=>?t;conv=>lhs;reduce;rw[<- sb.eq_1,<- yN.eq_1]
def XW:R_ [] 498:=⟨_,mO (r:=Pe) (by kernel_rfl) (by conv=>lhs;reduce;rw[<- sb.eq_1,<- yN.eq_1,<- abb.eq_1,<- jH.eq_1])⟩
def t226:R_ [] 226:=⟨_,by conv=>lhs;reduce⟩
def F6:ST:=by refine (?f:lp [] 325 0=?t->ST) ?p;exact λ_=>?t;conv=>lhs;reduce
def t325:R_ [] 325:=⟨_,by conv=>lhs;reduce;rw[<- F6.eq_1]⟩
def t147:R_ [] 147:=⟨_,by conv=>lhs;reduce⟩
def Gd:ST:=by refine (?f:lp [] 455 0=?t->ST) ?p;exact λ_=>?t;conv=>lhs;reduce
def apz:R_ [] 455:=⟨_,by conv=>lhs;reduce;rw[<- Gd.eq_1]⟩
def ah6:ST:=by refine (?f:lp [] 109 0=?t->ST) ?p;exact λ_=>?t;conv=>lhs;reduce
def t109:R_ [] 109:=⟨_,by conv=>lhs;reduce;rw[<- ah6.eq_1]⟩
def OG:ST:=by refine (?f:lp [] 46 0=?t->ST) ?p;exact λ_=>?t;conv=>lhs;reduce
def t46:R_ [] 46:=⟨_,by conv=>lhs;reduce;rw[<- OG.eq_1]⟩
def Gq:ST:=by refine (?f:lp [] 518 0=?t->ST) ?p;exact λ_=>?t;conv=>lhs;reduce
def aki:R_ [] 518:=⟨_,by conv=>lhs;reduce;rw[<- Gq.eq_1]⟩
def XS:R_ [] 397:=⟨_,by conv=>lhs;reduce⟩
def apE:R_ [] 465:=⟨_,by conv=>lhs;reduce⟩
def Lq:ST:=by refine (?f:lp [] 232 0=?t->ST) ?p;exact λ_=>?t;conv=>lhs;reduce
def t232:R_ [] 232:=⟨_,by conv=>lhs;reduce;rw[<- Lq.eq_1]⟩
def OI:ST:=by refine (?f:lp [] 79 0=?t->ST) ?p;exact λ_=>?t;conv=>lhs;reduce
def t79:R_ [] 79:=⟨_,by conv=>lhs;reduce;rw[<- OI.eq_1]⟩
def t236:R_ [] 236:=⟨_,by conv=>lhs;reduce⟩
def TU:ST:=by refine (?f:lp [] 61 0=?t->ST) ?p;exact λ_=>?t;conv=>lhs;reduce
def t61:R_ [] 61:=⟨_,by conv=>lhs;reduce;rw[<- TU.eq_1]⟩
def FP:ST:=by refine (?f:lp [] 221 0=?t->ST) ?p;exact λ_=>?t;conv=>lhs;reduce
def t221:R_ [] 221:=⟨_,by conv=>lhs;reduce;rw[<- FP.eq_1]⟩
def t131:R_ [] 131:=⟨_,by conv=>lhs;reduce⟩
def t272:R_ [] 272:=⟨_,by conv=>lhs;reduce⟩
def t68:R_ [] 68:=⟨_,by conv=>lhs;reduce⟩
def ajY:R_ [] 449:=⟨_,by conv=>lhs;reduce⟩
def t227:R_ [] 227:=⟨_,by conv=>lhs;reduce⟩
def apZ:R_ [] 545:=⟨_,by conv=>lhs;reduce⟩
def t250:R_ [] 250:=⟨_,by conv=>lhs;reduce⟩
def t59:R_ [] 59:=⟨_,by conv=>lhs;reduce⟩
def t92:R_ [] 92:=⟨_,by conv=>lhs;reduce⟩
def aj8:R_ [] 482:=⟨_,by conv=>lhs;reduce⟩
def apC:R_ [] 457:=⟨_,by conv=>lhs;reduce⟩
def t258:R_ [] 258:=⟨_,by conv=>lhs;reduce⟩
def t217:R_ [] 217:=⟨_,by conv=>lhs;reduce⟩
def aqi:Bq ((o0.drop 0).take 13)=I:=by kernel_rfl
def aqq:Bq ((o0.drop 104).take 13)=I:=by kernel_rfl
def ak3:Bq ((o0.drop 208).take 13)=I:=by kernel_rfl
end
noncomputable section
def aa_:ST:=k_ (.map [1,2,3]<|b_ (o_ L2 [Y 6,Y 5]<|L_ (r_ 0 7++[Y 34]++r_ 7 27))<|h_ (d_ 7 (L_ (r_ 0 7++r_ 8 27))<|M1<|L_ (r_ 0 35))<|k_ (h_ (b_ (o_ (.el 2) [Y 4,Y 6]<|o_ (.has 2) [Y 34]<|L_ (r_ 0 26++[X 34 0,X 34 1]++r_ 26 8))<|b_ (.both (.call 94 [Y 25]<|k_ (.both (.call 314 [Y 36,Y 26]<|k_ (o_ .xG (r_ 37 20)<|L_ ([Y 0,Y 56]++r_ 1 25++[Y 28]))<|c1<|o_ .pl (r_ 37 3++[Y 42,Y 43]++r_ 46 7++[Y 56])<|L_ ([Y 0,Y 56]++r_ 1 25++[Y 28]))<|.call 314 [Y 36,Y 26]<|k_ (o_ .xG (r_ 37 20)<|L_ ([Y 0,Y 56]++r_ 1 25++[Y 28]))<|c1<|o_ .pl (r_ 37 3++[Y 42,Y 43]++r_ 46 7++[Y 56])<|L_ ([Y 0,Y 56]++r_ 1 25++[Y 28]))<|c1<|.both (.call 314 [Y 36,Y 26]<|k_ (o_ .xG (r_ 37 20)<|L_ ([Y 0,Y 56]++r_ 1 25++[Y 28]))<|c1<|o_ .pl (r_ 37 3++[Y 42,Y 43]++r_ 46 7++[Y 56])<|L_ ([Y 0,Y 56]++r_ 1 25++[Y 28]))<|.call 314 [Y 36,Y 26]<|k_ (o_ .xG (r_ 37 20)<|L_ ([Y 0,Y 56]++r_ 1 25++[Y 28]))<|c1<|o_ .pl (r_ 37 3++[Y 42,Y 43]++r_ 46 7++[Y 56])<|L_ ([Y 0,Y 56]++r_ 1 25++[Y 28]))<|.call 94 [Y 25]<|k_ (.call 314 [Y 36,Y 26]<|k_ (o_ .xG (r_ 37 20)<|L_ ([Y 0,Y 56]++r_ 1 25++[Y 28]))<|c1<|o_ .pl (r_ 37 3++[Y 42,Y 43]++r_ 46 7++[Y 56])<|L_ ([Y 0,Y 56]++r_ 1 25++[Y 28]))<|c1<|.call 314 [Y 36,Y 26]<|k_ (o_ .xG (r_ 37 20)<|L_ ([Y 0,Y 56]++r_ 1 25++[Y 28]))<|c1<|o_ .pl (r_ 37 3++[Y 42,Y 43]++r_ 46 7++[Y 56])<|L_ ([Y 0,Y 56]++r_ 1 25++[Y 28]))<|b_ (o_ .not [Y 1]<|L_ ([Y 0]++r_ 2 6++[Y 28]++r_ 8 20))<|d_ 7 (b_ (o_ (.lu 1 I) []<|L_ [B J,Y 27,Y 28])<|L_ (r_ 0 3))<|M1<|L_ (r_ 0 7++r_ 8 20))<|k_ (L_ (r_ 0 3))<|c1<|M1<|o_ A2 [Y 6,N 1]<|L_ (r_ 0 6++[Y 27]++r_ 7 20))<|c1<|.map [2]<|L_ (r_ 0 35))<|c1<|.map [1,2,5]<|b_ (o_ L2 [Y 6,Y 5]<|L_ (r_ 0 7++[Y 27]++r_ 7 20))<|h_ (d_ 7 (L_ (r_ 0 7++r_ 8 20))<|M1<|L_ (r_ 0 28))<|k_ (h_ (b_ (o_ (.el 2) [Y 4,Y 6]<|o_ (.has 2) [Y 27]<|L_ (r_ 0 26++[X 27 0,X 27 1,Y 26]))<|b_ (.both (.call 94 [Y 25]<|k_ (.both (.call 314 [Y 29,Y 26]<|k_ (o_ .xG (r_ 30 20)<|L_ ([Y 0,Y 49]++r_ 1 25++[Y 28]))<|c1<|o_ .pl (r_ 30 3++[Y 35,Y 36]++r_ 39 7++[Y 49])<|L_ ([Y 0,Y 49]++r_ 1 25++[Y 28]))<|.call 314 [Y 29,Y 26]<|k_ (o_ .xG (r_ 30 20)<|L_ ([Y 0,Y 49]++r_ 1 25++[Y 28]))<|c1<|o_ .pl (r_ 30 3++[Y 35,Y 36]++r_ 39 7++[Y 49])<|L_ ([Y 0,Y 49]++r_ 1 25++[Y 28]))<|c1<|.both (.call 314 [Y 29,Y 26]<|k_ (o_ .xG (r_ 30 20)<|L_ ([Y 0,Y 49]++r_ 1 25++[Y 28]))<|c1<|o_ .pl (r_ 30 3++[Y 35,Y 36]++r_ 39 7++[Y 49])<|L_ ([Y 0,Y 49]++r_ 1 25++[Y 28]))<|.call 314 [Y 29,Y 26]<|k_ (o_ .xG (r_ 30 20)<|L_ ([Y 0,Y 49]++r_ 1 25++[Y 28]))<|c1<|o_ .pl (r_ 30 3++[Y 35,Y 36]++r_ 39 7++[Y 49])<|L_ ([Y 0,Y 49]++r_ 1 25++[Y 28]))<|.call 94 [Y 25]<|k_ (.call 314 [Y 29,Y 26]<|k_ (o_ .xG (r_ 30 20)<|L_ ([Y 0,Y 49]++r_ 1 25++[Y 28]))<|c1<|o_ .pl (r_ 30 3++[Y 35,Y 36]++r_ 39 7++[Y 49])<|L_ ([Y 0,Y 49]++r_ 1 25++[Y 28]))<|c1<|.call 314 [Y 29,Y 26]<|k_ (o_ .xG (r_ 30 20)<|L_ ([Y 0,Y 49]++r_ 1 25++[Y 28]))<|c1<|o_ .pl (r_ 30 3++[Y 35,Y 36]++r_ 39 7++[Y 49])<|L_ ([Y 0,Y 49]++r_ 1 25++[Y 28]))<|b_ (o_ .not [Y 1]<|L_ ([Y 0]++r_ 2 6++[Y 28]++r_ 8 20))<|d_ 7 (b_ (o_ (.lu 1 I) []<|L_ [B J,Y 27,Y 28])<|L_ (r_ 0 3))<|M1<|L_ (r_ 0 7++r_ 8 20))<|k_ (L_ (r_ 0 3))<|c1<|M1<|o_ A2 [Y 6,N 1]<|L_ (r_ 0 6++[Y 27]++r_ 7 20))<|c1<|.map [2]<|L_ (r_ 0 28)
def yK:ST:=c1<|.map [1,0,3]<|b_ (o_ L2 [Y 6,Y 5]<|L_ (r_ 0 7++[Y 27]++r_ 7 20))<|h_ (d_ 7 (L_ (r_ 0 7++r_ 8 20))<|M1<|L_ (r_ 0 28))<|k_ (h_ (b_ (o_ (.el 2) [Y 4,Y 6]<|o_ (.has 2) [Y 27]<|L_ (r_ 0 26++[X 27 0,X 27 1,Y 26]))<|b_ (.both (.call 94 [Y 25]<|k_ (.both (.call 314 [Y 29,Y 26]<|k_ (o_ .xG (r_ 30 20)<|L_ ([Y 0,Y 49]++r_ 1 25++[Y 28]))<|c1<|o_ .pl (r_ 30 3++[Y 35,Y 36]++r_ 39 7++[Y 49])<|L_ ([Y 0,Y 49]++r_ 1 25++[Y 28]))<|.call 314 [Y 29,Y 26]<|k_ (o_ .xG (r_ 30 20)<|L_ ([Y 0,Y 49]++r_ 1 25++[Y 28]))<|c1<|o_ .pl (r_ 30 3++[Y 35,Y 36]++r_ 39 7++[Y 49])<|L_ ([Y 0,Y 49]++r_ 1 25++[Y 28]))<|c1<|.both (.call 314 [Y 29,Y 26]<|k_ (o_ .xG (r_ 30 20)<|L_ ([Y 0,Y 49]++r_ 1 25++[Y 28]))<|c1<|o_ .pl (r_ 30 3++[Y 35,Y 36]++r_ 39 7++[Y 49])<|L_ ([Y 0,Y 49]++r_ 1 25++[Y 28]))<|.call 314 [Y 29,Y 26]<|k_ (o_ .xG (r_ 30 20)<|L_ ([Y 0,Y 49]++r_ 1 25++[Y 28]))<|c1<|o_ .pl (r_ 30 3++[Y 35,Y 36]++r_ 39 7++[Y 49])<|L_ ([Y 0,Y 49]++r_ 1 25++[Y 28]))<|.call 94 [Y 25]<|k_ (.call 314 [Y 29,Y 26]<|k_ (o_ .xG (r_ 30 20)<|L_ ([Y 0,Y 49]++r_ 1 25++[Y 28]))<|c1<|o_ .pl (r_ 30 3++[Y 35,Y 36]++r_ 39 7++[Y 49])<|L_ ([Y 0,Y 49]++r_ 1 25++[Y 28]))<|c1<|.call 314 [Y 29,Y 26]<|k_ (o_ .xG (r_ 30 20)<|L_ ([Y 0,Y 49]++r_ 1 25++[Y 28]))<|c1<|o_ .pl (r_ 30 3++[Y 35,Y 36]++r_ 39 7++[Y 49])<|L_ ([Y 0,Y 49]++r_ 1 25++[Y 28]))<|b_ (o_ .not [Y 1]<|L_ ([Y 0]++r_ 2 6++[Y 28]++r_ 8 20))<|d_ 7 (b_ (o_ (.lu 1 I) []<|L_ [B J,Y 27,Y 28])<|L_ (r_ 0 3))<|M1<|L_ (r_ 0 7++r_ 8 20))<|k_ (L_ (r_ 0 3))<|c1<|M1<|o_ A2 [Y 6,N 1]<|L_ (r_ 0 6++[Y 27]++r_ 7 20))<|c1<|.map [2]<|L_ (r_ 0 28)
def rZ:ST:=k_ (.map [1,3,0,5,7,2,9]<|b_ (o_ L2 [Y 3,Y 2]<|L_ (r_ 0 4++[Y 5,Y 4]))<|h_ (d_ 4 (L_ (r_ 0 4++[Y 5]))<|M1<|L_ (r_ 0 6))<|k_ (h_ (b_ (o_ (.el 2) [Y 1,Y 3]<|o_ (.has 2) [Y 5]<|L_ (r_ 0 4++[X 5 0,X 5 1,Y 4]))<|b_ (o_ (.lu 1 I) [Y 4]<|o_ (.app 1 16) [Y 6,Y 7]<|L_ (r_ 0 6++[Y 8]))<|h_ (.call 97 [Y 0,Y 6]<|k_ (o_ .pl (r_ 7 3++[Y 12,Y 13]++r_ 16 7++[Y 26])<|L_ ([Y 0,Y 26]++r_ 1 5++r_ 7 3++[Y 12,Y 13]++r_ 16 7++[Y 6,Y 10,Y 11,Y 14,Y 15]++r_ 23 3))<|c1<|M1<|o_ .xG (r_ 7 20)<|L_ ([Y 0,Y 26]++r_ 1 5++r_ 7 19++[Y 6]))<|k_ (h_ (b_ (o_ .not [Y 1]<|L_ ([Y 0]++r_ 2 3++[Y 27]++r_ 5 5++[Y 20,Y 21,Y 10,Y 11,Y 22,Y 23]++r_ 12 7++r_ 24 3++r_ 19 8))<|d_ 4 (b_ (o_ (.lu 1 I) []<|L_ [B J,Y 26,Y 34])<|L_ (r_ 0 3))<|M1<|L_ (r_ 0 4++r_ 5 29))<|k_ (L_ (r_ 0 3))<|c1<|.map [1,2,3]<|b_ (o_ .len [Y 5]<|L_ (r_ 0 4++[Y 5,Y 33,N 0]++r_ 6 27))<|.loop 0 (r_ 0 34) aa_)<|c1<|.map [4,5,6]<|h_ (b_ (o_ .not [Y 1]<|L_ ([Y 0]++r_ 2 3++[Y 27]++r_ 5 22))<|d_ 4 (b_ (o_ (.lu 1 I) []<|L_ [B J,Y 26,Y 27])<|L_ (r_ 0 3))<|M1<|L_ (r_ 0 4++r_ 5 22))<|k_ (L_ (r_ 0 3))<|c1<|.map [1,2]<|b_ (o_ .len [Y 5]<|L_ (r_ 0 4++[Y 5,Y 26,N 0]++r_ 6 20))<|.loop 0 (r_ 0 27) yK)<|k_ (L_ (r_ 0 3))<|k_ (M1<|L_ (r_ 0 3))<|k_ (.map [2]<|o_ A2 [Y 3,N 1]<|L_ (r_ 0 3++[Y 35,Y 27]))<|k_ (.map [2]<|o_ A2 [Y 3,N 1]<|L_ (r_ 0 3++[Y 28,Y 27]))<|k_ (.map [3]<|L_ (r_ 0 3))<|k_ (.map [4]<|L_ (r_ 0 3))<|c1<|.map [5]<|o_ A2 [Y 3,N 1]<|L_ (r_ 0 3++[Y 28,Y 27]))<|c1<|.map [6]<|L_ (r_ 0 6))<|c1<|.map [5,7,2,11]<|b_ (o_ L2 [Y 3,Y 2]<|L_ (r_ 0 4++[Y 5,Y 4]))<|h_ (d_ 4 (L_ (r_ 0 4++[Y 5]))<|M1<|L_ (r_ 0 6))<|k_ (h_ (b_ (o_ (.el 2) [Y 1,Y 3]<|o_ (.has 2) [Y 5]<|L_ (r_ 0 4++[X 5 0,X 5 1,Y 4]))<|b_ (o_ (.lu 1 I) [Y 4]<|o_ (.app 1 16) [Y 6,Y 7]<|L_ (r_ 0 6++[Y 8]))<|h_ (.call 97 [Y 0,Y 6]<|k_ (o_ .pl (r_ 7 3++[Y 12,Y 13]++r_ 16 7++[Y 26])<|L_ ([Y 0,Y 26]++r_ 1 5++r_ 7 3++[Y 12,Y 13]++r_ 16 7++[Y 6,Y 10,Y 11,Y 14,Y 15]++r_ 23 3))<|c1<|M1<|o_ .xG (r_ 7 20)<|L_ ([Y 0,Y 26]++r_ 1 5++r_ 7 19++[Y 6]))<|k_ (h_ (b_ (o_ .not [Y 1]<|L_ ([Y 0]++r_ 2 3++[Y 27]++r_ 5 5++[Y 20,Y 21,Y 10,Y 11,Y 22,Y 23]++r_ 12 7++r_ 24 3++r_ 19 8))<|d_ 4 (b_ (o_ (.lu 1 I) []<|L_ [B J,Y 26,Y 34])<|L_ (r_ 0 3))<|M1<|L_ (r_ 0 4++r_ 5 29))<|k_ (L_ (r_ 0 3))<|c1<|.map [1,2,3]<|b_ (o_ .len [Y 5]<|L_ (r_ 0 4++[Y 5,Y 33,N 0]++r_ 6 27))<|.loop 0 (r_ 0 34) aa_)<|c1<|.map [0,1,3]<|h_ (b_ (o_ .not [Y 1]<|L_ ([Y 0]++r_ 2 3++[Y 27]++r_ 5 22))<|d_ 4 (b_ (o_ (.lu 1 I) []<|L_ [B J,Y 26,Y 27])<|L_ (r_ 0 3))<|M1<|L_ (r_ 0 4++r_ 5 22))<|k_ (L_ (r_ 0 3))<|c1<|.map [1,2]<|b_ (o_ .len [Y 5]<|L_ (r_ 0 4++[Y 5,Y 26,N 0]++r_ 6 20))<|.loop 0 (r_ 0 27) yK)<|k_ (L_ (r_ 0 3))<|k_ (M1<|L_ (r_ 0 3))<|k_ (.map [2]<|o_ A2 [Y 3,N 1]<|L_ (r_ 0 3++[Y 35,Y 27]))<|c1<|.map [2]<|o_ A2 [Y 3,N 1]<|L_ (r_ 0 3++[Y 28,Y 27]))<|c1<|.map [3]<|L_ (r_ 0 6)
def zi:R_ [75020,56020] 475:=⟨h_ (b_ (L_ (r_ 0 5))<|h_ (b_ (c_ 266 (r_ 2 3)<|o_ .not [Y 5]<|XB 6<|f_ 6 .len [Y 1]<|f_ 6 G2 [Y 3,Y 8]<|Yo 6 9<|L_ ([Y 0,Y 1,Y 10]++r_ 2 3))<|d_ 2 (b_ (o_ (.lu 1 I) []<|L_ [B J,Y 6])<|L_ [Y 0,Y 1])<|M1<|L_ ([Y 0,Y 1]++r_ 3 3))<|k_ (L_ [Y 0,Y 1])<|c1<|.map [1,2,3,4,5,6]<|b_ (o_ (.lu 1 I) []<|L_ (r_ 0 6))<|b_ (b_ (o_ .not [Y 2]<|L_ ([Y 0,Y 1,Y 6]++r_ 2 4))<|d_ 2 (o_ .len [Y 1]<|o_ S2 [Y 7,Y 4]<|o_ (.cut I) [Y 1,N 0,Y 8]<|o_ (.app 1 16) [Y 6,Y 9]<|L_ ([Y 0]++r_ 3 3++[Y 10]))<|L_ ([Y 0]++r_ 3 4))<|h_ (b_ (o_ .len [Y 3]<|L_ [Y 0,Y 3,Y 5,N 0,Y 4])<|.loop 0 (r_ 0 5) rZ)<|k_ (L_ (r_ 0 3))<|k_ (M1<|L_ (r_ 0 3))<|k_ (.map [2]<|L_ (r_ 0 3))<|k_ (.map [3]<|L_ (r_ 0 3))<|k_ (.map [4]<|b_ (L_ [B I,Y 5])<|L_ [Y 0,Y 1])<|c1<|.map [5]<|b_ (L_ [B I,Y 5])<|L_ [Y 0,Y 1])<|k_ (L_ [Y 1,Y 0])<|k_ (L_ [Y 2,Y 0])<|k_ (L_ [Y 2,Y 0])<|k_ (L_ [Y 2,Y 0])<|k_ (L_ [Y 2,Y 0])<|k_ (L_ [Y 1,Y 0])<|c1<|.leaf 1 [Y 1,Y 0],by kernel_rfl⟩
def B6:ST:=c1<|.map [1,0,3]<|b_ (o_ L2 [Y 7,Y 6]<|L_ (r_ 0 8++[Y 27]++r_ 8 19))<|h_ (d_ 8 (L_ (r_ 0 28))<|M1<|L_ (r_ 0 28))<|k_ (h_ (b_ (o_ (.el 1) [Y 5,Y 7]<|o_ (.cel 0) [Y 28]<|L_ ([Y 0,Y 1,Y 29]++r_ 2 6++r_ 9 19))<|h_ (.call 314 [Y 27,Y 2]<|k_ (L_ ([Y 0,Y 1,Y 47]++r_ 3 44))<|c1<|M1<|L_ ([Y 0,Y 1,Y 47]++r_ 3 28++[Y 33,Y 34]++r_ 37 7++[Y 31,Y 32,Y 35,Y 36]++r_ 44 3))<|k_ (b_ (o_ .not [Y 2]<|XB 47<|f_ 47 .len [Y 44]<|f_ 47 G2 [Y 49,N 0]<|Yo 47 50<|XB 51<|Yo 51 38<|XB 53<|f_ 53 E2 [Y 30,N 6]<|Yo 53 55<|L_ ([Y 0,Y 1]++r_ 3 6++[Y 56]++r_ 9 19))<|d_ 8 (z_<|L_ [B J])<|M1<|L_ (r_ 0 28))<|c1<|.map [0,2]<|b_ (o_ .not [Y 2]<|XB 47<|f_ 47 .len [Y 44]<|f_ 47 G2 [Y 49,N 0]<|Yo 47 50<|XB 51<|Yo 51 34<|XB 53<|f_ 53 E2 [Y 30,N 6]<|Yo 53 55<|L_ ([Y 0,Y 1]++r_ 3 6++[Y 56]++r_ 9 19++r_ 40 7))<|d_ 8 (z_<|L_ [B J])<|M1<|L_ (r_ 0 35))<|k_ (L_ [Y 0])<|k_ (M1<|o_ A2 [Y 7,N 1]<|L_ (r_ 0 7++[Y 28]++r_ 9 19))<|c1<|M1<|o_ A2 [Y 7,N 1]<|L_ (r_ 0 7++[Y 35]++r_ 9 19))<|c1<|.map [2]<|L_ (r_ 0 28)
def B7:ST:=c1<|.map [1,0,3]<|b_ (o_ L2 [Y 7,Y 6]<|L_ (r_ 0 8++[Y 27]++r_ 8 19))<|h_ (d_ 8 (L_ (r_ 0 28))<|M1<|L_ (r_ 0 28))<|k_ (h_ (b_ (o_ (.el 1) [Y 5,Y 7]<|o_ (.cel 0) [Y 28]<|L_ ([Y 0,Y 1,Y 29]++r_ 2 6++r_ 9 19))<|h_ (.call 314 [Y 27,Y 2]<|k_ (L_ ([Y 0,Y 1,Y 47]++r_ 3 25))<|c1<|M1<|L_ ([Y 0,Y 1,Y 47]++r_ 3 25++[Y 31,Y 32,Y 35,Y 36]++r_ 44 3))<|k_ (b_ (o_ .not [Y 2]<|L_ ([Y 0,Y 1]++r_ 3 6++[Y 28]++r_ 9 19))<|d_ 8 (z_<|L_ [B J])<|M1<|L_ (r_ 0 28))<|c1<|.map [0,2]<|b_ (o_ .not [Y 2]<|L_ ([Y 0,Y 1]++r_ 3 6++[Y 35]++r_ 9 26))<|d_ 8 (z_<|L_ [B J])<|M1<|L_ (r_ 0 35))<|k_ (L_ [Y 0])<|k_ (M1<|o_ A2 [Y 7,N 1]<|L_ (r_ 0 7++[Y 28]++r_ 9 19))<|c1<|M1<|o_ A2 [Y 7,N 1]<|L_ (r_ 0 7++[Y 35]++r_ 9 19))<|c1<|.map [2]<|L_ (r_ 0 28)
def rW:ST:=c1<|.map [1,0,3]<|b_ (o_ L2 [Y 4,Y 3]<|L_ (r_ 0 6))<|h_ (d_ 5 (L_ (r_ 0 6))<|M1<|L_ (r_ 0 6))<|k_ (h_ (b_ (o_ (.el 19) [Y 2,Y 4]<|o_ (.has 19) [Y 6]<|L_ (r_ 0 5++xs_ 6 0 19))<|h_ (b_ (c_ 313 (r_ 5 19)<|o_ .not [Y 24]<|XB 25<|f_ 25 E2 [Y 5,N 7]<|Yo 25 27<|XB 28<|f_ 28 E2 [Y 5,N 6]<|f_ 28 E2 [Y 0,N 5]<|f_ 28 (.Yd .neq) [Y 30,Y 31]<|Yo 28 32<|XB 33<|p_ [(Y 33,J),(Y 15,I)]<|f_ 33 .ite [Y 15,Y 1,B J]<|Yo 33 36<|L_ (r_ 0 5++[Y 37]++r_ 5 19))<|d_ 5 (z_<|L_ [B J])<|M1<|L_ (r_ 0 25))<|k_ (L_ [Y 0])<|c1<|h_ (b_ (o_ .len [Y 13]<|L_ (r_ 0 5++[Y 13,Y 25,N 0]++r_ 6 19))<|.loop 0 (r_ 0 27) B6)<|k_ (L_ [Y 0])<|c1<|h_ (b_ (o_ .len [Y 17]<|L_ (r_ 0 5++[Y 17,Y 28,N 0]++r_ 9 19))<|.loop 0 (r_ 0 27) B7)<|k_ (L_ [Y 0])<|c1<|b_ (XB 1<|f_ 1 .len [Y 25]<|f_ 1 G2 [Y 29,N 0]<|Yo 1 30<|XB 31<|f_ 31 E2 [Y 9,N 6]<|Yo 31 33<|c_ 315 [Y 27,Y 9,Y 34]<|o_ .not [Y 35]<|L_ (r_ 0 5++[Y 36]))<|d_ 5 (z_<|L_ [B J])<|M1<|L_ (r_ 0 6))<|k_ (L_ [Y 0])<|c1<|M1<|o_ A2 [Y 4,N 1]<|L_ (r_ 0 4++[Y 6]))<|c1<|.map [2]<|L_ (r_ 0 6)
def t315:R_ [] 315:=⟨z_<|b_ (L_ (r_ 0 3))<|h_ (b_ (c_ 95 [Y 0]<|c_ 257 [Y 3]<|o_ .pl [Y 4]<|o_ .not [Y 4]<|XB 6<|f_ 6 N2 [Y 1,N 5]<|p_ [(Y 6,J),(Y 8,I)]<|.op [(Y 6,J),(Y 8,I)] N2 [Y 1,N 6]<|f_ 6 .ite [Y 8,Y 10,B J]<|p_ [(Y 6,J),(Y 11,I)]<|e_ 6 (d_ 11 (.call 94 [Y 0]<|k_ (c_ 95 [Y 13]<|c_ 257 [Y 14]<|o_ .pl [Y 15]<|o_ .not [Y 15]<|L_ (r_ 0 3++[Y 17]))<|c1<|c_ 95 [Y 13]<|c_ 257 [Y 14]<|o_ .pl [Y 15]<|o_ .not [Y 15]<|L_ (r_ 0 3++[Y 17]))<|L_ (r_ 0 3++[B J]))<|L_ (r_ 0 3++[B I]))<|d_ 3 (z_<|L_ [B J])<|M1<|L_ (r_ 0 4))<|k_ (L_ [Y 0])<|c1<|h_ (b_ (o_ .len [Y 0]<|L_ [Y 1,Y 2,Y 0,Y 4,N 0])<|.loop 0 (r_ 0 5) rW)<|k_ (L_ [Y 0])<|c1<|z_<|L_ [B I],by kernel_rfl⟩
def amO:KF:=by refine (?f:kx 287=?t->KF) ?p;exact λ_=>?t;conv=>lhs;reduce
def agI:ST:=by refine (?f:rx [] 287 amO=?t->ST) ?p;exact λ_=>?t;conv=>lhs;reduce
def yD:ST:=by refine (?f:lq agI 0=?t->ST) ?p;exact λ_=>?t;conv=>lhs;reduce
def t287:R_ [] 287:=⟨_,mO (r:=agI) (by kernel_rfl) (by conv=>lhs;reduce;rw[<- yD.eq_1])⟩
def aq8:KF:=by refine (?f:kx 93=?t->KF) ?p;exact λ_=>?t;conv=>lhs;reduce
def apn:ST:=by refine (?f:rx [26019] 93 aq8=?t->ST) ?p;exact λ_=>?t;conv=>lhs;reduce
def kU:ST:=by refine (?f:lq apn 0=?t->ST) ?p;exact λ_=>?t;conv=>lhs;reduce
def t93:R_ [26019] 93:=⟨_,mO (r:=apn) (by kernel_rfl) (by conv=>lhs;reduce;rw[<- kU.eq_1])⟩
def Cc:ST:=by refine (?f:lp [] 466 0=?t->ST) ?p;exact λ_=>?t;conv=>lhs;reduce
def yI:ST:=by refine (?f:lp [] 466 1=?t->ST) ?p;exact λ_=>?t;conv=>lhs;reduce
def Mt:R_ [] 466:=⟨_,by conv=>lhs;reduce;rw[<- Cc.eq_1,<- yI.eq_1]⟩
def qe:ST:=by refine (?f:lp [] 469 0=?t->ST) ?p;exact λ_=>?t;conv=>lhs;reduce
def CJ:R_ [] 469:=⟨_,by conv=>lhs;reduce;rw[<- qe.eq_1]⟩
def R7:R_ [] 418:=⟨_,by conv=>lhs;reduce⟩
def vS:ST:=by refine (?f:lp [] 452 0=?t->ST) ?p;exact λ_=>?t;conv=>lhs;reduce
def F_:ST:=by refine (?f:lp [] 452 1=?t->ST) ?p;exact λ_=>?t;conv=>lhs;reduce;rw[<- vS.eq_1]
def aj1:R_ [] 452:=⟨_,by conv=>lhs;reduce;rw[<- vS.eq_1,<- F_.eq_1]⟩
def Jy:ST:=by refine (?f:lp [] 77 0=?t->ST) ?p;exact λ_=>?t;conv=>lhs;reduce
def t77:R_ [] 77:=⟨_,by conv=>lhs;reduce;rw[<- Jy.eq_1]⟩
def CK:R_ [] 522:=⟨_,by conv=>lhs;reduce⟩
def BZ:ST:=by refine (?f:lp [] 224 0=?t->ST) ?p;exact λ_=>?t;conv=>lhs;reduce
def t224:R_ [] 224:=⟨_,by conv=>lhs;reduce;rw[<- BZ.eq_1]⟩
def t284:R_ [] 284:=⟨_,by conv=>lhs;reduce⟩
def yQ:ST:=by refine (?f:lp [] 542 0=?t->ST) ?p;exact λ_=>?t;conv=>lhs;reduce
def akk:R_ [] 542:=⟨_,by conv=>lhs;reduce;rw[<- yQ.eq_1]⟩
def BV:ST:=by refine (?f:lp [] 212 0=?t->ST) ?p;exact λ_=>?t;conv=>lhs;reduce
def Lo:ST:=by refine (?f:lp [] 212 1=?t->ST) ?p;exact λ_=>?t;conv=>lhs;reduce;rw[<- BV.eq_1]
def t212:R_ [] 212:=⟨_,by conv=>lhs;reduce;rw[<- BV.eq_1,<- Lo.eq_1]⟩
def TY:ST:=by refine (?f:lp [] 71 0=?t->ST) ?p;exact λ_=>?t;conv=>lhs;reduce
def t71:R_ [] 71:=⟨_,by conv=>lhs;reduce;rw[<- TY.eq_1]⟩
def aib:ST:=by refine (?f:lp [] 145 0=?t->ST) ?p;exact λ_=>?t;conv=>lhs;reduce
def t145:R_ [] 145:=⟨_,by conv=>lhs;reduce;rw[<- aib.eq_1]⟩
def am_:ST:=by refine (?f:lp [] 51 0=?t->ST) ?p;exact λ_=>?t;conv=>lhs;reduce
def t51:R_ [] 51:=⟨_,by conv=>lhs;reduce;rw[<- am_.eq_1]⟩
def t249:R_ [] 249:=⟨_,by conv=>lhs;reduce⟩
def TX:ST:=by refine (?f:lp [] 69 0=?t->ST) ?p;exact λ_=>?t;conv=>lhs;reduce
def t69:R_ [] 69:=⟨_,by conv=>lhs;reduce;rw[<- TX.eq_1]⟩
def ad3:ST:=by refine (?f:lp [] 1 0=?t->ST) ?p;exact λ_=>?t;conv=>lhs;reduce
def t1:R_ [] 1:=⟨_,by conv=>lhs;reduce;rw[<- ad3.eq_1]⟩
def t53:R_ [] 53:=⟨_,by conv=>lhs;reduce⟩
def OJ:ST:=by refine (?f:lp [] 95 0=?t->ST) ?p;exact λ_=>?t;conv=>lhs;reduce
def t95:R_ [] 95:=⟨_,by conv=>lhs;reduce;rw[<- OJ.eq_1]⟩
def FU:ST:=by refine (?f:lp [] 242 0=?t->ST) ?p;exact λ_=>?t;conv=>lhs;reduce
def t242:R_ [] 242:=⟨_,by conv=>lhs;reduce;rw[<- FU.eq_1]⟩
def t278:R_ [] 278:=⟨_,by conv=>lhs;reduce⟩
def aka:R_ [] 487:=⟨_,by conv=>lhs;reduce⟩
def t275:R_ [] 275:=⟨_,by conv=>lhs;reduce⟩
def t326:R_ [] 326:=⟨_,by conv=>lhs;reduce⟩
def afI:R_ [] 447:=⟨_,by conv=>lhs;reduce⟩
def t270:R_ [] 270:=⟨_,by conv=>lhs;reduce⟩
def t94:R_ [] 94:=⟨_,by conv=>lhs;reduce⟩
def t52:R_ [] 52:=⟨_,by conv=>lhs;reduce⟩
def t327:R_ [] 327:=⟨_,by conv=>lhs;reduce⟩
def t39:R_ [] 39:=⟨_,by conv=>lhs;reduce⟩
def t312:R_ [] 312:=⟨_,by conv=>lhs;reduce⟩
def t273:R_ [] 273:=⟨_,by conv=>lhs;reduce⟩
def apS:R_ [] 517:=⟨_,by conv=>lhs;reduce⟩
def t303:R_ [] 303:=⟨_,by conv=>lhs;reduce⟩
def aqj:Bq ((o0.drop 13).take 13)=I:=by kernel_rfl
def aqr:Bq ((o0.drop 117).take 13)=I:=by kernel_rfl
def ak4:Bq ((o0.drop 221).take 13)=I:=by kernel_rfl
end
end Go.Proofs.YtbnmicpicjmgiaaGreatDoor
