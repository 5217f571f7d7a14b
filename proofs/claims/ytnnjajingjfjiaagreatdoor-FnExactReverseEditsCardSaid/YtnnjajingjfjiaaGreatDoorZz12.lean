/- Part of the proof: a machine over plain data, its proof, the functions of the program run on symbols, what they answer. Condition: none. -/
import Derived.Test.YtnnjajingjfjiaaGreatDoorZz04
set_option linter.unusedVariables false
set_option linter.unusedSimpArgs false
open Bool renaming true->I,false->J
namespace Go.Proofs.YtnnjajingjfjiaaGreatDoor
set_option maxRecDepth 100000
set_option maxHeartbeats 400000000
section
noncomputable section
def B8:ST:=by refine (?f:lp [] 308 0=?t->ST) ?p;exact λ_=>?t;conv=>lhs;reduce
def B9:ST:=by refine (?f:lp [] 308 1=?t->ST) ?p;exact λ_=>?t;conv=>lhs;reduce
def Lb:ST:=by refine (?f:lp [] 308 2=?t->ST) ?p;exact λ_=>?t;conv=>lhs;reduce
def wG:ST:=by refine (?f:lp [] 308 3=?t->ST) ?p;exact λ_=>?t;conv=>lhs;reduce
def t308:R_ [] 308:=⟨_,by conv=>lhs;reduce;rw[<- B8.eq_1,<- B9.eq_1,<- Lb.eq_1,<- wG.eq_1]⟩
def jw:ST:=by refine (?f:lp [73003,69003,63003,53003] 225 0=?t->ST) ?p;exact λ_=>?t;conv=>lhs;reduce
def t225:R_ [73003,69003,63003,53003] 225:=⟨_,by conv=>lhs;reduce;rw[<- jw.eq_1]⟩
def yR:ST:=by refine (?f:lp [] 287 0=?t->ST) ?p;exact λ_=>?t;conv=>lhs;reduce
def t287:R_ [] 287:=⟨_,by conv=>lhs;reduce;rw[<- yR.eq_1]⟩
def BS:ST:=c1<|.map [0,1]<|b_ (o_ L2 [Y 3,Y 2]<|L_ (r_ 0 4++[Y 5,Y 4]))<|h_ (d_ 4 (L_ (r_ 0 6))<|M1<|L_ (r_ 0 6))<|k_ (h_ (b_ (o_ (.el 19) [Y 1,Y 3]<|o_ (.has 19) [Y 6]<|L_ ([Y 0,Y 3]++r_ 1 3++xs_ 6 0 19++[Y 5]))<|b_ (o_ N2 [Y 1,Y 0]<|L_ ([Y 0]++r_ 2 3++[Y 25]++r_ 5 20))<|d_ 4 (.call 94 [Y 23]<|k_ (c_ 95 [Y 25]<|o_ (.app 1 16) [Y 24,Y 26]<|L_ (r_ 0 4++[Y 27]))<|c1<|c_ 95 [Y 25]<|o_ (.app 1 16) [Y 24,Y 26]<|L_ (r_ 0 4++[Y 27]))<|M1<|L_ (r_ 0 25))<|k_ (o_ A2 [Y 3,N 1]<|L_ (r_ 0 3++[Y 5,Y 4]))<|c1<|o_ A2 [Y 3,N 1]<|L_ (r_ 0 3++[Y 25,Y 24]))<|c1<|M1<|L_ (r_ 0 6)
def BT:ST:=c1<|.map [0,1,3]<|b_ (o_ L2 [Y 6,Y 5]<|L_ (r_ 0 7++[Y 26]++r_ 7 19))<|h_ (d_ 7 (L_ (r_ 0 27))<|M1<|L_ (r_ 0 27))<|k_ (h_ (b_ (o_ (.el 19) [Y 4,Y 6]<|o_ (.has 19) [Y 27]<|L_ ([Y 0,Y 6]++r_ 1 6++r_ 8 19++xs_ 27 0 19))<|b_ (c_ 105 [Y 45,Y 0]<|L_ ([Y 0,Y 1,Y 47]++r_ 2 25++[Y 46]))<|h_ (b_ (o_ .not [Y 2]<|L_ ([Y 0,Y 1]++r_ 3 6++[Y 29]++r_ 9 20))<|d_ 8 (L_ (r_ 0 29))<|M1<|L_ (r_ 0 29))<|k_ (L_ (r_ 0 29))<|c1<|M1<|b_ (b_ (o_ .len [Y 27]<|L_ [Y 1,Y 27,Y 29,N 0,Y 28])<|.loop 0 (r_ 0 5) BS)<|b_ (L_ [B I,Y 5])<|L_ [Y 0,Y 1])<|k_ (o_ A2 [Y 7,N 1]<|L_ ([Y 0]++r_ 2 5++[Y 29]++r_ 9 19))<|c1<|M1<|L_ [Y 0,Y 1])<|c1<|.map [2]<|L_ (r_ 0 27)
def wD:ST:=c1<|.map [1,0,3,5]<|b_ (o_ L2 [Y 3,Y 2]<|L_ (r_ 0 5))<|h_ (d_ 4 (L_ (r_ 0 5))<|M1<|L_ (r_ 0 5))<|k_ (h_ (b_ (o_ (.el 19) [Y 1,Y 3]<|o_ (.has 19) [Y 5]<|L_ (r_ 0 4++xs_ 5 0 19))<|h_ (b_ (c_ 92 [Y 4]<|pt_ 23<|t_ 23 E2 [Y 5,Y 0]<|an_ 23 25<|L_ (r_ 0 4++[Y 26]++r_ 4 19))<|d_ 4 (z_<|L_ [B I])<|M1<|L_ (r_ 0 24))<|k_ (L_ [Y 0])<|c1<|.map [1,2,3]<|h_ (b_ (o_ N2 [Y 5,N 5]<|L_ (r_ 0 4++[Y 24]++r_ 5 19))<|d_ 4 (L_ (r_ 0 24))<|M1<|L_ (r_ 0 24))<|k_ (L_ (r_ 0 24))<|c1<|.map [1,2]<|b_ (o_ .len [Y 23]<|L_ (r_ 0 4++[Y 23,Y 24,N 0]++r_ 5 19))<|.loop 0 (r_ 0 26) BT)<|k_ (L_ [Y 0])<|k_ (M1<|o_ A2 [Y 3,N 1]<|L_ (r_ 0 3++[Y 24]))<|k_ (.map [2]<|L_ [Y 0,Y 1])<|c1<|M1<|o_ A2 [Y 3,N 1]<|L_ (r_ 0 3++[Y 27]))<|c1<|.map [3]<|L_ (r_ 0 5)
def t105:R_ [] 105:=⟨h_ (b_ (L_ [Y 0,Y 1])<|h_ (b_ (o_ .len [Y 0]<|L_ [Y 1,Y 0,Y 2,N 0])<|.loop 0 (r_ 0 4) wD)<|k_ (L_ [Y 0])<|k_ (M1<|L_ [Y 0,Y 1])<|c1<|z_<|L_ [B J])<|k_ (L_ [L 1 I,Y 0])<|c1<|L_ [Y 1,Y 0],by kernel_rfl⟩
def t286:R_ [] 286:=⟨_,by conv=>lhs;reduce⟩
def wF:ST:=by refine (?f:lp [] 251 0=?t->ST) ?p;exact λ_=>?t;conv=>lhs;reduce
def t251:R_ [] 251:=⟨_,by conv=>lhs;reduce;rw[<- wF.eq_1]⟩
def I8:ST:=by refine (?f:lp [] 78 0=?t->ST) ?p;exact λ_=>?t;conv=>lhs;reduce
def t78:R_ [] 78:=⟨_,by conv=>lhs;reduce;rw[<- I8.eq_1]⟩
def BU:ST:=by refine (?f:lp [] 136 0=?t->ST) ?p;exact λ_=>?t;conv=>lhs;reduce
def t136:R_ [] 136:=⟨_,by conv=>lhs;reduce;rw[<- BU.eq_1]⟩
def FO:ST:=by refine (?f:lp [] 325 0=?t->ST) ?p;exact λ_=>?t;conv=>lhs;reduce
def t325:R_ [] 325:=⟨_,by conv=>lhs;reduce;rw[<- FO.eq_1]⟩
def t321:R_ [] 321:=⟨_,by conv=>lhs;reduce⟩
def afd:ST:=by refine (?f:lp [] 120 0=?t->ST) ?p;exact λ_=>?t;conv=>lhs;reduce
def t120:R_ [] 120:=⟨_,by conv=>lhs;reduce;rw[<- afd.eq_1]⟩
def aju:ST:=by refine (?f:lp [] 10 0=?t->ST) ?p;exact λ_=>?t;conv=>lhs;reduce
def t10:R_ [] 10:=⟨_,by conv=>lhs;reduce;rw[<- aju.eq_1]⟩
def ajx:ST:=by refine (?f:lp [] 27 0=?t->ST) ?p;exact λ_=>?t;conv=>lhs;reduce
def t27:R_ [] 27:=⟨_,by conv=>lhs;reduce;rw[<- ajx.eq_1]⟩
def t117:R_ [] 117:=⟨_,by conv=>lhs;reduce⟩
def t111:R_ [] 111:=⟨_,by conv=>lhs;reduce⟩
def t324:R_ [] 324:=⟨_,by conv=>lhs;reduce⟩
def K5:ST:=by refine (?f:lp [] 264 0=?t->ST) ?p;exact λ_=>?t;conv=>lhs;reduce
def t264:R_ [] 264:=⟨_,by conv=>lhs;reduce;rw[<- K5.eq_1]⟩
def K2:ST:=by refine (?f:lp [] 257 0=?t->ST) ?p;exact λ_=>?t;conv=>lhs;reduce
def t257:R_ [] 257:=⟨_,by conv=>lhs;reduce;rw[<- K2.eq_1]⟩
def Tp:ST:=by refine (?f:lp [] 60 0=?t->ST) ?p;exact λ_=>?t;conv=>lhs;reduce
def t60:R_ [] 60:=⟨_,by conv=>lhs;reduce;rw[<- Tp.eq_1]⟩
def K4:ST:=by refine (?f:lp [] 262 0=?t->ST) ?p;exact λ_=>?t;conv=>lhs;reduce
def t262:R_ [] 262:=⟨_,by conv=>lhs;reduce;rw[<- K4.eq_1]⟩
def Ld:ST:=by refine (?f:lp [] 317 0=?t->ST) ?p;exact λ_=>?t;conv=>lhs;reduce
def t317:R_ [] 317:=⟨_,by conv=>lhs;reduce;rw[<- Ld.eq_1]⟩
def ade:R_ [] 375:=⟨_,by conv=>lhs;reduce⟩
def agS:R_ [] 380:=⟨_,by conv=>lhs;reduce⟩
def t130:R_ [] 130:=⟨_,by conv=>lhs;reduce⟩
def t114:R_ [] 114:=⟨_,by conv=>lhs;reduce⟩
def t128:R_ [] 128:=⟨_,by conv=>lhs;reduce⟩
def t250:R_ [] 250:=⟨_,by conv=>lhs;reduce⟩
def t59:R_ [] 59:=⟨_,by conv=>lhs;reduce⟩
def t312:R_ [] 312:=⟨_,by conv=>lhs;reduce⟩
def t258:R_ [] 258:=⟨_,by conv=>lhs;reduce⟩
def t75:R_ [] 75:=⟨_,by conv=>lhs;reduce⟩
theorem ame:Bo ((qq.drop 77).take 11)=I:=by kernel_rfl
theorem ahL:Bo ((qq.drop 165).take 11)=I:=by kernel_rfl
theorem ahT:Bo ((qq.drop 253).take 11)=I:=by kernel_rfl
end
end
end Go.Proofs.YtnnjajingjfjiaaGreatDoor
