/- Part of the proof: a machine over plain data, its proof, the functions of the program run on symbols, what they answer. Condition: none. -/
import Derived.Test.YtgfcijiikgjbcaaGreatDoorZz04
set_option linter.unusedVariables false
set_option linter.unusedSimpArgs false
open Bool renaming true->I,false->J
namespace Go.Proofs.YtgfcijiikgjbcaaGreatDoor
set_option maxRecDepth 100000
set_option maxHeartbeats 400000000
section
noncomputable section
def akd:KF:=by refine (?f:kx 234=?t->KF) ?p;exact λ_=>?t;conv=>lhs;reduce
def OE:ST:=by refine (?f:rx [] 234 akd=?t->ST) ?p;exact λ_=>?t;conv=>lhs;reduce
def vl:ST:=by refine (?f:lq OE 0=?t->ST) ?p;exact λ_=>?t;conv=>lhs;reduce
def D_:ST:=by refine (?f:lq OE 1=?t->ST) ?p;exact λ_=>?t;conv=>lhs;reduce;rw[<- vl.eq_1]
def I8:ST:=by refine (?f:lq OE 2=?t->ST) ?p;exact λ_=>?t;conv=>lhs;reduce
def I9:ST:=by refine (?f:lq OE 3=?t->ST) ?p;exact λ_=>?t;conv=>lhs;reduce
def AT:ST:=by refine (?f:lq OE 4=?t->ST) ?p;exact λ_=>?t;conv=>lhs;reduce
def o8:ST:=by refine (?f:lq OE 6=?t->ST) ?p;exact λ_=>?t;conv=>lhs;reduce;rw[<- AT.eq_1]
def t234:R_ [] 234:=⟨_,aeC (r:=OE) (by kernel_rfl) (by conv=>lhs;reduce;rw[<- vl.eq_1,<- D_.eq_1,<- I8.eq_1,<- I9.eq_1,<- AT.eq_1,<- o8.eq_1])⟩
def xO:ST:=by refine (?f:lp [] 287 0=?t->ST) ?p;exact λ_=>?t;conv=>lhs;reduce
def aiB:R_ [] 287:=⟨_,by conv=>lhs;reduce;rw[<- xO.eq_1]⟩
def AH:ST:=c1<|.map [0,1]<|b_ (o_ L2 [Y 3,Y 2]<|L_ (r_ 0 4++[Y 5,Y 4]))<|h_ (d_ 4 (L_ (r_ 0 6))<|M1<|L_ (r_ 0 6))<|k_ (h_ (b_ (o_ (.el 19) [Y 1,Y 3]<|o_ (.has 19) [Y 6]<|L_ ([Y 0,Y 3]++r_ 1 3++YF 6 0 19++[Y 5]))<|b_ (o_ N2 [Y 1,Y 0]<|L_ ([Y 0]++r_ 2 3++[Y 25]++r_ 5 20))<|d_ 4 (.call 94 [Y 23]<|k_ (c_ 95 [Y 25]<|o_ (.app 1 16) [Y 24,Y 26]<|L_ (r_ 0 4++[Y 27]))<|c1<|c_ 95 [Y 25]<|o_ (.app 1 16) [Y 24,Y 26]<|L_ (r_ 0 4++[Y 27]))<|M1<|L_ (r_ 0 25))<|k_ (o_ A2 [Y 3,N 1]<|L_ (r_ 0 3++[Y 5,Y 4]))<|c1<|o_ A2 [Y 3,N 1]<|L_ (r_ 0 3++[Y 25,Y 24]))<|c1<|M1<|L_ (r_ 0 6)
def AI:ST:=c1<|.map [0,1,3]<|b_ (o_ L2 [Y 6,Y 5]<|L_ (r_ 0 7++[Y 26]++r_ 7 19))<|h_ (d_ 7 (L_ (r_ 0 27))<|M1<|L_ (r_ 0 27))<|k_ (h_ (b_ (o_ (.el 19) [Y 4,Y 6]<|o_ (.has 19) [Y 27]<|L_ ([Y 0,Y 6]++r_ 1 6++r_ 8 19++YF 27 0 19))<|b_ (c_ 105 [Y 45,Y 0]<|L_ ([Y 0,Y 1,Y 47]++r_ 2 25++[Y 46]))<|h_ (b_ (o_ .not [Y 2]<|L_ ([Y 0,Y 1]++r_ 3 6++[Y 29]++r_ 9 20))<|d_ 8 (L_ (r_ 0 29))<|M1<|L_ (r_ 0 29))<|k_ (L_ (r_ 0 29))<|c1<|M1<|b_ (b_ (o_ .len [Y 27]<|L_ [Y 1,Y 27,Y 29,N 0,Y 28])<|.loop 0 (r_ 0 5) AH)<|b_ (L_ [B I,Y 5])<|L_ [Y 0,Y 1])<|k_ (o_ A2 [Y 7,N 1]<|L_ ([Y 0]++r_ 2 5++[Y 29]++r_ 9 19))<|c1<|M1<|L_ [Y 0,Y 1])<|c1<|.map [2]<|L_ (r_ 0 27)
def vk:ST:=c1<|.map [1,0,3,5]<|b_ (o_ L2 [Y 3,Y 2]<|L_ (r_ 0 5))<|h_ (d_ 4 (L_ (r_ 0 5))<|M1<|L_ (r_ 0 5))<|k_ (h_ (b_ (o_ (.el 19) [Y 1,Y 3]<|o_ (.has 19) [Y 5]<|L_ (r_ 0 4++YF 5 0 19))<|h_ (b_ (c_ 92 [Y 4]<|pt_ 23<|t_ 23 E2 [Y 5,Y 0]<|an_ 23 25<|L_ (r_ 0 4++[Y 26]++r_ 4 19))<|d_ 4 (z_<|L_ [B I])<|M1<|L_ (r_ 0 24))<|k_ (L_ [Y 0])<|c1<|.map [1,2,3]<|h_ (b_ (o_ N2 [Y 5,N 5]<|L_ (r_ 0 4++[Y 24]++r_ 5 19))<|d_ 4 (L_ (r_ 0 24))<|M1<|L_ (r_ 0 24))<|k_ (L_ (r_ 0 24))<|c1<|.map [1,2]<|b_ (o_ .len [Y 23]<|L_ (r_ 0 4++[Y 23,Y 24,N 0]++r_ 5 19))<|.loop 0 (r_ 0 26) AI)<|k_ (L_ [Y 0])<|k_ (M1<|o_ A2 [Y 3,N 1]<|L_ (r_ 0 3++[Y 24]))<|k_ (.map [2]<|L_ [Y 0,Y 1])<|c1<|M1<|o_ A2 [Y 3,N 1]<|L_ (r_ 0 3++[Y 27]))<|c1<|.map [3]<|L_ (r_ 0 5)
def t105:R_ [] 105:=⟨h_ (b_ (L_ [Y 0,Y 1])<|h_ (b_ (o_ .len [Y 0]<|L_ [Y 1,Y 0,Y 2,N 0])<|.loop 0 (r_ 0 4) vk)<|k_ (L_ [Y 0])<|k_ (M1<|L_ [Y 0,Y 1])<|c1<|z_<|L_ [B J])<|k_ (L_ [L 1 I,Y 0])<|c1<|L_ [Y 1,Y 0],by kernel_rfl⟩
def aiA:R_ [] 286:=⟨_,by conv=>lhs;reduce⟩
def BK:ST:=by refine (?f:lp [] 81 0=?t->ST) ?p;exact λ_=>?t;conv=>lhs;reduce
def t81:R_ [] 81:=⟨_,by conv=>lhs;reduce;rw[<- BK.eq_1]⟩
def Jg:ST:=by refine (?f:lp [] 266 0=?t->ST) ?p;exact λ_=>?t;conv=>lhs;reduce
def t266:R_ [] 266:=⟨_,by conv=>lhs;reduce;rw[<- Jg.eq_1]⟩
def tu:ST:=by refine (?f:lp [6003,12003] 223 0=?t->ST) ?p;exact λ_=>?t;conv=>lhs;reduce
def t223:R_ [6003,12003] 223:=⟨_,by conv=>lhs;reduce;rw[<- tu.eq_1]⟩
def t70:R_ [] 70:=⟨_,by conv=>lhs;reduce⟩
def D3:ST:=by refine (?f:lp [] 100 0=?t->ST) ?p;exact λ_=>?t;conv=>lhs;reduce
def t100:R_ [] 100:=⟨_,by conv=>lhs;reduce;rw[<- D3.eq_1]⟩
def t47:R_ [] 47:=⟨_,by conv=>lhs;reduce⟩
def agJ:ST:=by refine (?f:lp [] 49 0=?t->ST) ?p;exact λ_=>?t;conv=>lhs;reduce
def t49:R_ [] 49:=⟨_,by conv=>lhs;reduce;rw[<- agJ.eq_1]⟩
def Jp:ST:=by refine (?f:lp [] 346 0=?t->ST) ?p;exact λ_=>?t;conv=>lhs;reduce
def aiR:R_ [] 346:=⟨_,by conv=>lhs;reduce;rw[<- Jp.eq_1]⟩
def I6:ST:=by refine (?f:lp [] 232 0=?t->ST) ?p;exact λ_=>?t;conv=>lhs;reduce
def t232:R_ [] 232:=⟨_,by conv=>lhs;reduce;rw[<- I6.eq_1]⟩
def Qt:ST:=by refine (?f:lp [] 66 0=?t->ST) ?p;exact λ_=>?t;conv=>lhs;reduce
def t66:R_ [] 66:=⟨_,by conv=>lhs;reduce;rw[<- Qt.eq_1]⟩
def t236:R_ [] 236:=⟨_,by conv=>lhs;reduce⟩
def Qr:ST:=by refine (?f:lp [] 61 0=?t->ST) ?p;exact λ_=>?t;conv=>lhs;reduce
def t61:R_ [] 61:=⟨_,by conv=>lhs;reduce;rw[<- Qr.eq_1]⟩
def D8:ST:=by refine (?f:lp [] 221 0=?t->ST) ?p;exact λ_=>?t;conv=>lhs;reduce
def t221:R_ [] 221:=⟨_,by conv=>lhs;reduce;rw[<- D8.eq_1]⟩
def t68:R_ [] 68:=⟨_,by conv=>lhs;reduce⟩
def t211:R_ [] 211:=⟨_,by conv=>lhs;reduce⟩
def t108:R_ [] 108:=⟨_,by conv=>lhs;reduce⟩
def t52:R_ [] 52:=⟨_,by conv=>lhs;reduce⟩
def t241:R_ [] 241:=⟨_,by conv=>lhs;reduce⟩
def XN:R_ [] 312:=⟨_,by conv=>lhs;reduce⟩
def aiD:R_ [] 303:=⟨_,by conv=>lhs;reduce⟩
theorem ajg:UD ((xf.drop 0).take 26)=I:=by kernel_rfl
end
end
end Go.Proofs.YtgfcijiikgjbcaaGreatDoor
