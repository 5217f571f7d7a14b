/- Part of the proof: a machine over plain data, its proof, the functions of the program run on symbols, what they answer. Condition: none. -/
import Derived.Test.YtgfcijiikgjbcaaGreatDoorZz04
set_option linter.unusedVariables false
set_option linter.unusedSimpArgs false
open Bool renaming true->I,false->J
namespace Go.Proofs.YtgfcijiikgjbcaaGreatDoor
set_option maxRecDepth 100000
set_option maxHeartbeats 400000000
section
noncomputable section
def akf:KF:=by refine (?f:kx 364=?t->KF) ?p;exact λ_=>?t;conv=>lhs;reduce
def alJ:ST:=by refine (?f:rx [104002,19020] 364 akf=?t->ST) ?p;exact λ_=>?t;conv=>lhs;reduce
def yd:R_ [104002,19020] 364:=⟨_,aeC (r:=alJ) (by kernel_rfl) (by conv=>lhs;reduce)⟩
def AX:ST:=c1<|.map [1,0,3]<|b_ (o_ L2 [Y 7,Y 6]<|L_ (r_ 0 8++[Y 27]++r_ 8 19))<|h_ (d_ 8 (L_ (r_ 0 28))<|M1<|L_ (r_ 0 28))<|k_ (h_ (b_ (o_ (.el 1) [Y 5,Y 7]<|o_ (.cel 0) [Y 28]<|L_ ([Y 0,Y 1,Y 29]++r_ 2 6++r_ 9 19))<|h_ (.call 314 [Y 27,Y 2]<|k_ (L_ ([Y 0,Y 1,Y 47]++r_ 3 44))<|c1<|M1<|L_ ([Y 0,Y 1,Y 47]++r_ 3 28++[Y 33,Y 34]++r_ 37 7++[Y 31,Y 32,Y 35,Y 36]++r_ 44 3))<|k_ (b_ (o_ .not [Y 2]<|TW 47<|f_ 47 .len [Y 44]<|f_ 47 G2 [Y 49,N 0]<|WW 47 50<|TW 51<|WW 51 38<|TW 53<|f_ 53 E2 [Y 30,N 6]<|WW 53 55<|L_ ([Y 0,Y 1]++r_ 3 6++[Y 56]++r_ 9 19))<|d_ 8 (z_<|L_ [B J])<|M1<|L_ (r_ 0 28))<|c1<|.map [0,2]<|b_ (o_ .not [Y 2]<|TW 47<|f_ 47 .len [Y 44]<|f_ 47 G2 [Y 49,N 0]<|WW 47 50<|TW 51<|WW 51 34<|TW 53<|f_ 53 E2 [Y 30,N 6]<|WW 53 55<|L_ ([Y 0,Y 1]++r_ 3 6++[Y 56]++r_ 9 19++r_ 40 7))<|d_ 8 (z_<|L_ [B J])<|M1<|L_ (r_ 0 35))<|k_ (L_ [Y 0])<|k_ (M1<|o_ A2 [Y 7,N 1]<|L_ (r_ 0 7++[Y 28]++r_ 9 19))<|c1<|M1<|o_ A2 [Y 7,N 1]<|L_ (r_ 0 7++[Y 35]++r_ 9 19))<|c1<|.map [2]<|L_ (r_ 0 28)
def AY:ST:=c1<|.map [1,0,3]<|b_ (o_ L2 [Y 7,Y 6]<|L_ (r_ 0 8++[Y 27]++r_ 8 19))<|h_ (d_ 8 (L_ (r_ 0 28))<|M1<|L_ (r_ 0 28))<|k_ (h_ (b_ (o_ (.el 1) [Y 5,Y 7]<|o_ (.cel 0) [Y 28]<|L_ ([Y 0,Y 1,Y 29]++r_ 2 6++r_ 9 19))<|h_ (.call 314 [Y 27,Y 2]<|k_ (L_ ([Y 0,Y 1,Y 47]++r_ 3 25))<|c1<|M1<|L_ ([Y 0,Y 1,Y 47]++r_ 3 25++[Y 31,Y 32,Y 35,Y 36]++r_ 44 3))<|k_ (b_ (o_ .not [Y 2]<|L_ ([Y 0,Y 1]++r_ 3 6++[Y 28]++r_ 9 19))<|d_ 8 (z_<|L_ [B J])<|M1<|L_ (r_ 0 28))<|c1<|.map [0,2]<|b_ (o_ .not [Y 2]<|L_ ([Y 0,Y 1]++r_ 3 6++[Y 35]++r_ 9 26))<|d_ 8 (z_<|L_ [B J])<|M1<|L_ (r_ 0 35))<|k_ (L_ [Y 0])<|k_ (M1<|o_ A2 [Y 7,N 1]<|L_ (r_ 0 7++[Y 28]++r_ 9 19))<|c1<|M1<|o_ A2 [Y 7,N 1]<|L_ (r_ 0 7++[Y 35]++r_ 9 19))<|c1<|.map [2]<|L_ (r_ 0 28)
def nI:ST:=c1<|.map [1,0,3]<|b_ (o_ L2 [Y 4,Y 3]<|L_ (r_ 0 6))<|h_ (d_ 5 (L_ (r_ 0 6))<|M1<|L_ (r_ 0 6))<|k_ (h_ (b_ (o_ (.el 19) [Y 2,Y 4]<|o_ (.has 19) [Y 6]<|L_ (r_ 0 5++YF 6 0 19))<|h_ (b_ (c_ 313 (r_ 5 19)<|o_ .not [Y 24]<|TW 25<|f_ 25 E2 [Y 5,N 7]<|WW 25 27<|TW 28<|f_ 28 E2 [Y 5,N 6]<|f_ 28 E2 [Y 0,N 5]<|f_ 28 (.TI .neq) [Y 30,Y 31]<|WW 28 32<|TW 33<|p_ [(Y 33,J),(Y 15,I)]<|f_ 33 .ite [Y 15,Y 1,B J]<|WW 33 36<|L_ (r_ 0 5++[Y 37]++r_ 5 19))<|d_ 5 (z_<|L_ [B J])<|M1<|L_ (r_ 0 25))<|k_ (L_ [Y 0])<|c1<|h_ (b_ (o_ .len [Y 13]<|L_ (r_ 0 5++[Y 13,Y 25,N 0]++r_ 6 19))<|.loop 0 (r_ 0 27) AX)<|k_ (L_ [Y 0])<|c1<|h_ (b_ (o_ .len [Y 17]<|L_ (r_ 0 5++[Y 17,Y 28,N 0]++r_ 9 19))<|.loop 0 (r_ 0 27) AY)<|k_ (L_ [Y 0])<|c1<|b_ (TW 1<|f_ 1 .len [Y 25]<|f_ 1 G2 [Y 29,N 0]<|WW 1 30<|TW 31<|f_ 31 E2 [Y 9,N 6]<|WW 31 33<|c_ 315 [Y 27,Y 9,Y 34]<|o_ .not [Y 35]<|L_ (r_ 0 5++[Y 36]))<|d_ 5 (z_<|L_ [B J])<|M1<|L_ (r_ 0 6))<|k_ (L_ [Y 0])<|c1<|M1<|o_ A2 [Y 4,N 1]<|L_ (r_ 0 4++[Y 6]))<|c1<|.map [2]<|L_ (r_ 0 6)
def J3:R_ [] 315:=⟨z_<|b_ (L_ (r_ 0 3))<|h_ (b_ (c_ 95 [Y 0]<|c_ 257 [Y 3]<|o_ .pl [Y 4]<|o_ .not [Y 4]<|TW 6<|f_ 6 N2 [Y 1,N 5]<|p_ [(Y 6,J),(Y 8,I)]<|.op [(Y 6,J),(Y 8,I)] N2 [Y 1,N 6]<|f_ 6 .ite [Y 8,Y 10,B J]<|p_ [(Y 6,J),(Y 11,I)]<|e_ 6 (d_ 11 (.call 94 [Y 0]<|k_ (c_ 95 [Y 13]<|c_ 257 [Y 14]<|o_ .pl [Y 15]<|o_ .not [Y 15]<|L_ (r_ 0 3++[Y 17]))<|c1<|c_ 95 [Y 13]<|c_ 257 [Y 14]<|o_ .pl [Y 15]<|o_ .not [Y 15]<|L_ (r_ 0 3++[Y 17]))<|L_ (r_ 0 3++[B J]))<|L_ (r_ 0 3++[B I]))<|d_ 3 (z_<|L_ [B J])<|M1<|L_ (r_ 0 4))<|k_ (L_ [Y 0])<|c1<|h_ (b_ (o_ .len [Y 0]<|L_ [Y 1,Y 2,Y 0,Y 4,N 0])<|.loop 0 (r_ 0 5) nI)<|k_ (L_ [Y 0])<|c1<|z_<|L_ [B I],by kernel_rfl⟩
def Ej:ST:=by refine (?f:lp [] 322 0=?t->ST) ?p;exact λ_=>?t;conv=>lhs;reduce
def tv:ST:=by refine (?f:lp [] 322 1=?t->ST) ?p;exact λ_=>?t;conv=>lhs;reduce
def aiJ:R_ [] 322:=⟨_,by conv=>lhs;reduce;rw[<- Ej.eq_1,<- tv.eq_1]⟩
def AK:ST:=by refine (?f:lp [] 208 0=?t->ST) ?p;exact λ_=>?t;conv=>lhs;reduce
def t208:R_ [] 208:=⟨_,by conv=>lhs;reduce;rw[<- AK.eq_1]⟩
def o7:ST:=by refine (?f:lp [] 231 0=?t->ST) ?p;exact λ_=>?t;conv=>lhs;reduce
def t231:R_ [] 231:=⟨_,by conv=>lhs;reduce;rw[<- o7.eq_1]⟩
def t230:R_ [] 230:=⟨_,by conv=>lhs;reduce⟩
def AP:ST:=by refine (?f:lp [] 224 0=?t->ST) ?p;exact λ_=>?t;conv=>lhs;reduce
def t224:R_ [] 224:=⟨_,by conv=>lhs;reduce;rw[<- AP.eq_1]⟩
def t245:R_ [] 245:=⟨_,by conv=>lhs;reduce⟩
def AL:ST:=by refine (?f:lp [] 212 0=?t->ST) ?p;exact λ_=>?t;conv=>lhs;reduce
def I4:ST:=by refine (?f:lp [] 212 1=?t->ST) ?p;exact λ_=>?t;conv=>lhs;reduce;rw[<- AL.eq_1]
def t212:R_ [] 212:=⟨_,by conv=>lhs;reduce;rw[<- AL.eq_1,<- I4.eq_1]⟩
def acZ:ST:=by refine (?f:lp [] 118 0=?t->ST) ?p;exact λ_=>?t;conv=>lhs;reduce
def t118:R_ [] 118:=⟨_,by conv=>lhs;reduce;rw[<- acZ.eq_1]⟩
def agM:ST:=by refine (?f:lp [] 56 0=?t->ST) ?p;exact λ_=>?t;conv=>lhs;reduce
def t56:R_ [] 56:=⟨_,by conv=>lhs;reduce;rw[<- agM.eq_1]⟩
def t117:R_ [] 117:=⟨_,by conv=>lhs;reduce⟩
def Jr:ST:=by refine (?f:lp [] 357 0=?t->ST) ?p;exact λ_=>?t;conv=>lhs;reduce
def aiU:R_ [] 357:=⟨_,by conv=>lhs;reduce;rw[<- Jr.eq_1]⟩
def Qp:ST:=by refine (?f:lp [] 32 0=?t->ST) ?p;exact λ_=>?t;conv=>lhs;reduce
def t32:R_ [] 32:=⟨_,by conv=>lhs;reduce;rw[<- Qp.eq_1]⟩
def Qy:ST:=by refine (?f:lp [] 96 0=?t->ST) ?p;exact λ_=>?t;conv=>lhs;reduce
def t96:R_ [] 96:=⟨_,by conv=>lhs;reduce;rw[<- Qy.eq_1]⟩
def O3:R_ [] 310:=⟨_,by conv=>lhs;reduce⟩
def Jb:ST:=by refine (?f:lp [] 255 0=?t->ST) ?p;exact λ_=>?t;conv=>lhs;reduce
def t255:R_ [] 255:=⟨_,by conv=>lhs;reduce;rw[<- Jb.eq_1]⟩
def t207:R_ [] 207:=⟨_,by conv=>lhs;reduce⟩
def aa_:R_ [] 349:=⟨_,by conv=>lhs;reduce⟩
def t76:R_ [] 76:=⟨_,by conv=>lhs;reduce⟩
def t213:R_ [] 213:=⟨_,by conv=>lhs;reduce⟩
def t5:R_ [] 5:=⟨_,by conv=>lhs;reduce⟩
def t206:R_ [] 206:=⟨_,by conv=>lhs;reduce⟩
def t260:R_ [] 260:=⟨_,by conv=>lhs;reduce⟩
theorem ajl:UD ((xf.drop 130).take 26)=I:=by kernel_rfl
end
end
end Go.Proofs.YtgfcijiikgjbcaaGreatDoor
