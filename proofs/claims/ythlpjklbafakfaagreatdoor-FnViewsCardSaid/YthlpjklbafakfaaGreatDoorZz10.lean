/- Part of the proof: a machine over plain data, its proof, the functions of the program run on symbols, what they answer. Condition: none. -/
import Derived.Test.YthlpjklbafakfaaGreatDoorZz04
set_option linter.unusedVariables false
set_option linter.unusedSimpArgs false
open Bool renaming true->I,false->J
namespace Go.Proofs.YthlpjklbafakfaaGreatDoor
set_option maxRecDepth 100000
set_option maxHeartbeats 400000000
section
noncomputable section
def ahy:KF:=by refine (?f:kx 234=?t->KF) ?p;exact λ_=>?t;conv=>lhs;reduce
def EC:ST:=by refine (?f:rx [] 234 ahy=?t->ST) ?p;exact λ_=>?t;conv=>lhs;reduce
def uY:ST:=by refine (?f:lq EC 0=?t->ST) ?p;exact λ_=>?t;conv=>lhs;reduce
def DN:ST:=by refine (?f:lq EC 1=?t->ST) ?p;exact λ_=>?t;conv=>lhs;reduce;rw[<- uY.eq_1]
def IK:ST:=by refine (?f:lq EC 2=?t->ST) ?p;exact λ_=>?t;conv=>lhs;reduce
def IL:ST:=by refine (?f:lq EC 3=?t->ST) ?p;exact λ_=>?t;conv=>lhs;reduce
def AJ:ST:=by refine (?f:lq EC 4=?t->ST) ?p;exact λ_=>?t;conv=>lhs;reduce
def oJ:ST:=by refine (?f:lq EC 6=?t->ST) ?p;exact λ_=>?t;conv=>lhs;reduce;rw[<- AJ.eq_1]
def t234:R_ [] 234:=⟨_,nU (r:=EC) (by kernel_rfl) (by conv=>lhs;reduce;rw[<- uY.eq_1,<- DN.eq_1,<- IK.eq_1,<- IL.eq_1,<- AJ.eq_1,<- oJ.eq_1])⟩
def ahP:KF:=by refine (?f:kx 430=?t->KF) ?p;exact λ_=>?t;conv=>lhs;reduce
def acd:ST:=by refine (?f:rx [19004,93004,89004,36004,52004] 430 ahP=?t->ST) ?p;exact λ_=>?t;conv=>lhs;reduce
def adO:ST:=by refine (?f:lq acd 0=?t->ST) ?p;exact λ_=>?t;conv=>lhs;reduce
def akd:R_ [19004,93004,89004,36004,52004] 430:=⟨_,nU (r:=acd) (by kernel_rfl) (by conv=>lhs;reduce;rw[<- adO.eq_1])⟩
def AN:ST:=c1<|.map [1,0,3]<|b_ (o_ L2 [Y 7,Y 6]<|L_ (r_ 0 8++[Y 27]++r_ 8 19))<|h_ (d_ 8 (L_ (r_ 0 28))<|M1<|L_ (r_ 0 28))<|k_ (h_ (b_ (o_ (.el 1) [Y 5,Y 7]<|o_ (.OX 0) [Y 28]<|L_ ([Y 0,Y 1,Y 29]++r_ 2 6++r_ 9 19))<|h_ (.call 314 [Y 27,Y 2]<|k_ (L_ ([Y 0,Y 1,Y 47]++r_ 3 44))<|c1<|M1<|L_ ([Y 0,Y 1,Y 47]++r_ 3 28++[Y 33,Y 34]++r_ 37 7++[Y 31,Y 32,Y 35,Y 36]++r_ 44 3))<|k_ (b_ (o_ .not [Y 2]<|Qq 47<|f_ 47 .len [Y 44]<|f_ 47 G2 [Y 49,N 0]<|WJ 47 50<|Qq 51<|WJ 51 38<|Qq 53<|f_ 53 E2 [Y 30,N 6]<|WJ 53 55<|L_ ([Y 0,Y 1]++r_ 3 6++[Y 56]++r_ 9 19))<|d_ 8 (z_<|L_ [B J])<|M1<|L_ (r_ 0 28))<|c1<|.map [0,2]<|b_ (o_ .not [Y 2]<|Qq 47<|f_ 47 .len [Y 44]<|f_ 47 G2 [Y 49,N 0]<|WJ 47 50<|Qq 51<|WJ 51 34<|Qq 53<|f_ 53 E2 [Y 30,N 6]<|WJ 53 55<|L_ ([Y 0,Y 1]++r_ 3 6++[Y 56]++r_ 9 19++r_ 40 7))<|d_ 8 (z_<|L_ [B J])<|M1<|L_ (r_ 0 35))<|k_ (L_ [Y 0])<|k_ (M1<|o_ A2 [Y 7,N 1]<|L_ (r_ 0 7++[Y 28]++r_ 9 19))<|c1<|M1<|o_ A2 [Y 7,N 1]<|L_ (r_ 0 7++[Y 35]++r_ 9 19))<|c1<|.map [2]<|L_ (r_ 0 28)
def AO:ST:=c1<|.map [1,0,3]<|b_ (o_ L2 [Y 7,Y 6]<|L_ (r_ 0 8++[Y 27]++r_ 8 19))<|h_ (d_ 8 (L_ (r_ 0 28))<|M1<|L_ (r_ 0 28))<|k_ (h_ (b_ (o_ (.el 1) [Y 5,Y 7]<|o_ (.OX 0) [Y 28]<|L_ ([Y 0,Y 1,Y 29]++r_ 2 6++r_ 9 19))<|h_ (.call 314 [Y 27,Y 2]<|k_ (L_ ([Y 0,Y 1,Y 47]++r_ 3 25))<|c1<|M1<|L_ ([Y 0,Y 1,Y 47]++r_ 3 25++[Y 31,Y 32,Y 35,Y 36]++r_ 44 3))<|k_ (b_ (o_ .not [Y 2]<|L_ ([Y 0,Y 1]++r_ 3 6++[Y 28]++r_ 9 19))<|d_ 8 (z_<|L_ [B J])<|M1<|L_ (r_ 0 28))<|c1<|.map [0,2]<|b_ (o_ .not [Y 2]<|L_ ([Y 0,Y 1]++r_ 3 6++[Y 35]++r_ 9 26))<|d_ 8 (z_<|L_ [B J])<|M1<|L_ (r_ 0 35))<|k_ (L_ [Y 0])<|k_ (M1<|o_ A2 [Y 7,N 1]<|L_ (r_ 0 7++[Y 28]++r_ 9 19))<|c1<|M1<|o_ A2 [Y 7,N 1]<|L_ (r_ 0 7++[Y 35]++r_ 9 19))<|c1<|.map [2]<|L_ (r_ 0 28)
def ng:ST:=c1<|.map [1,0,3]<|b_ (o_ L2 [Y 4,Y 3]<|L_ (r_ 0 6))<|h_ (d_ 5 (L_ (r_ 0 6))<|M1<|L_ (r_ 0 6))<|k_ (h_ (b_ (o_ (.el 19) [Y 2,Y 4]<|o_ (.has 19) [Y 6]<|L_ (r_ 0 5++xs_ 6 0 19))<|h_ (b_ (c_ 313 (r_ 5 19)<|o_ .not [Y 24]<|Qq 25<|f_ 25 E2 [Y 5,N 7]<|WJ 25 27<|Qq 28<|f_ 28 E2 [Y 5,N 6]<|f_ 28 E2 [Y 0,N 5]<|f_ 28 (.TL .neq) [Y 30,Y 31]<|WJ 28 32<|Qq 33<|p_ [(Y 33,J),(Y 15,I)]<|f_ 33 .ite [Y 15,Y 1,B J]<|WJ 33 36<|L_ (r_ 0 5++[Y 37]++r_ 5 19))<|d_ 5 (z_<|L_ [B J])<|M1<|L_ (r_ 0 25))<|k_ (L_ [Y 0])<|c1<|h_ (b_ (o_ .len [Y 13]<|L_ (r_ 0 5++[Y 13,Y 25,N 0]++r_ 6 19))<|.loop 0 (r_ 0 27) AN)<|k_ (L_ [Y 0])<|c1<|h_ (b_ (o_ .len [Y 17]<|L_ (r_ 0 5++[Y 17,Y 28,N 0]++r_ 9 19))<|.loop 0 (r_ 0 27) AO)<|k_ (L_ [Y 0])<|c1<|b_ (Qq 1<|f_ 1 .len [Y 25]<|f_ 1 G2 [Y 29,N 0]<|WJ 1 30<|Qq 31<|f_ 31 E2 [Y 9,N 6]<|WJ 31 33<|c_ 315 [Y 27,Y 9,Y 34]<|o_ .not [Y 35]<|L_ (r_ 0 5++[Y 36]))<|d_ 5 (z_<|L_ [B J])<|M1<|L_ (r_ 0 6))<|k_ (L_ [Y 0])<|c1<|M1<|o_ A2 [Y 4,N 1]<|L_ (r_ 0 4++[Y 6]))<|c1<|.map [2]<|L_ (r_ 0 6)
def JA:R_ [] 315:=⟨z_<|b_ (L_ (r_ 0 3))<|h_ (b_ (c_ 95 [Y 0]<|c_ 257 [Y 3]<|o_ .pl [Y 4]<|o_ .not [Y 4]<|Qq 6<|f_ 6 N2 [Y 1,N 5]<|p_ [(Y 6,J),(Y 8,I)]<|.op [(Y 6,J),(Y 8,I)] N2 [Y 1,N 6]<|f_ 6 .ite [Y 8,Y 10,B J]<|p_ [(Y 6,J),(Y 11,I)]<|e_ 6 (d_ 11 (.call 94 [Y 0]<|k_ (c_ 95 [Y 13]<|c_ 257 [Y 14]<|o_ .pl [Y 15]<|o_ .not [Y 15]<|L_ (r_ 0 3++[Y 17]))<|c1<|c_ 95 [Y 13]<|c_ 257 [Y 14]<|o_ .pl [Y 15]<|o_ .not [Y 15]<|L_ (r_ 0 3++[Y 17]))<|L_ (r_ 0 3++[B J]))<|L_ (r_ 0 3++[B I]))<|d_ 3 (z_<|L_ [B J])<|M1<|L_ (r_ 0 4))<|k_ (L_ [Y 0])<|c1<|h_ (b_ (o_ .len [Y 0]<|L_ [Y 1,Y 2,Y 0,Y 4,N 0])<|.loop 0 (r_ 0 5) ng)<|k_ (L_ [Y 0])<|c1<|z_<|L_ [B I],by kernel_rfl⟩
def ahD:KF:=by refine (?f:kx 287=?t->KF) ?p;exact λ_=>?t;conv=>lhs;reduce
def ab_:ST:=by refine (?f:rx [] 287 ahD=?t->ST) ?p;exact λ_=>?t;conv=>lhs;reduce
def xz:ST:=by refine (?f:lq ab_ 0=?t->ST) ?p;exact λ_=>?t;conv=>lhs;reduce
def ajM:R_ [] 287:=⟨_,nU (r:=ab_) (by kernel_rfl) (by conv=>lhs;reduce;rw[<- xz.eq_1])⟩
def adK:ST:=by refine (?f:lp [] 404 0=?t->ST) ?p;exact λ_=>?t;conv=>lhs;reduce
def anm:R_ [] 404:=⟨_,by conv=>lhs;reduce;rw[<- adK.eq_1]⟩
def xA:ST:=by refine (?f:lp [23020] 330 0=?t->ST) ?p;exact λ_=>?t;conv=>lhs;reduce
def aj2:R_ [23020] 330:=⟨_,by conv=>lhs;reduce;rw[<- xA.eq_1]⟩
def oI:ST:=by refine (?f:lp [] 231 0=?t->ST) ?p;exact λ_=>?t;conv=>lhs;reduce
def t231:R_ [] 231:=⟨_,by conv=>lhs;reduce;rw[<- oI.eq_1]⟩
def DG:ST:=by refine (?f:lp [] 101 0=?t->ST) ?p;exact λ_=>?t;conv=>lhs;reduce
def t101:R_ [] 101:=⟨_,by conv=>lhs;reduce;rw[<- DG.eq_1]⟩
def t230:R_ [] 230:=⟨_,by conv=>lhs;reduce⟩
def Ay:ST:=by refine (?f:lp [] 197 0=?t->ST) ?p;exact λ_=>?t;conv=>lhs;reduce
def t197:R_ [] 197:=⟨_,by conv=>lhs;reduce;rw[<- Ay.eq_1]⟩
def td:ST:=by refine (?f:lp [6003,12003] 223 0=?t->ST) ?p;exact λ_=>?t;conv=>lhs;reduce
def t223:R_ [6003,12003] 223:=⟨_,by conv=>lhs;reduce;rw[<- td.eq_1]⟩
def anl:R_ [] 403:=⟨_,by conv=>lhs;reduce⟩
def anx:R_ [15003,15004] 435:=⟨_,by conv=>lhs;reduce⟩
def I0:ST:=by refine (?f:lp [] 288 0=?t->ST) ?p;exact λ_=>?t;conv=>lhs;reduce
def ajN:R_ [] 288:=⟨_,by conv=>lhs;reduce;rw[<- I0.eq_1]⟩
def IW:ST:=by refine (?f:lp [] 269 0=?t->ST) ?p;exact λ_=>?t;conv=>lhs;reduce
def t269:R_ [] 269:=⟨_,by conv=>lhs;reduce;rw[<- IW.eq_1]⟩
def PV:ST:=by refine (?f:lp [] 96 0=?t->ST) ?p;exact λ_=>?t;conv=>lhs;reduce
def t96:R_ [] 96:=⟨_,by conv=>lhs;reduce;rw[<- PV.eq_1]⟩
def PU:ST:=by refine (?f:lp [] 82 0=?t->ST) ?p;exact λ_=>?t;conv=>lhs;reduce
def t82:R_ [] 82:=⟨_,by conv=>lhs;reduce;rw[<- PU.eq_1]⟩
def I3:ST:=by refine (?f:lp [] 317 0=?t->ST) ?p;exact λ_=>?t;conv=>lhs;reduce
def ajR:R_ [] 317:=⟨_,by conv=>lhs;reduce;rw[<- I3.eq_1]⟩
def t278:R_ [] 278:=⟨_,by conv=>lhs;reduce⟩
def ajY:R_ [] 326:=⟨_,by conv=>lhs;reduce⟩
def t211:R_ [] 211:=⟨_,by conv=>lhs;reduce⟩
def t219:R_ [] 219:=⟨_,by conv=>lhs;reduce⟩
def aj_:R_ [] 426:=⟨_,by conv=>lhs;reduce⟩
def afm:R_ [] 396:=⟨_,by conv=>lhs;reduce⟩
def t260:R_ [] 260:=⟨_,by conv=>lhs;reduce⟩
def aj5:R_ [] 385:=⟨_,by conv=>lhs;reduce⟩
def ajV:R_ [] 323:=⟨_,by conv=>lhs;reduce⟩
theorem akC:zX ((nY.drop 45).take 9)=I:=by kernel_rfl
theorem af4:zX ((nY.drop 117).take 9)=I:=by kernel_rfl
theorem agb:zX ((nY.drop 189).take 9)=I:=by kernel_rfl
end
end
end Go.Proofs.YthlpjklbafakfaaGreatDoor
