/- Part of the proof: a machine over plain data, its proof, the functions of the program run on symbols, what they answer. Condition: none. -/
import Derived.Test.YtnnjajingjfjiaaGreatDoorZz04
set_option linter.unusedVariables false
set_option linter.unusedSimpArgs false
open Bool renaming true->I,false->J
namespace Go.Proofs.YtnnjajingjfjiaaGreatDoor
set_option maxRecDepth 100000
set_option maxHeartbeats 400000000
section
noncomputable section
def anc:KF:=by refine (?f:kx 378=?t->KF) ?p;exact λ_=>?t;conv=>lhs;reduce
def agE:ST:=by refine (?f:rx [78003,66020,30020] 378 anc=?t->ST) ?p;exact λ_=>?t;conv=>lhs;reduce
def Cg:ST:=by refine (?f:lq agE 0=?t->ST) ?p;exact λ_=>?t;conv=>lhs;reduce
def qZ:ST:=by refine (?f:lq agE 1=?t->ST) ?p;exact λ_=>?t;conv=>lhs;reduce
def alM:R_ [78003,66020,30020] 378:=⟨_,aaF (r:=agE) (by kernel_rfl) (by conv=>lhs;reduce;rw[<- Cg.eq_1,<- qZ.eq_1])⟩
def B_:ST:=c1<|.map [1,0,3]<|b_ (o_ L2 [Y 7,Y 6]<|L_ (r_ 0 8++[Y 27]++r_ 8 19))<|h_ (d_ 8 (L_ (r_ 0 28))<|M1<|L_ (r_ 0 28))<|k_ (h_ (b_ (o_ (.el 1) [Y 5,Y 7]<|o_ (.cel 0) [Y 28]<|L_ ([Y 0,Y 1,Y 29]++r_ 2 6++r_ 9 19))<|h_ (.call 314 [Y 27,Y 2]<|k_ (L_ ([Y 0,Y 1,Y 47]++r_ 3 44))<|c1<|M1<|L_ ([Y 0,Y 1,Y 47]++r_ 3 28++[Y 33,Y 34]++r_ 37 7++[Y 31,Y 32,Y 35,Y 36]++r_ 44 3))<|k_ (b_ (o_ .not [Y 2]<|Wy 47<|f_ 47 .len [Y 44]<|f_ 47 G2 [Y 49,N 0]<|ZA 47 50<|Wy 51<|ZA 51 38<|Wy 53<|f_ 53 E2 [Y 30,N 6]<|ZA 53 55<|L_ ([Y 0,Y 1]++r_ 3 6++[Y 56]++r_ 9 19))<|d_ 8 (z_<|L_ [B J])<|M1<|L_ (r_ 0 28))<|c1<|.map [0,2]<|b_ (o_ .not [Y 2]<|Wy 47<|f_ 47 .len [Y 44]<|f_ 47 G2 [Y 49,N 0]<|ZA 47 50<|Wy 51<|ZA 51 34<|Wy 53<|f_ 53 E2 [Y 30,N 6]<|ZA 53 55<|L_ ([Y 0,Y 1]++r_ 3 6++[Y 56]++r_ 9 19++r_ 40 7))<|d_ 8 (z_<|L_ [B J])<|M1<|L_ (r_ 0 35))<|k_ (L_ [Y 0])<|k_ (M1<|o_ A2 [Y 7,N 1]<|L_ (r_ 0 7++[Y 28]++r_ 9 19))<|c1<|M1<|o_ A2 [Y 7,N 1]<|L_ (r_ 0 7++[Y 35]++r_ 9 19))<|c1<|.map [2]<|L_ (r_ 0 28)
def Ca:ST:=c1<|.map [1,0,3]<|b_ (o_ L2 [Y 7,Y 6]<|L_ (r_ 0 8++[Y 27]++r_ 8 19))<|h_ (d_ 8 (L_ (r_ 0 28))<|M1<|L_ (r_ 0 28))<|k_ (h_ (b_ (o_ (.el 1) [Y 5,Y 7]<|o_ (.cel 0) [Y 28]<|L_ ([Y 0,Y 1,Y 29]++r_ 2 6++r_ 9 19))<|h_ (.call 314 [Y 27,Y 2]<|k_ (L_ ([Y 0,Y 1,Y 47]++r_ 3 25))<|c1<|M1<|L_ ([Y 0,Y 1,Y 47]++r_ 3 25++[Y 31,Y 32,Y 35,Y 36]++r_ 44 3))<|k_ (b_ (o_ .not [Y 2]<|L_ ([Y 0,Y 1]++r_ 3 6++[Y 28]++r_ 9 19))<|d_ 8 (z_<|L_ [B J])<|M1<|L_ (r_ 0 28))<|c1<|.map [0,2]<|b_ (o_ .not [Y 2]<|L_ ([Y 0,Y 1]++r_ 3 6++[Y 35]++r_ 9 26))<|d_ 8 (z_<|L_ [B J])<|M1<|L_ (r_ 0 35))<|k_ (L_ [Y 0])<|k_ (M1<|o_ A2 [Y 7,N 1]<|L_ (r_ 0 7++[Y 28]++r_ 9 19))<|c1<|M1<|o_ A2 [Y 7,N 1]<|L_ (r_ 0 7++[Y 35]++r_ 9 19))<|c1<|.map [2]<|L_ (r_ 0 28)
def sN:ST:=c1<|.map [1,0,3]<|b_ (o_ L2 [Y 4,Y 3]<|L_ (r_ 0 6))<|h_ (d_ 5 (L_ (r_ 0 6))<|M1<|L_ (r_ 0 6))<|k_ (h_ (b_ (o_ (.el 19) [Y 2,Y 4]<|o_ (.has 19) [Y 6]<|L_ (r_ 0 5++xs_ 6 0 19))<|h_ (b_ (c_ 313 (r_ 5 19)<|o_ .not [Y 24]<|Wy 25<|f_ 25 E2 [Y 5,N 7]<|ZA 25 27<|Wy 28<|f_ 28 E2 [Y 5,N 6]<|f_ 28 E2 [Y 0,N 5]<|f_ 28 (.Wi .neq) [Y 30,Y 31]<|ZA 28 32<|Wy 33<|p_ [(Y 33,J),(Y 15,I)]<|f_ 33 .ite [Y 15,Y 1,B J]<|ZA 33 36<|L_ (r_ 0 5++[Y 37]++r_ 5 19))<|d_ 5 (z_<|L_ [B J])<|M1<|L_ (r_ 0 25))<|k_ (L_ [Y 0])<|c1<|h_ (b_ (o_ .len [Y 13]<|L_ (r_ 0 5++[Y 13,Y 25,N 0]++r_ 6 19))<|.loop 0 (r_ 0 27) B_)<|k_ (L_ [Y 0])<|c1<|h_ (b_ (o_ .len [Y 17]<|L_ (r_ 0 5++[Y 17,Y 28,N 0]++r_ 9 19))<|.loop 0 (r_ 0 27) Ca)<|k_ (L_ [Y 0])<|c1<|b_ (Wy 1<|f_ 1 .len [Y 25]<|f_ 1 G2 [Y 29,N 0]<|ZA 1 30<|Wy 31<|f_ 31 E2 [Y 9,N 6]<|ZA 31 33<|c_ 315 [Y 27,Y 9,Y 34]<|o_ .not [Y 35]<|L_ (r_ 0 5++[Y 36]))<|d_ 5 (z_<|L_ [B J])<|M1<|L_ (r_ 0 6))<|k_ (L_ [Y 0])<|c1<|M1<|o_ A2 [Y 4,N 1]<|L_ (r_ 0 4++[Y 6]))<|c1<|.map [2]<|L_ (r_ 0 6)
def t315:R_ [] 315:=⟨z_<|b_ (L_ (r_ 0 3))<|h_ (b_ (c_ 95 [Y 0]<|c_ 257 [Y 3]<|o_ .pl [Y 4]<|o_ .not [Y 4]<|Wy 6<|f_ 6 N2 [Y 1,N 5]<|p_ [(Y 6,J),(Y 8,I)]<|.op [(Y 6,J),(Y 8,I)] N2 [Y 1,N 6]<|f_ 6 .ite [Y 8,Y 10,B J]<|p_ [(Y 6,J),(Y 11,I)]<|e_ 6 (d_ 11 (.call 94 [Y 0]<|k_ (c_ 95 [Y 13]<|c_ 257 [Y 14]<|o_ .pl [Y 15]<|o_ .not [Y 15]<|L_ (r_ 0 3++[Y 17]))<|c1<|c_ 95 [Y 13]<|c_ 257 [Y 14]<|o_ .pl [Y 15]<|o_ .not [Y 15]<|L_ (r_ 0 3++[Y 17]))<|L_ (r_ 0 3++[B J]))<|L_ (r_ 0 3++[B I]))<|d_ 3 (z_<|L_ [B J])<|M1<|L_ (r_ 0 4))<|k_ (L_ [Y 0])<|c1<|h_ (b_ (o_ .len [Y 0]<|L_ [Y 1,Y 2,Y 0,Y 4,N 0])<|.loop 0 (r_ 0 5) sN)<|k_ (L_ [Y 0])<|c1<|z_<|L_ [B I],by kernel_rfl⟩
def FN:ST:=by refine (?f:lp [] 322 0=?t->ST) ?p;exact λ_=>?t;conv=>lhs;reduce
def uH:ST:=by refine (?f:lp [] 322 1=?t->ST) ?p;exact λ_=>?t;conv=>lhs;reduce
def t322:R_ [] 322:=⟨_,by conv=>lhs;reduce;rw[<- FN.eq_1,<- uH.eq_1]⟩
def BY:ST:=by refine (?f:lp [] 208 0=?t->ST) ?p;exact λ_=>?t;conv=>lhs;reduce
def t208:R_ [] 208:=⟨_,by conv=>lhs;reduce;rw[<- BY.eq_1]⟩
def pD:ST:=by refine (?f:lp [] 231 0=?t->ST) ?p;exact λ_=>?t;conv=>lhs;reduce
def t231:R_ [] 231:=⟨_,by conv=>lhs;reduce;rw[<- pD.eq_1]⟩
def oE:ST:=by refine (?f:lp [49003] 283 0=?t->ST) ?p;exact λ_=>?t;conv=>lhs;reduce
def t283:R_ [49003] 283:=⟨_,by conv=>lhs;reduce;rw[<- oE.eq_1]⟩
def RI:R_ [] 358:=⟨_,by conv=>lhs;reduce⟩
def B3:ST:=by refine (?f:lp [] 224 0=?t->ST) ?p;exact λ_=>?t;conv=>lhs;reduce
def t224:R_ [] 224:=⟨_,by conv=>lhs;reduce;rw[<- B3.eq_1]⟩
def t226:R_ [] 226:=⟨_,by conv=>lhs;reduce⟩
def Lh:ST:=by refine (?f:lp [] 377 0=?t->ST) ?p;exact λ_=>?t;conv=>lhs;reduce
def agR:R_ [] 377:=⟨_,by conv=>lhs;reduce;rw[<- Lh.eq_1]⟩
def Tv:ST:=by refine (?f:lp [] 71 0=?t->ST) ?p;exact λ_=>?t;conv=>lhs;reduce
def t71:R_ [] 71:=⟨_,by conv=>lhs;reduce;rw[<- Tv.eq_1]⟩
def afc:ST:=by refine (?f:lp [] 118 0=?t->ST) ?p;exact λ_=>?t;conv=>lhs;reduce
def t118:R_ [] 118:=⟨_,by conv=>lhs;reduce;rw[<- afc.eq_1]⟩
def FR:ST:=by refine (?f:lp [] 361 0=?t->ST) ?p;exact λ_=>?t;conv=>lhs;reduce
def ada:R_ [] 361:=⟨_,by conv=>lhs;reduce;rw[<- FR.eq_1]⟩
def FQ:ST:=by refine (?f:lp [] 353 0=?t->ST) ?p;exact λ_=>?t;conv=>lhs;reduce
def ac9:R_ [] 353:=⟨_,by conv=>lhs;reduce;rw[<- FQ.eq_1]⟩
def t146:R_ [] 146:=⟨_,by conv=>lhs;reduce⟩
def K7:ST:=by refine (?f:lp [] 269 0=?t->ST) ?p;exact λ_=>?t;conv=>lhs;reduce
def t269:R_ [] 269:=⟨_,by conv=>lhs;reduce;rw[<- K7.eq_1]⟩
def To:ST:=by refine (?f:lp [] 34 0=?t->ST) ?p;exact λ_=>?t;conv=>lhs;reduce
def t34:R_ [] 34:=⟨_,by conv=>lhs;reduce;rw[<- To.eq_1]⟩
def t26:R_ [] 26:=⟨_,by conv=>lhs;reduce⟩
def t236:R_ [] 236:=⟨_,by conv=>lhs;reduce⟩
def Tw:ST:=by refine (?f:lp [] 82 0=?t->ST) ?p;exact λ_=>?t;conv=>lhs;reduce
def t82:R_ [] 82:=⟨_,by conv=>lhs;reduce;rw[<- Tw.eq_1]⟩
def t278:R_ [] 278:=⟨_,by conv=>lhs;reduce⟩
def t13:R_ [] 13:=⟨_,by conv=>lhs;reduce⟩
def t50:R_ [] 50:=⟨_,by conv=>lhs;reduce⟩
def t30:R_ [] 30:=⟨_,by conv=>lhs;reduce⟩
def t270:R_ [] 270:=⟨_,by conv=>lhs;reduce⟩
def t94:R_ [] 94:=⟨_,by conv=>lhs;reduce⟩
def t5:R_ [] 5:=⟨_,by conv=>lhs;reduce⟩
def t252:R_ [] 252:=⟨_,by conv=>lhs;reduce⟩
def t206:R_ [] 206:=⟨_,by conv=>lhs;reduce⟩
def t259:R_ [] 259:=⟨_,by conv=>lhs;reduce⟩
def t303:R_ [] 303:=⟨_,by conv=>lhs;reduce⟩
theorem amb:Bo ((qq.drop 44).take 11)=I:=by kernel_rfl
theorem ahI:Bo ((qq.drop 132).take 11)=I:=by kernel_rfl
theorem ahQ:Bo ((qq.drop 220).take 11)=I:=by kernel_rfl
end
end
end Go.Proofs.YtnnjajingjfjiaaGreatDoor
