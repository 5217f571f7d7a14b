/- Part of the proof: a machine over plain data, its proof, the functions of the program run on symbols, what they answer. Condition: none. -/
import Derived.Test.YtcdjbelccndadaaGreatDoorZz04
set_option linter.unusedVariables false
set_option linter.unusedSimpArgs false
open Bool renaming false_eq_true->au,true_and->bU,false_ne_true->cj,eq_false_iff->cT,false_and->df,and_true->fj,not_not->fm,false_or->fQ,not_false->fX,or_false->iM,and_false->iU,or_true->jo,not_true->jB,true_or->l6
open List renaming cons_append->ai,nil_append->ak
open Option renaming map_some->aB
namespace Go.Proofs.YtcdjbelccndadaaGreatDoor
set_option maxRecDepth 100000
section
theorem ad7:aG [] 234=some t234:=by kernel_rfl
theorem aeX:aG [] 315=some OC:=by kernel_rfl
theorem aeN:aG [] 287=some afB:=by kernel_rfl
theorem ad_:aG [] 237=some t237:=by kernel_rfl
theorem adN:aG [] 208=some t208:=by kernel_rfl
theorem ae_:aG [] 334=some afR:=by kernel_rfl
theorem Tu:aG [] 55=some t55:=by kernel_rfl
theorem adU:aG [] 215=some t215:=by kernel_rfl
theorem ad3:aG [] 230=some t230:=by kernel_rfl
theorem aeI:aG [] 274=some afx:=by kernel_rfl
theorem Zw:aG [6003,12003] 223=some t223:=by kernel_rfl
theorem aeh:aG [] 245=some t245:=by kernel_rfl
theorem ae5:aG [] 325=some afM:=by kernel_rfl
theorem aev:aG [] 261=some afj:=by kernel_rfl
theorem s71:aG [] 71=some t71:=by kernel_rfl
theorem adt:aG [] 109=some t109:=by kernel_rfl
theorem s10:aG [] 10=some t10:=by kernel_rfl
theorem s49:aG [] 49=some t49:=by kernel_rfl
theorem adC:aG [] 117=some t117:=by kernel_rfl
theorem adw:aG [] 111=some t111:=by kernel_rfl
theorem aey:aG [] 264=some afm:=by kernel_rfl
theorem s66:aG [] 66=some t66:=by kernel_rfl
theorem s53:aG [] 53=some t53:=by kernel_rfl
theorem ad9:aG [] 236=some t236:=by kernel_rfl
theorem aef:aG [] 243=some t243:=by kernel_rfl
theorem s82:aG [] 82=some t82:=by kernel_rfl
theorem adG:aG [] 201=some t201:=by kernel_rfl
theorem aeZ:aG [] 317=some afG:=by kernel_rfl
theorem adM:aG [] 207=some t207:=by kernel_rfl
theorem aeG:aG [] 272=some afv:=by kernel_rfl
theorem s50:aG [] 50=some t50:=by kernel_rfl
theorem ae6:aG [] 326=some afN:=by kernel_rfl
theorem adz:aG [] 114=some t114:=by kernel_rfl
theorem adx:aG [] 112=some t112:=by kernel_rfl
theorem adX:aG [] 219=some t219:=by kernel_rfl
theorem aeY:aG [] 316=some ZK:=by kernel_rfl
theorem s59:aG [] 59=some t59:=by kernel_rfl
theorem aeo:aG [] 252=some t252:=by kernel_rfl
theorem aex:aG [] 263=some afl:=by kernel_rfl
theorem aeC:aG [] 268=some afq:=by kernel_rfl
theorem aes:aG [] 258=some afg:=by kernel_rfl
theorem aej:aG [] 247=some t247:=by kernel_rfl
theorem aeP:aG [] 303=some afD:=by kernel_rfl
end
section
theorem aeV:aG [] 313=some yH:=by kernel_rfl
theorem s80:aG [] 80=some t80:=by kernel_rfl
theorem s97:aG [] 97=some t97:=by kernel_rfl
theorem aeb:aG [] 239=some t239:=by kernel_rfl
theorem s93:aG [26019] 93=some t93:=by kernel_rfl
theorem aec:aG [] 240=some t240:=by kernel_rfl
theorem BJ:aG [] 222=some t222:=by kernel_rfl
theorem Vp:aG [49003] 283=some VG:=by kernel_rfl
theorem s77:aG [] 77=some t77:=by kernel_rfl
theorem aeA:aG [] 266=some afo:=by kernel_rfl
theorem adZ:aG [] 224=some t224:=by kernel_rfl
theorem Sa:aG [] 284=some IS:=by kernel_rfl
theorem s70:aG [] 70=some t70:=by kernel_rfl
theorem adR:aG [] 212=some t212:=by kernel_rfl
theorem adr:aG [] 100=some t100:=by kernel_rfl
theorem adA:aG [] 115=some t115:=by kernel_rfl
theorem s47:aG [] 47=some t47:=by kernel_rfl
theorem s51:aG [] 51=some t51:=by kernel_rfl
theorem aeK:aG [] 281=some afz:=by kernel_rfl
theorem aeO:aG [] 288=some afC:=by kernel_rfl
theorem ad5:aG [] 232=some t232:=by kernel_rfl
theorem adP:aG [] 210=some t210:=by kernel_rfl
theorem adJ:aG [] 204=some t204:=by kernel_rfl
theorem s64:aG [] 64=some t64:=by kernel_rfl
theorem s95:aG [] 95=some t95:=by kernel_rfl
theorem s61:aG [] 61=some t61:=by kernel_rfl
theorem aeq:aG [] 256=some t256:=by kernel_rfl
theorem adY:aG [] 221=some t221:=by kernel_rfl
theorem Vn:aG [] 216=some t216:=by kernel_rfl
theorem afa:aG [] 335=some ZL:=by kernel_rfl
theorem Zy:aG [] 275=some VE:=by kernel_rfl
theorem s76:aG [] 76=some t76:=by kernel_rfl
theorem ad0:aG [] 227=some t227:=by kernel_rfl
theorem aeE:aG [] 270=some afs:=by kernel_rfl
theorem s67:aG [] 67=some t67:=by kernel_rfl
theorem s5:aG [] 5=some t5:=by kernel_rfl
theorem s63:aG [] 63=some t63:=by kernel_rfl
theorem s92:aG [] 92=some t92:=by kernel_rfl
theorem aed:aG [] 241=some t241:=by kernel_rfl
theorem aeu:aG [] 260=some afi:=by kernel_rfl
theorem s74:aG [] 74=some t74:=by kernel_rfl
theorem adW:aG [] 218=some t218:=by kernel_rfl
theorem s75:aG [] 75=some t75:=by kernel_rfl
end
section
theorem Vo:aG [] 220=some t220:=by kernel_rfl
theorem Zx:aG [73003,69003,63003,53003] 225=some t225:=by kernel_rfl
theorem ad1:aG [] 228=some t228:=by kernel_rfl
theorem afb:aG [25020] 336=some afS:=by kernel_rfl
theorem aeT:aG [] 311=some ZI:=by kernel_rfl
theorem adT:aG [] 214=some t214:=by kernel_rfl
theorem aeM:aG [] 286=some afA:=by kernel_rfl
theorem s81:aG [] 81=some t81:=by kernel_rfl
theorem aei:aG [] 246=some t246:=by kernel_rfl
theorem ae0:aG [] 320=some afH:=by kernel_rfl
theorem aeW:aG [] 314=some afF:=by kernel_rfl
theorem R_:aG [] 226=some t226:=by kernel_rfl
theorem ad2:aG [] 229=some t229:=by kernel_rfl
theorem ae1:aG [] 321=some afI:=by kernel_rfl
theorem adF:aG [] 120=some t120:=by kernel_rfl
theorem adD:aG [] 118=some t118:=by kernel_rfl
theorem s56:aG [] 56=some t56:=by kernel_rfl
theorem s4:aG [] 4=some t4:=by kernel_rfl
theorem ael:aG [] 249=some t249:=by kernel_rfl
theorem ad6:aG [] 233=some t233:=by kernel_rfl
theorem aeD:aG [] 269=some afr:=by kernel_rfl
theorem s6:aG [] 6=some t6:=by kernel_rfl
theorem s79:aG [] 79=some t79:=by kernel_rfl
theorem aeF:aG [] 271=some afu:=by kernel_rfl
theorem aeS:aG [] 310=some KP:=by kernel_rfl
theorem aew:aG [] 262=some afk:=by kernel_rfl
theorem aee:aG [] 242=some t242:=by kernel_rfl
theorem Zz:aG [] 278=some VF:=by kernel_rfl
theorem adB:aG [] 116=some t116:=by kernel_rfl
theorem afc:aG [] 337=some VI:=by kernel_rfl
theorem ad8:aG [] 235=some t235:=by kernel_rfl
theorem s68:aG [] 68=some t68:=by kernel_rfl
theorem adQ:aG [] 211=some t211:=by kernel_rfl
theorem adS:aG [] 213=some t213:=by kernel_rfl
theorem s94:aG [] 94=some t94:=by kernel_rfl
theorem aem:aG [] 250=some t250:=by kernel_rfl
theorem s52:aG [] 52=some t52:=by kernel_rfl
theorem ae7:aG [] 327=some afO:=by kernel_rfl
theorem aea:aG [] 238=some t238:=by kernel_rfl
theorem adO:aG [] 209=some t209:=by kernel_rfl
theorem aeH:aG [] 273=some afw:=by kernel_rfl
theorem s99:aG [] 99=some t99:=by kernel_rfl
end
section
theorem aeB:aG [] 267=some afp:=by kernel_rfl
theorem aeQ:aG [] 308=some Cy:=by kernel_rfl
theorem xw:aG [26003,18003,10003] 282=some xB:=by kernel_rfl
theorem ae2:aG [] 322=some afJ:=by kernel_rfl
theorem adK:aG [] 205=some t205:=by kernel_rfl
theorem adE:aG [] 119=some t119:=by kernel_rfl
theorem ad4:aG [] 231=some t231:=by kernel_rfl
theorem aen:aG [] 251=some t251:=by kernel_rfl
theorem s78:aG [] 78=some t78:=by kernel_rfl
theorem aeg:aG [] 244=some t244:=by kernel_rfl
theorem adH:aG [] 202=some t202:=by kernel_rfl
theorem ZA:aG [12003,6003] 280=some OB:=by kernel_rfl
theorem aez:aG [] 265=some afn:=by kernel_rfl
theorem ae9:aG [] 329=some afQ:=by kernel_rfl
theorem aek:aG [] 248=some t248:=by kernel_rfl
theorem ady:aG [] 113=some t113:=by kernel_rfl
theorem s46:aG [] 46=some t46:=by kernel_rfl
theorem s54:aG [] 54=some t54:=by kernel_rfl
theorem adu:aG [] 110=some t110:=by kernel_rfl
theorem s69:aG [] 69=some t69:=by kernel_rfl
theorem ae4:aG [] 324=some afL:=by kernel_rfl
theorem aer:aG [] 257=some t257:=by kernel_rfl
theorem s3:aG [] 3=some t3:=by kernel_rfl
theorem s96:aG [] 96=some t96:=by kernel_rfl
theorem s60:aG [] 60=some t60:=by kernel_rfl
theorem adI:aG [] 203=some t203:=by kernel_rfl
theorem aep:aG [] 255=some t255:=by kernel_rfl
theorem ae8:aG [] 328=some afP:=by kernel_rfl
theorem s9:aG [] 9=some t9:=by kernel_rfl
theorem s48:aG [] 48=some t48:=by kernel_rfl
theorem aeR:aG [] 309=some afE:=by kernel_rfl
theorem s62:aG [] 62=some t62:=by kernel_rfl
theorem aeL:aG [] 285=some VH:=by kernel_rfl
theorem ads:aG [] 108=some t108:=by kernel_rfl
theorem aeJ:aG [] 277=some afy:=by kernel_rfl
theorem s45:aG [] 45=some t45:=by kernel_rfl
theorem s65:aG [] 65=some t65:=by kernel_rfl
theorem adL:aG [] 206=some t206:=by kernel_rfl
theorem s39:aG [] 39=some t39:=by kernel_rfl
theorem aeU:aG [] 312=some ZJ:=by kernel_rfl
theorem aet:aG [] 259=some afh:=by kernel_rfl
theorem adV:aG [] 217=some t217:=by kernel_rfl
theorem ae3:aG [] 323=some afK:=by kernel_rfl
end
section
end
def j8{β:Type}(f:Nat->Option β):Nat->Nat->Option β
 |_,0=>none
 |i,m+1=>match f i with
  |some r=>some r
  |none=>j8 f (i+1) m
def Pz{σ β:Type}(s:σ):Option β->Sg σ β
 |none=>.go s
 |some r=>.out r
theorem Ew{σ β:Type}{b:σ->Option (Sg σ β)}(mk:Nat->σ)(f:Nat->Option β)(n:Nat)(fin:β)
  (nA:∀i,i < n->b (mk i)=some (Pz (mk (i+1)) (f i))) (fy:b (mk n)=some (.out fin)):∀m i,i+m=n->bR b (mk i)=some ((j8 f i m).getD fin)
 |0,i,h=>by
  obtain rfl:i=n:=by omega
  exact bk fy
 |m+1,i,h=>by
  have h1:=nA i (by omega);simp only[j8];cases hf:f i with
  |none=>rw[hf]at h1;rw[cE h1];exact Ew mk f n fin nA fy m (i+1) (by omega)
  |some r=>rw[hf]at h1;rw[bk h1];rfl
def oS(p:Nat->Bool):Nat->Nat->Bool
 |_,0=>true
 |i,m+1=>p i && oS p (i+1) m
theorem oC{σ β:Type}{b:σ->Option (Sg σ β)}(mk:Nat->σ)(p:Nat->Bool)(n:Nat)(yes no:β)
  (nA:∀i,i < n->b (mk i)=some (if p i=true then .go (mk (i+1)) else .out no)) (fy:b (mk n)=some (.out yes)):∀m i,i+m=n->bR b (mk i)=some (if oS p i m=true then yes else no)
 |0,i,h=>by
  obtain rfl:i=n:=by omega
  exact bk fy
 |m+1,i,h=>by
  have h1:=nA i (by omega);have e1:oS p i (m+1)=(p i && oS p (i+1) m):=rfl;rw[e1];by_cases hp:p i=true
  ·rw[if_pos hp]at h1;rw[cE h1,hp,bU];exact oC mk p n yes no nA fy m (i+1) (by omega)
  ·rw[if_neg hp]at h1;rw[bk h1,cT.2 hp,df,if_neg cj]
theorem wi1{i n:Nat}(h:i < n)(hn:n<=2147483648):IntKind.i64.wrap ((i:Int)+1)=((i+1:Nat):Int):=by
 rw[wrap_i64 (by omega)];omega
theorem Yr(i n:Nat):decide ((i:Int) < (n:Int))=decide (i < n):=by simp
theorem eW(G:Gf)(ρ:List D)(c:Bool)(a b:ST):OR (some c) G a b ρ=match c with
  |true=>OR (some true) G a b ρ
  |false=>OR (some false) G a b ρ:=by cases c<;>rfl
theorem eY(G:Gf)(ρ:List D)(c:Bool)(o:PO)(es:List SE)(t:ST):RH (some c) G o es t ρ=match c with
  |true=>RH (some true) G o es t ρ
  |false=>RH (some false) G o es t ρ:=by cases c<;>rfl
theorem eX(G:Gf)(ρ:List D)(c:Bool)(a b:ST):OR (some (!c)) G a b ρ=match c with
  |true=>OR (some false) G a b ρ
  |false=>OR (some true) G a b ρ:=by cases c<;>rfl
theorem eZ(G:Gf)(ρ:List D)(c:Bool)(o:PO)(es:List SE)(t:ST):RH (some (!c)) G o es t ρ=match c with
  |true=>RH (some false) G o es t ρ
  |false=>RH (some true) G o es t ρ:=by cases c<;>rfl
def ff(lo hi a:Int):Bool:=decide (lo<=a) && decide (a<=hi)
theorem fH(lo hi a:Int):ff lo hi a=true↔lo<=a/\a<=hi:=by simp[ff]
theorem S4(s:ByteArray)(i:Nat):IntKind.i64.wrap (da s i)=da s i:=by
 have:=pY s i;exact wrap_i64 (by omega)
def Xw(w:Bool):Option D->Option Bool->Option Bool
 |some (.bool b),r=>if b=w then r else some false
 |_,_=>none
theorem T4(ρ:List D)(e:SE)(w:Bool)(p:SE×Bool)(gs:Gs):gQ ρ ((e,w)::p::gs)=Xw w (e.d ρ) (gQ ρ (p::gs)):=by
 simp only[gQ];cases e.d ρ with
 |none=>rfl
 |some x=>cases x<;>rfl
theorem aa5(r:Option Bool):Xw true (some (.bool true)) r=r:=(rfl)
theorem aa4(r:Option Bool):Xw true (some (.bool false)) r=some false:=(rfl)
theorem aa3(r:Option Bool):Xw false (some (.bool true)) r=some false:=(rfl)
theorem aa2(r:Option Bool):Xw false (some (.bool false)) r=r:=(rfl)
theorem wF(b c:Bool):Xw true (some (.bool b)) (some c)=some (b && c):=by cases b<;>rfl
theorem ir(b c:Bool):Xw false (some (.bool b)) (some c)=some (!b && c):=by cases b<;>rfl
attribute [go_sem] BY
attribute [go_sem] ai ak Yr S4 T4 aa5 aa4 aa3 aa2 jB fX bU fj df iU l6 jo fQ iM decide_true decide_false Bool.true_eq_false au fm aB Option.map_none gO Nat.zero_mod Nat.zero_div
theorem zD{p q:Nat->Bool}:∀(m i:Nat),(∀j,i<=j->j < i+m->p j=q j)->oS p i m=oS q i m
 |0,_,_=>rfl
 |m+1,i,h=>by simp only[oS];rw[h i (by omega) (by omega),zD m (i+1) λj h1 h2=>h j (by omega) (by omega)]
abbrev mg:Nat:=1048576
theorem wj{i n:Nat}(h:i < n)(hn:n<=mg):IntKind.i64.wrap ((i:Int)+1)=((i+1:Nat):Int):=wi1 h (by simp only[mg]at hn;omega)
theorem n0:((0:Nat):Int)=0:=(rfl)
theorem n1:((1:Nat):Int)=1:=(rfl)
theorem WY{b:Int}(h:0<=b/\b<=255):IntKind.i64.wrap b=b:=wrap_i64 (by omega)
end Go.Proofs.YtcdjbelccndadaaGreatDoor
