/- Part of the proof: a machine over plain data, its proof, the functions of the program run on symbols, what they answer. Condition: none. -/
import Derived.Test.YtcdjbelccndadaaGreatDoorZy04
set_option linter.unusedVariables false
set_option linter.unusedSimpArgs false
open Bool renaming false_eq_true->av,false_ne_true->ck,true_and->cB,eq_false_iff->cT,false_and->er,and_true->fo,not_not->fS,false_or->iM,or_false->iN,and_false->iW,or_true->jr,not_false->kb,not_true->nb,true_or->sI
open List renaming cons_append->ai,nil_append->ao
open Option renaming map_some->aD
namespace Go.Proofs.YtcdjbelccndadaaGreatDoor
set_option maxRecDepth 100000
section
theorem aem:aC [] 234=some t234:=by kernel_rfl
theorem s80:aC [] 80=some t80:=by kernel_rfl
theorem aeg:aC [] 228=some t228:=by kernel_rfl
theorem aer:aC [] 239=some t239:=by kernel_rfl
theorem ad0:aC [] 205=some t205:=by kernel_rfl
theorem ae0:aC [] 286=some afN:=by kernel_rfl
theorem TN:aC [] 55=some t55:=by kernel_rfl
theorem s81:aC [] 81=some t81:=by kernel_rfl
theorem s77:aC [] 77=some t77:=by kernel_rfl
theorem aeO:aC [] 266=some afC:=by kernel_rfl
theorem aee:aC [] 224=some t224:=by kernel_rfl
theorem aex:aC [] 245=some t245:=by kernel_rfl
theorem aeN:aC [] 265=some afB:=by kernel_rfl
theorem ad7:aC [] 212=some t212:=by kernel_rfl
theorem s71:aC [] 71=some t71:=by kernel_rfl
theorem adI:aC [] 109=some t109:=by kernel_rfl
theorem adV:aC [] 122=some t122:=by kernel_rfl
theorem s56:aC [] 56=some t56:=by kernel_rfl
theorem s49:aC [] 49=some t49:=by kernel_rfl
theorem adQ:aC [] 117=some t117:=by kernel_rfl
theorem ae2:aC [] 288=some afP:=by kernel_rfl
theorem aek:aC [] 232=some t232:=by kernel_rfl
theorem s6:aC [] 6=some t6:=by kernel_rfl
theorem adZ:aC [] 204=some t204:=by kernel_rfl
theorem aeT:aC [] 271=some afH:=by kernel_rfl
theorem s60:aC [] 60=some t60:=by kernel_rfl
theorem adU:aC [] 121=some t121:=by kernel_rfl
theorem adW:aC [] 201=some t201:=by kernel_rfl
theorem afc:aC [] 317=some afT:=by kernel_rfl
theorem VB:aC [] 216=some t216:=by kernel_rfl
theorem s9:aC [] 9=some t9:=by kernel_rfl
theorem aeU:aC [] 272=some afI:=by kernel_rfl
theorem s68:aC [] 68=some t68:=by kernel_rfl
theorem s72:aC [] 72=some t72:=by kernel_rfl
theorem aef:aC [] 227=some t227:=by kernel_rfl
theorem aeS:aC [] 270=some afG:=by kernel_rfl
theorem s67:aC [] 67=some t67:=by kernel_rfl
theorem s45:aC [] 45=some t45:=by kernel_rfl
theorem s52:aC [] 52=some t52:=by kernel_rfl
theorem aeL:aC [] 263=some afz:=by kernel_rfl
theorem s83:aC [] 83=some t83:=by kernel_rfl
theorem aeI:aC [] 260=some afw:=by kernel_rfl
theorem aeH:aC [] 259=some afv:=by kernel_rfl
theorem s74:aC [] 74=some t74:=by kernel_rfl
theorem adG:aC [] 102=some t102:=by kernel_rfl
end
section
theorem ae9:aC [] 313=some yB:=by kernel_rfl
theorem ZO:aC [73003,69003,63003,53003] 225=some t225:=by kernel_rfl
theorem afa:aC [] 315=some OI:=by kernel_rfl
theorem ae1:aC [] 287=some afO:=by kernel_rfl
theorem ae7:aC [] 311=some ZZ:=by kernel_rfl
theorem ad9:aC [] 214=some t214:=by kernel_rfl
theorem aej:aC [] 231=some t231:=by kernel_rfl
theorem VD:aC [49003] 283=some VU:=by kernel_rfl
theorem aey:aC [] 246=some t246:=by kernel_rfl
theorem aew:aC [] 244=some t244:=by kernel_rfl
theorem ae_:aC [] 314=some afS:=by kernel_rfl
theorem ZR:aC [12003,6003] 280=some OH:=by kernel_rfl
theorem s86:aC [] 86=some t86:=by kernel_rfl
theorem aeJ:aC [] 261=some afx:=by kernel_rfl
theorem aeA:aC [] 248=some t248:=by kernel_rfl
theorem adT:aC [] 120=some t120:=by kernel_rfl
theorem adR:aC [] 118=some t118:=by kernel_rfl
theorem s46:aC [] 46=some t46:=by kernel_rfl
theorem s51:aC [] 51=some t51:=by kernel_rfl
theorem aeY:aC [] 281=some afM:=by kernel_rfl
theorem s85:aC [] 85=some t85:=by kernel_rfl
theorem s73:aC [] 73=some t73:=by kernel_rfl
theorem aeF:aC [] 257=some t257:=by kernel_rfl
theorem s3:aC [] 3=some t3:=by kernel_rfl
theorem s96:aC [] 96=some t96:=by kernel_rfl
theorem aeo:aC [] 236=some t236:=by kernel_rfl
theorem s84:aC [] 84=some t84:=by kernel_rfl
theorem s61:aC [] 61=some t61:=by kernel_rfl
theorem aeu:aC [] 242=some t242:=by kernel_rfl
theorem adP:aC [] 116=some t116:=by kernel_rfl
theorem ad2:aC [] 207=some t207:=by kernel_rfl
theorem s50:aC [] 50=some t50:=by kernel_rfl
theorem ae5:aC [] 309=some afR:=by kernel_rfl
theorem s76:aC [] 76=some t76:=by kernel_rfl
theorem aeZ:aC [] 285=some VV:=by kernel_rfl
theorem adH:aC [] 108=some t108:=by kernel_rfl
theorem aeX:aC [] 277=some afL:=by kernel_rfl
theorem aeC:aC [] 250=some t250:=by kernel_rfl
theorem s65:aC [] 65=some t65:=by kernel_rfl
theorem afk:aC [] 327=some af1:=by kernel_rfl
theorem aet:aC [] 241=some t241:=by kernel_rfl
theorem ae8:aC [] 312=some Z0:=by kernel_rfl
theorem aeG:aC [] 258=some afu:=by kernel_rfl
theorem aez:aC [] 247=some t247:=by kernel_rfl
theorem s99:aC [] 99=some t99:=by kernel_rfl
end
section
theorem VC:aC [] 220=some t220:=by kernel_rfl
theorem ae4:aC [] 308=some Cr:=by kernel_rfl
theorem s97:aC [] 97=some t97:=by kernel_rfl
theorem aff:aC [] 322=some afW:=by kernel_rfl
theorem s93:aC [26019] 93=some t93:=by kernel_rfl
theorem aes:aC [] 240=some t240:=by kernel_rfl
theorem BB:aC [] 222=some t222:=by kernel_rfl
theorem ad_:aC [] 215=some t215:=by kernel_rfl
theorem aei:aC [] 230=some t230:=by kernel_rfl
theorem aeW:aC [] 274=some afK:=by kernel_rfl
theorem ZN:aC [6003,12003] 223=some t223:=by kernel_rfl
theorem Sm:aC [] 284=some II:=by kernel_rfl
theorem aeh:aC [] 229=some t229:=by kernel_rfl
theorem s70:aC [] 70=some t70:=by kernel_rfl
theorem adE:aC [] 100=some t100:=by kernel_rfl
theorem adM:aC [] 113=some t113:=by kernel_rfl
theorem s47:aC [] 47=some t47:=by kernel_rfl
theorem s58:aC [] 58=some t58:=by kernel_rfl
theorem adJ:aC [] 110=some t110:=by kernel_rfl
theorem aeB:aC [] 249=some t249:=by kernel_rfl
theorem ael:aC [] 233=some t233:=by kernel_rfl
theorem aeR:aC [] 269=some afF:=by kernel_rfl
theorem aeM:aC [] 264=some afA:=by kernel_rfl
theorem s79:aC [] 79=some t79:=by kernel_rfl
theorem s53:aC [] 53=some t53:=by kernel_rfl
theorem s95:aC [] 95=some t95:=by kernel_rfl
theorem s82:aC [] 82=some t82:=by kernel_rfl
theorem aeK:aC [] 262=some afy:=by kernel_rfl
theorem aeE:aC [] 256=some t256:=by kernel_rfl
theorem ZQ:aC [] 278=some VT:=by kernel_rfl
theorem s48:aC [] 48=some t48:=by kernel_rfl
theorem aen:aC [] 235=some t235:=by kernel_rfl
theorem afp:aC [] 343=some Z3:=by kernel_rfl
theorem afj:aC [] 326=some af0:=by kernel_rfl
theorem adN:aC [] 114=some t114:=by kernel_rfl
theorem ad8:aC [] 213=some t213:=by kernel_rfl
theorem s94:aC [] 94=some t94:=by kernel_rfl
theorem s5:aC [] 5=some t5:=by kernel_rfl
theorem s59:aC [] 59=some t59:=by kernel_rfl
theorem s92:aC [] 92=some t92:=by kernel_rfl
theorem s98:aC [] 98=some t98:=by kernel_rfl
theorem ad4:aC [] 209=some t209:=by kernel_rfl
theorem aeQ:aC [] 268=some afE:=by kernel_rfl
theorem aeb:aC [] 218=some t218:=by kernel_rfl
theorem afg:aC [] 323=some afX:=by kernel_rfl
end
section
theorem afo:aC [30020] 342=some af4:=by kernel_rfl
theorem aeP:aC [] 267=some afD:=by kernel_rfl
theorem xp:aC [26003,18003,10003] 282=some xx:=by kernel_rfl
theorem aep:aC [] 237=some t237:=by kernel_rfl
theorem ad3:aC [] 208=some t208:=by kernel_rfl
theorem adS:aC [] 119=some t119:=by kernel_rfl
theorem afm:aC [41003] 340=some af3:=by kernel_rfl
theorem adF:aC [] 101=some t101:=by kernel_rfl
theorem s78:aC [] 78=some t78:=by kernel_rfl
theorem afd:aC [] 320=some afU:=by kernel_rfl
theorem adX:aC [] 202=some t202:=by kernel_rfl
theorem Sl:aC [] 226=some t226:=by kernel_rfl
theorem afi:aC [] 325=some afZ:=by kernel_rfl
theorem afe:aC [] 321=some afV:=by kernel_rfl
theorem afl:aC [] 339=some af2:=by kernel_rfl
theorem adO:aC [] 115=some t115:=by kernel_rfl
theorem s10:aC [] 10=some t10:=by kernel_rfl
theorem s54:aC [] 54=some t54:=by kernel_rfl
theorem s4:aC [] 4=some t4:=by kernel_rfl
theorem adK:aC [] 111=some t111:=by kernel_rfl
theorem s69:aC [] 69=some t69:=by kernel_rfl
theorem afh:aC [] 324=some afY:=by kernel_rfl
theorem ad5:aC [] 210=some t210:=by kernel_rfl
theorem s66:aC [] 66=some t66:=by kernel_rfl
theorem s64:aC [] 64=some t64:=by kernel_rfl
theorem ae6:aC [] 310=some KH:=by kernel_rfl
theorem aev:aC [] 243=some t243:=by kernel_rfl
theorem adY:aC [] 203=some t203:=by kernel_rfl
theorem aeD:aC [] 255=some t255:=by kernel_rfl
theorem aed:aC [] 221=some t221:=by kernel_rfl
theorem s57:aC [] 57=some t57:=by kernel_rfl
theorem ZP:aC [] 275=some VS:=by kernel_rfl
theorem afn:aC [] 341=some Z2:=by kernel_rfl
theorem s62:aC [] 62=some t62:=by kernel_rfl
theorem ad6:aC [] 211=some t211:=by kernel_rfl
theorem adL:aC [] 112=some t112:=by kernel_rfl
theorem aec:aC [] 219=some t219:=by kernel_rfl
theorem afb:aC [] 316=some Z1:=by kernel_rfl
theorem s63:aC [] 63=some t63:=by kernel_rfl
theorem ad1:aC [] 206=some t206:=by kernel_rfl
theorem s39:aC [] 39=some t39:=by kernel_rfl
theorem aeq:aC [] 238=some t238:=by kernel_rfl
theorem aeV:aC [] 273=some afJ:=by kernel_rfl
theorem aea:aC [] 217=some t217:=by kernel_rfl
theorem s75:aC [] 75=some t75:=by kernel_rfl
theorem ae3:aC [] 303=some afQ:=by kernel_rfl
end
section
end
def j7{β:Type}(f:Nat->Option β):Nat->Nat->Option β
 |_,0=>none
 |i,m+1=>match f i with
  |some r=>some r
  |none=>j7 f (i+1) m
def PH{σ β:Type}(s:σ):Option β->Sg σ β
 |none=>.go s
 |some r=>.out r
theorem En{σ β:Type}{b:σ->Option (Sg σ β)}(mk:Nat->σ)(f:Nat->Option β)(n:Nat)(fin:β)
  (nB:∀i,i < n->b (mk i)=some (PH (mk (i+1)) (f i))) (fE:b (mk n)=some (.out fin)):∀m i,i+m=n->bR b (mk i)=some ((j7 f i m).getD fin)
 |0,i,h=>by
  obtain rfl:i=n:=by omega
  exact bk fE
 |m+1,i,h=>by
  have h1:=nB i (by omega);simp only[j7];cases hf:f i with
  |none=>rw[hf]at h1;rw[cF h1];exact En mk f n fin nB fE m (i+1) (by omega)
  |some r=>rw[hf]at h1;rw[bk h1];rfl
def oP(p:Nat->Bool):Nat->Nat->Bool
 |_,0=>true
 |i,m+1=>p i && oP p (i+1) m
theorem oy{σ β:Type}{b:σ->Option (Sg σ β)}(mk:Nat->σ)(p:Nat->Bool)(n:Nat)(yes no:β)
  (nB:∀i,i < n->b (mk i)=some (if p i=true then .go (mk (i+1)) else .out no)) (fE:b (mk n)=some (.out yes)):∀m i,i+m=n->bR b (mk i)=some (if oP p i m=true then yes else no)
 |0,i,h=>by
  obtain rfl:i=n:=by omega
  exact bk fE
 |m+1,i,h=>by
  have h1:=nB i (by omega);have e1:oP p i (m+1)=(p i && oP p (i+1) m):=rfl;rw[e1];by_cases hp:p i=true
  ·rw[if_pos hp]at h1;rw[cF h1,hp,cB];exact oy mk p n yes no nB fE m (i+1) (by omega)
  ·rw[if_neg hp]at h1;rw[bk h1,cT.2 hp,er,if_neg ck]
theorem wi1{i n:Nat}(h:i < n)(hn:n<=2147483648):IntKind.i64.wrap ((i:Int)+1)=((i+1:Nat):Int):=by
 rw[wrap_i64 (by omega)];omega
theorem YG(i n:Nat):decide ((i:Int) < (n:Int))=decide (i < n):=by simp
theorem eY(G:Gf)(ρ:List D)(c:Bool)(a b:ST):OX (some c) G a b ρ=match c with
  |true=>OX (some true) G a b ρ
  |false=>OX (some false) G a b ρ:=by cases c<;>rfl
theorem fc(G:Gf)(ρ:List D)(c:Bool)(o:PO)(es:List SE)(t:ST):RX (some c) G o es t ρ=match c with
  |true=>RX (some true) G o es t ρ
  |false=>RX (some false) G o es t ρ:=by cases c<;>rfl
theorem eZ(G:Gf)(ρ:List D)(c:Bool)(a b:ST):OX (some (!c)) G a b ρ=match c with
  |true=>OX (some false) G a b ρ
  |false=>OX (some true) G a b ρ:=by cases c<;>rfl
theorem fe(G:Gf)(ρ:List D)(c:Bool)(o:PO)(es:List SE)(t:ST):RX (some (!c)) G o es t ρ=match c with
  |true=>RX (some false) G o es t ρ
  |false=>RX (some true) G o es t ρ:=by cases c<;>rfl
def fg(lo hi a:Int):Bool:=decide (lo<=a) && decide (a<=hi)
theorem fJ(lo hi a:Int):fg lo hi a=true↔lo<=a/\a<=hi:=by simp[fg]
theorem Tl(s:ByteArray)(i:Nat):IntKind.i64.wrap (da s i)=da s i:=by
 have:=pX s i;exact wrap_i64 (by omega)
def XJ(w:Bool):Option D->Option Bool->Option Bool
 |some (.bool b),r=>if b=w then r else some false
 |_,_=>none
theorem Um(ρ:List D)(e:SE)(w:Bool)(p:SE×Bool)(gs:Gs):gN ρ ((e,w)::p::gs)=XJ w (e.d ρ) (gN ρ (p::gs)):=by
 simp only[gN];cases e.d ρ with
 |none=>rfl
 |some x=>cases x<;>rfl
theorem abc(r:Option Bool):XJ true (some (.bool true)) r=r:=(rfl)
theorem abb(r:Option Bool):XJ true (some (.bool false)) r=some false:=(rfl)
theorem aba(r:Option Bool):XJ false (some (.bool true)) r=some false:=(rfl)
theorem aa_(r:Option Bool):XJ false (some (.bool false)) r=r:=(rfl)
theorem wE(b c:Bool):XJ true (some (.bool b)) (some c)=some (b && c):=by cases b<;>rfl
theorem iu(b c:Bool):XJ false (some (.bool b)) (some c)=some (!b && c):=by cases b<;>rfl
attribute [go_sem] BQ
attribute [go_sem] ai ao YG Tl Um abc abb aba aa_ nb kb cB fo er iW sI jr iM iN decide_true decide_false Bool.true_eq_false av fS aD Option.map_none gO Nat.zero_mod Nat.zero_div
theorem zw{p q:Nat->Bool}:∀(m i:Nat),(∀j,i<=j->j < i+m->p j=q j)->oP p i m=oP q i m
 |0,_,_=>rfl
 |m+1,i,h=>by simp only[oP];rw[h i (by omega) (by omega),zw m (i+1) λj h1 h2=>h j (by omega) (by omega)]
abbrev mg:Nat:=1048576
theorem wj{i n:Nat}(h:i < n)(hn:n<=mg):IntKind.i64.wrap ((i:Int)+1)=((i+1:Nat):Int):=wi1 h (by simp only[mg]at hn;omega)
theorem n0:((0:Nat):Int)=0:=(rfl)
theorem n1:((1:Nat):Int)=1:=(rfl)
theorem Xa{b:Int}(h:0<=b/\b<=255):IntKind.i64.wrap b=b:=wrap_i64 (by omega)
end Go.Proofs.YtcdjbelccndadaaGreatDoor
