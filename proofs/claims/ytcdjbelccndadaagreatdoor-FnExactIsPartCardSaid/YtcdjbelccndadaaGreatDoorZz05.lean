/- Part of the proof: a machine over plain data, its proof, the functions of the program run on symbols, what they answer. Condition: none. -/
import Derived.Test.YtcdjbelccndadaaGreatDoorZz04
set_option linter.unusedVariables false
set_option linter.unusedSimpArgs false
namespace Go.Proofs.YtcdjbelccndadaaGreatDoor
section
set_option maxRecDepth 100000
theorem s234:treeOf [] 234=some t234:=by kernel_rfl
theorem s80:treeOf [] 80=some t80:=by kernel_rfl
theorem s228:treeOf [] 228=some t228:=by kernel_rfl
theorem s336:treeOf [25020] 336=some t336:=by kernel_rfl
theorem s311:treeOf [] 311=some t311:=by kernel_rfl
theorem s214:treeOf [] 214=some t214:=by kernel_rfl
theorem s334:treeOf [] 334=some t334:=by kernel_rfl
theorem s332:treeOf [] 332=some t332:=by kernel_rfl
theorem s253:treeOf [] 253=some t253:=by kernel_rfl
theorem s283:treeOf [49003] 283=some t283:=by kernel_rfl
theorem s78:treeOf [] 78=some t78:=by kernel_rfl
theorem s244:treeOf [] 244=some t244:=by kernel_rfl
theorem s280:treeOf [12003,6003] 280=some t280:=by kernel_rfl
theorem s86:treeOf [] 86=some t86:=by kernel_rfl
theorem s70:treeOf [] 70=some t70:=by kernel_rfl
theorem s261:treeOf [] 261=some t261:=by kernel_rfl
theorem s100:treeOf [] 100=some t100:=by kernel_rfl
theorem s113:treeOf [] 113=some t113:=by kernel_rfl
theorem s46:treeOf [] 46=some t46:=by kernel_rfl
theorem s49:treeOf [] 49=some t49:=by kernel_rfl
theorem s117:treeOf [] 117=some t117:=by kernel_rfl
theorem s69:treeOf [] 69=some t69:=by kernel_rfl
theorem s233:treeOf [] 233=some t233:=by kernel_rfl
theorem s264:treeOf [] 264=some t264:=by kernel_rfl
theorem s66:treeOf [] 66=some t66:=by kernel_rfl
theorem s53:treeOf [] 53=some t53:=by kernel_rfl
theorem s60:treeOf [] 60=some t60:=by kernel_rfl
theorem s82:treeOf [] 82=some t82:=by kernel_rfl
theorem s201:treeOf [] 201=some t201:=by kernel_rfl
theorem s317:treeOf [] 317=some t317:=by kernel_rfl
theorem s221:treeOf [] 221=some t221:=by kernel_rfl
theorem s337:treeOf [] 337=some t337:=by kernel_rfl
theorem s275:treeOf [] 275=some t275:=by kernel_rfl
theorem s68:treeOf [] 68=some t68:=by kernel_rfl
theorem s76:treeOf [] 76=some t76:=by kernel_rfl
theorem s227:treeOf [] 227=some t227:=by kernel_rfl
theorem s270:treeOf [] 270=some t270:=by kernel_rfl
theorem s67:treeOf [] 67=some t67:=by kernel_rfl
theorem s250:treeOf [] 250=some t250:=by kernel_rfl
theorem s63:treeOf [] 63=some t63:=by kernel_rfl
theorem s331:treeOf [] 331=some t331:=by kernel_rfl
theorem s206:treeOf [] 206=some t206:=by kernel_rfl
theorem s83:treeOf [] 83=some t83:=by kernel_rfl
theorem s209:treeOf [] 209=some t209:=by kernel_rfl
theorem s273:treeOf [] 273=some t273:=by kernel_rfl
theorem s99:treeOf [] 99=some t99:=by kernel_rfl
theorem s303:treeOf [] 303=some t303:=by kernel_rfl
end
section
set_option maxRecDepth 100000
theorem s313:treeOf [] 313=some t313:=by kernel_rfl
theorem s225:treeOf [73003,69003,63003,53003] 225=some t225:=by kernel_rfl
theorem s315:treeOf [] 315=some t315:=by kernel_rfl
theorem s287:treeOf [] 287=some t287:=by kernel_rfl
theorem s93:treeOf [26019] 93=some t93:=by kernel_rfl
theorem s208:treeOf [] 208=some t208:=by kernel_rfl
theorem s240:treeOf [] 240=some t240:=by kernel_rfl
theorem s222:treeOf [] 222=some t222:=by kernel_rfl
theorem s101:treeOf [] 101=some t101:=by kernel_rfl
theorem s77:treeOf [] 77=some t77:=by kernel_rfl
theorem s266:treeOf [] 266=some t266:=by kernel_rfl
theorem s314:treeOf [] 314=some t314:=by kernel_rfl
theorem s202:treeOf [] 202=some t202:=by kernel_rfl
theorem s226:treeOf [] 226=some t226:=by kernel_rfl
theorem s325:treeOf [] 325=some t325:=by kernel_rfl
theorem s248:treeOf [] 248=some t248:=by kernel_rfl
theorem s71:treeOf [] 71=some t71:=by kernel_rfl
theorem s109:treeOf [] 109=some t109:=by kernel_rfl
theorem s10:treeOf [] 10=some t10:=by kernel_rfl
theorem s54:treeOf [] 54=some t54:=by kernel_rfl
theorem s110:treeOf [] 110=some t110:=by kernel_rfl
theorem s288:treeOf [] 288=some t288:=by kernel_rfl
theorem s269:treeOf [] 269=some t269:=by kernel_rfl
theorem s6:treeOf [] 6=some t6:=by kernel_rfl
theorem s79:treeOf [] 79=some t79:=by kernel_rfl
theorem s271:treeOf [] 271=some t271:=by kernel_rfl
theorem s310:treeOf [] 310=some t310:=by kernel_rfl
theorem s243:treeOf [] 243=some t243:=by kernel_rfl
theorem s61:treeOf [] 61=some t61:=by kernel_rfl
theorem s255:treeOf [] 255=some t255:=by kernel_rfl
theorem s278:treeOf [] 278=some t278:=by kernel_rfl
theorem s335:treeOf [] 335=some t335:=by kernel_rfl
theorem s50:treeOf [] 50=some t50:=by kernel_rfl
theorem s341:treeOf [] 341=some t341:=by kernel_rfl
theorem s62:treeOf [] 62=some t62:=by kernel_rfl
theorem s114:treeOf [] 114=some t114:=by kernel_rfl
theorem s112:treeOf [] 112=some t112:=by kernel_rfl
theorem s219:treeOf [] 219=some t219:=by kernel_rfl
theorem s316:treeOf [] 316=some t316:=by kernel_rfl
theorem s65:treeOf [] 65=some t65:=by kernel_rfl
theorem s92:treeOf [] 92=some t92:=by kernel_rfl
theorem s39:treeOf [] 39=some t39:=by kernel_rfl
theorem s98:treeOf [] 98=some t98:=by kernel_rfl
theorem s268:treeOf [] 268=some t268:=by kernel_rfl
theorem s258:treeOf [] 258=some t258:=by kernel_rfl
theorem s247:treeOf [] 247=some t247:=by kernel_rfl
theorem s323:treeOf [] 323=some t323:=by kernel_rfl
end
section
set_option maxRecDepth 100000
theorem s220:treeOf [] 220=some t220:=by kernel_rfl
theorem s308:treeOf [] 308=some t308:=by kernel_rfl
theorem s97:treeOf [] 97=some t97:=by kernel_rfl
theorem s322:treeOf [] 322=some t322:=by kernel_rfl
theorem s237:treeOf [] 237=some t237:=by kernel_rfl
theorem s330:treeOf [23020] 330=some t330:=by kernel_rfl
theorem s286:treeOf [] 286=some t286:=by kernel_rfl
theorem s340:treeOf [41003] 340=some t340:=by kernel_rfl
theorem s81:treeOf [] 81=some t81:=by kernel_rfl
theorem s246:treeOf [] 246=some t246:=by kernel_rfl
theorem s320:treeOf [] 320=some t320:=by kernel_rfl
theorem s224:treeOf [] 224=some t224:=by kernel_rfl
theorem s223:treeOf [6003,12003] 223=some t223:=by kernel_rfl
theorem s284:treeOf [] 284=some t284:=by kernel_rfl
theorem s229:treeOf [] 229=some t229:=by kernel_rfl
theorem s329:treeOf [] 329=some t329:=by kernel_rfl
theorem s339:treeOf [] 339=some t339:=by kernel_rfl
theorem s115:treeOf [] 115=some t115:=by kernel_rfl
theorem s47:treeOf [] 47=some t47:=by kernel_rfl
theorem s51:treeOf [] 51=some t51:=by kernel_rfl
theorem s281:treeOf [] 281=some t281:=by kernel_rfl
theorem s111:treeOf [] 111=some t111:=by kernel_rfl
theorem s232:treeOf [] 232=some t232:=by kernel_rfl
theorem s210:treeOf [] 210=some t210:=by kernel_rfl
theorem s204:treeOf [] 204=some t204:=by kernel_rfl
theorem s64:treeOf [] 64=some t64:=by kernel_rfl
theorem s95:treeOf [] 95=some t95:=by kernel_rfl
theorem s203:treeOf [] 203=some t203:=by kernel_rfl
theorem s242:treeOf [] 242=some t242:=by kernel_rfl
theorem s328:treeOf [] 328=some t328:=by kernel_rfl
theorem s116:treeOf [] 116=some t116:=by kernel_rfl
theorem s207:treeOf [] 207=some t207:=by kernel_rfl
theorem s272:treeOf [] 272=some t272:=by kernel_rfl
theorem s235:treeOf [] 235=some t235:=by kernel_rfl
theorem s343:treeOf [] 343=some t343:=by kernel_rfl
theorem s285:treeOf [] 285=some t285:=by kernel_rfl
theorem s213:treeOf [] 213=some t213:=by kernel_rfl
theorem s94:treeOf [] 94=some t94:=by kernel_rfl
theorem s5:treeOf [] 5=some t5:=by kernel_rfl
theorem s52:treeOf [] 52=some t52:=by kernel_rfl
theorem s254:treeOf [] 254=some t254:=by kernel_rfl
theorem s252:treeOf [] 252=some t252:=by kernel_rfl
theorem s241:treeOf [] 241=some t241:=by kernel_rfl
theorem s312:treeOf [] 312=some t312:=by kernel_rfl
theorem s259:treeOf [] 259=some t259:=by kernel_rfl
theorem s217:treeOf [] 217=some t217:=by kernel_rfl
theorem s102:treeOf [] 102=some t102:=by kernel_rfl
end
section
set_option maxRecDepth 100000
theorem s342:treeOf [30020] 342=some t342:=by kernel_rfl
theorem s267:treeOf [] 267=some t267:=by kernel_rfl
theorem s282:treeOf [26003,18003,10003] 282=some t282:=by kernel_rfl
theorem s239:treeOf [] 239=some t239:=by kernel_rfl
theorem s205:treeOf [] 205=some t205:=by kernel_rfl
theorem s119:treeOf [] 119=some t119:=by kernel_rfl
theorem s231:treeOf [] 231=some t231:=by kernel_rfl
theorem s55:treeOf [] 55=some t55:=by kernel_rfl
theorem s251:treeOf [] 251=some t251:=by kernel_rfl
theorem s215:treeOf [] 215=some t215:=by kernel_rfl
theorem s230:treeOf [] 230=some t230:=by kernel_rfl
theorem s274:treeOf [] 274=some t274:=by kernel_rfl
theorem s245:treeOf [] 245=some t245:=by kernel_rfl
theorem s265:treeOf [] 265=some t265:=by kernel_rfl
theorem s321:treeOf [] 321=some t321:=by kernel_rfl
theorem s212:treeOf [] 212=some t212:=by kernel_rfl
theorem s120:treeOf [] 120=some t120:=by kernel_rfl
theorem s118:treeOf [] 118=some t118:=by kernel_rfl
theorem s56:treeOf [] 56=some t56:=by kernel_rfl
theorem s4:treeOf [] 4=some t4:=by kernel_rfl
theorem s249:treeOf [] 249=some t249:=by kernel_rfl
theorem s85:treeOf [] 85=some t85:=by kernel_rfl
theorem s324:treeOf [] 324=some t324:=by kernel_rfl
theorem s257:treeOf [] 257=some t257:=by kernel_rfl
theorem s3:treeOf [] 3=some t3:=by kernel_rfl
theorem s96:treeOf [] 96=some t96:=by kernel_rfl
theorem s236:treeOf [] 236=some t236:=by kernel_rfl
theorem s84:treeOf [] 84=some t84:=by kernel_rfl
theorem s262:treeOf [] 262=some t262:=by kernel_rfl
theorem s256:treeOf [] 256=some t256:=by kernel_rfl
theorem s216:treeOf [] 216=some t216:=by kernel_rfl
theorem s9:treeOf [] 9=some t9:=by kernel_rfl
theorem s48:treeOf [] 48=some t48:=by kernel_rfl
theorem s309:treeOf [] 309=some t309:=by kernel_rfl
theorem s326:treeOf [] 326=some t326:=by kernel_rfl
theorem s211:treeOf [] 211=some t211:=by kernel_rfl
theorem s108:treeOf [] 108=some t108:=by kernel_rfl
theorem s277:treeOf [] 277=some t277:=by kernel_rfl
theorem s45:treeOf [] 45=some t45:=by kernel_rfl
theorem s59:treeOf [] 59=some t59:=by kernel_rfl
theorem s327:treeOf [] 327=some t327:=by kernel_rfl
theorem s263:treeOf [] 263=some t263:=by kernel_rfl
theorem s238:treeOf [] 238=some t238:=by kernel_rfl
theorem s260:treeOf [] 260=some t260:=by kernel_rfl
theorem s74:treeOf [] 74=some t74:=by kernel_rfl
theorem s218:treeOf [] 218=some t218:=by kernel_rfl
theorem s75:treeOf [] 75=some t75:=by kernel_rfl
end
section
set_option maxRecDepth 100000
end
def firstI{β:Type}(f:Nat→Option β):Nat→Nat→Option β
 |_,0=>none
 |i,m+1=>match f i with
  |some r=>some r
  |none=>firstI f (i+1) m
def cntR{σ β:Type}(s:σ):Option β→Sg σ β
 |none=>.go s
 |some r=>.out r
theorem gl_cnt{σ β:Type}{b:σ→Option (Sg σ β)}(mk:Nat→σ)(f:Nat→Option β)(n:Nat)(fin:β)
  (hgo:∀i,i < n→b (mk i)=some (cntR (mk (i+1)) (f i))) (hend:b (mk n)=some (.out fin)):∀m i,i+m=n→gloop b (mk i)=some ((firstI f i m).getD fin)
 |0,i,h=>by
  obtain rfl:i=n:=by omega
  exact gloop_out hend
 |m+1,i,h=>by
  have h1:=hgo i (by omega);simp only[firstI];cases hf:f i with
  |none=>rw[hf]at h1;rw[gloop_go h1];exact gl_cnt mk f n fin hgo hend m (i+1) (by omega)
  |some r=>rw[hf]at h1;rw[gloop_out h1];rfl
def allN(p:Nat→Bool):Nat→Nat→Bool
 |_,0=>true
 |i,m+1=>p i && allN p (i+1) m
theorem gl_allN{σ β:Type}{b:σ→Option (Sg σ β)}(mk:Nat→σ)(p:Nat→Bool)(n:Nat)(yes no:β)
  (hgo:∀i,i < n→b (mk i)=some (if p i=true then .go (mk (i+1)) else .out no)) (hend:b (mk n)=some (.out yes)):∀m i,i+m=n→gloop b (mk i)=some (if allN p i m=true then yes else no)
 |0,i,h=>by
  obtain rfl:i=n:=by omega
  exact gloop_out hend
 |m+1,i,h=>by
  have h1:=hgo i (by omega);have e1:allN p i (m+1)=(p i && allN p (i+1) m):=rfl;rw[e1];by_cases hp:p i=true
  ·rw[if_pos hp]at h1;rw[gloop_go h1,hp,Bool.true_and];exact gl_allN mk p n yes no hgo hend m (i+1) (by omega)
  ·rw[if_neg hp]at h1;rw[gloop_out h1,Bool.eq_false_iff.2 hp,Bool.false_and,if_neg Bool.false_ne_true]
theorem wi1{i n:Nat}(h:i < n)(hn:n≤2147483648):IntKind.i64.wrap ((i:Int)+1)=((i+1:Nat):Int):=by
 rw[wrap_i64 (by omega)];omega
theorem lt_nat(i n:Nat):decide ((i:Int) < (n:Int))=decide (i < n):=by simp
theorem gd_m(G:Gf)(ρ:List D)(c:Bool)(a b:ST):gdT (some c) G a b ρ=match c with
  |true=>gdT (some true) G a b ρ
  |false=>gdT (some false) G a b ρ:=by cases c<;>rfl
theorem og_m(G:Gf)(ρ:List D)(c:Bool)(o:PO)(es:List SE)(t:ST):ogT (some c) G o es t ρ=match c with
  |true=>ogT (some true) G o es t ρ
  |false=>ogT (some false) G o es t ρ:=by cases c<;>rfl
theorem gd_n(G:Gf)(ρ:List D)(c:Bool)(a b:ST):gdT (some (!c)) G a b ρ=match c with
  |true=>gdT (some false) G a b ρ
  |false=>gdT (some true) G a b ρ:=by cases c<;>rfl
theorem og_n(G:Gf)(ρ:List D)(c:Bool)(o:PO)(es:List SE)(t:ST):ogT (some (!c)) G o es t ρ=match c with
  |true=>ogT (some false) G o es t ρ
  |false=>ogT (some true) G o es t ρ:=by cases c<;>rfl
def inB(lo hi a:Int):Bool:=decide (lo≤a) && decide (a≤hi)
theorem inB_iff(lo hi a:Int):inB lo hi a=true↔lo≤a∧a≤hi:=by simp[inB]
theorem wrap_bAt(s:ByteArray)(i:Nat):IntKind.i64.wrap (bAt s i)=bAt s i:=by
 have:=bAt_bd s i;exact wrap_i64 (by omega)
def g2T(w:Bool):Option D→Option Bool→Option Bool
 |some (.bool b),r=>if b=w then r else some false
 |_,_=>none
theorem gs_more(ρ:List D)(e:SE)(w:Bool)(p:SE×Bool)(gs:Gs):gsO ρ ((e,w)::p::gs)=g2T w (e.d ρ) (gsO ρ (p::gs)):=by
 simp only[gsO];cases e.d ρ with
 |none=>rfl
 |some x=>cases x<;>rfl
theorem g2_tt(r:Option Bool):g2T true (some (.bool true)) r=r:=(rfl)
theorem g2_tf(r:Option Bool):g2T true (some (.bool false)) r=some false:=(rfl)
theorem g2_ft(r:Option Bool):g2T false (some (.bool true)) r=some false:=(rfl)
theorem g2_ff(r:Option Bool):g2T false (some (.bool false)) r=r:=(rfl)
theorem g2_t(b c:Bool):g2T true (some (.bool b)) (some c)=some (b && c):=by cases b<;>rfl
theorem g2_f(b c:Bool):g2T false (some (.bool b)) (some c)=some (!b && c):=by cases b<;>rfl
attribute [go_sem] varsE
attribute [go_sem] List.cons_append List.nil_append lt_nat wrap_bAt gs_more g2_tt g2_tf g2_ft g2_ff Bool.not_true Bool.not_false Bool.true_and Bool.and_true Bool.false_and Bool.and_false Bool.true_or Bool.or_true Bool.false_or Bool.or_false decide_true decide_false Bool.true_eq_false Bool.false_eq_true Bool.not_not Option.map_some Option.map_none gO Nat.zero_mod Nat.zero_div
theorem allN_congr{p q:Nat→Bool}:∀(m i:Nat),(∀j,i≤j→j < i+m→p j=q j)→allN p i m=allN q i m
 |0,_,_=>rfl
 |m+1,i,h=>by simp only[allN];rw[h i (by omega) (by omega),allN_congr m (i+1) fun j h1 h2=>h j (by omega) (by omega)]
abbrev mg:Nat:=1048576
theorem wj{i n:Nat}(h:i < n)(hn:n≤mg):IntKind.i64.wrap ((i:Int)+1)=((i+1:Nat):Int):=wi1 h (by simp only[mg]at hn;omega)
theorem n0:((0:Nat):Int)=0:=(rfl)
theorem n1:((1:Nat):Int)=1:=(rfl)
theorem wrapB{b:Int}(h:0≤b∧b≤255):IntKind.i64.wrap b=b:=wrap_i64 (by omega)
end Go.Proofs.YtcdjbelccndadaaGreatDoor
