/- Part of the proof: a machine over plain data, its proof, the functions of the program run on symbols, what they answer. Condition: none. -/
import Derived.Test.YtnnjajingjfjiaaGreatDoorZz20
set_option linter.unusedVariables false
set_option linter.unusedSimpArgs false
set_option linter.unusedSectionVars false
open Bool renaming eq_iff_iff->cR,true->I,false->J
open Int renaming toNat_natCast->bW,natCast_nonneg->ch
open List renaming length_map->ay,drop_zero->bm,drop_length->bE,take_of_length_le->je,take->zD
open Nat renaming lt_irrefl->aC,le_refl->aD,zero_le->jt,le_add_right->mY
open Option renaming some->Z,none->O
open Decidable renaming decide->Z'
namespace Go.Proofs.YtnnjajingjfjiaaGreatDoor
set_option maxRecDepth 100000
set_option maxHeartbeats 4000000
section
structure nF where
 cat:Int
 cby:Int
 JQ:List ck
def gM(x:nF):M D:=[.int .i64 x.cat,.int .i64 x.cby,dm x.JQ]
abbrev iB(l:M nF):D:=.list 3 J (l.map gM)
theorem zg(x:nF):ee (gM x)=bK cK x.JQ:=by simp only[gM,ee,D.sz,ay,bK];omega
theorem Xy{l:M nF}{i:Nat}{y:nF}(h:nth l i=Z y):aZ (.el 3) [iB l,E (i:Int)]=Z (.list 0 J [gM y]):=by
 rw[mu,aX,h];rfl
noncomputable def yb(s:M ah):M az->M nF->u (M az)
 |l,[]=>Z l
 |l,c::cs=>if (AI s l c.JQ).2=0 then yb s (AI s l c.JQ).1 cs else O
theorem T7{s:M ah}:∀{a:M nF} {l o:M az},yb s l a=Z o->bK aU o<=bK aU l+21 * bK gM a
 |[],l,o,h=>by cases h;exact mY _ _
 |c::a,l,o,h=>by
  rw[yb]at h
  split at h
  ·have d:=T7 h;have b:=Ci (s:=s) (l:=l) (es:=c.JQ);rw[er,zg];simp only[zE]at b;omega
  ·cases h
noncomputable def AS(s:M ah)(b:M az)(a:M nF):M az×Bool:=if (Z' (a.length<=30) && qW s b)=I then (match yb s b a with
 |some o=>(o,I)
 |none=>([],J)) else ([],J)
theorem acQ{s:M ah}{b:M az}{a:M nF}:bK aU (AS s b a).1<=bK aU b+21 * bK gM a:=by
 unfold AS;split
 ·split
  ·rename_i o h;exact T7 h
  ·simp[bK,oM]
 ·simp[bK,oM]
section
variable {s:M ah} {b:M az} {cs:M nF} (hs:bK ax s<=mg) (pS:cs.length<=mg)
include hs pS
theorem ab2:∀(m i h:Nat) (l:M az),i+m=cs.length->(h=0\/h=1)->bK aU l+21 * bK gM (cs.drop i)<=mg->
  match yb s l (cs.drop i) with
  |none=>∃a,cm (lB G wH) (h,[aB s,E (i:Int),aE b,iB cs,aE l])=Z (0,[.bool J,aE [],a])
  |some o=>∃j,(j=1\/j=2)/\cm (lB G wH) (h,[aB s,E (i:Int),aE b,iB cs,aE l])=Z (j,[aB s,E cs.length,.bool J,aE b,iB cs,aE o]):=by
 intro m
 induction m with
 |zero=>
  intro i h l A g _;obtain rfl:i=cs.length:=by omega
  rw[bE];dsimp only[yb];rcases g with rfl|rfl
  ·refine⟨1,.inl rfl,bg ?_⟩;simp only[go_sem,bG,wH,aC]
  ·refine⟨2,.inr rfl,bg ?_⟩;simp only[go_sem,bG,wH,aC]
 |succ m w=>
  intro i h l A g d;have e:i < cs.length:=by omega
  have a1:=cI (l:=cs) (i:=i) e;have hd:=eg cs i _ a1;generalize cs[i]'e=c at a1 hd;have x:=wj e pS;have v:=Xy a1;rw[hd,er,zg]at d;have p:=agx (l:=l) (es:=c.JQ) hs (by simp only[zE];omega);have B:=Ci (s:=s) (l:=l) (es:=c.JQ);simp only[zE]at B;rw[hd,yb];by_cases k:(AI s l c.JQ).2=0
  ·rw[if_pos k];rw[k]at p;have f:=w (i+1) 1 (AI s l c.JQ).1 (by omega) (.inr rfl) (by omega);generalize (AI s l c.JQ).1=q at *;have r:lB G wH (h,[aB s,E (i:Int),aE b,iB cs,aE l])=Z (.go (1,[aB s,E ((i+1:Nat):Int),aE b,iB cs,aE q])):=by
    have n:=n_ 0;rcases g with rfl|rfl<;>simp only[go_sem,bG,wH,e,x,v,gM,p,n]
   cases t:yb s q (cs.drop (i+1)) with
   |none=>
    rw[t]at f;obtain⟨a,d⟩:=f;exact⟨a,(bY r).trans d⟩
   |some o=>
    rw[t]at f;obtain⟨j,y,d⟩:=f;exact⟨j,y,(bY r).trans d⟩
  ·rw[if_neg k];have n:=n_ (AI s l c.JQ).2;dsimp only;refine⟨aE (AI s l c.JQ).1,bg ?_⟩;rcases g with rfl|rfl<;>simp only[go_sem,bG,wH,e,v,gM,p,n,k,mo]
theorem aoV(m:bK aU b+21 * bK gM cs<=mg):G 369 [aB s,aE b,iB cs]=Z (0,[aE (AS s b cs).1,.bool (AS s b cs).2]):=by
 have l:bK aU b<=mg:=by omega
 have d:=ON hs l;have g:=q2 l;refine ct aan rfl ?_;unfold AS;have c:=plb (qW s b);have i:Z' (cs.length<=30)=!Z' ((30:Int) < (cs.length:Int)):=by
  rw[cR];simp
  omega
 cases f:Z' ((30:Int) < (cs.length:Int))<;>rw[f]at i
 ·rw[i];cases e:qW s b
  ·rw[e]at d c;simp only[go_sem,aan,d,g,c,mo]
  ·rw[e]at d c;have h:=ab2 (b:=b) hs pS cs.length 0 0 b (by omega) (.inl rfl) (by simpa using m);rw[bm,n0]at h;cases k:yb s b cs with
   |none=>
    rw[k]at h;obtain⟨a,h⟩:=h;simp only[go_sem,aan,d,g,c,f,h]
   |some o=>
    rw[k]at h;obtain⟨j,n,h⟩:=h;rcases n with rfl|rfl<;>simp only[go_sem,aan,d,g,c,f,h]
 ·rw[i];cases e:qW s b<;>rw[e]at d c<;>simp only[go_sem,aan,d,g,c,f,mo]
theorem ab3:∀(m i h:Nat) (l:M az),i+m=cs.length->(h=0\/h=1)->bK aU l+21 * bK gM (cs.drop i)<=mg->
  match yb s l (cs.drop i) with
  |none=>∃a,cm (lB G wI) (h,[aB s,iB cs,E cs.length,E (i:Int),aE l])=Z (0,[.bool J,a])
  |some o=>∃j,(j=1\/j=2)/\cm (lB G wI) (h,[aB s,iB cs,E cs.length,E (i:Int),aE l])=Z (j,[aB s,iB cs,E cs.length,E cs.length,.bool J,aE o]):=by
 intro m
 induction m with
 |zero=>
  intro i h l A g _;obtain rfl:i=cs.length:=by omega
  rw[bE];dsimp only[yb];rcases g with rfl|rfl
  ·refine⟨1,.inl rfl,bg ?_⟩;simp only[go_sem,bG,wI,aC]
  ·refine⟨2,.inr rfl,bg ?_⟩;simp only[go_sem,bG,wI,aC]
 |succ m w=>
  intro i h l A g d;have e:i < cs.length:=by omega
  have a1:=cI (l:=cs) (i:=i) e;have hd:=eg cs i _ a1;generalize cs[i]'e=c at a1 hd;have x:=wj e pS;have v:=Xy a1;have C:aZ (.has 3) [.list 0 J [gM c]]=Z (.bool J):=rfl;rw[hd,er,zg]at d;have p:=agA (l:=l) (es:=c.JQ) hs (by simp only[zE];omega);have B:=Ci (s:=s) (l:=l) (es:=c.JQ);simp only[zE]at B;rw[hd,yb];by_cases k:(AI s l c.JQ).2=0
  ·rw[if_pos k];rw[k]at p;have f:=w (i+1) 1 (AI s l c.JQ).1 (by omega) (.inr rfl) (by omega);generalize (AI s l c.JQ).1=q at *;have r:lB G wI (h,[aB s,iB cs,E cs.length,E (i:Int),aE l])=Z (.go (1,[aB s,iB cs,E cs.length,E ((i+1:Nat):Int),aE q])):=by
    have n:=n_ 0;rcases g with rfl|rfl<;>simp only[go_sem,bG,wI,e,x,v,gM,p,n]
   cases t:yb s q (cs.drop (i+1)) with
   |none=>
    rw[t]at f;obtain⟨a,d⟩:=f;exact⟨a,(bY r).trans d⟩
   |some o=>
    rw[t]at f;obtain⟨j,y,d⟩:=f;exact⟨j,y,(bY r).trans d⟩
  ·rw[if_neg k];have n:=n_ (AI s l c.JQ).2;dsimp only;refine⟨aE (AI s l c.JQ).1,bg ?_⟩;rcases g with rfl|rfl<;>simp only[go_sem,bG,wI,e,v,gM,p,n,k]
theorem aoW(f:bK aU b+21 * bK gM cs<=mg):G 370 [aB s,aE b,iB cs,E cs.length]=Z (0,match yb s b cs with
  |some o=>[aE o,.bool I]
  |none=>[.list 3 J [],.bool J]):=by
 have i:bK aU b<=mg:=by omega
 have e:=q1 i;have d:aZ (.cut I) [iB cs,E 0,E cs.length]=Z (iB cs):=by
  simp only[aZ,dI,ch,if_true,bW,Int.toNat_zero,ay];show (if 0<=cs.length/\cs.length<=cs.length then Z (D.list 3 J (List.drop 0 (zD cs.length (cs.map gM)))) else O)=_;rw[if_pos ⟨jt _,aD _⟩,je (by simp)];rfl
 refine ct agO rfl ?_;have h:=ab3 hs pS cs.length 0 0 b (by omega) (.inl rfl) (by simpa using f);rw[bm,n0]at h;cases c:yb s b cs with
 |none=>
  rw[c]at h;obtain⟨a,h⟩:=h;simp only[go_sem,agO,e,d,h,ay]
 |some o=>
  rw[c]at h;obtain⟨j,g,h⟩:=h;rcases g with rfl|rfl<;>simp only[go_sem,agO,e,d,h,ay]
theorem aoX(h:bK aU b+21 * bK gM cs<=mg):G 371 [aB s,aE b,iB cs]=Z (0,[aE (AS s b cs).1,.bool (AS s b cs).2]):=by
 have i:bK aU b<=mg:=by omega
 have c:=OO hs i;have d:=aoW hs pS h;refine ct aao rfl ?_;unfold AS;have e:Z' (cs.length<=30)=!Z' ((30:Int) < (cs.length:Int)):=by
  rw[cR];simp
  omega
 cases a:Z' ((30:Int) < (cs.length:Int))<;>rw[a]at e
 ·rw[e];cases f:qW s b
  ·rw[f]at c;simp only[go_sem,aao,c,a,mo,ay]
  ·rw[f]at c;cases g:yb s b cs with
   |none=>
    rw[g]at d;simp only[go_sem,aao,c,d,a,mo,ay]
   |some o=>
    rw[g]at d;simp only[go_sem,aao,c,d,a,ay]
 ·rw[e];simp only[go_sem,aao,a,mo,ay]
end
end
end Go.Proofs.YtnnjajingjfjiaaGreatDoor
